/- What the proof of EncBack leans on, part 5. No condition but those that each law states. -/
import Derived.Test.YtldmfchamcpmmaaGreatDoorRows
import Derived.WalkKit
import Derived.Deep.Quiet
import Derived.Below
import Derived.WalkLawsBesides
import Derived.Lib.Hide
import Derived.Laws.AppendOwnNone
import Derived.Laws.CopyRow
import Derived.Laws.Tables
import Derived.Orders
import Derived.Deep.Slices
import Derived.Deep.Fields
import Derived.OpenShut
import Derived.ProofKit
import Derived.Lib.AppendZerosOnto
import Derived.Laws.BytesString
import Derived.Lib.SlBytesConst
import Derived.Laws.IdiomStrings
import Derived.Lib.AppendStr
import Derived.Lib.EndianZ
import Derived.Lib.DecodeN
import Derived.Lib.ValidLaws
import Derived.Lib.EndianBits
import Derived.Maps.AppendAt
import Derived.ChangeKeysEq
import Derived.Lib.LaidTab
import Derived.Lib.LaidU8
import Derived.LaidMore
import Derived.ChangeSame
import Derived.SizedLaws
import Derived.WalkSpells
import Derived.Lib.ItoaNum
import Derived.Defers
import Derived.Recover
import Derived.Scope
import Derived.Laws.StructEq
import Derived.ArgAppend
import Derived.Test.YtldmfchamcpmmaaGreatDoorEncBackPD
set_option maxHeartbeats 10000000
set_option maxRecDepth 100000
set_option linter.unusedVariables false
set_option linter.unusedSimpArgs false
set_option linter.unnecessarySimpa false
namespace Go.Proofs.YtldmfchamcpmmaaGreatDoor
open Go Go.RowKit
theorem listV_any {H : Heap} {g : Nat} {v : Value} {l : List Int} (rb : RB H g v l) : CtX Tryz.prog 104 [.pointer (some ⟨g, 0, none⟩), .func (.func 105) #[] #[]] H (fun u H' => ∃ x k v', Bn.lstP Bn.valP l = .ok (x, k) ∧ RowS 1 (EInt .u8) H.size H' u x ∧ RB H' g v' (l.drop k) ∧ Fr g (.slice none 0 0) H H') (fun q H' => ∃ e, Bn.lstP Bn.valP l = .error e ∧ q = failB e ∧ Fr g (.slice none 0 0) H H') := by
  refine CtX.mk Tryz.func104 rfl Tryz.ntmps104 rfl ?_
  intro W0 hW0
  have o0 : OldB 0 H H := OldB.refl _ H
  have hg := rb.lt
  have fr : Fr g (.slice none 0 0) H H := Fr.refl _ _ _
  have hle := rb.le
  refine KC.sr (KL.fin 1 rfl (KQ.sr (KL.fin 1 rfl (KQ.seq (KC.seq (KC.sr (KL.run 1 rfl ?_)))))))
  refine KL.callX rfl rfl rfl rfl K80 rfl rfl rfl (bu32_any rb) ?_ ?_
  · rintro vx H1 ⟨ex, hx1, hx2, hx3⟩
    refine KQ.panThen ?_
    refine KQ.panThen ?_
    exact KQ.pan (⟨_, Bn.m_e (Bn.b_e1 hx1), hx2, fr.thenN hx3⟩)
  rintro _ H2 ⟨n0, k0, v0, hp0, rfl, hn0, rb2, f1_⟩
  have zf_H2 := f1_.1
  have o0 := o0.trans (f1_.low (Nat.zero_le _) (Nat.zero_le _))
  have fr := fr.thenN f1_
  have rb := rb2
  have zrd := rb.lt
  have fn1 := f1_
  dsimp only [InR] at hn0
  refine KL.fin 1 rfl (KQ.seq (KC.block ?_))
  refine KC.loopD (κ := List Int × Nat × Int × Value × Value) [9, 10, 13, 14, 15, 16, 17, 18, 5, 11, 12, 6] (fun k => [(5, k.2.2.2.1), (6, .int .u32 k.2.2.1)]) (fun k Hl => RB Hl g k.2.2.2.2 (l.drop (k0 + k.2.1)) ∧ LS 1 (EInt .u8) 5 (Array.size H) Hl k.2.2.2.1 k.1 ∧ Isp.Pre Bn.valP n0.toNat (l.drop k0) k.2.2.1.toNat k.1 k.2.1 ∧ Fr g (.slice none 0 0) H Hl ∧ 0 ≤ k.2.2.1 ∧ k.1.length + k.2.2.1.toNat = n0.toNat) (fun k => k.2.2.1.toNat) ([], 0, n0, .slice none 0 0, v0) ?_ ?_ ?_
  · exact Sub.all rfl
  · exact ⟨rb.cast (by simp only [List.drop_drop, Nat.add_assoc, Nat.add_zero]), LS.nil _ _ _ _ _, Isp.Pre.start _ _ _, fr, hn0.1, by simp⟩
  rintro ⟨acc, k, m, vo, vr⟩ H3 ⟨rb, ls, hpre, fr, hm0, hlen⟩
  dsimp only at rb ls hpre hm0 hlen
  have zrd := rb.lt
  have zfr := fr.1
  have o0 : OldB 0 H H3 := fr.low (Nat.zero_le _) (Nat.zero_le _)
  refine KC.seq (KC.sr (KL.fin 2 rfl (KQ.seq ?_)))
  refine KC.iq rfl ?_ ?_
  · intro hc10
    try dsimp only at hc10
    refine KC.skip (KQ.seq (KC.seq (KC.block (KC.region (KL.run 3 rfl ?_)))))
    have hvo := ls.w.lt.imp id (fun h => h.2)
    have hm : m.toNat = (m - 1).toNat + 1 := by omega
    rw [hm] at hpre
    refine KL.callX rfl rfl rfl rfl Tryz.call105 rfl rfl rfl (bvalue_any rb) ?_ ?_
    · rintro vx H4 ⟨ex, hx1, hx2, hx3⟩
      refine KQ.panBlock ?_
      refine KQ.panThen ?_
      refine KQ.panThen ?_
      refine KQ.panBlock ?_
      refine KQ.panThen ?_
      exact KQ.pan (⟨_, Bn.m_e (Bn.b_e2 hp0 (hpre.fail (by rw [List.drop_drop]; exact hx1))), hx2, fr.thenN hx3⟩)
    rintro _ H5 ⟨x, kx, vx, hpx, rfl, hxr, rb2, f2_⟩
    have zf_H5 := f2_.1
    have o0 := o0.trans (f2_.low (Nat.zero_le _) (Nat.zero_le _))
    have ls := ls.frT f2_ (by omega)
    have fr := fr.thenN f2_
    have rb := rb2
    have zrd := rb.lt
    have fn2 := f2_
    refine KL.m (M.lit rfl U34 zs5 (by decide) rfl rfl rfl) rfl ?_
    rintro _ H6 ⟨rfl, n6⟩
    have z6 := n6.2.1
    have o0 := o0.trans ((n6.1).b (by omega))
    have ls := ls.old n6.1
    have fr := fr.old n6.1
    have rb := rb.old n6.1
    have b6 := n6.2.2
    have wo := ls.w
    have se : Sl 1 (FK (EInt .u8) H6 (vblock vo :: List.range (Array.size H))) H6 _ [x] := Sl.lit1N n6 rfl (by decide) (fun Hx kx_ => ⟨rfl, hxr⟩)
    have lt7 := wo.lt
    refine KL.m (M.appendE rfl U34 inf5 rfl (by decide) rfl rfl wo (se) (by omega) (by simp only [List.length_cons, List.length_nil]; omega) (by unfold maxLen; simp only [List.length_cons, List.length_nil]; omega)) rfl ?_
    rintro vn H7 ⟨w7, g7, nx7⟩
    try dsimp only at g7 nx7
    have ob7 := g7.oldBE wo (by omega)
    have o0 := o0.trans (ob7.mono (by omega))
    have z7 := ob7.1
    have fr := (by exact fr.grownN g7 (lt7.imp id (fun h => by omega)))
    have rb := rb.grownT g7 (lt7.imp id (fun h => by omega))
    have wo := w7
    have ls : LS 1 (EInt .u8) 5 (Array.size H) H7 vn (acc ++ [x]) := ⟨wo⟩
    refine KL.fin 1 rfl (KQ.normBlock (KQ.r (KL.run 1 rfl ?_)))
    refine KL.q (R.sub rfl rfl rfl (by dsimp only [InR]; omega)) rfl ?_
    refine KL.fin 1 rfl ?_
    refine KQ.again ((acc ++ [x], k + kx, m - 1, vn, vx)) ?_ ?_ ?_
    · exact Sub.all rfl
    · show (m - 1).toNat < m.toNat; omega
    exact ⟨rb.cast (by simp only [List.drop_drop, Nat.add_assoc, Nat.add_zero]), ls, hpre.step (by rw [List.drop_drop]; exact hpx), fr, by show 0 ≤ m - 1; omega, by show (acc ++ [x]).length + (m - 1).toNat = _; rw [List.length_append, List.length_singleton]; omega⟩
  intro hc10
  try dsimp only at hc10
  refine KC.exit (KQ.exitThen (KQ.exitThen (KQ.hit (KQ.sr (KL.fin 2 rfl (KQ.seq (KC.ret (KQ.ofRetX (KQ.toX (KQ.fin1 Tryz.results104 rfl ?_))))))))))
  have h0 : m.toNat = 0 := by omega
  rw [h0] at hpre
  exact ⟨_, _, _, Bn.m_ok (Bn.b_ok hp0 hpre.done), ls.row (by decide), rb, fr⟩
theorem listU_any {H : Heap} {g : Nat} {v : Value} {l : List Int} (rb : RB H g v l) : CtX Tryz.prog 79 [.pointer (some ⟨g, 0, none⟩), .func (.func 80) #[] #[]] H (fun u H' => ∃ x k v', Bn.lstP Isp.u32P l = .ok (x, k) ∧ RowS 1 (EInt .u32) H.size H' u x ∧ RB H' g v' (l.drop k) ∧ Fr g (.slice none 0 0) H H') (fun q H' => ∃ e, Bn.lstP Isp.u32P l = .error e ∧ q = failB e ∧ Fr g (.slice none 0 0) H H') := by
  refine CtX.mk Tryz.func79 rfl Tryz.ntmps79 rfl ?_
  intro W0 hW0
  have o0 : OldB 0 H H := OldB.refl _ H
  have hg := rb.lt
  have fr : Fr g (.slice none 0 0) H H := Fr.refl _ _ _
  have hle := rb.le
  refine KC.sr (KL.fin 1 rfl (KQ.sr (KL.fin 1 rfl (KQ.seq (KC.seq (KC.sr (KL.run 1 rfl ?_)))))))
  refine KL.callX rfl rfl rfl rfl K80 rfl rfl rfl (bu32_any rb) ?_ ?_
  · rintro vx H1 ⟨ex, hx1, hx2, hx3⟩
    refine KQ.panThen ?_
    refine KQ.panThen ?_
    exact KQ.pan (⟨_, Bn.m_e (Bn.b_e1 hx1), hx2, fr.thenN hx3⟩)
  rintro _ H2 ⟨n0, k0, v0, hp0, rfl, hn0, rb2, f3_⟩
  have zf_H2 := f3_.1
  have o0 := o0.trans (f3_.low (Nat.zero_le _) (Nat.zero_le _))
  have fr := fr.thenN f3_
  have rb := rb2
  have zrd := rb.lt
  have fn3 := f3_
  dsimp only [InR] at hn0
  refine KL.fin 1 rfl (KQ.seq (KC.block ?_))
  refine KC.loopD (κ := List Int × Nat × Int × Value × Value) [9, 10, 13, 14, 15, 16, 17, 18, 5, 11, 12, 6] (fun k => [(5, k.2.2.2.1), (6, .int .u32 k.2.2.1)]) (fun k Hl => RB Hl g k.2.2.2.2 (l.drop (k0 + k.2.1)) ∧ LS 1 (EInt .u32) 28 (Array.size H) Hl k.2.2.2.1 k.1 ∧ Isp.Pre Isp.u32P n0.toNat (l.drop k0) k.2.2.1.toNat k.1 k.2.1 ∧ Fr g (.slice none 0 0) H Hl ∧ 0 ≤ k.2.2.1 ∧ k.1.length + k.2.2.1.toNat = n0.toNat) (fun k => k.2.2.1.toNat) ([], 0, n0, .slice none 0 0, v0) ?_ ?_ ?_
  · exact Sub.all rfl
  · exact ⟨rb.cast (by simp only [List.drop_drop, Nat.add_assoc, Nat.add_zero]), LS.nil _ _ _ _ _, Isp.Pre.start _ _ _, fr, hn0.1, by simp⟩
  rintro ⟨acc, k, m, vo, vr⟩ H3 ⟨rb, ls, hpre, fr, hm0, hlen⟩
  dsimp only at rb ls hpre hm0 hlen
  have zrd := rb.lt
  have zfr := fr.1
  have o0 : OldB 0 H H3 := fr.low (Nat.zero_le _) (Nat.zero_le _)
  refine KC.seq (KC.sr (KL.fin 2 rfl (KQ.seq ?_)))
  refine KC.iq rfl ?_ ?_
  · intro hc10
    try dsimp only at hc10
    refine KC.skip (KQ.seq (KC.seq (KC.block (KC.region (KL.run 3 rfl ?_)))))
    have hvo := ls.w.lt.imp id (fun h => h.2)
    have hm : m.toNat = (m - 1).toNat + 1 := by omega
    rw [hm] at hpre
    refine KL.callX rfl rfl rfl rfl K80 rfl rfl rfl (bu32_any rb) ?_ ?_
    · rintro vx H4 ⟨ex, hx1, hx2, hx3⟩
      refine KQ.panBlock ?_
      refine KQ.panThen ?_
      refine KQ.panThen ?_
      refine KQ.panBlock ?_
      refine KQ.panThen ?_
      exact KQ.pan (⟨_, Bn.m_e (Bn.b_e2 hp0 (hpre.fail (by rw [List.drop_drop]; exact hx1))), hx2, fr.thenN hx3⟩)
    rintro _ H5 ⟨x, kx, vx, hpx, rfl, hxr, rb2, f4_⟩
    have zf_H5 := f4_.1
    have o0 := o0.trans (f4_.low (Nat.zero_le _) (Nat.zero_le _))
    have ls := ls.frT f4_ (by omega)
    have fr := fr.thenN f4_
    have rb := rb2
    have zrd := rb.lt
    have fn4 := f4_
    refine KL.m (M.lit rfl U24 zs28 (by decide) rfl rfl rfl) rfl ?_
    rintro _ H6 ⟨rfl, n6⟩
    have z6 := n6.2.1
    have o0 := o0.trans ((n6.1).b (by omega))
    have ls := ls.old n6.1
    have fr := fr.old n6.1
    have rb := rb.old n6.1
    have b6 := n6.2.2
    have wo := ls.w
    have se : Sl 1 (FK (EInt .u32) H6 (vblock vo :: List.range (Array.size H))) H6 _ [x] := Sl.lit1N n6 rfl (by decide) (fun Hx kx_ => ⟨rfl, hxr⟩)
    have lt7 := wo.lt
    refine KL.m (M.appendE rfl U24 inf28 rfl (by decide) rfl rfl wo (se) (by omega) (by simp only [List.length_cons, List.length_nil]; omega) (by unfold maxLen; simp only [List.length_cons, List.length_nil]; omega)) rfl ?_
    rintro vn H7 ⟨w7, g7, nx7⟩
    try dsimp only at g7 nx7
    have ob7 := g7.oldBE wo (by omega)
    have o0 := o0.trans (ob7.mono (by omega))
    have z7 := ob7.1
    have fr := (by exact fr.grownN g7 (lt7.imp id (fun h => by omega)))
    have rb := rb.grownT g7 (lt7.imp id (fun h => by omega))
    have wo := w7
    have ls : LS 1 (EInt .u32) 28 (Array.size H) H7 vn (acc ++ [x]) := ⟨wo⟩
    refine KL.fin 1 rfl (KQ.normBlock (KQ.r (KL.run 1 rfl ?_)))
    refine KL.q (R.sub rfl rfl rfl (by dsimp only [InR]; omega)) rfl ?_
    refine KL.fin 1 rfl ?_
    refine KQ.again ((acc ++ [x], k + kx, m - 1, vn, vx)) ?_ ?_ ?_
    · exact Sub.all rfl
    · show (m - 1).toNat < m.toNat; omega
    exact ⟨rb.cast (by simp only [List.drop_drop, Nat.add_assoc, Nat.add_zero]), ls, hpre.step (by rw [List.drop_drop]; exact hpx), fr, by show 0 ≤ m - 1; omega, by show (acc ++ [x]).length + (m - 1).toNat = _; rw [List.length_append, List.length_singleton]; omega⟩
  intro hc10
  try dsimp only at hc10
  refine KC.exit (KQ.exitThen (KQ.exitThen (KQ.hit (KQ.sr (KL.fin 2 rfl (KQ.seq (KC.ret (KQ.ofRetX (KQ.toX (KQ.fin1 Tryz.results79 rfl ?_))))))))))
  have h0 : m.toNat = 0 := by omega
  rw [h0] at hpre
  exact ⟨_, _, _, Bn.m_ok (Bn.b_ok hp0 hpre.done), ls.row (by decide), rb, fr⟩
theorem listT_any {H : Heap} {g : Nat} {v : Value} {l : List Int} (rb : RB H g v l) : CtX Tryz.prog 81 [.pointer (some ⟨g, 0, none⟩), .func (.func 82) #[] #[]] H (fun u H' => ∃ x k v', Bn.lstP Bn.tabP l = .ok (x, k) ∧ RowS 2 ELim H.size H' u x ∧ RB H' g v' (l.drop k) ∧ Fr g (.slice none 0 0) H H') (fun q H' => ∃ e, Bn.lstP Bn.tabP l = .error e ∧ q = failB e ∧ Fr g (.slice none 0 0) H H') := by
  refine CtX.mk Tryz.func81 rfl Tryz.ntmps81 rfl ?_
  intro W0 hW0
  have o0 : OldB 0 H H := OldB.refl _ H
  have hg := rb.lt
  have fr : Fr g (.slice none 0 0) H H := Fr.refl _ _ _
  have hle := rb.le
  refine KC.sr (KL.fin 1 rfl (KQ.sr (KL.fin 1 rfl (KQ.seq (KC.seq (KC.sr (KL.run 1 rfl ?_)))))))
  refine KL.callX rfl rfl rfl rfl K80 rfl rfl rfl (bu32_any rb) ?_ ?_
  · rintro vx H1 ⟨ex, hx1, hx2, hx3⟩
    refine KQ.panThen ?_
    refine KQ.panThen ?_
    exact KQ.pan (⟨_, Bn.m_e (Bn.b_e1 hx1), hx2, fr.thenN hx3⟩)
  rintro _ H2 ⟨n0, k0, v0, hp0, rfl, hn0, rb2, f5_⟩
  have zf_H2 := f5_.1
  have o0 := o0.trans (f5_.low (Nat.zero_le _) (Nat.zero_le _))
  have fr := fr.thenN f5_
  have rb := rb2
  have zrd := rb.lt
  have fn5 := f5_
  dsimp only [InR] at hn0
  refine KL.fin 1 rfl (KQ.seq (KC.block ?_))
  refine KC.loopD (κ := List (Int × Int) × Nat × Int × Value × Value) [9, 10, 13, 14, 15, 16, 17, 18, 5, 11, 12, 6] (fun k => [(5, k.2.2.2.1), (6, .int .u32 k.2.2.1)]) (fun k Hl => RB Hl g k.2.2.2.2 (l.drop (k0 + k.2.1)) ∧ LS 2 ELim 57 (Array.size H) Hl k.2.2.2.1 k.1 ∧ Isp.Pre Bn.tabP n0.toNat (l.drop k0) k.2.2.1.toNat k.1 k.2.1 ∧ Fr g (.slice none 0 0) H Hl ∧ 0 ≤ k.2.2.1 ∧ k.1.length + k.2.2.1.toNat = n0.toNat) (fun k => k.2.2.1.toNat) ([], 0, n0, .slice none 0 0, v0) ?_ ?_ ?_
  · exact Sub.all rfl
  · exact ⟨rb.cast (by simp only [List.drop_drop, Nat.add_assoc, Nat.add_zero]), LS.nil _ _ _ _ _, Isp.Pre.start _ _ _, fr, hn0.1, by simp⟩
  rintro ⟨acc, k, m, vo, vr⟩ H3 ⟨rb, ls, hpre, fr, hm0, hlen⟩
  dsimp only at rb ls hpre hm0 hlen
  have zrd := rb.lt
  have zfr := fr.1
  have o0 : OldB 0 H H3 := fr.low (Nat.zero_le _) (Nat.zero_le _)
  refine KC.seq (KC.sr (KL.fin 2 rfl (KQ.seq ?_)))
  refine KC.iq rfl ?_ ?_
  · intro hc10
    try dsimp only at hc10
    refine KC.skip (KQ.seq (KC.seq (KC.block (KC.region (KL.run 3 rfl ?_)))))
    have hvo := ls.w.lt.imp id (fun h => h.2)
    have hm : m.toNat = (m - 1).toNat + 1 := by omega
    rw [hm] at hpre
    refine KL.callX rfl rfl rfl rfl Tryz.call82 rfl rfl rfl (btable_any rb) ?_ ?_
    · rintro vx H4 ⟨ex, hx1, hx2, hx3⟩
      refine KQ.panBlock ?_
      refine KQ.panThen ?_
      refine KQ.panThen ?_
      refine KQ.panBlock ?_
      refine KQ.panThen ?_
      exact KQ.pan (⟨_, Bn.m_e (Bn.b_e2 hp0 (hpre.fail (by rw [List.drop_drop]; exact hx1))), hx2, fr.thenN hx3⟩)
    rintro _ H5 ⟨x, kx, vx, hpx, rfl, hr1, hr2, rb2, f6_⟩
    have zf_H5 := f6_.1
    have o0 := o0.trans (f6_.low (Nat.zero_le _) (Nat.zero_le _))
    have ls := ls.frT f6_ (by omega)
    have fr := fr.thenN f6_
    have rb := rb2
    have zrd := rb.lt
    have fn6 := f6_
    refine KL.m (M.lit rfl U25 zs57 (by decide) rfl rfl rfl) rfl ?_
    rintro _ H6 ⟨rfl, n6⟩
    have z6 := n6.2.1
    have o0 := o0.trans ((n6.1).b (by omega))
    have ls := ls.old n6.1
    have fr := fr.old n6.1
    have rb := rb.old n6.1
    have b6 := n6.2.2
    have wo := ls.w
    have se : Sl 2 (FK ELim H6 (vblock vo :: List.range (Array.size H))) H6 _ [x] := Sl.lit1N n6 rfl (by decide) (fun Hx kx_ => ⟨rfl, hr1, hr2⟩)
    have lt7 := wo.lt
    refine KL.m (M.appendE rfl U25 inf57 rfl (by decide) rfl rfl wo (se) (by omega) (by simp only [List.length_cons, List.length_nil]; omega) (by unfold maxLen; simp only [List.length_cons, List.length_nil]; omega)) rfl ?_
    rintro vn H7 ⟨w7, g7, nx7⟩
    try dsimp only at g7 nx7
    have ob7 := g7.oldBE wo (by omega)
    have o0 := o0.trans (ob7.mono (by omega))
    have z7 := ob7.1
    have fr := (by exact fr.grownN g7 (lt7.imp id (fun h => by omega)))
    have rb := rb.grownT g7 (lt7.imp id (fun h => by omega))
    have wo := w7
    have ls : LS 2 ELim 57 (Array.size H) H7 vn (acc ++ [x]) := ⟨wo⟩
    refine KL.fin 1 rfl (KQ.normBlock (KQ.r (KL.run 1 rfl ?_)))
    refine KL.q (R.sub rfl rfl rfl (by dsimp only [InR]; omega)) rfl ?_
    refine KL.fin 1 rfl ?_
    refine KQ.again ((acc ++ [x], k + kx, m - 1, vn, vx)) ?_ ?_ ?_
    · exact Sub.all rfl
    · show (m - 1).toNat < m.toNat; omega
    exact ⟨rb.cast (by simp only [List.drop_drop, Nat.add_assoc, Nat.add_zero]), ls, hpre.step (by rw [List.drop_drop]; exact hpx), fr, by show 0 ≤ m - 1; omega, by show (acc ++ [x]).length + (m - 1).toNat = _; rw [List.length_append, List.length_singleton]; omega⟩
  intro hc10
  try dsimp only at hc10
  refine KC.exit (KQ.exitThen (KQ.exitThen (KQ.hit (KQ.sr (KL.fin 2 rfl (KQ.seq (KC.ret (KQ.ofRetX (KQ.toX (KQ.fin1 Tryz.results81 rfl ?_))))))))))
  have h0 : m.toNat = 0 := by omega
  rw [h0] at hpre
  exact ⟨_, _, _, Bn.m_ok (Bn.b_ok hp0 hpre.done), ls.row (by decide), rb, fr⟩
theorem listM_any {H : Heap} {g : Nat} {v : Value} {l : List Int} (rb : RB H g v l) : CtX Tryz.prog 81 [.pointer (some ⟨g, 0, none⟩), .func (.func 83) #[] #[]] H (fun u H' => ∃ x k v', Bn.lstP Bn.limP l = .ok (x, k) ∧ RowS 2 ELim H.size H' u x ∧ RB H' g v' (l.drop k) ∧ Fr g (.slice none 0 0) H H') (fun q H' => ∃ e, Bn.lstP Bn.limP l = .error e ∧ q = failB e ∧ Fr g (.slice none 0 0) H H') := by
  refine CtX.mk Tryz.func81 rfl Tryz.ntmps81 rfl ?_
  intro W0 hW0
  have o0 : OldB 0 H H := OldB.refl _ H
  have hg := rb.lt
  have fr : Fr g (.slice none 0 0) H H := Fr.refl _ _ _
  have hle := rb.le
  refine KC.sr (KL.fin 1 rfl (KQ.sr (KL.fin 1 rfl (KQ.seq (KC.seq (KC.sr (KL.run 1 rfl ?_)))))))
  refine KL.callX rfl rfl rfl rfl K80 rfl rfl rfl (bu32_any rb) ?_ ?_
  · rintro vx H1 ⟨ex, hx1, hx2, hx3⟩
    refine KQ.panThen ?_
    refine KQ.panThen ?_
    exact KQ.pan (⟨_, Bn.m_e (Bn.b_e1 hx1), hx2, fr.thenN hx3⟩)
  rintro _ H2 ⟨n0, k0, v0, hp0, rfl, hn0, rb2, f7_⟩
  have zf_H2 := f7_.1
  have o0 := o0.trans (f7_.low (Nat.zero_le _) (Nat.zero_le _))
  have fr := fr.thenN f7_
  have rb := rb2
  have zrd := rb.lt
  have fn7 := f7_
  dsimp only [InR] at hn0
  refine KL.fin 1 rfl (KQ.seq (KC.block ?_))
  refine KC.loopD (κ := List (Int × Int) × Nat × Int × Value × Value) [9, 10, 13, 14, 15, 16, 17, 18, 5, 11, 12, 6] (fun k => [(5, k.2.2.2.1), (6, .int .u32 k.2.2.1)]) (fun k Hl => RB Hl g k.2.2.2.2 (l.drop (k0 + k.2.1)) ∧ LS 2 ELim 57 (Array.size H) Hl k.2.2.2.1 k.1 ∧ Isp.Pre Bn.limP n0.toNat (l.drop k0) k.2.2.1.toNat k.1 k.2.1 ∧ Fr g (.slice none 0 0) H Hl ∧ 0 ≤ k.2.2.1 ∧ k.1.length + k.2.2.1.toNat = n0.toNat) (fun k => k.2.2.1.toNat) ([], 0, n0, .slice none 0 0, v0) ?_ ?_ ?_
  · exact Sub.all rfl
  · exact ⟨rb.cast (by simp only [List.drop_drop, Nat.add_assoc, Nat.add_zero]), LS.nil _ _ _ _ _, Isp.Pre.start _ _ _, fr, hn0.1, by simp⟩
  rintro ⟨acc, k, m, vo, vr⟩ H3 ⟨rb, ls, hpre, fr, hm0, hlen⟩
  dsimp only at rb ls hpre hm0 hlen
  have zrd := rb.lt
  have zfr := fr.1
  have o0 : OldB 0 H H3 := fr.low (Nat.zero_le _) (Nat.zero_le _)
  refine KC.seq (KC.sr (KL.fin 2 rfl (KQ.seq ?_)))
  refine KC.iq rfl ?_ ?_
  · intro hc10
    try dsimp only at hc10
    refine KC.skip (KQ.seq (KC.seq (KC.block (KC.region (KL.run 3 rfl ?_)))))
    have hvo := ls.w.lt.imp id (fun h => h.2)
    have hm : m.toNat = (m - 1).toNat + 1 := by omega
    rw [hm] at hpre
    refine KL.callX rfl rfl rfl rfl Tryz.call83 rfl rfl rfl (blimits_any rb) ?_ ?_
    · rintro vx H4 ⟨ex, hx1, hx2, hx3⟩
      refine KQ.panBlock ?_
      refine KQ.panThen ?_
      refine KQ.panThen ?_
      refine KQ.panBlock ?_
      refine KQ.panThen ?_
      exact KQ.pan (⟨_, Bn.m_e (Bn.b_e2 hp0 (hpre.fail (by rw [List.drop_drop]; exact hx1))), hx2, fr.thenN hx3⟩)
    rintro _ H5 ⟨x, kx, vx, hpx, rfl, hr1, hr2, rb2, f8_⟩
    have zf_H5 := f8_.1
    have o0 := o0.trans (f8_.low (Nat.zero_le _) (Nat.zero_le _))
    have ls := ls.frT f8_ (by omega)
    have fr := fr.thenN f8_
    have rb := rb2
    have zrd := rb.lt
    have fn8 := f8_
    refine KL.m (M.lit rfl U25 zs57 (by decide) rfl rfl rfl) rfl ?_
    rintro _ H6 ⟨rfl, n6⟩
    have z6 := n6.2.1
    have o0 := o0.trans ((n6.1).b (by omega))
    have ls := ls.old n6.1
    have fr := fr.old n6.1
    have rb := rb.old n6.1
    have b6 := n6.2.2
    have wo := ls.w
    have se : Sl 2 (FK ELim H6 (vblock vo :: List.range (Array.size H))) H6 _ [x] := Sl.lit1N n6 rfl (by decide) (fun Hx kx_ => ⟨rfl, hr1, hr2⟩)
    have lt7 := wo.lt
    refine KL.m (M.appendE rfl U25 inf57 rfl (by decide) rfl rfl wo (se) (by omega) (by simp only [List.length_cons, List.length_nil]; omega) (by unfold maxLen; simp only [List.length_cons, List.length_nil]; omega)) rfl ?_
    rintro vn H7 ⟨w7, g7, nx7⟩
    try dsimp only at g7 nx7
    have ob7 := g7.oldBE wo (by omega)
    have o0 := o0.trans (ob7.mono (by omega))
    have z7 := ob7.1
    have fr := (by exact fr.grownN g7 (lt7.imp id (fun h => by omega)))
    have rb := rb.grownT g7 (lt7.imp id (fun h => by omega))
    have wo := w7
    have ls : LS 2 ELim 57 (Array.size H) H7 vn (acc ++ [x]) := ⟨wo⟩
    refine KL.fin 1 rfl (KQ.normBlock (KQ.r (KL.run 1 rfl ?_)))
    refine KL.q (R.sub rfl rfl rfl (by dsimp only [InR]; omega)) rfl ?_
    refine KL.fin 1 rfl ?_
    refine KQ.again ((acc ++ [x], k + kx, m - 1, vn, vx)) ?_ ?_ ?_
    · exact Sub.all rfl
    · show (m - 1).toNat < m.toNat; omega
    exact ⟨rb.cast (by simp only [List.drop_drop, Nat.add_assoc, Nat.add_zero]), ls, hpre.step (by rw [List.drop_drop]; exact hpx), fr, by show 0 ≤ m - 1; omega, by show (acc ++ [x]).length + (m - 1).toNat = _; rw [List.length_append, List.length_singleton]; omega⟩
  intro hc10
  try dsimp only at hc10
  refine KC.exit (KQ.exitThen (KQ.exitThen (KQ.hit (KQ.sr (KL.fin 2 rfl (KQ.seq (KC.ret (KQ.ofRetX (KQ.toX (KQ.fin1 Tryz.results81 rfl ?_))))))))))
  have h0 : m.toNat = 0 := by omega
  rw [h0] at hpre
  exact ⟨_, _, _, Bn.m_ok (Bn.b_ok hp0 hpre.done), ls.row (by decide), rb, fr⟩
namespace Bn
section
variable {r : List Int} {kd e : Int} {k : Nat}
theorem ir0 (h : kd = 0) : impR kd = Isp.mapP (fun t => (t, (0, 0), (0, false))) Isp.u32P := by unfold impR; rw [if_pos h]
theorem ir1 (h0 : ¬ kd = 0) (h : kd = 1) : impR kd = Isp.mapP (fun l => (0, l, (0, false))) tabP := by unfold impR; rw [if_neg h0, if_pos h]
theorem ir2 (h0 : ¬ kd = 0) (h1 : ¬ kd = 1) (h : kd = 2) : impR kd = Isp.mapP (fun l => (0, l, (0, false))) limP := by unfold impR; rw [if_neg h0, if_neg h1, if_pos h]
theorem ir3 (h0 : ¬ kd = 0) (h1 : ¬ kd = 1) (h2 : ¬ kd = 2) (h : kd = 3) : impR kd = Isp.mapP (fun g => (0, (0, 0), g)) glbP := by unfold impR; rw [if_neg h0, if_neg h1, if_neg h2, if_pos h]
theorem irb (h0 : ¬ kd = 0) (h1 : ¬ kd = 1) (h2 : ¬ kd = 2) (h : ¬ kd = 3) : impR kd r = .error 60 := by unfold impR; rw [if_neg h0, if_neg h1, if_neg h2, if_neg h]
theorem imp_ok {s1 s2 : ByteArray} {kd t : Int} {lm : Int × Int} {gl : Glb} {l : List Int} {k0 k1 k2 k3 : Nat} (h0 : namP l = .ok (s1, k0)) (h1 : namP (l.drop k0) = .ok (s2, k1)) (h2 : Isp.byteP ((l.drop k0).drop k1) = .ok (kd, k2)) (h3 : impR kd (((l.drop k0).drop k1).drop k2) = .ok ((t, lm, gl), k3)) : impP l = .ok (⟨s1, s2, kd, t, lm, gl⟩, k0 + (k1 + (k2 + k3))) := by
  have h := b_ok (q := fun _ => Isp.bindP namP fun _ => Isp.bindP Isp.byteP impR) h0 (b_ok (q := fun _ => Isp.bindP Isp.byteP impR) h1 (b_ok (q := impR) h2 h3))
  exact m_ok h
end
end Bn
instance oneFTy : One EFTy := ⟨fun h u hu => by
  obtain ⟨a, b, rfl, h1, h2⟩ := h
  simp only [List.mem_cons, List.not_mem_nil, or_false] at hu
  rcases hu with rfl | rfl
  · exact h1.one
  exact h2.one⟩
instance oneImp : One EImp := ⟨fun h u hu => by
  obtain ⟨rfl, _⟩ := h
  simp only [List.mem_cons, List.not_mem_nil, or_false] at hu
  rcases hu with rfl | rfl | rfl | rfl | rfl | rfl | rfl | rfl <;> rfl⟩
instance oneExp : One EExp := ⟨fun h u hu => by
  obtain ⟨rfl, _⟩ := h
  simp only [List.mem_cons, List.not_mem_nil, or_false] at hu
  rcases hu with rfl | rfl | rfl <;> rfl⟩
theorem blocal_any {H : Heap} {g : Nat} {v : Value} {l : List Int} (rb : RB H g v l) : CtX Tryz.prog 113 [.pointer (some ⟨g, 0, none⟩)] H (fun u H' => ∃ x k v', Bn.locP l = .ok (x, k) ∧ u = .agg [.int .u32 x.1, .int .u8 x.2].toArray ∧ InR .u32 x.1 ∧ InR .u8 x.2 ∧ RB H' g v' (l.drop k) ∧ Fr g (.slice none 0 0) H H') (fun q H' => ∃ e, Bn.locP l = .error e ∧ q = failB e ∧ Fr g (.slice none 0 0) H H') := by
  refine CtX.mk Tryz.func113 rfl Tryz.ntmps113 rfl ?_
  intro W0 hW0
  have o0 : OldB 0 H H := OldB.refl _ H
  have hg := rb.lt
  have fr : Fr g (.slice none 0 0) H H := Fr.refl _ _ _
  have hle := rb.le
  refine KC.sr ?_
  refine KL.m (M.alloc rfl zr146 rfl) rfl ?_
  rintro _ H1 ⟨rfl, n1⟩
  have z1 := n1.2.1
  have o0 := o0.trans ((n1.1).b (by omega))
  have rb := rb.old n1.1
  have fr := fr.old n1.1
  have b1 := n1.2.2
  have br := b1
  refine KL.nil (KQ.sr (KL.run 1 rfl ?_))
  refine KL.callX rfl rfl rfl rfl K80 rfl rfl rfl (bu32_any rb) ?_ ?_
  · rintro vx H2 ⟨ex, hx1, hx2, hx3⟩
    refine KQ.panThen ?_
    exact KQ.pan (⟨_, Bn.b_e1 hx1, hx2, fr.thenN hx3⟩)
  rintro _ H3 ⟨a, k0, v0, hp0, rfl, ha, rb2, f1_⟩
  have zf_H3 := f1_.1
  have o0 := o0.trans (f1_.low (Nat.zero_le _) (Nat.zero_le _))
  have fr := fr.thenN f1_
  have br := f1_.at_ br (by omega)
  have rb := rb2
  have zrd := rb.lt
  have fn1 := f1_
  refine KL.fin 1 rfl (KQ.sr (KL.run 2 rfl ?_))
  refine KL.callX rfl rfl rfl rfl Tryz.call105 rfl rfl rfl (bvalue_any rb) ?_ ?_
  · rintro vx H4 ⟨ex, hx1, hx2, hx3⟩
    refine KQ.panThen ?_
    exact KQ.pan (⟨_, Bn.b_e2 hp0 hx1, hx2, fr.thenN hx3⟩)
  rintro _ H5 ⟨t, k1, v1, hp1, rfl, ht, rb2, f2_⟩
  have zf_H5 := f2_.1
  have o0 := o0.trans (f2_.low (Nat.zero_le _) (Nat.zero_le _))
  have fr := fr.thenN f2_
  have br := f2_.at_ br (by omega)
  have rb := rb2
  have zrd := rb.lt
  have fn2 := f2_
  refine KL.b0 bt146 rfl rfl ?_
  refine KL.opS (S.storeAgg rfl sz146 rfl rfl (rfl) (by intro z hz; simp only [List.mem_cons, List.not_mem_nil, or_false] at hz; rcases hz with rfl | rfl <;> first | rfl) br (by simp)) rfl rfl ?_
  rintro H6 ⟨u6, b6⟩
  have o0 := o0.trans (OldB.upd u6 (by omega))
  have zu6 := u6.1
  have fr := (by exact fr.updN u6 (by omega))
  have rb := rb.updT u6 (by omega)
  have br := b6
  rw [over_all (by rfl)] at br
  refine KL.nil (KQ.seq (KC.ret (KQ.ofRetX (KQ.toX ?_))))
  refine KQ.finCell Tryz.results113 rfl U146 rfl sz146 (cells_of br) (rfl) ?_
  exact ⟨_, _, _, Bn.b_ok hp0 hp1, rfl, ha, ht, rb.cast (by simp only [List.drop_drop, Nat.add_assoc, Nat.add_zero]), fr⟩
theorem listL_any {H : Heap} {g : Nat} {v : Value} {l : List Int} (rb : RB H g v l) : CtX Tryz.prog 112 [.pointer (some ⟨g, 0, none⟩), .func (.func 113) #[] #[]] H (fun u H' => ∃ x k v', Bn.lstP Bn.locP l = .ok (x, k) ∧ RowS 2 ELoc H.size H' u x ∧ RB H' g v' (l.drop k) ∧ Fr g (.slice none 0 0) H H') (fun q H' => ∃ e, Bn.lstP Bn.locP l = .error e ∧ q = failB e ∧ Fr g (.slice none 0 0) H H') := by
  refine CtX.mk Tryz.func112 rfl Tryz.ntmps112 rfl ?_
  intro W0 hW0
  have o0 : OldB 0 H H := OldB.refl _ H
  have hg := rb.lt
  have fr : Fr g (.slice none 0 0) H H := Fr.refl _ _ _
  have hle := rb.le
  refine KC.sr (KL.fin 1 rfl (KQ.sr (KL.fin 1 rfl (KQ.seq (KC.seq (KC.sr (KL.run 1 rfl ?_)))))))
  refine KL.callX rfl rfl rfl rfl K80 rfl rfl rfl (bu32_any rb) ?_ ?_
  · rintro vx H1 ⟨ex, hx1, hx2, hx3⟩
    refine KQ.panThen ?_
    refine KQ.panThen ?_
    exact KQ.pan (⟨_, Bn.m_e (Bn.b_e1 hx1), hx2, fr.thenN hx3⟩)
  rintro _ H2 ⟨n0, k0, v0, hp0, rfl, hn0, rb2, f3_⟩
  have zf_H2 := f3_.1
  have o0 := o0.trans (f3_.low (Nat.zero_le _) (Nat.zero_le _))
  have fr := fr.thenN f3_
  have rb := rb2
  have zrd := rb.lt
  have fn3 := f3_
  dsimp only [InR] at hn0
  refine KL.fin 1 rfl (KQ.seq (KC.block ?_))
  refine KC.loopD (κ := List (Int × Int) × Nat × Int × Value × Value) [9, 10, 13, 14, 15, 16, 17, 18, 5, 11, 12, 6] (fun k => [(5, k.2.2.2.1), (6, .int .u32 k.2.2.1)]) (fun k Hl => RB Hl g k.2.2.2.2 (l.drop (k0 + k.2.1)) ∧ LS 2 ELoc 146 (Array.size H) Hl k.2.2.2.1 k.1 ∧ Isp.Pre Bn.locP n0.toNat (l.drop k0) k.2.2.1.toNat k.1 k.2.1 ∧ Fr g (.slice none 0 0) H Hl ∧ 0 ≤ k.2.2.1 ∧ k.1.length + k.2.2.1.toNat = n0.toNat) (fun k => k.2.2.1.toNat) ([], 0, n0, .slice none 0 0, v0) ?_ ?_ ?_
  · exact Sub.all rfl
  · exact ⟨rb.cast (by simp only [List.drop_drop, Nat.add_assoc, Nat.add_zero]), LS.nil _ _ _ _ _, Isp.Pre.start _ _ _, fr, hn0.1, by simp⟩
  rintro ⟨acc, k, m, vo, vr⟩ H3 ⟨rb, ls, hpre, fr, hm0, hlen⟩
  dsimp only at rb ls hpre hm0 hlen
  have zrd := rb.lt
  have zfr := fr.1
  have o0 : OldB 0 H H3 := fr.low (Nat.zero_le _) (Nat.zero_le _)
  refine KC.seq (KC.sr (KL.fin 2 rfl (KQ.seq ?_)))
  refine KC.iq rfl ?_ ?_
  · intro hc10
    try dsimp only at hc10
    refine KC.skip (KQ.seq (KC.seq (KC.block (KC.region (KL.run 3 rfl ?_)))))
    have hvo := ls.w.lt.imp id (fun h => h.2)
    have hm : m.toNat = (m - 1).toNat + 1 := by omega
    rw [hm] at hpre
    refine KL.callX rfl rfl rfl rfl Tryz.call113 rfl rfl rfl (blocal_any rb) ?_ ?_
    · rintro vx H4 ⟨ex, hx1, hx2, hx3⟩
      refine KQ.panBlock ?_
      refine KQ.panThen ?_
      refine KQ.panThen ?_
      refine KQ.panBlock ?_
      refine KQ.panThen ?_
      exact KQ.pan (⟨_, Bn.m_e (Bn.b_e2 hp0 (hpre.fail (by rw [List.drop_drop]; exact hx1))), hx2, fr.thenN hx3⟩)
    rintro _ H5 ⟨x, kx, vx, hpx, rfl, hr1, hr2, rb2, f4_⟩
    have zf_H5 := f4_.1
    have o0 := o0.trans (f4_.low (Nat.zero_le _) (Nat.zero_le _))
    have ls := ls.frT f4_ (by omega)
    have fr := fr.thenN f4_
    have rb := rb2
    have zrd := rb.lt
    have fn4 := f4_
    refine KL.m (M.lit rfl U51 zs146 (by decide) rfl rfl rfl) rfl ?_
    rintro _ H6 ⟨rfl, n6⟩
    have z6 := n6.2.1
    have o0 := o0.trans ((n6.1).b (by omega))
    have ls := ls.old n6.1
    have fr := fr.old n6.1
    have rb := rb.old n6.1
    have b6 := n6.2.2
    have wo := ls.w
    have se : Sl 2 (FK ELoc H6 (vblock vo :: List.range (Array.size H))) H6 _ [x] := Sl.lit1N n6 rfl (by decide) (fun Hx kx_ => ⟨rfl, hr1, hr2⟩)
    have lt7 := wo.lt
    refine KL.m (M.appendE rfl U51 inf146 rfl (by decide) rfl rfl wo (se) (by omega) (by simp only [List.length_cons, List.length_nil]; omega) (by unfold maxLen; simp only [List.length_cons, List.length_nil]; omega)) rfl ?_
    rintro vn H7 ⟨w7, g7, nx7⟩
    try dsimp only at g7 nx7
    have ob7 := g7.oldBE wo (by omega)
    have o0 := o0.trans (ob7.mono (by omega))
    have z7 := ob7.1
    have fr := (by exact fr.grownN g7 (lt7.imp id (fun h => by omega)))
    have rb := rb.grownT g7 (lt7.imp id (fun h => by omega))
    have wo := w7
    have ls : LS 2 ELoc 146 (Array.size H) H7 vn (acc ++ [x]) := ⟨wo⟩
    refine KL.fin 1 rfl (KQ.normBlock (KQ.r (KL.run 1 rfl ?_)))
    refine KL.q (R.sub rfl rfl rfl (by dsimp only [InR]; omega)) rfl ?_
    refine KL.fin 1 rfl ?_
    refine KQ.again ((acc ++ [x], k + kx, m - 1, vn, vx)) ?_ ?_ ?_
    · exact Sub.all rfl
    · show (m - 1).toNat < m.toNat; omega
    exact ⟨rb.cast (by simp only [List.drop_drop, Nat.add_assoc, Nat.add_zero]), ls, hpre.step (by rw [List.drop_drop]; exact hpx), fr, by show 0 ≤ m - 1; omega, by show (acc ++ [x]).length + (m - 1).toNat = _; rw [List.length_append, List.length_singleton]; omega⟩
  intro hc10
  try dsimp only at hc10
  refine KC.exit (KQ.exitThen (KQ.exitThen (KQ.hit (KQ.sr (KL.fin 2 rfl (KQ.seq (KC.ret (KQ.ofRetX (KQ.toX (KQ.fin1 Tryz.results112 rfl ?_))))))))))
  have h0 : m.toNat = 0 := by omega
  rw [h0] at hpre
  exact ⟨_, _, _, Bn.m_ok (Bn.b_ok hp0 hpre.done), ls.row (by decide), rb, fr⟩
theorem btyped_any {H : Heap} {g : Nat} {v : Value} {l : List Int} (rb : RB H g v l) : CtX Tryz.prog 76 [.pointer (some ⟨g, 0, none⟩)] H (fun u H' => ∃ x k v', Bn.typP l = .ok (x, k) ∧ (∃ a b, u = .agg [a, b].toArray ∧ RowS 1 (EInt .u8) H.size H' a x.1 ∧ RowS 1 (EInt .u8) H.size H' b x.2) ∧ RB H' g v' (l.drop k) ∧ Fr g (.slice none 0 0) H H') (fun q H' => ∃ e, Bn.typP l = .error e ∧ q = failB e ∧ Fr g (.slice none 0 0) H H') := by
  refine CtX.mk Tryz.func76 rfl Tryz.ntmps76 rfl ?_
  intro W0 hW0
  have o0 : OldB 0 H H := OldB.refl _ H
  have hg := rb.lt
  have fr : Fr g (.slice none 0 0) H H := Fr.refl _ _ _
  have hle := rb.le
  refine KC.sr ?_
  refine KL.m (M.alloc rfl zr50 rfl) rfl ?_
  rintro _ H1 ⟨rfl, n1⟩
  have z1 := n1.2.1
  have o0 := o0.trans ((n1.1).b (by omega))
  have rb := rb.old n1.1
  have fr := fr.old n1.1
  have b1 := n1.2.2
  have br := b1
  refine KL.nil (KQ.sr (KL.run 1 rfl ?_))
  refine KL.callX rfl rfl rfl rfl Tryz.call103 rfl rfl rfl (bbyte_any rb) ?_ ?_
  · rintro vx H2 ⟨ex, hx1, hx2, hx3⟩
    refine KQ.panThen ?_
    exact KQ.pan (⟨_, Bn.m_e (Bn.b_e1 (Bn.one_er hx1)), hx2, fr.thenN hx3⟩)
  rintro _ H3 ⟨x0, k0, v0, hp0, rfl, hx0, rb2, f5_⟩
  have zf_H3 := f5_.1
  have o0 := o0.trans (f5_.low (Nat.zero_le _) (Nat.zero_le _))
  have fr := fr.thenN f5_
  have br := f5_.at_ br (by omega)
  have rb := rb2
  have zrd := rb.lt
  have fn5 := f5_
  refine KL.run 1 rfl ?_
  refine KL.callX rfl rfl rfl rfl K46 rfl rfl rfl (must_any _) ?_ ?_
  · rintro vx _ ⟨rfl, hb, rfl⟩
    simp only [sd] at hb
    refine KQ.panThen ?_
    exact KQ.pan (⟨_, Bn.m_e (Bn.b_e1 (Bn.one_of_e hp0 (Bn.tag_b hb))), rfl, fr⟩)
  rintro _ _ ⟨rfl, hb, rfl⟩
  simp only [sd] at hb
  refine KL.nil (KQ.sr (KL.run 1 rfl ?_))
  refine KL.callX rfl rfl rfl rfl Tryz.call104 rfl rfl rfl (listV_any rb) ?_ ?_
  · rintro vx H5 ⟨ex, hx1, hx2, hx3⟩
    refine KQ.panThen ?_
    exact KQ.pan (⟨_, Bn.m_e (Bn.b_e2 (Bn.one_of hp0 (Bn.tag_ok hb)) (Bn.b_e1 hx1)), hx2, fr.thenN hx3⟩)
  rintro ua H6 ⟨ps, k1, v1, hp1, ra, rb2, f6_⟩
  have zf_H6 := f6_.1
  have o0 := o0.trans (f6_.low (Nat.zero_le _) (Nat.zero_le _))
  have fr := fr.thenN f6_
  have br := f6_.at_ br (by omega)
  have rb := rb2
  have zrd := rb.lt
  have fn6 := f6_
  have rwra := RW.refl (Array.size H3) H6
  refine KL.fin 1 rfl (KQ.sr (KL.run 2 rfl ?_))
  refine KL.callX rfl rfl rfl rfl Tryz.call104 rfl rfl rfl (listV_any rb) ?_ ?_
  · rintro vx H7 ⟨ex, hx1, hx2, hx3⟩
    refine KQ.panThen ?_
    exact KQ.pan (⟨_, Bn.m_e (Bn.b_e2 (Bn.one_of hp0 (Bn.tag_ok hb)) (Bn.b_e2 hp1 hx1)), hx2, fr.thenN hx3⟩)
  rintro ub H8 ⟨rs, k2, v2, hp2, rb_, rb2, f7_⟩
  have zf_H8 := f7_.1
  have o0 := o0.trans (f7_.low (Nat.zero_le _) (Nat.zero_le _))
  have fr := fr.thenN f7_
  have br := f7_.at_ br (by omega)
  have rwra := rwra.frT f7_ (by omega)
  have rb := rb2
  have zrd := rb.lt
  have fn7 := f7_
  have rwrb_ := RW.refl (Array.size H6) H8
  refine KL.bd bt50 rfl ⟨ra.cells1, rb_.cells1, trivial⟩ ?_
  refine KL.opS (S.storeAgg rfl sz50 rfl rfl (rfl) (by intro z hz; simp only [List.mem_cons, List.not_mem_nil, or_false] at hz; rcases hz with rfl | rfl <;> first | rfl | exact ra.one | exact rb_.one) br (by simp)) rfl rfl ?_
  rintro H9 ⟨u9, b9⟩
  have o0 := o0.trans (OldB.upd u9 (by omega))
  have zu9 := u9.1
  have fr := (by exact fr.updN u9 (by omega))
  have rwra := rwra.updT u9 (by omega)
  have rb := rb.updT u9 (by omega)
  have rwrb_ := rwrb_.updT u9 (by omega)
  have br := b9
  rw [over_all (by rfl)] at br
  refine KL.nil (KQ.seq (KC.ret (KQ.ofRetX (KQ.toX ?_))))
  refine KQ.finCell Tryz.results76 rfl U50 rfl sz50 (cells_of br) (rfl) ?_
  exact ⟨_, _, _, Bn.m_ok (Bn.b_ok (Bn.one_of hp0 (Bn.tag_ok hb)) (Bn.b_ok hp1 hp2)), ⟨_, _, rfl, ra.to rwra (by omega), rb_.to rwrb_ (by omega)⟩, rb.cast (by simp only [List.drop_drop, Nat.add_assoc, Nat.add_zero]), fr⟩
theorem listF_any {H : Heap} {g : Nat} {v : Value} {l : List Int} (rb : RB H g v l) : CtX Tryz.prog 75 [.pointer (some ⟨g, 0, none⟩), .func (.func 76) #[] #[]] H (fun u H' => ∃ x k v', Bn.lstP Bn.typP l = .ok (x, k) ∧ RowS 2 EFTy H.size H' u x ∧ RB H' g v' (l.drop k) ∧ Fr g (.slice none 0 0) H H') (fun q H' => ∃ e, Bn.lstP Bn.typP l = .error e ∧ q = failB e ∧ Fr g (.slice none 0 0) H H') := by
  refine CtX.mk Tryz.func75 rfl Tryz.ntmps75 rfl ?_
  intro W0 hW0
  have o0 : OldB 0 H H := OldB.refl _ H
  have hg := rb.lt
  have fr : Fr g (.slice none 0 0) H H := Fr.refl _ _ _
  have hle := rb.le
  refine KC.sr (KL.fin 1 rfl (KQ.sr (KL.fin 1 rfl (KQ.seq (KC.seq (KC.sr (KL.run 1 rfl ?_)))))))
  refine KL.callX rfl rfl rfl rfl K80 rfl rfl rfl (bu32_any rb) ?_ ?_
  · rintro vx H1 ⟨ex, hx1, hx2, hx3⟩
    refine KQ.panThen ?_
    refine KQ.panThen ?_
    exact KQ.pan (⟨_, Bn.m_e (Bn.b_e1 hx1), hx2, fr.thenN hx3⟩)
  rintro _ H2 ⟨n0, k0, v0, hp0, rfl, hn0, rb2, f8_⟩
  have zf_H2 := f8_.1
  have o0 := o0.trans (f8_.low (Nat.zero_le _) (Nat.zero_le _))
  have fr := fr.thenN f8_
  have rb := rb2
  have zrd := rb.lt
  have fn8 := f8_
  dsimp only [InR] at hn0
  refine KL.fin 1 rfl (KQ.seq (KC.block ?_))
  refine KC.loopD (κ := List FTy × Nat × Int × Value × Value) [9, 10, 13, 14, 15, 16, 17, 18, 5, 11, 12, 6] (fun k => [(5, k.2.2.2.1), (6, .int .u32 k.2.2.1)]) (fun k Hl => RB Hl g k.2.2.2.2 (l.drop (k0 + k.2.1)) ∧ LS 2 EFTy 50 (Array.size H) Hl k.2.2.2.1 k.1 ∧ Isp.Pre Bn.typP n0.toNat (l.drop k0) k.2.2.1.toNat k.1 k.2.1 ∧ Fr g (.slice none 0 0) H Hl ∧ 0 ≤ k.2.2.1 ∧ k.1.length + k.2.2.1.toNat = n0.toNat) (fun k => k.2.2.1.toNat) ([], 0, n0, .slice none 0 0, v0) ?_ ?_ ?_
  · exact Sub.all rfl
  · exact ⟨rb.cast (by simp only [List.drop_drop, Nat.add_assoc, Nat.add_zero]), LS.nil _ _ _ _ _, Isp.Pre.start _ _ _, fr, hn0.1, by simp⟩
  rintro ⟨acc, k, m, vo, vr⟩ H3 ⟨rb, ls, hpre, fr, hm0, hlen⟩
  dsimp only at rb ls hpre hm0 hlen
  have zrd := rb.lt
  have zfr := fr.1
  have o0 : OldB 0 H H3 := fr.low (Nat.zero_le _) (Nat.zero_le _)
  refine KC.seq (KC.sr (KL.fin 2 rfl (KQ.seq ?_)))
  refine KC.iq rfl ?_ ?_
  · intro hc10
    try dsimp only at hc10
    refine KC.skip (KQ.seq (KC.seq (KC.block (KC.region (KL.run 3 rfl ?_)))))
    have hvo := ls.w.lt.imp id (fun h => h.2)
    have hm : m.toNat = (m - 1).toNat + 1 := by omega
    rw [hm] at hpre
    refine KL.callX rfl rfl rfl rfl Tryz.call76 rfl rfl rfl (btyped_any rb) ?_ ?_
    · rintro vx H4 ⟨ex, hx1, hx2, hx3⟩
      refine KQ.panBlock ?_
      refine KQ.panThen ?_
      refine KQ.panThen ?_
      refine KQ.panBlock ?_
      refine KQ.panThen ?_
      exact KQ.pan (⟨_, Bn.m_e (Bn.b_e2 hp0 (hpre.fail (by rw [List.drop_drop]; exact hx1))), hx2, fr.thenN hx3⟩)
    rintro _ H5 ⟨x, kx, vx, hpx, ⟨a, b, rfl, ra, rb_⟩, rb2, f9_⟩
    have zf_H5 := f9_.1
    have o0 := o0.trans (f9_.low (Nat.zero_le _) (Nat.zero_le _))
    have ls := ls.frT f9_ (by omega)
    have fr := fr.thenN f9_
    have rb := rb2
    have zrd := rb.lt
    have fn9 := f9_
    have rwx := RW.refl (Array.size H3) H5
    refine KL.m (M.lit rfl U22 zs50 (by decide) rfl rfl rfl) rfl ?_
    rintro _ H6 ⟨rfl, n6⟩
    have z6 := n6.2.1
    have o0 := o0.trans ((n6.1).b (by omega))
    have ls := ls.old n6.1
    have fr := fr.old n6.1
    have rb := rb.old n6.1
    have rwx := rwx.old n6.1
    have b6 := n6.2.2
    have wo := ls.w
    have se : Sl 2 (FK EFTy H6 (vblock vo :: List.range (Array.size H))) H6 _ [x] := Sl.lit1N n6 rfl (by decide) (fun Hx kx_ => ⟨a, b, rfl, fk_row ra rwx hvo (by omega) (by omega) Hx kx_, fk_row rb_ rwx hvo (by omega) (by omega) Hx kx_⟩)
    have lt7 := wo.lt
    refine KL.m (M.appendE rfl U22 inf50 rfl (by decide) rfl rfl wo (se) (by omega) (by simp only [List.length_cons, List.length_nil]; omega) (by unfold maxLen; simp only [List.length_cons, List.length_nil]; omega)) rfl ?_
    rintro vn H7 ⟨w7, g7, nx7⟩
    try dsimp only at g7 nx7
    have ob7 := g7.oldBE wo (by omega)
    have o0 := o0.trans (ob7.mono (by omega))
    have z7 := ob7.1
    have fr := (by exact fr.grownN g7 (lt7.imp id (fun h => by omega)))
    have rb := rb.grownT g7 (lt7.imp id (fun h => by omega))
    have wo := w7
    have ls : LS 2 EFTy 50 (Array.size H) H7 vn (acc ++ [x]) := ⟨wo⟩
    refine KL.fin 1 rfl (KQ.normBlock (KQ.r (KL.run 1 rfl ?_)))
    refine KL.q (R.sub rfl rfl rfl (by dsimp only [InR]; omega)) rfl ?_
    refine KL.fin 1 rfl ?_
    refine KQ.again ((acc ++ [x], k + kx, m - 1, vn, vx)) ?_ ?_ ?_
    · exact Sub.all rfl
    · show (m - 1).toNat < m.toNat; omega
    exact ⟨rb.cast (by simp only [List.drop_drop, Nat.add_assoc, Nat.add_zero]), ls, hpre.step (by rw [List.drop_drop]; exact hpx), fr, by show 0 ≤ m - 1; omega, by show (acc ++ [x]).length + (m - 1).toNat = _; rw [List.length_append, List.length_singleton]; omega⟩
  intro hc10
  try dsimp only at hc10
  refine KC.exit (KQ.exitThen (KQ.exitThen (KQ.hit (KQ.sr (KL.fin 2 rfl (KQ.seq (KC.ret (KQ.ofRetX (KQ.toX (KQ.fin1 Tryz.results75 rfl ?_))))))))))
  have h0 : m.toNat = 0 := by omega
  rw [h0] at hpre
  exact ⟨_, _, _, Bn.m_ok (Bn.b_ok hp0 hpre.done), ls.row (by decide), rb, fr⟩
theorem bimported_any {H : Heap} {g : Nat} {v : Value} {l : List Int} (rb : RB H g v l) {Hb : Heap} (hT : TabU Hb) (oB : Old Hb H) (hgB : Hb.size ≤ g) : CtX Tryz.prog 78 [.pointer (some ⟨g, 0, none⟩)] H (fun u H' => ∃ x k v', Bn.impP l = .ok (x, k) ∧ (u = .agg [.string x.mod, .string x.nam, .int .u8 x.kind, .int .u32 x.typ, .int .u32 x.lim.1, .int .i64 x.lim.2, .int .u8 x.glob.1, .bool x.glob.2].toArray ∧ InR .u8 x.kind ∧ InR .u32 x.typ ∧ InR .u32 x.lim.1 ∧ InR .i64 x.lim.2 ∧ InR .u8 x.glob.1) ∧ RB H' g v' (l.drop k) ∧ Fr g (.slice none 0 0) H H') (fun q H' => ∃ e, Bn.impP l = .error e ∧ q = failB e ∧ Fr g (.slice none 0 0) H H') := by
  refine CtX.mk Tryz.func78 rfl Tryz.ntmps78 rfl ?_
  intro W0 hW0
  have o0 : OldB 0 H H := OldB.refl _ H
  have hg := rb.lt
  have fr : Fr g (.slice none 0 0) H H := Fr.refl _ _ _
  have hle := rb.le
  refine KC.sr ?_
  refine KL.m (M.alloc rfl zr61 rfl) rfl ?_
  rintro _ H1 ⟨rfl, n1⟩
  have z1 := n1.2.1
  have o0 := o0.trans ((n1.1).b (by omega))
  have rb := rb.old n1.1
  have fr := fr.old n1.1
  have oB := oB.trans n1.1
  have b1 := n1.2.2
  have br := b1
  refine KL.nil (KQ.sr (KL.run 1 rfl ?_))
  refine KL.callX rfl rfl rfl rfl Tryz.call106 rfl rfl rfl (bname_any rb hT oB hgB) ?_ ?_
  · rintro vx H2 ⟨ex, hx1, hx2, hx3⟩
    refine KQ.panThen ?_
    exact KQ.pan (⟨_, Bn.m_e (Bn.b_e1 hx1), hx2, fr.thenN hx3⟩)
  rintro _ H3 ⟨s1, k0, v0, hp0, rfl, rb2, f10_⟩
  have zf_H3 := f10_.1
  have o0 := o0.trans (f10_.low (Nat.zero_le _) (Nat.zero_le _))
  have fr := fr.thenN f10_
  have oB := oB.then (f10_.low (by omega) (by omega)) (Nat.le_refl _)
  have br := f10_.at_ br (by omega)
  have rb := rb2
  have zrd := rb.lt
  have fn10 := f10_
  refine KL.b0 bt61 rfl rfl ?_
  refine KL.m (M.alloc rfl zr61 rfl) rfl ?_
  rintro _ H4 ⟨rfl, n4⟩
  have z4 := n4.2.1
  have o0 := o0.trans ((n4.1).b (by omega))
  have fr := fr.old n4.1
  have oB := oB.trans n4.1
  have br := (n4.1).blk br
  have rb := rb.old n4.1
  have b4 := n4.2.2
  have bx := b4
  refine KL.opS (S.storeAgg rfl sz61 rfl rfl (rfl) (by intro z hz; simp only [List.mem_cons, List.not_mem_nil, or_false] at hz; rcases hz with rfl | rfl | rfl | rfl | rfl | rfl | rfl | rfl <;> first | rfl) bx (by simp)) rfl rfl ?_
  rintro H5 ⟨u5, b5⟩
  have o0 := o0.trans (OldB.upd u5 (by omega))
  have zu5 := u5.1
  have fr := (by exact fr.updN u5 (by omega))
  have oB := oB.upd u5 (by omega)
  have br := ((u5).2 _ (by omega)).trans br
  have rb := rb.updT u5 (by omega)
  have bx := b5
  rw [over_all (by rfl)] at bx
  refine KL.nil (KQ.sr (KL.run 1 rfl ?_))
  refine KL.callX rfl rfl rfl rfl Tryz.call106 rfl rfl rfl (bname_any rb hT oB hgB) ?_ ?_
  · rintro vx H6 ⟨ex, hx1, hx2, hx3⟩
    refine KQ.panThen ?_
    exact KQ.pan (⟨_, Bn.m_e (Bn.b_e2 hp0 (Bn.b_e1 hx1)), hx2, fr.thenN hx3⟩)
  rintro _ H7 ⟨s2, k1, v1, hp1, rfl, rb2, f11_⟩
  have zf_H7 := f11_.1
  have o0 := o0.trans (f11_.low (Nat.zero_le _) (Nat.zero_le _))
  have fr := fr.thenN f11_
  have oB := oB.then (f11_.low (by omega) (by omega)) (Nat.le_refl _)
  have br := f11_.at_ br (by omega)
  have bx := f11_.at_ bx (by omega)
  have rb := rb2
  have zrd := rb.lt
  have fn11 := f11_
  refine KL.run 1 rfl ?_
  refine KL.opS (S.store rfl sz9 rfl rfl rfl rfl bx (by simp)) rfl rfl ?_
  rintro H8 ⟨u8, b8⟩
  have o0 := o0.trans (OldB.upd u8 (by omega))
  have zu8 := u8.1
  have fr := (by exact fr.updN u8 (by omega))
  have oB := oB.upd u8 (by omega)
  have br := ((u8).2 _ (by omega)).trans br
  have rb := rb.updT u8 (by omega)
  have bx := b8
  have bx : H8[(Array.size H3)]? = some (.cells [.string s1, .string s2, .int .u8 0, .int .u32 0, .int .u32 0, .int .i64 0, .int .u8 0, .bool false].toArray 61 (0, 0)) := bx
  refine KL.nil (KQ.sr (KL.run 1 rfl ?_))
  refine KL.callX rfl rfl rfl rfl Tryz.call103 rfl rfl rfl (bbyte_any rb) ?_ ?_
  · rintro vx H9 ⟨ex, hx1, hx2, hx3⟩
    refine KQ.panThen ?_
    exact KQ.pan (⟨_, Bn.m_e (Bn.b_e2 hp0 (Bn.b_e2 hp1 (Bn.b_e1 hx1))), hx2, fr.thenN hx3⟩)
  rintro _ H10 ⟨kd, k2, v2, hp2, rfl, hkd, rb2, f12_⟩
  have zf_H10 := f12_.1
  have o0 := o0.trans (f12_.low (Nat.zero_le _) (Nat.zero_le _))
  have fr := fr.thenN f12_
  have oB := oB.then (f12_.low (by omega) (by omega)) (Nat.le_refl _)
  have br := f12_.at_ br (by omega)
  have bx := f12_.at_ bx (by omega)
  have rb := rb2
  have zrd := rb.lt
  have fn12 := f12_
  refine KL.run 1 rfl ?_
  refine KL.opS (S.store rfl sz5 rfl rfl rfl rfl bx (by simp)) rfl rfl ?_
  rintro H11 ⟨u11, b11⟩
  have o0 := o0.trans (OldB.upd u11 (by omega))
  have zu11 := u11.1
  have fr := (by exact fr.updN u11 (by omega))
  have oB := oB.upd u11 (by omega)
  have br := ((u11).2 _ (by omega)).trans br
  have rb := rb.updT u11 (by omega)
  have bx := b11
  have bx : H11[(Array.size H3)]? = some (.cells [.string s1, .string s2, .int .u8 kd, .int .u32 0, .int .u32 0, .int .i64 0, .int .u8 0, .bool false].toArray 61 (0, 0)) := bx
  refine KL.nil (KQ.seq (KC.seq (KC.sr (KL.run 1 rfl (KL.ld rfl (cell_of bx rfl) (KL.nil (KQ.seq (KC.block (KC.sr (KL.fin 2 rfl (KQ.seq ?_)))))))))))
  refine KC.iq rfl ?_ ?_
  · intro h0
    refine KC.region (KL.run 1 rfl ?_)
    refine KL.callX rfl rfl rfl rfl K80 rfl rfl rfl (bu32_any rb) ?_ ?_
    · rintro vx H12 ⟨ex, hx1, hx2, hx3⟩
      refine KQ.panBlock ?_
      refine KQ.panThen ?_
      exact KQ.pan (⟨_, Bn.m_e (Bn.b_e2 hp0 (Bn.b_e2 hp1 (Bn.b_e2 hp2 (by rw [Bn.ir0 h0]; exact Bn.m_e hx1)))), hx2, fr.thenN hx3⟩)
    rintro _ H13 ⟨ty, k3, v3, hp3, rfl, hr1, rb2, f13_⟩
    have zf_H13 := f13_.1
    have o0 := o0.trans (f13_.low (Nat.zero_le _) (Nat.zero_le _))
    have fr := fr.thenN f13_
    have oB := oB.then (f13_.low (by omega) (by omega)) (Nat.le_refl _)
    have br := f13_.at_ br (by omega)
    have bx := f13_.at_ bx (by omega)
    have rb := rb2
    have zrd := rb.lt
    have fn13 := f13_
    have hfin : Bn.impP l = .ok (⟨s1, s2, kd, ty, (0, 0), (0, false)⟩, _) := Bn.imp_ok hp0 hp1 hp2 (show Bn.impR kd _ = .ok ((ty, (0, 0), (0, false)), _) from by rw [Bn.ir0 h0]; exact Bn.m_ok hp3)
    have hrr : InR .u32 (ty) ∧ InR .u32 (0) ∧ InR .i64 (0) ∧ InR .u8 (0) := ⟨hr1, by decide, by decide, by decide⟩
    refine KL.run 1 rfl ?_
    refine KL.opS (S.store rfl sz28 rfl rfl rfl rfl bx (by simp)) rfl rfl ?_
    rintro H14 ⟨u14, b14⟩
    have o0 := o0.trans (OldB.upd u14 (by omega))
    have zu14 := u14.1
    have fr := (by exact fr.updN u14 (by omega))
    have oB := oB.upd u14 (by omega)
    have br := ((u14).2 _ (by omega)).trans br
    have rb := rb.updT u14 (by omega)
    have bx := b14
    have bx : H14[(Array.size H3)]? = some (.cells [.string s1, .string s2, .int .u8 kd, .int .u32 ty, .int .u32 0, .int .i64 0, .int .u8 0, .bool false].toArray 61 (0, 0)) := bx
    refine KL.nil (KQ.normBlock (KQ.sr (KL.lda rfl (cells_of bx) rfl ?_)))
    refine KL.opS (S.storeAgg rfl sz61 rfl rfl (rfl) (by intro z hz; simp only [List.mem_cons, List.not_mem_nil, or_false] at hz; rcases hz with rfl | rfl | rfl | rfl | rfl | rfl | rfl | rfl <;> first | rfl) br (by simp)) rfl rfl ?_
    rintro H15 ⟨u15, b15⟩
    have o0 := o0.trans (OldB.upd u15 (by omega))
    have zu15 := u15.1
    have fr := (by exact fr.updN u15 (by omega))
    have oB := oB.upd u15 (by omega)
    have bx := ((u15).2 _ (by omega)).trans bx
    have rb := rb.updT u15 (by omega)
    have br := b15
    rw [over_all (by rfl)] at br
    refine KL.nil (KQ.seq (KC.ret (KQ.ofRetX (KQ.toX ?_))))
    refine KQ.finCell Tryz.results78 rfl U61 rfl sz61 (cells_of br) (rfl) ?_
    exact ⟨_, _, _, hfin, ⟨rfl, hkd, hrr.1, hrr.2.1, hrr.2.2.1, hrr.2.2.2⟩, rb.cast (by simp only [List.drop_drop, Nat.add_assoc, Nat.add_zero]), fr⟩
  intro h0
  refine KC.sr (KL.fin 2 rfl (KQ.seq ?_))
  refine KC.iq rfl ?_ ?_
  · intro h1
    refine KC.region (KL.run 1 rfl ?_)
    refine KL.callX rfl rfl rfl rfl Tryz.call82 rfl rfl rfl (btable_any rb) ?_ ?_
    · rintro vx H16 ⟨ex, hx1, hx2, hx3⟩
      refine KQ.panBlock ?_
      refine KQ.panThen ?_
      exact KQ.pan (⟨_, Bn.m_e (Bn.b_e2 hp0 (Bn.b_e2 hp1 (Bn.b_e2 hp2 (by rw [Bn.ir1 h0 h1]; exact Bn.m_e hx1)))), hx2, fr.thenN hx3⟩)
    rintro _ H17 ⟨lm, k3, v3, hp3, rfl, hr1, hr2, rb2, f14_⟩
    have zf_H17 := f14_.1
    have o0 := o0.trans (f14_.low (Nat.zero_le _) (Nat.zero_le _))
    have fr := fr.thenN f14_
    have oB := oB.then (f14_.low (by omega) (by omega)) (Nat.le_refl _)
    have br := f14_.at_ br (by omega)
    have bx := f14_.at_ bx (by omega)
    have rb := rb2
    have zrd := rb.lt
    have fn14 := f14_
    have hfin : Bn.impP l = .ok (⟨s1, s2, kd, 0, lm, (0, false)⟩, _) := Bn.imp_ok hp0 hp1 hp2 (show Bn.impR kd _ = .ok ((0, lm, (0, false)), _) from by rw [Bn.ir1 h0 h1]; exact Bn.m_ok hp3)
    have hrr : InR .u32 (0) ∧ InR .u32 (lm.1) ∧ InR .i64 (lm.2) ∧ InR .u8 (0) := ⟨by decide, hr1, hr2, by decide⟩
    refine KL.run 1 rfl ?_
    refine KL.opS (S.storeAgg rfl sz57 rfl rfl (rfl) (by intro z hz; simp only [List.mem_cons, List.not_mem_nil, or_false] at hz; rcases hz with rfl | rfl <;> rfl) bx (by simp)) rfl rfl ?_
    rintro H18 ⟨u18, b18⟩
    have o0 := o0.trans (OldB.upd u18 (by omega))
    have zu18 := u18.1
    have fr := (by exact fr.updN u18 (by omega))
    have oB := oB.upd u18 (by omega)
    have br := ((u18).2 _ (by omega)).trans br
    have rb := rb.updT u18 (by omega)
    have bx := b18
    have bx : H18[(Array.size H3)]? = some (.cells [.string s1, .string s2, .int .u8 kd, .int .u32 0, .int .u32 lm.1, .int .i64 lm.2, .int .u8 0, .bool false].toArray 61 (0, 0)) := bx
    refine KL.nil (KQ.normBlock (KQ.sr (KL.lda rfl (cells_of bx) rfl ?_)))
    refine KL.opS (S.storeAgg rfl sz61 rfl rfl (rfl) (by intro z hz; simp only [List.mem_cons, List.not_mem_nil, or_false] at hz; rcases hz with rfl | rfl | rfl | rfl | rfl | rfl | rfl | rfl <;> first | rfl) br (by simp)) rfl rfl ?_
    rintro H19 ⟨u19, b19⟩
    have o0 := o0.trans (OldB.upd u19 (by omega))
    have zu19 := u19.1
    have fr := (by exact fr.updN u19 (by omega))
    have oB := oB.upd u19 (by omega)
    have bx := ((u19).2 _ (by omega)).trans bx
    have rb := rb.updT u19 (by omega)
    have br := b19
    rw [over_all (by rfl)] at br
    refine KL.nil (KQ.seq (KC.ret (KQ.ofRetX (KQ.toX ?_))))
    refine KQ.finCell Tryz.results78 rfl U61 rfl sz61 (cells_of br) (rfl) ?_
    exact ⟨_, _, _, hfin, ⟨rfl, hkd, hrr.1, hrr.2.1, hrr.2.2.1, hrr.2.2.2⟩, rb.cast (by simp only [List.drop_drop, Nat.add_assoc, Nat.add_zero]), fr⟩
  intro h1
  refine KC.sr (KL.fin 2 rfl (KQ.seq ?_))
  refine KC.iq rfl ?_ ?_
  · intro h2
    refine KC.region (KL.run 1 rfl ?_)
    refine KL.callX rfl rfl rfl rfl Tryz.call83 rfl rfl rfl (blimits_any rb) ?_ ?_
    · rintro vx H20 ⟨ex, hx1, hx2, hx3⟩
      refine KQ.panBlock ?_
      refine KQ.panThen ?_
      exact KQ.pan (⟨_, Bn.m_e (Bn.b_e2 hp0 (Bn.b_e2 hp1 (Bn.b_e2 hp2 (by rw [Bn.ir2 h0 h1 h2]; exact Bn.m_e hx1)))), hx2, fr.thenN hx3⟩)
    rintro _ H21 ⟨lm, k3, v3, hp3, rfl, hr1, hr2, rb2, f15_⟩
    have zf_H21 := f15_.1
    have o0 := o0.trans (f15_.low (Nat.zero_le _) (Nat.zero_le _))
    have fr := fr.thenN f15_
    have oB := oB.then (f15_.low (by omega) (by omega)) (Nat.le_refl _)
    have br := f15_.at_ br (by omega)
    have bx := f15_.at_ bx (by omega)
    have rb := rb2
    have zrd := rb.lt
    have fn15 := f15_
    have hfin : Bn.impP l = .ok (⟨s1, s2, kd, 0, lm, (0, false)⟩, _) := Bn.imp_ok hp0 hp1 hp2 (show Bn.impR kd _ = .ok ((0, lm, (0, false)), _) from by rw [Bn.ir2 h0 h1 h2]; exact Bn.m_ok hp3)
    have hrr : InR .u32 (0) ∧ InR .u32 (lm.1) ∧ InR .i64 (lm.2) ∧ InR .u8 (0) := ⟨by decide, hr1, hr2, by decide⟩
    refine KL.run 1 rfl ?_
    refine KL.opS (S.storeAgg rfl sz57 rfl rfl (rfl) (by intro z hz; simp only [List.mem_cons, List.not_mem_nil, or_false] at hz; rcases hz with rfl | rfl <;> rfl) bx (by simp)) rfl rfl ?_
    rintro H22 ⟨u22, b22⟩
    have o0 := o0.trans (OldB.upd u22 (by omega))
    have zu22 := u22.1
    have fr := (by exact fr.updN u22 (by omega))
    have oB := oB.upd u22 (by omega)
    have br := ((u22).2 _ (by omega)).trans br
    have rb := rb.updT u22 (by omega)
    have bx := b22
    have bx : H22[(Array.size H3)]? = some (.cells [.string s1, .string s2, .int .u8 kd, .int .u32 0, .int .u32 lm.1, .int .i64 lm.2, .int .u8 0, .bool false].toArray 61 (0, 0)) := bx
    refine KL.nil (KQ.normBlock (KQ.sr (KL.lda rfl (cells_of bx) rfl ?_)))
    refine KL.opS (S.storeAgg rfl sz61 rfl rfl (rfl) (by intro z hz; simp only [List.mem_cons, List.not_mem_nil, or_false] at hz; rcases hz with rfl | rfl | rfl | rfl | rfl | rfl | rfl | rfl <;> first | rfl) br (by simp)) rfl rfl ?_
    rintro H23 ⟨u23, b23⟩
    have o0 := o0.trans (OldB.upd u23 (by omega))
    have zu23 := u23.1
    have fr := (by exact fr.updN u23 (by omega))
    have oB := oB.upd u23 (by omega)
    have bx := ((u23).2 _ (by omega)).trans bx
    have rb := rb.updT u23 (by omega)
    have br := b23
    rw [over_all (by rfl)] at br
    refine KL.nil (KQ.seq (KC.ret (KQ.ofRetX (KQ.toX ?_))))
    refine KQ.finCell Tryz.results78 rfl U61 rfl sz61 (cells_of br) (rfl) ?_
    exact ⟨_, _, _, hfin, ⟨rfl, hkd, hrr.1, hrr.2.1, hrr.2.2.1, hrr.2.2.2⟩, rb.cast (by simp only [List.drop_drop, Nat.add_assoc, Nat.add_zero]), fr⟩
  intro h2
  refine KC.sr (KL.fin 2 rfl (KQ.seq ?_))
  refine KC.iq rfl ?_ ?_
  · intro h3
    refine KC.region (KL.run 1 rfl ?_)
    refine KL.callX rfl rfl rfl rfl Tryz.call107 rfl rfl rfl (bglob_any rb) ?_ ?_
    · rintro vx H24 ⟨ex, hx1, hx2, hx3⟩
      refine KQ.panBlock ?_
      refine KQ.panThen ?_
      exact KQ.pan (⟨_, Bn.m_e (Bn.b_e2 hp0 (Bn.b_e2 hp1 (Bn.b_e2 hp2 (by rw [Bn.ir3 h0 h1 h2 h3]; exact Bn.m_e hx1)))), hx2, fr.thenN hx3⟩)
    rintro _ H25 ⟨gl, k3, v3, hp3, rfl, hr1, rb2, f16_⟩
    have zf_H25 := f16_.1
    have o0 := o0.trans (f16_.low (Nat.zero_le _) (Nat.zero_le _))
    have fr := fr.thenN f16_
    have oB := oB.then (f16_.low (by omega) (by omega)) (Nat.le_refl _)
    have br := f16_.at_ br (by omega)
    have bx := f16_.at_ bx (by omega)
    have rb := rb2
    have zrd := rb.lt
    have fn16 := f16_
    have hfin : Bn.impP l = .ok (⟨s1, s2, kd, 0, (0, 0), gl⟩, _) := Bn.imp_ok hp0 hp1 hp2 (show Bn.impR kd _ = .ok ((0, (0, 0), gl), _) from by rw [Bn.ir3 h0 h1 h2 h3]; exact Bn.m_ok hp3)
    have hrr : InR .u32 (0) ∧ InR .u32 (0) ∧ InR .i64 (0) ∧ InR .u8 (gl.1) := ⟨by decide, by decide, by decide, hr1⟩
    refine KL.run 1 rfl ?_
    refine KL.opS (S.storeAgg rfl sz59 rfl rfl (rfl) (by intro z hz; simp only [List.mem_cons, List.not_mem_nil, or_false] at hz; rcases hz with rfl | rfl <;> rfl) bx (by simp)) rfl rfl ?_
    rintro H26 ⟨u26, b26⟩
    have o0 := o0.trans (OldB.upd u26 (by omega))
    have zu26 := u26.1
    have fr := (by exact fr.updN u26 (by omega))
    have oB := oB.upd u26 (by omega)
    have br := ((u26).2 _ (by omega)).trans br
    have rb := rb.updT u26 (by omega)
    have bx := b26
    have bx : H26[(Array.size H3)]? = some (.cells [.string s1, .string s2, .int .u8 kd, .int .u32 0, .int .u32 0, .int .i64 0, .int .u8 gl.1, .bool gl.2].toArray 61 (0, 0)) := bx
    refine KL.nil (KQ.normBlock (KQ.sr (KL.lda rfl (cells_of bx) rfl ?_)))
    refine KL.opS (S.storeAgg rfl sz61 rfl rfl (rfl) (by intro z hz; simp only [List.mem_cons, List.not_mem_nil, or_false] at hz; rcases hz with rfl | rfl | rfl | rfl | rfl | rfl | rfl | rfl <;> first | rfl) br (by simp)) rfl rfl ?_
    rintro H27 ⟨u27, b27⟩
    have o0 := o0.trans (OldB.upd u27 (by omega))
    have zu27 := u27.1
    have fr := (by exact fr.updN u27 (by omega))
    have oB := oB.upd u27 (by omega)
    have bx := ((u27).2 _ (by omega)).trans bx
    have rb := rb.updT u27 (by omega)
    have br := b27
    rw [over_all (by rfl)] at br
    refine KL.nil (KQ.seq (KC.ret (KQ.ofRetX (KQ.toX ?_))))
    refine KQ.finCell Tryz.results78 rfl U61 rfl sz61 (cells_of br) (rfl) ?_
    exact ⟨_, _, _, hfin, ⟨rfl, hkd, hrr.1, hrr.2.1, hrr.2.2.1, hrr.2.2.2⟩, rb.cast (by simp only [List.drop_drop, Nat.add_assoc, Nat.add_zero]), fr⟩
  intro h3
  refine KC.region ?_
  refine KL.callX rfl rfl rfl rfl K46 rfl rfl rfl (must_any false) ?_ ?_
  · rintro vx _ ⟨rfl, _, rfl⟩
    refine KQ.panBlock ?_
    refine KQ.panThen ?_
    exact KQ.pan (⟨_, Bn.m_e (Bn.b_e2 hp0 (Bn.b_e2 hp1 (Bn.b_e2 hp2 (by exact Bn.irb h0 h1 h2 h3)))), rfl, fr⟩)
  rintro _ _ ⟨_, hb, _⟩
  exact absurd hb (by decide)
theorem listI_any {H : Heap} {g : Nat} {v : Value} {l : List Int} (rb : RB H g v l) {Hb : Heap} (hT : TabU Hb) (oB : Old Hb H) (hgB : Hb.size ≤ g) : CtX Tryz.prog 77 [.pointer (some ⟨g, 0, none⟩), .func (.func 78) #[] #[]] H (fun u H' => ∃ x k v', Bn.lstP Bn.impP l = .ok (x, k) ∧ RowS 8 EImp H.size H' u x ∧ RB H' g v' (l.drop k) ∧ Fr g (.slice none 0 0) H H') (fun q H' => ∃ e, Bn.lstP Bn.impP l = .error e ∧ q = failB e ∧ Fr g (.slice none 0 0) H H') := by
  refine CtX.mk Tryz.func77 rfl Tryz.ntmps77 rfl ?_
  intro W0 hW0
  have o0 : OldB 0 H H := OldB.refl _ H
  have hg := rb.lt
  have fr : Fr g (.slice none 0 0) H H := Fr.refl _ _ _
  have hle := rb.le
  refine KC.sr (KL.fin 1 rfl (KQ.sr (KL.fin 1 rfl (KQ.seq (KC.seq (KC.sr (KL.run 1 rfl ?_)))))))
  refine KL.callX rfl rfl rfl rfl K80 rfl rfl rfl (bu32_any rb) ?_ ?_
  · rintro vx H1 ⟨ex, hx1, hx2, hx3⟩
    refine KQ.panThen ?_
    refine KQ.panThen ?_
    exact KQ.pan (⟨_, Bn.m_e (Bn.b_e1 hx1), hx2, fr.thenN hx3⟩)
  rintro _ H2 ⟨n0, k0, v0, hp0, rfl, hn0, rb2, f17_⟩
  have zf_H2 := f17_.1
  have o0 := o0.trans (f17_.low (Nat.zero_le _) (Nat.zero_le _))
  have fr := fr.thenN f17_
  have oB := oB.then (f17_.low (by omega) (by omega)) (Nat.le_refl _)
  have rb := rb2
  have zrd := rb.lt
  have fn17 := f17_
  dsimp only [InR] at hn0
  refine KL.fin 1 rfl (KQ.seq (KC.block ?_))
  refine KC.loopD (κ := List Imp × Nat × Int × Value × Value) [9, 10, 13, 14, 15, 16, 17, 18, 5, 11, 12, 6] (fun k => [(5, k.2.2.2.1), (6, .int .u32 k.2.2.1)]) (fun k Hl => RB Hl g k.2.2.2.2 (l.drop (k0 + k.2.1)) ∧ LS 8 EImp 61 (Array.size H) Hl k.2.2.2.1 k.1 ∧ Isp.Pre Bn.impP n0.toNat (l.drop k0) k.2.2.1.toNat k.1 k.2.1 ∧ Fr g (.slice none 0 0) H Hl ∧ 0 ≤ k.2.2.1 ∧ k.1.length + k.2.2.1.toNat = n0.toNat ∧ Old Hb Hl) (fun k => k.2.2.1.toNat) ([], 0, n0, .slice none 0 0, v0) ?_ ?_ ?_
  · exact Sub.all rfl
  · exact ⟨rb.cast (by simp only [List.drop_drop, Nat.add_assoc, Nat.add_zero]), LS.nil _ _ _ _ _, Isp.Pre.start _ _ _, fr, hn0.1, by simp, oB⟩
  rintro ⟨acc, k, m, vo, vr⟩ H3 ⟨rb, ls, hpre, fr, hm0, hlen, oB⟩
  dsimp only at rb ls hpre hm0 hlen
  have zrd := rb.lt
  have zfr := fr.1
  have o0 : OldB 0 H H3 := fr.low (Nat.zero_le _) (Nat.zero_le _)
  refine KC.seq (KC.sr (KL.fin 2 rfl (KQ.seq ?_)))
  refine KC.iq rfl ?_ ?_
  · intro hc10
    try dsimp only at hc10
    refine KC.skip (KQ.seq (KC.seq (KC.block (KC.region (KL.run 3 rfl ?_)))))
    have hvo := ls.w.lt.imp id (fun h => h.2)
    have hm : m.toNat = (m - 1).toNat + 1 := by omega
    rw [hm] at hpre
    refine KL.callX rfl rfl rfl rfl Tryz.call78 rfl rfl rfl (bimported_any rb hT oB hgB) ?_ ?_
    · rintro vx H4 ⟨ex, hx1, hx2, hx3⟩
      refine KQ.panBlock ?_
      refine KQ.panThen ?_
      refine KQ.panThen ?_
      refine KQ.panBlock ?_
      refine KQ.panThen ?_
      exact KQ.pan (⟨_, Bn.m_e (Bn.b_e2 hp0 (hpre.fail (by rw [List.drop_drop]; exact hx1))), hx2, fr.thenN hx3⟩)
    rintro _ H5 ⟨x, kx, vx, hpx, ⟨rfl, hr⟩, rb2, f18_⟩
    have zf_H5 := f18_.1
    have o0 := o0.trans (f18_.low (Nat.zero_le _) (Nat.zero_le _))
    have ls := ls.frT f18_ (by omega)
    have fr := fr.thenN f18_
    have oB := oB.then (f18_.low (by omega) (by omega)) (Nat.le_refl _)
    have rb := rb2
    have zrd := rb.lt
    have fn18 := f18_
    refine KL.m (M.lit rfl U23 zs61 (by decide) rfl rfl rfl) rfl ?_
    rintro _ H6 ⟨rfl, n6⟩
    have z6 := n6.2.1
    have o0 := o0.trans ((n6.1).b (by omega))
    have ls := ls.old n6.1
    have fr := fr.old n6.1
    have oB := oB.trans n6.1
    have rb := rb.old n6.1
    have b6 := n6.2.2
    have wo := ls.w
    have se : Sl 8 (FK EImp H6 (vblock vo :: List.range (Array.size H))) H6 _ [x] := Sl.lit1N n6 rfl (by decide) (fun Hx kx_ => ⟨rfl, hr⟩)
    have lt7 := wo.lt
    refine KL.m (M.appendE rfl U23 inf61 rfl (by decide) rfl rfl wo (se) (by omega) (by simp only [List.length_cons, List.length_nil]; omega) (by unfold maxLen; simp only [List.length_cons, List.length_nil]; omega)) rfl ?_
    rintro vn H7 ⟨w7, g7, nx7⟩
    try dsimp only at g7 nx7
    have ob7 := g7.oldBE wo (by omega)
    have o0 := o0.trans (ob7.mono (by omega))
    have z7 := ob7.1
    have fr := (by exact fr.grownN g7 (lt7.imp id (fun h => by omega)))
    have oB := oB.then ob7 (by omega)
    have rb := rb.grownT g7 (lt7.imp id (fun h => by omega))
    have wo := w7
    have ls : LS 8 EImp 61 (Array.size H) H7 vn (acc ++ [x]) := ⟨wo⟩
    refine KL.fin 1 rfl (KQ.normBlock (KQ.r (KL.run 1 rfl ?_)))
    refine KL.q (R.sub rfl rfl rfl (by dsimp only [InR]; omega)) rfl ?_
    refine KL.fin 1 rfl ?_
    refine KQ.again ((acc ++ [x], k + kx, m - 1, vn, vx)) ?_ ?_ ?_
    · exact Sub.all rfl
    · show (m - 1).toNat < m.toNat; omega
    exact ⟨rb.cast (by simp only [List.drop_drop, Nat.add_assoc, Nat.add_zero]), ls, hpre.step (by rw [List.drop_drop]; exact hpx), fr, by show 0 ≤ m - 1; omega, by show (acc ++ [x]).length + (m - 1).toNat = _; rw [List.length_append, List.length_singleton]; omega, oB⟩
  intro hc10
  try dsimp only at hc10
  refine KC.exit (KQ.exitThen (KQ.exitThen (KQ.hit (KQ.sr (KL.fin 2 rfl (KQ.seq (KC.ret (KQ.ofRetX (KQ.toX (KQ.fin1 Tryz.results77 rfl ?_))))))))))
  have h0 : m.toNat = 0 := by omega
  rw [h0] at hpre
  exact ⟨_, _, _, Bn.m_ok (Bn.b_ok hp0 hpre.done), ls.row (by decide), rb, fr⟩
theorem bexport_any {H : Heap} {g : Nat} {v : Value} {l : List Int} (rb : RB H g v l) {Hb : Heap} (hT : TabU Hb) (oB : Old Hb H) (hgB : Hb.size ≤ g) : CtX Tryz.prog 87 [.pointer (some ⟨g, 0, none⟩)] H (fun u H' => ∃ x k v', Bn.expP l = .ok (x, k) ∧ (u = .agg [.string x.nam, .int .u8 x.kind, .int .u32 x.idx].toArray ∧ InR .u8 x.kind ∧ InR .u32 x.idx) ∧ RB H' g v' (l.drop k) ∧ Fr g (.slice none 0 0) H H') (fun q H' => ∃ e, Bn.expP l = .error e ∧ q = failB e ∧ Fr g (.slice none 0 0) H H') := by
  refine CtX.mk Tryz.func87 rfl Tryz.ntmps87 rfl ?_
  intro W0 hW0
  have o0 : OldB 0 H H := OldB.refl _ H
  have hg := rb.lt
  have fr : Fr g (.slice none 0 0) H H := Fr.refl _ _ _
  have hle := rb.le
  refine KC.sr ?_
  refine KL.m (M.alloc rfl zr66 rfl) rfl ?_
  rintro _ H1 ⟨rfl, n1⟩
  have z1 := n1.2.1
  have o0 := o0.trans ((n1.1).b (by omega))
  have rb := rb.old n1.1
  have fr := fr.old n1.1
  have oB := oB.trans n1.1
  have b1 := n1.2.2
  have br := b1
  refine KL.nil (KQ.sr (KL.run 1 rfl ?_))
  refine KL.callX rfl rfl rfl rfl Tryz.call106 rfl rfl rfl (bname_any rb hT oB hgB) ?_ ?_
  · rintro vx H2 ⟨ex, hx1, hx2, hx3⟩
    refine KQ.panThen ?_
    exact KQ.pan (⟨_, Bn.m_e (Bn.b_e1 hx1), hx2, fr.thenN hx3⟩)
  rintro _ H3 ⟨s1, k0, v0, hp0, rfl, rb2, f19_⟩
  have zf_H3 := f19_.1
  have o0 := o0.trans (f19_.low (Nat.zero_le _) (Nat.zero_le _))
  have fr := fr.thenN f19_
  have oB := oB.then (f19_.low (by omega) (by omega)) (Nat.le_refl _)
  have br := f19_.at_ br (by omega)
  have rb := rb2
  have zrd := rb.lt
  have fn19 := f19_
  refine KL.b0 bt66 rfl rfl ?_
  refine KL.m (M.alloc rfl zr66 rfl) rfl ?_
  rintro _ H4 ⟨rfl, n4⟩
  have z4 := n4.2.1
  have o0 := o0.trans ((n4.1).b (by omega))
  have fr := fr.old n4.1
  have oB := oB.trans n4.1
  have br := (n4.1).blk br
  have rb := rb.old n4.1
  have b4 := n4.2.2
  have bx := b4
  refine KL.opS (S.storeAgg rfl sz66 rfl rfl (rfl) (by intro z hz; simp only [List.mem_cons, List.not_mem_nil, or_false] at hz; rcases hz with rfl | rfl | rfl <;> first | rfl) bx (by simp)) rfl rfl ?_
  rintro H5 ⟨u5, b5⟩
  have o0 := o0.trans (OldB.upd u5 (by omega))
  have zu5 := u5.1
  have fr := (by exact fr.updN u5 (by omega))
  have oB := oB.upd u5 (by omega)
  have br := ((u5).2 _ (by omega)).trans br
  have rb := rb.updT u5 (by omega)
  have bx := b5
  rw [over_all (by rfl)] at bx
  refine KL.nil (KQ.sr (KL.run 1 rfl ?_))
  refine KL.callX rfl rfl rfl rfl Tryz.call103 rfl rfl rfl (bbyte_any rb) ?_ ?_
  · rintro vx H6 ⟨ex, hx1, hx2, hx3⟩
    refine KQ.panThen ?_
    exact KQ.pan (⟨_, Bn.m_e (Bn.b_e2 hp0 (Bn.b_e1 (Bn.one_er hx1))), hx2, fr.thenN hx3⟩)
  rintro _ H7 ⟨kd, k1, v1, hp1, rfl, hkd, rb2, f20_⟩
  have zf_H7 := f20_.1
  have o0 := o0.trans (f20_.low (Nat.zero_le _) (Nat.zero_le _))
  have fr := fr.thenN f20_
  have oB := oB.then (f20_.low (by omega) (by omega)) (Nat.le_refl _)
  have br := f20_.at_ br (by omega)
  have bx := f20_.at_ bx (by omega)
  have rb := rb2
  have zrd := rb.lt
  have fn20 := f20_
  refine KL.run 1 rfl ?_
  refine KL.opS (S.store rfl sz5 rfl rfl rfl rfl bx (by simp)) rfl rfl ?_
  rintro H8 ⟨u8, b8⟩
  have o0 := o0.trans (OldB.upd u8 (by omega))
  have zu8 := u8.1
  have fr := (by exact fr.updN u8 (by omega))
  have oB := oB.upd u8 (by omega)
  have br := ((u8).2 _ (by omega)).trans br
  have rb := rb.updT u8 (by omega)
  have bx := b8
  have bx : H8[(Array.size H3)]? = some (.cells [.string s1, .int .u8 kd, .int .u32 0].toArray 66 (0, 0)) := bx
  refine KL.nil (KQ.sr (KL.run 1 rfl (KL.ld rfl (cell_of bx rfl) (KL.run 1 rfl ?_))))
  refine KL.callX rfl rfl rfl rfl K46 rfl rfl rfl (must_any _) ?_ ?_
  · rintro vx _ ⟨rfl, hb, rfl⟩
    simp only [sd] at hb
    refine KQ.panThen ?_
    exact KQ.pan (⟨_, Bn.m_e (Bn.b_e2 hp0 (Bn.b_e1 (Bn.one_of_e hp1 (Bn.knd_b (by omega))))), rfl, fr⟩)
  rintro _ _ ⟨rfl, hb, rfl⟩
  simp only [sd] at hb
  refine KL.nil (KQ.sr (KL.run 1 rfl ?_))
  refine KL.callX rfl rfl rfl rfl K80 rfl rfl rfl (bu32_any rb) ?_ ?_
  · rintro vx H10 ⟨ex, hx1, hx2, hx3⟩
    refine KQ.panThen ?_
    exact KQ.pan (⟨_, Bn.m_e (Bn.b_e2 hp0 (Bn.b_e2 (Bn.one_of hp1 (Bn.knd_ok hb)) hx1)), hx2, fr.thenN hx3⟩)
  rintro _ H11 ⟨ix, k2, v2, hp2, rfl, hix, rb2, f21_⟩
  have zf_H11 := f21_.1
  have o0 := o0.trans (f21_.low (Nat.zero_le _) (Nat.zero_le _))
  have fr := fr.thenN f21_
  have oB := oB.then (f21_.low (by omega) (by omega)) (Nat.le_refl _)
  have br := f21_.at_ br (by omega)
  have bx := f21_.at_ bx (by omega)
  have rb := rb2
  have zrd := rb.lt
  have fn21 := f21_
  refine KL.run 1 rfl ?_
  refine KL.opS (S.store rfl sz28 rfl rfl rfl rfl bx (by simp)) rfl rfl ?_
  rintro H12 ⟨u12, b12⟩
  have o0 := o0.trans (OldB.upd u12 (by omega))
  have zu12 := u12.1
  have fr := (by exact fr.updN u12 (by omega))
  have oB := oB.upd u12 (by omega)
  have br := ((u12).2 _ (by omega)).trans br
  have rb := rb.updT u12 (by omega)
  have bx := b12
  have bx : H12[(Array.size H3)]? = some (.cells [.string s1, .int .u8 kd, .int .u32 ix].toArray 66 (0, 0)) := bx
  refine KL.nil (KQ.sr (KL.lda rfl (cells_of bx) rfl ?_))
  refine KL.opS (S.storeAgg rfl sz66 rfl rfl (rfl) (by intro z hz; simp only [List.mem_cons, List.not_mem_nil, or_false] at hz; rcases hz with rfl | rfl | rfl <;> first | rfl) br (by simp)) rfl rfl ?_
  rintro H13 ⟨u13, b13⟩
  have o0 := o0.trans (OldB.upd u13 (by omega))
  have zu13 := u13.1
  have fr := (by exact fr.updN u13 (by omega))
  have oB := oB.upd u13 (by omega)
  have bx := ((u13).2 _ (by omega)).trans bx
  have rb := rb.updT u13 (by omega)
  have br := b13
  rw [over_all (by rfl)] at br
  refine KL.nil (KQ.seq (KC.ret (KQ.ofRetX (KQ.toX ?_))))
  refine KQ.finCell Tryz.results87 rfl U66 rfl sz66 (cells_of br) (rfl) ?_
  exact ⟨_, _, _, Bn.m_ok (Bn.b_ok hp0 (Bn.b_ok (Bn.one_of hp1 (Bn.knd_ok hb)) hp2)), ⟨rfl, hkd, hix⟩, rb.cast (by simp only [List.drop_drop, Nat.add_assoc, Nat.add_zero]), fr⟩
theorem listE_any {H : Heap} {g : Nat} {v : Value} {l : List Int} (rb : RB H g v l) {Hb : Heap} (hT : TabU Hb) (oB : Old Hb H) (hgB : Hb.size ≤ g) : CtX Tryz.prog 86 [.pointer (some ⟨g, 0, none⟩), .func (.func 87) #[] #[]] H (fun u H' => ∃ x k v', Bn.lstP Bn.expP l = .ok (x, k) ∧ RowS 3 EExp H.size H' u x ∧ RB H' g v' (l.drop k) ∧ Fr g (.slice none 0 0) H H') (fun q H' => ∃ e, Bn.lstP Bn.expP l = .error e ∧ q = failB e ∧ Fr g (.slice none 0 0) H H') := by
  refine CtX.mk Tryz.func86 rfl Tryz.ntmps86 rfl ?_
  intro W0 hW0
  have o0 : OldB 0 H H := OldB.refl _ H
  have hg := rb.lt
  have fr : Fr g (.slice none 0 0) H H := Fr.refl _ _ _
  have hle := rb.le
  refine KC.sr (KL.fin 1 rfl (KQ.sr (KL.fin 1 rfl (KQ.seq (KC.seq (KC.sr (KL.run 1 rfl ?_)))))))
  refine KL.callX rfl rfl rfl rfl K80 rfl rfl rfl (bu32_any rb) ?_ ?_
  · rintro vx H1 ⟨ex, hx1, hx2, hx3⟩
    refine KQ.panThen ?_
    refine KQ.panThen ?_
    exact KQ.pan (⟨_, Bn.m_e (Bn.b_e1 hx1), hx2, fr.thenN hx3⟩)
  rintro _ H2 ⟨n0, k0, v0, hp0, rfl, hn0, rb2, f22_⟩
  have zf_H2 := f22_.1
  have o0 := o0.trans (f22_.low (Nat.zero_le _) (Nat.zero_le _))
  have fr := fr.thenN f22_
  have oB := oB.then (f22_.low (by omega) (by omega)) (Nat.le_refl _)
  have rb := rb2
  have zrd := rb.lt
  have fn22 := f22_
  dsimp only [InR] at hn0
  refine KL.fin 1 rfl (KQ.seq (KC.block ?_))
  refine KC.loopD (κ := List Exp × Nat × Int × Value × Value) [9, 10, 13, 14, 15, 16, 17, 18, 5, 11, 12, 6] (fun k => [(5, k.2.2.2.1), (6, .int .u32 k.2.2.1)]) (fun k Hl => RB Hl g k.2.2.2.2 (l.drop (k0 + k.2.1)) ∧ LS 3 EExp 66 (Array.size H) Hl k.2.2.2.1 k.1 ∧ Isp.Pre Bn.expP n0.toNat (l.drop k0) k.2.2.1.toNat k.1 k.2.1 ∧ Fr g (.slice none 0 0) H Hl ∧ 0 ≤ k.2.2.1 ∧ k.1.length + k.2.2.1.toNat = n0.toNat ∧ Old Hb Hl) (fun k => k.2.2.1.toNat) ([], 0, n0, .slice none 0 0, v0) ?_ ?_ ?_
  · exact Sub.all rfl
  · exact ⟨rb.cast (by simp only [List.drop_drop, Nat.add_assoc, Nat.add_zero]), LS.nil _ _ _ _ _, Isp.Pre.start _ _ _, fr, hn0.1, by simp, oB⟩
  rintro ⟨acc, k, m, vo, vr⟩ H3 ⟨rb, ls, hpre, fr, hm0, hlen, oB⟩
  dsimp only at rb ls hpre hm0 hlen
  have zrd := rb.lt
  have zfr := fr.1
  have o0 : OldB 0 H H3 := fr.low (Nat.zero_le _) (Nat.zero_le _)
  refine KC.seq (KC.sr (KL.fin 2 rfl (KQ.seq ?_)))
  refine KC.iq rfl ?_ ?_
  · intro hc10
    try dsimp only at hc10
    refine KC.skip (KQ.seq (KC.seq (KC.block (KC.region (KL.run 3 rfl ?_)))))
    have hvo := ls.w.lt.imp id (fun h => h.2)
    have hm : m.toNat = (m - 1).toNat + 1 := by omega
    rw [hm] at hpre
    refine KL.callX rfl rfl rfl rfl Tryz.call87 rfl rfl rfl (bexport_any rb hT oB hgB) ?_ ?_
    · rintro vx H4 ⟨ex, hx1, hx2, hx3⟩
      refine KQ.panBlock ?_
      refine KQ.panThen ?_
      refine KQ.panThen ?_
      refine KQ.panBlock ?_
      refine KQ.panThen ?_
      exact KQ.pan (⟨_, Bn.m_e (Bn.b_e2 hp0 (hpre.fail (by rw [List.drop_drop]; exact hx1))), hx2, fr.thenN hx3⟩)
    rintro _ H5 ⟨x, kx, vx, hpx, ⟨rfl, hr⟩, rb2, f23_⟩
    have zf_H5 := f23_.1
    have o0 := o0.trans (f23_.low (Nat.zero_le _) (Nat.zero_le _))
    have ls := ls.frT f23_ (by omega)
    have fr := fr.thenN f23_
    have oB := oB.then (f23_.low (by omega) (by omega)) (Nat.le_refl _)
    have rb := rb2
    have zrd := rb.lt
    have fn23 := f23_
    refine KL.m (M.lit rfl U27 zs66 (by decide) rfl rfl rfl) rfl ?_
    rintro _ H6 ⟨rfl, n6⟩
    have z6 := n6.2.1
    have o0 := o0.trans ((n6.1).b (by omega))
    have ls := ls.old n6.1
    have fr := fr.old n6.1
    have oB := oB.trans n6.1
    have rb := rb.old n6.1
    have b6 := n6.2.2
    have wo := ls.w
    have se : Sl 3 (FK EExp H6 (vblock vo :: List.range (Array.size H))) H6 _ [x] := Sl.lit1N n6 rfl (by decide) (fun Hx kx_ => ⟨rfl, hr⟩)
    have lt7 := wo.lt
    refine KL.m (M.appendE rfl U27 inf66 rfl (by decide) rfl rfl wo (se) (by omega) (by simp only [List.length_cons, List.length_nil]; omega) (by unfold maxLen; simp only [List.length_cons, List.length_nil]; omega)) rfl ?_
    rintro vn H7 ⟨w7, g7, nx7⟩
    try dsimp only at g7 nx7
    have ob7 := g7.oldBE wo (by omega)
    have o0 := o0.trans (ob7.mono (by omega))
    have z7 := ob7.1
    have fr := (by exact fr.grownN g7 (lt7.imp id (fun h => by omega)))
    have oB := oB.then ob7 (by omega)
    have rb := rb.grownT g7 (lt7.imp id (fun h => by omega))
    have wo := w7
    have ls : LS 3 EExp 66 (Array.size H) H7 vn (acc ++ [x]) := ⟨wo⟩
    refine KL.fin 1 rfl (KQ.normBlock (KQ.r (KL.run 1 rfl ?_)))
    refine KL.q (R.sub rfl rfl rfl (by dsimp only [InR]; omega)) rfl ?_
    refine KL.fin 1 rfl ?_
    refine KQ.again ((acc ++ [x], k + kx, m - 1, vn, vx)) ?_ ?_ ?_
    · exact Sub.all rfl
    · show (m - 1).toNat < m.toNat; omega
    exact ⟨rb.cast (by simp only [List.drop_drop, Nat.add_assoc, Nat.add_zero]), ls, hpre.step (by rw [List.drop_drop]; exact hpx), fr, by show 0 ≤ m - 1; omega, by show (acc ++ [x]).length + (m - 1).toNat = _; rw [List.length_append, List.length_singleton]; omega, oB⟩
  intro hc10
  try dsimp only at hc10
  refine KC.exit (KQ.exitThen (KQ.exitThen (KQ.hit (KQ.sr (KL.fin 2 rfl (KQ.seq (KC.ret (KQ.ofRetX (KQ.toX (KQ.fin1 Tryz.results86 rfl ?_))))))))))
  have h0 : m.toNat = 0 := by omega
  rw [h0] at hpre
  exact ⟨_, _, _, Bn.m_ok (Bn.b_ok hp0 hpre.done), ls.row (by decide), rb, fr⟩
instance oneGlo : One EGlo := ⟨fun h u hu => by
  obtain ⟨v, rfl, h1, _⟩ := h
  simp only [List.mem_cons, List.not_mem_nil, or_false] at hu
  rcases hu with rfl | rfl | rfl <;> first | rfl | exact h1.one⟩
instance oneElm : One EElm := ⟨fun h u hu => by
  obtain ⟨v, w, rfl, h1, h2, _⟩ := h
  simp only [List.mem_cons, List.not_mem_nil, or_false] at hu
  rcases hu with rfl | rfl | rfl
  · rfl
  · exact h1.one
  exact h2.one⟩
instance oneDat : One EDat := ⟨fun h u hu => by
  obtain ⟨v, w, rfl, h1, h2, _⟩ := h
  simp only [List.mem_cons, List.not_mem_nil, or_false] at hu
  rcases hu with rfl | rfl | rfl
  · rfl
  · exact h1.one
  exact h2.one⟩
instance oneCod : One ECod := ⟨fun h u hu => by
  obtain ⟨v, w, rfl, h1, h2⟩ := h
  simp only [List.mem_cons, List.not_mem_nil, or_false] at hu
  rcases hu with rfl | rfl
  · exact h1.one
  exact h2.one⟩
theorem fill_glo {u a b z0 z1 z2 : Value} (h : u.cells = #[u]) : Instr.fill ((#[(0, 2), (2, 1)] : Array (Nat × Nat))[·]?) #[z0, z1, z2] [(0, .agg #[a, b]), (1, u)] = some #[a, b, u] := by
  have h2 : (Value.agg #[a, b]).cells = #[a, b] := rfl
  simp [Instr.fill, h, h2]
namespace Bn
section
variable {r b : List Int} {k m : Nat} {e : Int} {ls : List (Int × Int)} {xs : List Ins} {c : Cod} {α : Type} {p : Isp.Prs α} {x : α}
theorem byt_le (h : bytP r = .ok (b, k)) : b.length ≤ r.length ∧ k ≤ r.length := by
  unfold bytP at h
  split at h
  · cases h
  next n j hn =>
  have := u32_le hn
  split at h
  · injection h with h; injection h with h1 h2; subst h1; subst h2
    rw [List.length_take, List.length_drop]; omega
  cases h
theorem whole_e (h : p b = .error e) : whole p b = .error e := by unfold whole; rw [h]
theorem whole_l (h : p b = .ok (x, k)) (hk : ¬ k = b.length) : whole p b = .error 60 := by unfold whole; rw [h]; simp only; rw [if_neg hk]
theorem whole_ok (h : p b = .ok (x, k)) (hk : k = b.length) : whole p b = .ok x := by unfold whole; rw [h]; simp only; rw [if_pos hk]
theorem cod_e0 (h : bytP r = .error e) : codP r = .error e := by unfold codP; rw [h]
theorem cod_e (h : bytP r = .ok (b, k)) (h2 : whole codQ b = .error e) : codP r = .error e := by unfold codP; rw [h]; simp only [h2]
theorem cod_ok (h : bytP r = .ok (b, k)) (h2 : whole codQ b = .ok c) : codP r = .ok (c, k) := by unfold codP; rw [h]; simp only [h2]
theorem cq_e (h : lstP locP b = .error e) : codQ b = .error e := by unfold codQ; rw [h]
theorem cq_s (h : lstP locP b = .ok (ls, k)) (hs : ¬ En.locS ls < 4294967296) : codQ b = .error 60 := by unfold codQ; rw [h]; simp only; rw [if_neg hs]
theorem cq_e2 (h : lstP locP b = .ok (ls, k)) (hs : En.locS ls < 4294967296) (h2 : xprP (b.drop k) = .error e) : codQ b = .error e := by unfold codQ; rw [h]; simp only; rw [if_pos hs, h2]
theorem cq_ok (h : lstP locP b = .ok (ls, k)) (hs : En.locS ls < 4294967296) (h2 : xprP (b.drop k) = .ok (xs, m)) : codQ b = .ok ((ls, xs), k + m) := by unfold codQ; rw [h]; simp only; rw [if_pos hs, h2]
theorem lst_len {x : List α} (h : lstP p r = .ok (x, k)) : (x.length : Int) ≤ 4294967295 := by
  unfold lstP Isp.mapP Isp.bindP at h
  split at h
  · cases h
  next z kz hz =>
  injection h with h; injection h with h1 h2; subst h1
  split at hz
  · cases hz
  next n j hn =>
  have hu := u32_le hn
  split at hz
  · cases hz
  next y m2 hy =>
  injection hz with hz; injection hz with h3 h4; subst h3
  have : y.length = n.toNat := by
    have key : ∀ (n : Nat) (r : List Int) (y : List α) (k : Nat), Isp.manyP p n r = .ok (y, k) → y.length = n := by
      intro n
      induction n with
      | zero => intro r y k h; simp only [Isp.manyP] at h; injection h with h; injection h with h1 h2; subst h1; rfl
      | succ n ih =>
        intro r y k h
        simp only [Isp.manyP, Isp.mapP, Isp.bindP] at h
        split at h
        · cases h
        next z kz hz =>
        injection h with h; injection h with h1 h2; subst h1
        split at hz
        · cases hz
        split at hz
        · cases hz
        next y2 m hy => injection hz with hz; injection hz with h3 h4; subst h3; simp only [List.length_cons]; rw [ih _ _ _ hy]
    exact key _ _ _ _ hy
  show (y.length : Int) ≤ _
  omega
end
end Bn
theorem bglobal_any {H : Heap} {g : Nat} {v : Value} {l : List Int} (rb : RB H g v l) : CtX Tryz.prog 85 [.pointer (some ⟨g, 0, none⟩)] H (fun u H' => ∃ x k v', Bn.gloP l = .ok (x, k) ∧ (∃ a, u = .agg [.int .u8 x.1.1, .bool x.1.2, a].toArray ∧ InR .u8 x.1.1 ∧ RowS 5 EIns H.size H' a x.2) ∧ RB H' g v' (l.drop k) ∧ Fr g (.slice none 0 0) H H') (fun q H' => ∃ e, Bn.gloP l = .error e ∧ q = failB e ∧ Fr g (.slice none 0 0) H H') := by
  refine CtX.mk Tryz.func85 rfl Tryz.ntmps85 rfl ?_
  intro W0 hW0
  have o0 : OldB 0 H H := OldB.refl _ H
  have hg := rb.lt
  have fr : Fr g (.slice none 0 0) H H := Fr.refl _ _ _
  have hle := rb.le
  refine KC.sr ?_
  refine KL.m (M.alloc rfl zr63 rfl) rfl ?_
  rintro _ H1 ⟨rfl, n1⟩
  have z1 := n1.2.1
  have o0 := o0.trans ((n1.1).b (by omega))
  have rb := rb.old n1.1
  have fr := fr.old n1.1
  have b1 := n1.2.2
  have br := b1
  refine KL.nil (KQ.sr (KL.run 1 rfl ?_))
  refine KL.callX rfl rfl rfl rfl Tryz.call107 rfl rfl rfl (bglob_any rb) ?_ ?_
  · rintro vx H2 ⟨ex, hx1, hx2, hx3⟩
    refine KQ.panThen ?_
    exact KQ.pan (⟨_, Bn.b_e1 hx1, hx2, fr.thenN hx3⟩)
  rintro _ H3 ⟨gl, k0, v0, hp0, rfl, hg1, rb2, f1_⟩
  have zf_H3 := f1_.1
  have o0 := o0.trans (f1_.low (Nat.zero_le _) (Nat.zero_le _))
  have fr := fr.thenN f1_
  have br := f1_.at_ br (by omega)
  have rb := rb2
  have zrd := rb.lt
  have fn1 := f1_
  refine KL.m (M.alloc rfl zr59 rfl) rfl ?_
  rintro _ H4 ⟨rfl, n4⟩
  have z4 := n4.2.1
  have o0 := o0.trans ((n4.1).b (by omega))
  have fr := fr.old n4.1
  have br := (n4.1).blk br
  have rb := rb.old n4.1
  have b4 := n4.2.2
  have bx := b4
  refine KL.opS (S.storeAgg rfl sz59 rfl rfl (rfl) (by intro z hz; simp only [List.mem_cons, List.not_mem_nil, or_false] at hz; rcases hz with rfl | rfl <;> first | rfl) bx (by simp)) rfl rfl ?_
  rintro H5 ⟨u5, b5⟩
  have o0 := o0.trans (OldB.upd u5 (by omega))
  have zu5 := u5.1
  have fr := (by exact fr.updN u5 (by omega))
  have br := ((u5).2 _ (by omega)).trans br
  have rb := rb.updT u5 (by omega)
  have bx := b5
  rw [over_all (by rfl)] at bx
  refine KL.nil (KQ.seq (KC.seq ?_))
  refine KC.order [0, 1, 2, 3, 4] (clOf [(2, 3), (4, 2)]) (fun j Hc => (j = 0 → Hc[(Array.size H3)]? = some _)) (fun q H' => ∃ e, Bn.gloP l = .error e ∧ q = failB e ∧ Fr g (.slice none 0 0) H H') (by kernel_rfl) (by kernel_rfl) (by kernel_rfl) rfl (fun _ _ => bx) (fun vx Hx hx => KQ.panThen (KQ.pan hx)) ?_
  refine KO.op rfl rfl (fun Hg hg => R.loadAgg rfl U59 rfl sz59 rfl (cells_of (hg rfl)) rfl) rfl rfl rfl ?_
  refine KO.op rfl rfl (fun Hg hg => R.move rfl rfl) rfl rfl rfl ?_
  refine KO.callX rfl rfl rfl rfl rfl rfl Tryz.call110 rfl rfl rfl ((bexpr_any rb).mono (fun _ _ h => h) (fun vx Hx ⟨ex, hx1, hx2, hx3⟩ => ⟨_, Bn.b_e2 hp0 hx1, hx2, fr.thenN hx3⟩)) (fun _ _ hR j _ _ hj => by obtain ⟨x, k, _, _, _, _, f⟩ := hR; exact f.at_ bx (by omega)) ?_
  rintro ua H6 ⟨is, k1, v1, hp1, ra, rb2, f2_⟩
  have zf_H6 := f2_.1
  have o0 := o0.trans (f2_.low (Nat.zero_le _) (Nat.zero_le _))
  have fr := fr.thenN f2_
  have br := f2_.at_ br (by omega)
  have bx := f2_.at_ bx (by omega)
  have rb := rb2
  have zrd := rb.lt
  have fn2 := f2_
  have rwra := RW.refl (Array.size H5) H6
  refine KO.op rfl rfl (fun Hg hg => R.build (places := #[(0, 2), (2, 1)]) (cs := #[.int .u8 gl.1, .bool gl.2, ua]) rfl U63 zr63 (fun w => by kernel_rfl) rfl (fill_glo ra.cells1)) rfl rfl rfl ?_
  refine KO.opS rfl rfl (S.storeAgg rfl sz63 rfl rfl (rfl) (by intro z hz; simp only [List.mem_cons, List.not_mem_nil, or_false] at hz; rcases hz with rfl | rfl | rfl <;> first | rfl | exact ra.one) br (by simp)) rfl rfl (fun _ hR j hj1 hj2 hj => by subst hj; exact absurd (by decide +kernel) hj2) ?_
  rintro H7 ⟨u7, b7⟩
  have o0 := o0.trans (OldB.upd u7 (by omega))
  have zu7 := u7.1
  have fr := (by exact fr.updN u7 (by omega))
  have bx := ((u7).2 _ (by omega)).trans bx
  have rb := rb.updT u7 (by omega)
  have rwra := rwra.updT u7 (by omega)
  have br := b7
  rw [over_all (by rfl)] at br
  refine KO.nil ?_
  refine KQ.seq (KC.ret (KQ.ofRetX (KQ.toX ?_)))
  refine KQ.finCell Tryz.results85 rfl U63 rfl sz63 (cells_of br) (rfl) ?_
  exact ⟨_, _, _, Bn.b_ok hp0 hp1, ⟨_, rfl, hg1, ra.to rwra (by omega)⟩, rb.cast (by simp only [List.drop_drop, Nat.add_assoc, Nat.add_zero]), fr⟩
theorem listG_any {H : Heap} {g : Nat} {v : Value} {l : List Int} (rb : RB H g v l) : CtX Tryz.prog 84 [.pointer (some ⟨g, 0, none⟩), .func (.func 85) #[] #[]] H (fun u H' => ∃ x k v', Bn.lstP Bn.gloP l = .ok (x, k) ∧ RowS 3 EGlo H.size H' u x ∧ RB H' g v' (l.drop k) ∧ Fr g (.slice none 0 0) H H') (fun q H' => ∃ e, Bn.lstP Bn.gloP l = .error e ∧ q = failB e ∧ Fr g (.slice none 0 0) H H') := by
  refine CtX.mk Tryz.func84 rfl Tryz.ntmps84 rfl ?_
  intro W0 hW0
  have o0 : OldB 0 H H := OldB.refl _ H
  have hg := rb.lt
  have fr : Fr g (.slice none 0 0) H H := Fr.refl _ _ _
  have hle := rb.le
  refine KC.sr (KL.fin 1 rfl (KQ.sr (KL.fin 1 rfl (KQ.seq (KC.seq (KC.sr (KL.run 1 rfl ?_)))))))
  refine KL.callX rfl rfl rfl rfl K80 rfl rfl rfl (bu32_any rb) ?_ ?_
  · rintro vx H1 ⟨ex, hx1, hx2, hx3⟩
    refine KQ.panThen ?_
    refine KQ.panThen ?_
    exact KQ.pan (⟨_, Bn.m_e (Bn.b_e1 hx1), hx2, fr.thenN hx3⟩)
  rintro _ H2 ⟨n0, k0, v0, hp0, rfl, hn0, rb2, f3_⟩
  have zf_H2 := f3_.1
  have o0 := o0.trans (f3_.low (Nat.zero_le _) (Nat.zero_le _))
  have fr := fr.thenN f3_
  have rb := rb2
  have zrd := rb.lt
  have fn3 := f3_
  dsimp only [InR] at hn0
  refine KL.fin 1 rfl (KQ.seq (KC.block ?_))
  refine KC.loopD (κ := List Glo × Nat × Int × Value × Value) [9, 10, 13, 14, 15, 16, 17, 18, 5, 11, 12, 6] (fun k => [(5, k.2.2.2.1), (6, .int .u32 k.2.2.1)]) (fun k Hl => RB Hl g k.2.2.2.2 (l.drop (k0 + k.2.1)) ∧ LS 3 EGlo 63 (Array.size H) Hl k.2.2.2.1 k.1 ∧ Isp.Pre Bn.gloP n0.toNat (l.drop k0) k.2.2.1.toNat k.1 k.2.1 ∧ Fr g (.slice none 0 0) H Hl ∧ 0 ≤ k.2.2.1 ∧ k.1.length + k.2.2.1.toNat = n0.toNat) (fun k => k.2.2.1.toNat) ([], 0, n0, .slice none 0 0, v0) ?_ ?_ ?_
  · exact Sub.all rfl
  · exact ⟨rb.cast (by simp only [List.drop_drop, Nat.add_assoc, Nat.add_zero]), LS.nil _ _ _ _ _, Isp.Pre.start _ _ _, fr, hn0.1, by simp⟩
  rintro ⟨acc, k, m, vo, vr⟩ H3 ⟨rb, ls, hpre, fr, hm0, hlen⟩
  dsimp only at rb ls hpre hm0 hlen
  have zrd := rb.lt
  have zfr := fr.1
  have o0 : OldB 0 H H3 := fr.low (Nat.zero_le _) (Nat.zero_le _)
  refine KC.seq (KC.sr (KL.fin 2 rfl (KQ.seq ?_)))
  refine KC.iq rfl ?_ ?_
  · intro hc10
    try dsimp only at hc10
    refine KC.skip (KQ.seq (KC.seq (KC.block (KC.region (KL.run 3 rfl ?_)))))
    have hvo := ls.w.lt.imp id (fun h => h.2)
    have hm : m.toNat = (m - 1).toNat + 1 := by omega
    rw [hm] at hpre
    refine KL.callX rfl rfl rfl rfl Tryz.call85 rfl rfl rfl (bglobal_any rb) ?_ ?_
    · rintro vx H4 ⟨ex, hx1, hx2, hx3⟩
      refine KQ.panBlock ?_
      refine KQ.panThen ?_
      refine KQ.panThen ?_
      refine KQ.panBlock ?_
      refine KQ.panThen ?_
      exact KQ.pan (⟨_, Bn.m_e (Bn.b_e2 hp0 (hpre.fail (by rw [List.drop_drop]; exact hx1))), hx2, fr.thenN hx3⟩)
    rintro _ H5 ⟨x, kx, vx, hpx, ⟨a, rfl, hr, ra⟩, rb2, f4_⟩
    have zf_H5 := f4_.1
    have o0 := o0.trans (f4_.low (Nat.zero_le _) (Nat.zero_le _))
    have ls := ls.frT f4_ (by omega)
    have fr := fr.thenN f4_
    have rb := rb2
    have zrd := rb.lt
    have fn4 := f4_
    have rwx := RW.refl (Array.size H3) H5
    refine KL.m (M.lit rfl U26 zs63 (by decide) rfl rfl rfl) rfl ?_
    rintro _ H6 ⟨rfl, n6⟩
    have z6 := n6.2.1
    have o0 := o0.trans ((n6.1).b (by omega))
    have ls := ls.old n6.1
    have fr := fr.old n6.1
    have rb := rb.old n6.1
    have rwx := rwx.old n6.1
    have b6 := n6.2.2
    have wo := ls.w
    have se : Sl 3 (FK EGlo H6 (vblock vo :: List.range (Array.size H))) H6 _ [x] := Sl.lit1N n6 rfl (by decide) (fun Hx kx_ => ⟨a, rfl, fk_row ra rwx hvo (by omega) (by omega) Hx kx_, hr⟩)
    have lt7 := wo.lt
    refine KL.m (M.appendE rfl U26 inf63 rfl (by decide) rfl rfl wo (se) (by omega) (by simp only [List.length_cons, List.length_nil]; omega) (by unfold maxLen; simp only [List.length_cons, List.length_nil]; omega)) rfl ?_
    rintro vn H7 ⟨w7, g7, nx7⟩
    try dsimp only at g7 nx7
    have ob7 := g7.oldBE wo (by omega)
    have o0 := o0.trans (ob7.mono (by omega))
    have z7 := ob7.1
    have fr := (by exact fr.grownN g7 (lt7.imp id (fun h => by omega)))
    have rb := rb.grownT g7 (lt7.imp id (fun h => by omega))
    have wo := w7
    have ls : LS 3 EGlo 63 (Array.size H) H7 vn (acc ++ [x]) := ⟨wo⟩
    refine KL.fin 1 rfl (KQ.normBlock (KQ.r (KL.run 1 rfl ?_)))
    refine KL.q (R.sub rfl rfl rfl (by dsimp only [InR]; omega)) rfl ?_
    refine KL.fin 1 rfl ?_
    refine KQ.again ((acc ++ [x], k + kx, m - 1, vn, vx)) ?_ ?_ ?_
    · exact Sub.all rfl
    · show (m - 1).toNat < m.toNat; omega
    exact ⟨rb.cast (by simp only [List.drop_drop, Nat.add_assoc, Nat.add_zero]), ls, hpre.step (by rw [List.drop_drop]; exact hpx), fr, by show 0 ≤ m - 1; omega, by show (acc ++ [x]).length + (m - 1).toNat = _; rw [List.length_append, List.length_singleton]; omega⟩
  intro hc10
  try dsimp only at hc10
  refine KC.exit (KQ.exitThen (KQ.exitThen (KQ.hit (KQ.sr (KL.fin 2 rfl (KQ.seq (KC.ret (KQ.ofRetX (KQ.toX (KQ.fin1 Tryz.results84 rfl ?_))))))))))
  have h0 : m.toNat = 0 := by omega
  rw [h0] at hpre
  exact ⟨_, _, _, Bn.m_ok (Bn.b_ok hp0 hpre.done), ls.row (by decide), rb, fr⟩
theorem belem_any {H : Heap} {g : Nat} {v : Value} {l : List Int} (rb : RB H g v l) : CtX Tryz.prog 89 [.pointer (some ⟨g, 0, none⟩)] H (fun u H' => ∃ x k v', Bn.elmP l = .ok (x, k) ∧ (∃ a b, u = .agg [.int .u32 x.1, a, b].toArray ∧ RowS 5 EIns H.size H' a x.2.1 ∧ RowS 1 (EInt .u32) H.size H' b x.2.2 ∧ InR .u32 x.1) ∧ RB H' g v' (l.drop k) ∧ Fr g (.slice none 0 0) H H') (fun q H' => ∃ e, Bn.elmP l = .error e ∧ q = failB e ∧ Fr g (.slice none 0 0) H H') := by
  refine CtX.mk Tryz.func89 rfl Tryz.ntmps89 rfl ?_
  intro W0 hW0
  have o0 : OldB 0 H H := OldB.refl _ H
  have hg := rb.lt
  have fr : Fr g (.slice none 0 0) H H := Fr.refl _ _ _
  have hle := rb.le
  refine KC.sr ?_
  refine KL.m (M.alloc rfl zr69 rfl) rfl ?_
  rintro _ H1 ⟨rfl, n1⟩
  have z1 := n1.2.1
  have o0 := o0.trans ((n1.1).b (by omega))
  have rb := rb.old n1.1
  have fr := fr.old n1.1
  have b1 := n1.2.2
  have br := b1
  refine KL.nil (KQ.sr (KL.run 1 rfl ?_))
  refine KL.callX rfl rfl rfl rfl K80 rfl rfl rfl (bu32_any rb) ?_ ?_
  · rintro vx H2 ⟨ex, hx1, hx2, hx3⟩
    refine KQ.panThen ?_
    exact KQ.pan (⟨_, Bn.b_e1 hx1, hx2, fr.thenN hx3⟩)
  rintro _ H3 ⟨tb, k0, v0, hp0, rfl, htb, rb2, f5_⟩
  have zf_H3 := f5_.1
  have o0 := o0.trans (f5_.low (Nat.zero_le _) (Nat.zero_le _))
  have fr := fr.thenN f5_
  have br := f5_.at_ br (by omega)
  have rb := rb2
  have zrd := rb.lt
  have fn5 := f5_
  refine KL.b0 bt69 rfl rfl ?_
  refine KL.m (M.alloc rfl zr69 rfl) rfl ?_
  rintro _ H4 ⟨rfl, n4⟩
  have z4 := n4.2.1
  have o0 := o0.trans ((n4.1).b (by omega))
  have fr := fr.old n4.1
  have br := (n4.1).blk br
  have rb := rb.old n4.1
  have b4 := n4.2.2
  have bx := b4
  refine KL.opS (S.storeAgg rfl sz69 rfl rfl (rfl) (by intro z hz; simp only [List.mem_cons, List.not_mem_nil, or_false] at hz; rcases hz with rfl | rfl | rfl <;> first | rfl) bx (by simp)) rfl rfl ?_
  rintro H5 ⟨u5, b5⟩
  have o0 := o0.trans (OldB.upd u5 (by omega))
  have zu5 := u5.1
  have fr := (by exact fr.updN u5 (by omega))
  have br := ((u5).2 _ (by omega)).trans br
  have rb := rb.updT u5 (by omega)
  have bx := b5
  rw [over_all (by rfl)] at bx
  refine KL.nil (KQ.sr (KL.run 1 rfl ?_))
  refine KL.callX rfl rfl rfl rfl Tryz.call110 rfl rfl rfl (bexpr_any rb) ?_ ?_
  · rintro vx H6 ⟨ex, hx1, hx2, hx3⟩
    refine KQ.panThen ?_
    exact KQ.pan (⟨_, Bn.b_e2 hp0 (Bn.b_e1 hx1), hx2, fr.thenN hx3⟩)
  rintro ua H7 ⟨is, k1, v1, hp1, ra, rb2, f6_⟩
  have zf_H7 := f6_.1
  have o0 := o0.trans (f6_.low (Nat.zero_le _) (Nat.zero_le _))
  have fr := fr.thenN f6_
  have br := f6_.at_ br (by omega)
  have bx := f6_.at_ bx (by omega)
  have rb := rb2
  have zrd := rb.lt
  have fn6 := f6_
  have rwra := RW.refl (Array.size H5) H7
  refine KL.run 1 rfl ?_
  refine KL.opS (S.store rfl sz52 rfl rfl ra.cells1 ra.one bx (by simp)) rfl rfl ?_
  rintro H8 ⟨u8, b8⟩
  have o0 := o0.trans (OldB.upd u8 (by omega))
  have zu8 := u8.1
  have fr := (by exact fr.updN u8 (by omega))
  have br := ((u8).2 _ (by omega)).trans br
  have rb := rb.updT u8 (by omega)
  have rwra := rwra.updT u8 (by omega)
  have bx := b8
  have bx : H8[(Array.size H3)]? = some (.cells [.int .u32 tb, ua, .slice none 0 0].toArray 69 (0, 0)) := bx
  refine KL.nil (KQ.sr (KL.run 1 rfl ?_))
  refine KL.callX rfl rfl rfl rfl Tryz.call79 rfl rfl rfl (listU_any rb) ?_ ?_
  · rintro vx H9 ⟨ex, hx1, hx2, hx3⟩
    refine KQ.panThen ?_
    exact KQ.pan (⟨_, Bn.b_e2 hp0 (Bn.b_e2 hp1 hx1), hx2, fr.thenN hx3⟩)
  rintro ub H10 ⟨fs, k2, v2, hp2, rb_, rb2, f7_⟩
  have zf_H10 := f7_.1
  have o0 := o0.trans (f7_.low (Nat.zero_le _) (Nat.zero_le _))
  have fr := fr.thenN f7_
  have br := f7_.at_ br (by omega)
  have bx := f7_.at_ bx (by omega)
  have rwra := rwra.frT f7_ (by omega)
  have rb := rb2
  have zrd := rb.lt
  have fn7 := f7_
  have rwrb_ := RW.refl (Array.size H8) H10
  refine KL.run 1 rfl ?_
  refine KL.opS (S.store rfl sz24 rfl rfl rb_.cells1 rb_.one bx (by simp)) rfl rfl ?_
  rintro H11 ⟨u11, b11⟩
  have o0 := o0.trans (OldB.upd u11 (by omega))
  have zu11 := u11.1
  have fr := (by exact fr.updN u11 (by omega))
  have br := ((u11).2 _ (by omega)).trans br
  have rwra := rwra.updT u11 (by omega)
  have rb := rb.updT u11 (by omega)
  have rwrb_ := rwrb_.updT u11 (by omega)
  have bx := b11
  have bx : H11[(Array.size H3)]? = some (.cells [.int .u32 tb, ua, ub].toArray 69 (0, 0)) := bx
  refine KL.nil (KQ.sr (KL.lda rfl (cells_of bx) rfl ?_))
  refine KL.opS (S.storeAgg rfl sz69 rfl rfl (rfl) (by intro z hz; simp only [List.mem_cons, List.not_mem_nil, or_false] at hz; rcases hz with rfl | rfl | rfl <;> first | rfl | exact ra.one | exact rb_.one) br (by simp)) rfl rfl ?_
  rintro H12 ⟨u12, b12⟩
  have o0 := o0.trans (OldB.upd u12 (by omega))
  have zu12 := u12.1
  have fr := (by exact fr.updN u12 (by omega))
  have bx := ((u12).2 _ (by omega)).trans bx
  have rwra := rwra.updT u12 (by omega)
  have rb := rb.updT u12 (by omega)
  have rwrb_ := rwrb_.updT u12 (by omega)
  have br := b12
  rw [over_all (by rfl)] at br
  refine KL.nil (KQ.seq (KC.ret (KQ.ofRetX (KQ.toX ?_))))
  refine KQ.finCell Tryz.results89 rfl U69 rfl sz69 (cells_of br) (rfl) ?_
  exact ⟨_, _, _, Bn.b_ok hp0 (Bn.b_ok hp1 hp2), ⟨_, _, rfl, ra.to rwra (by omega), rb_.to rwrb_ (by omega), htb⟩, rb.cast (by simp only [List.drop_drop, Nat.add_assoc, Nat.add_zero]), fr⟩
theorem listX_any {H : Heap} {g : Nat} {v : Value} {l : List Int} (rb : RB H g v l) : CtX Tryz.prog 88 [.pointer (some ⟨g, 0, none⟩), .func (.func 89) #[] #[]] H (fun u H' => ∃ x k v', Bn.lstP Bn.elmP l = .ok (x, k) ∧ RowS 3 EElm H.size H' u x ∧ RB H' g v' (l.drop k) ∧ Fr g (.slice none 0 0) H H') (fun q H' => ∃ e, Bn.lstP Bn.elmP l = .error e ∧ q = failB e ∧ Fr g (.slice none 0 0) H H') := by
  refine CtX.mk Tryz.func88 rfl Tryz.ntmps88 rfl ?_
  intro W0 hW0
  have o0 : OldB 0 H H := OldB.refl _ H
  have hg := rb.lt
  have fr : Fr g (.slice none 0 0) H H := Fr.refl _ _ _
  have hle := rb.le
  refine KC.sr (KL.fin 1 rfl (KQ.sr (KL.fin 1 rfl (KQ.seq (KC.seq (KC.sr (KL.run 1 rfl ?_)))))))
  refine KL.callX rfl rfl rfl rfl K80 rfl rfl rfl (bu32_any rb) ?_ ?_
  · rintro vx H1 ⟨ex, hx1, hx2, hx3⟩
    refine KQ.panThen ?_
    refine KQ.panThen ?_
    exact KQ.pan (⟨_, Bn.m_e (Bn.b_e1 hx1), hx2, fr.thenN hx3⟩)
  rintro _ H2 ⟨n0, k0, v0, hp0, rfl, hn0, rb2, f8_⟩
  have zf_H2 := f8_.1
  have o0 := o0.trans (f8_.low (Nat.zero_le _) (Nat.zero_le _))
  have fr := fr.thenN f8_
  have rb := rb2
  have zrd := rb.lt
  have fn8 := f8_
  dsimp only [InR] at hn0
  refine KL.fin 1 rfl (KQ.seq (KC.block ?_))
  refine KC.loopD (κ := List Elm × Nat × Int × Value × Value) [9, 10, 13, 14, 15, 16, 17, 18, 5, 11, 12, 6] (fun k => [(5, k.2.2.2.1), (6, .int .u32 k.2.2.1)]) (fun k Hl => RB Hl g k.2.2.2.2 (l.drop (k0 + k.2.1)) ∧ LS 3 EElm 69 (Array.size H) Hl k.2.2.2.1 k.1 ∧ Isp.Pre Bn.elmP n0.toNat (l.drop k0) k.2.2.1.toNat k.1 k.2.1 ∧ Fr g (.slice none 0 0) H Hl ∧ 0 ≤ k.2.2.1 ∧ k.1.length + k.2.2.1.toNat = n0.toNat) (fun k => k.2.2.1.toNat) ([], 0, n0, .slice none 0 0, v0) ?_ ?_ ?_
  · exact Sub.all rfl
  · exact ⟨rb.cast (by simp only [List.drop_drop, Nat.add_assoc, Nat.add_zero]), LS.nil _ _ _ _ _, Isp.Pre.start _ _ _, fr, hn0.1, by simp⟩
  rintro ⟨acc, k, m, vo, vr⟩ H3 ⟨rb, ls, hpre, fr, hm0, hlen⟩
  dsimp only at rb ls hpre hm0 hlen
  have zrd := rb.lt
  have zfr := fr.1
  have o0 : OldB 0 H H3 := fr.low (Nat.zero_le _) (Nat.zero_le _)
  refine KC.seq (KC.sr (KL.fin 2 rfl (KQ.seq ?_)))
  refine KC.iq rfl ?_ ?_
  · intro hc10
    try dsimp only at hc10
    refine KC.skip (KQ.seq (KC.seq (KC.block (KC.region (KL.run 3 rfl ?_)))))
    have hvo := ls.w.lt.imp id (fun h => h.2)
    have hm : m.toNat = (m - 1).toNat + 1 := by omega
    rw [hm] at hpre
    refine KL.callX rfl rfl rfl rfl Tryz.call89 rfl rfl rfl (belem_any rb) ?_ ?_
    · rintro vx H4 ⟨ex, hx1, hx2, hx3⟩
      refine KQ.panBlock ?_
      refine KQ.panThen ?_
      refine KQ.panThen ?_
      refine KQ.panBlock ?_
      refine KQ.panThen ?_
      exact KQ.pan (⟨_, Bn.m_e (Bn.b_e2 hp0 (hpre.fail (by rw [List.drop_drop]; exact hx1))), hx2, fr.thenN hx3⟩)
    rintro _ H5 ⟨x, kx, vx, hpx, ⟨a, b, rfl, ra, rb_, hr⟩, rb2, f9_⟩
    have zf_H5 := f9_.1
    have o0 := o0.trans (f9_.low (Nat.zero_le _) (Nat.zero_le _))
    have ls := ls.frT f9_ (by omega)
    have fr := fr.thenN f9_
    have rb := rb2
    have zrd := rb.lt
    have fn9 := f9_
    have rwx := RW.refl (Array.size H3) H5
    refine KL.m (M.lit rfl U29 zs69 (by decide) rfl rfl rfl) rfl ?_
    rintro _ H6 ⟨rfl, n6⟩
    have z6 := n6.2.1
    have o0 := o0.trans ((n6.1).b (by omega))
    have ls := ls.old n6.1
    have fr := fr.old n6.1
    have rb := rb.old n6.1
    have rwx := rwx.old n6.1
    have b6 := n6.2.2
    have wo := ls.w
    have se : Sl 3 (FK EElm H6 (vblock vo :: List.range (Array.size H))) H6 _ [x] := Sl.lit1N n6 rfl (by decide) (fun Hx kx_ => ⟨a, b, rfl, fk_row ra rwx hvo (by omega) (by omega) Hx kx_, fk_row rb_ rwx hvo (by omega) (by omega) Hx kx_, hr⟩)
    have lt7 := wo.lt
    refine KL.m (M.appendE rfl U29 inf69 rfl (by decide) rfl rfl wo (se) (by omega) (by simp only [List.length_cons, List.length_nil]; omega) (by unfold maxLen; simp only [List.length_cons, List.length_nil]; omega)) rfl ?_
    rintro vn H7 ⟨w7, g7, nx7⟩
    try dsimp only at g7 nx7
    have ob7 := g7.oldBE wo (by omega)
    have o0 := o0.trans (ob7.mono (by omega))
    have z7 := ob7.1
    have fr := (by exact fr.grownN g7 (lt7.imp id (fun h => by omega)))
    have rb := rb.grownT g7 (lt7.imp id (fun h => by omega))
    have wo := w7
    have ls : LS 3 EElm 69 (Array.size H) H7 vn (acc ++ [x]) := ⟨wo⟩
    refine KL.fin 1 rfl (KQ.normBlock (KQ.r (KL.run 1 rfl ?_)))
    refine KL.q (R.sub rfl rfl rfl (by dsimp only [InR]; omega)) rfl ?_
    refine KL.fin 1 rfl ?_
    refine KQ.again ((acc ++ [x], k + kx, m - 1, vn, vx)) ?_ ?_ ?_
    · exact Sub.all rfl
    · show (m - 1).toNat < m.toNat; omega
    exact ⟨rb.cast (by simp only [List.drop_drop, Nat.add_assoc, Nat.add_zero]), ls, hpre.step (by rw [List.drop_drop]; exact hpx), fr, by show 0 ≤ m - 1; omega, by show (acc ++ [x]).length + (m - 1).toNat = _; rw [List.length_append, List.length_singleton]; omega⟩
  intro hc10
  try dsimp only at hc10
  refine KC.exit (KQ.exitThen (KQ.exitThen (KQ.hit (KQ.sr (KL.fin 2 rfl (KQ.seq (KC.ret (KQ.ofRetX (KQ.toX (KQ.fin1 Tryz.results88 rfl ?_))))))))))
  have h0 : m.toNat = 0 := by omega
  rw [h0] at hpre
  exact ⟨_, _, _, Bn.m_ok (Bn.b_ok hp0 hpre.done), ls.row (by decide), rb, fr⟩
theorem RW.grownT {x : Value} {N : Nat} {A H H' : Heap} (h : RW N A H) (gr : Grown x H H') (hlt : x = .slice none 0 0 ∨ H.size ≤ vblock x) : RW N A H' :=
  ⟨⟨Nat.le_trans h.k.1 gr.1, fun i hi hn => (gr.2 i (by have := h.k.1; omega) (hlt.imp id (fun k => by have := h.k.1; omega))).trans (h.k.2 i hi hn)⟩⟩
theorem bdata_any {H : Heap} {g : Nat} {v : Value} {l : List Int} (rb : RB H g v l) : CtX Tryz.prog 93 [.pointer (some ⟨g, 0, none⟩)] H (fun u H' => ∃ x k v', Bn.datP l = .ok (x, k) ∧ (∃ a b, u = .agg [.int .u32 x.1, a, b].toArray ∧ RowS 5 EIns H.size H' a x.2.1 ∧ RowS 1 (EInt .u8) H.size H' b x.2.2 ∧ InR .u32 x.1) ∧ RB H' g v' (l.drop k) ∧ Fr g (.slice none 0 0) H H') (fun q H' => ∃ e, Bn.datP l = .error e ∧ q = failB e ∧ Fr g (.slice none 0 0) H H') := by
  refine CtX.mk Tryz.func93 rfl Tryz.ntmps93 rfl ?_
  intro W0 hW0
  have o0 : OldB 0 H H := OldB.refl _ H
  have hg := rb.lt
  have fr : Fr g (.slice none 0 0) H H := Fr.refl _ _ _
  have hle := rb.le
  refine KC.sr ?_
  refine KL.m (M.alloc rfl zr71 rfl) rfl ?_
  rintro _ H1 ⟨rfl, n1⟩
  have z1 := n1.2.1
  have o0 := o0.trans ((n1.1).b (by omega))
  have rb := rb.old n1.1
  have fr := fr.old n1.1
  have b1 := n1.2.2
  have br := b1
  refine KL.nil (KQ.sr (KL.run 1 rfl ?_))
  refine KL.callX rfl rfl rfl rfl K80 rfl rfl rfl (bu32_any rb) ?_ ?_
  · rintro vx H2 ⟨ex, hx1, hx2, hx3⟩
    refine KQ.panThen ?_
    exact KQ.pan (⟨_, Bn.b_e1 hx1, hx2, fr.thenN hx3⟩)
  rintro _ H3 ⟨tb, k0, v0, hp0, rfl, htb, rb2, f10_⟩
  have zf_H3 := f10_.1
  have o0 := o0.trans (f10_.low (Nat.zero_le _) (Nat.zero_le _))
  have fr := fr.thenN f10_
  have br := f10_.at_ br (by omega)
  have rb := rb2
  have zrd := rb.lt
  have fn10 := f10_
  refine KL.b0 bt71 rfl rfl ?_
  refine KL.m (M.alloc rfl zr71 rfl) rfl ?_
  rintro _ H4 ⟨rfl, n4⟩
  have z4 := n4.2.1
  have o0 := o0.trans ((n4.1).b (by omega))
  have fr := fr.old n4.1
  have br := (n4.1).blk br
  have rb := rb.old n4.1
  have b4 := n4.2.2
  have bx := b4
  refine KL.opS (S.storeAgg rfl sz71 rfl rfl (rfl) (by intro z hz; simp only [List.mem_cons, List.not_mem_nil, or_false] at hz; rcases hz with rfl | rfl | rfl <;> first | rfl) bx (by simp)) rfl rfl ?_
  rintro H5 ⟨u5, b5⟩
  have o0 := o0.trans (OldB.upd u5 (by omega))
  have zu5 := u5.1
  have fr := (by exact fr.updN u5 (by omega))
  have br := ((u5).2 _ (by omega)).trans br
  have rb := rb.updT u5 (by omega)
  have bx := b5
  rw [over_all (by rfl)] at bx
  refine KL.nil (KQ.sr (KL.run 1 rfl ?_))
  refine KL.callX rfl rfl rfl rfl Tryz.call110 rfl rfl rfl (bexpr_any rb) ?_ ?_
  · rintro vx H6 ⟨ex, hx1, hx2, hx3⟩
    refine KQ.panThen ?_
    exact KQ.pan (⟨_, Bn.b_e2 hp0 (Bn.b_e1 hx1), hx2, fr.thenN hx3⟩)
  rintro ua H7 ⟨is, k1, v1, hp1, ra, rb2, f11_⟩
  have zf_H7 := f11_.1
  have o0 := o0.trans (f11_.low (Nat.zero_le _) (Nat.zero_le _))
  have fr := fr.thenN f11_
  have br := f11_.at_ br (by omega)
  have bx := f11_.at_ bx (by omega)
  have rb := rb2
  have zrd := rb.lt
  have fn11 := f11_
  have rwra := RW.refl (Array.size H5) H7
  refine KL.run 1 rfl ?_
  refine KL.opS (S.store rfl sz52 rfl rfl ra.cells1 ra.one bx (by simp)) rfl rfl ?_
  rintro H8 ⟨u8, b8⟩
  have o0 := o0.trans (OldB.upd u8 (by omega))
  have zu8 := u8.1
  have fr := (by exact fr.updN u8 (by omega))
  have br := ((u8).2 _ (by omega)).trans br
  have rb := rb.updT u8 (by omega)
  have rwra := rwra.updT u8 (by omega)
  have bx := b8
  have bx : H8[(Array.size H3)]? = some (.cells [.int .u32 tb, ua, .slice none 0 0].toArray 71 (0, 0)) := bx
  refine KL.nil (KQ.sr (KL.run 1 rfl ?_))
  refine KL.callX rfl rfl rfl rfl Tryz.call111 rfl rfl rfl (bbytes_any rb) ?_ ?_
  · rintro vx H9 ⟨ex, hx1, hx2, hx3⟩
    refine KQ.panThen ?_
    exact KQ.pan (⟨_, Bn.b_e2 hp0 (Bn.b_e2 hp1 hx1), hx2, fr.thenN hx3⟩)
  rintro uc H10 ⟨bs, k2, v2, hp2, hsu, rb2, f12_⟩
  have zf_H10 := f12_.1
  have o0 := o0.trans (f12_.low (Nat.zero_le _) (Nat.zero_le _))
  have fr := fr.thenN f12_
  have br := f12_.at_ br (by omega)
  have bx := f12_.at_ bx (by omega)
  have rwra := rwra.frT f12_ (by omega)
  have rb := rb2
  have zrd := rb.lt
  have fn12 := f12_
  have hbl := Bn.byt_le hp2
  have s1 : Sl 1 (EInt .u8) H10 uc bs := hsu _ (OldB.refl _ _)
  have wn : Own 1 (EInt .u8) 5 #[] (Array.size H10) H10 (.slice none 0 0) [] := Own.nil _ _ _ _ _ _
  have hsz : bs.length ≤ 1000000 := by have := hbl.1; simp only [List.length_drop] at this; omega
  have lt11 := wn.lt
  refine KL.m (M.append rfl U34 inf5 rfl (by decide) rfl rfl wn s1 (fun _ _ h _ => h) (by omega) (by simp; omega) (by unfold maxLen; simp; omega)) rfl ?_
  rintro ub H11 ⟨w11, g11⟩
  have ob11 := g11.oldB wn (by omega)
  have o0 := o0.trans (ob11.mono (by omega))
  have z11 := ob11.1
  have fr := (by exact fr.grownN g11 (lt11.imp id (fun h => by omega)))
  have br := (g11.2 _ (blk_lt br) (by exact .inl rfl)).trans br
  have bx := (g11.2 _ (blk_lt bx) (by exact .inl rfl)).trans bx
  have rwra := rwra.grownT g11 (lt11.imp id (fun h => by omega))
  have rb := rb.grownT g11 (lt11.imp id (fun h => by omega))
  have wn := w11
  have rb_ : RowS 1 (EInt .u8) (Array.size H10) H11 ub bs := fk_own wn (fun q hq => List.mem_range.1 hq)
  have rwrb_ := RW.refl (Array.size H10) H11
  refine KL.run 1 rfl ?_
  refine KL.opS (S.store rfl sz34 rfl rfl rb_.cells1 rb_.one bx (by simp)) rfl rfl ?_
  rintro H12 ⟨u12, b12⟩
  have o0 := o0.trans (OldB.upd u12 (by omega))
  have zu12 := u12.1
  have fr := (by exact fr.updN u12 (by omega))
  have br := ((u12).2 _ (by omega)).trans br
  have rwra := rwra.updT u12 (by omega)
  have rb := rb.updT u12 (by omega)
  have rwrb_ := rwrb_.updT u12 (by omega)
  have bx := b12
  have bx : H12[(Array.size H3)]? = some (.cells [.int .u32 tb, ua, ub].toArray 71 (0, 0)) := bx
  refine KL.nil (KQ.sr (KL.lda rfl (cells_of bx) rfl ?_))
  refine KL.opS (S.storeAgg rfl sz71 rfl rfl (rfl) (by intro z hz; simp only [List.mem_cons, List.not_mem_nil, or_false] at hz; rcases hz with rfl | rfl | rfl <;> first | rfl | exact ra.one | exact rb_.one) br (by simp)) rfl rfl ?_
  rintro H13 ⟨u13, b13⟩
  have o0 := o0.trans (OldB.upd u13 (by omega))
  have zu13 := u13.1
  have fr := (by exact fr.updN u13 (by omega))
  have bx := ((u13).2 _ (by omega)).trans bx
  have rwra := rwra.updT u13 (by omega)
  have rb := rb.updT u13 (by omega)
  have rwrb_ := rwrb_.updT u13 (by omega)
  have br := b13
  rw [over_all (by rfl)] at br
  refine KL.nil (KQ.seq (KC.ret (KQ.ofRetX (KQ.toX ?_))))
  refine KQ.finCell Tryz.results93 rfl U71 rfl sz71 (cells_of br) (rfl) ?_
  exact ⟨_, _, _, Bn.b_ok hp0 (Bn.b_ok hp1 hp2), ⟨_, _, rfl, ra.to rwra (by omega), rb_.to rwrb_ (by omega), htb⟩, rb.cast (by simp only [List.drop_drop, Nat.add_assoc, Nat.add_zero]), fr⟩
theorem listD_any {H : Heap} {g : Nat} {v : Value} {l : List Int} (rb : RB H g v l) : CtX Tryz.prog 92 [.pointer (some ⟨g, 0, none⟩), .func (.func 93) #[] #[]] H (fun u H' => ∃ x k v', Bn.lstP Bn.datP l = .ok (x, k) ∧ RowS 3 EDat H.size H' u x ∧ RB H' g v' (l.drop k) ∧ Fr g (.slice none 0 0) H H') (fun q H' => ∃ e, Bn.lstP Bn.datP l = .error e ∧ q = failB e ∧ Fr g (.slice none 0 0) H H') := by
  refine CtX.mk Tryz.func92 rfl Tryz.ntmps92 rfl ?_
  intro W0 hW0
  have o0 : OldB 0 H H := OldB.refl _ H
  have hg := rb.lt
  have fr : Fr g (.slice none 0 0) H H := Fr.refl _ _ _
  have hle := rb.le
  refine KC.sr (KL.fin 1 rfl (KQ.sr (KL.fin 1 rfl (KQ.seq (KC.seq (KC.sr (KL.run 1 rfl ?_)))))))
  refine KL.callX rfl rfl rfl rfl K80 rfl rfl rfl (bu32_any rb) ?_ ?_
  · rintro vx H1 ⟨ex, hx1, hx2, hx3⟩
    refine KQ.panThen ?_
    refine KQ.panThen ?_
    exact KQ.pan (⟨_, Bn.m_e (Bn.b_e1 hx1), hx2, fr.thenN hx3⟩)
  rintro _ H2 ⟨n0, k0, v0, hp0, rfl, hn0, rb2, f13_⟩
  have zf_H2 := f13_.1
  have o0 := o0.trans (f13_.low (Nat.zero_le _) (Nat.zero_le _))
  have fr := fr.thenN f13_
  have rb := rb2
  have zrd := rb.lt
  have fn13 := f13_
  dsimp only [InR] at hn0
  refine KL.fin 1 rfl (KQ.seq (KC.block ?_))
  refine KC.loopD (κ := List Elm × Nat × Int × Value × Value) [9, 10, 13, 14, 15, 16, 17, 18, 5, 11, 12, 6] (fun k => [(5, k.2.2.2.1), (6, .int .u32 k.2.2.1)]) (fun k Hl => RB Hl g k.2.2.2.2 (l.drop (k0 + k.2.1)) ∧ LS 3 EDat 71 (Array.size H) Hl k.2.2.2.1 k.1 ∧ Isp.Pre Bn.datP n0.toNat (l.drop k0) k.2.2.1.toNat k.1 k.2.1 ∧ Fr g (.slice none 0 0) H Hl ∧ 0 ≤ k.2.2.1 ∧ k.1.length + k.2.2.1.toNat = n0.toNat) (fun k => k.2.2.1.toNat) ([], 0, n0, .slice none 0 0, v0) ?_ ?_ ?_
  · exact Sub.all rfl
  · exact ⟨rb.cast (by simp only [List.drop_drop, Nat.add_assoc, Nat.add_zero]), LS.nil _ _ _ _ _, Isp.Pre.start _ _ _, fr, hn0.1, by simp⟩
  rintro ⟨acc, k, m, vo, vr⟩ H3 ⟨rb, ls, hpre, fr, hm0, hlen⟩
  dsimp only at rb ls hpre hm0 hlen
  have zrd := rb.lt
  have zfr := fr.1
  have o0 : OldB 0 H H3 := fr.low (Nat.zero_le _) (Nat.zero_le _)
  refine KC.seq (KC.sr (KL.fin 2 rfl (KQ.seq ?_)))
  refine KC.iq rfl ?_ ?_
  · intro hc10
    try dsimp only at hc10
    refine KC.skip (KQ.seq (KC.seq (KC.block (KC.region (KL.run 3 rfl ?_)))))
    have hvo := ls.w.lt.imp id (fun h => h.2)
    have hm : m.toNat = (m - 1).toNat + 1 := by omega
    rw [hm] at hpre
    refine KL.callX rfl rfl rfl rfl Tryz.call93 rfl rfl rfl (bdata_any rb) ?_ ?_
    · rintro vx H4 ⟨ex, hx1, hx2, hx3⟩
      refine KQ.panBlock ?_
      refine KQ.panThen ?_
      refine KQ.panThen ?_
      refine KQ.panBlock ?_
      refine KQ.panThen ?_
      exact KQ.pan (⟨_, Bn.m_e (Bn.b_e2 hp0 (hpre.fail (by rw [List.drop_drop]; exact hx1))), hx2, fr.thenN hx3⟩)
    rintro _ H5 ⟨x, kx, vx, hpx, ⟨a, b, rfl, ra, rb_, hr⟩, rb2, f14_⟩
    have zf_H5 := f14_.1
    have o0 := o0.trans (f14_.low (Nat.zero_le _) (Nat.zero_le _))
    have ls := ls.frT f14_ (by omega)
    have fr := fr.thenN f14_
    have rb := rb2
    have zrd := rb.lt
    have fn14 := f14_
    have rwx := RW.refl (Array.size H3) H5
    refine KL.m (M.lit rfl U31 zs71 (by decide) rfl rfl rfl) rfl ?_
    rintro _ H6 ⟨rfl, n6⟩
    have z6 := n6.2.1
    have o0 := o0.trans ((n6.1).b (by omega))
    have ls := ls.old n6.1
    have fr := fr.old n6.1
    have rb := rb.old n6.1
    have rwx := rwx.old n6.1
    have b6 := n6.2.2
    have wo := ls.w
    have se : Sl 3 (FK EDat H6 (vblock vo :: List.range (Array.size H))) H6 _ [x] := Sl.lit1N n6 rfl (by decide) (fun Hx kx_ => ⟨a, b, rfl, fk_row ra rwx hvo (by omega) (by omega) Hx kx_, fk_row rb_ rwx hvo (by omega) (by omega) Hx kx_, hr⟩)
    have lt7 := wo.lt
    refine KL.m (M.appendE rfl U31 inf71 rfl (by decide) rfl rfl wo (se) (by omega) (by simp only [List.length_cons, List.length_nil]; omega) (by unfold maxLen; simp only [List.length_cons, List.length_nil]; omega)) rfl ?_
    rintro vn H7 ⟨w7, g7, nx7⟩
    try dsimp only at g7 nx7
    have ob7 := g7.oldBE wo (by omega)
    have o0 := o0.trans (ob7.mono (by omega))
    have z7 := ob7.1
    have fr := (by exact fr.grownN g7 (lt7.imp id (fun h => by omega)))
    have rb := rb.grownT g7 (lt7.imp id (fun h => by omega))
    have wo := w7
    have ls : LS 3 EDat 71 (Array.size H) H7 vn (acc ++ [x]) := ⟨wo⟩
    refine KL.fin 1 rfl (KQ.normBlock (KQ.r (KL.run 1 rfl ?_)))
    refine KL.q (R.sub rfl rfl rfl (by dsimp only [InR]; omega)) rfl ?_
    refine KL.fin 1 rfl ?_
    refine KQ.again ((acc ++ [x], k + kx, m - 1, vn, vx)) ?_ ?_ ?_
    · exact Sub.all rfl
    · show (m - 1).toNat < m.toNat; omega
    exact ⟨rb.cast (by simp only [List.drop_drop, Nat.add_assoc, Nat.add_zero]), ls, hpre.step (by rw [List.drop_drop]; exact hpx), fr, by show 0 ≤ m - 1; omega, by show (acc ++ [x]).length + (m - 1).toNat = _; rw [List.length_append, List.length_singleton]; omega⟩
  intro hc10
  try dsimp only at hc10
  refine KC.exit (KQ.exitThen (KQ.exitThen (KQ.hit (KQ.sr (KL.fin 2 rfl (KQ.seq (KC.ret (KQ.ofRetX (KQ.toX (KQ.fin1 Tryz.results92 rfl ?_))))))))))
  have h0 : m.toNat = 0 := by omega
  rw [h0] at hpre
  exact ⟨_, _, _, Bn.m_ok (Bn.b_ok hp0 hpre.done), ls.row (by decide), rb, fr⟩
theorem bcode_any {H : Heap} {g : Nat} {v : Value} {l : List Int} (rb : RB H g v l) : CtX Tryz.prog 91 [.pointer (some ⟨g, 0, none⟩)] H (fun u H' => ∃ x k v', Bn.codP l = .ok (x, k) ∧ (∃ a b, u = .agg [a, b].toArray ∧ RowS 2 ELoc H.size H' a x.1 ∧ RowS 5 EIns H.size H' b x.2) ∧ RB H' g v' (l.drop k) ∧ Fr g (.slice none 0 0) H H') (fun q H' => ∃ e, Bn.codP l = .error e ∧ q = failB e ∧ Fr g (.slice none 0 0) H H') := by
  refine CtX.mk Tryz.func91 rfl Tryz.ntmps91 rfl ?_
  intro W0 hW0
  have o0 : OldB 0 H H := OldB.refl _ H
  have hg := rb.lt
  have fr : Fr g (.slice none 0 0) H H := Fr.refl _ _ _
  have hle := rb.le
  refine KC.sr ?_
  refine KL.m (M.alloc rfl zr54 rfl) rfl ?_
  rintro _ H1 ⟨rfl, n1⟩
  have z1 := n1.2.1
  have o0 := o0.trans ((n1.1).b (by omega))
  have rb := rb.old n1.1
  have fr := fr.old n1.1
  have b1 := n1.2.2
  have br := b1
  refine KL.nil (KQ.sr (KL.run 1 rfl ?_))
  refine KL.callX rfl rfl rfl rfl Tryz.call111 rfl rfl rfl (bbytes_any rb) ?_ ?_
  · rintro vx H2 ⟨ex, hx1, hx2, hx3⟩
    refine KQ.panThen ?_
    exact KQ.pan (⟨_, Bn.cod_e0 hx1, hx2, fr.thenN hx3⟩)
  rintro uc H3 ⟨bs, k0, v0, hp0, hsu, rb2, f1_⟩
  have zf_H3 := f1_.1
  have o0 := o0.trans (f1_.low (Nat.zero_le _) (Nat.zero_le _))
  have fr := fr.thenN f1_
  have br := f1_.at_ br (by omega)
  have rb := rb2
  have zrd := rb.lt
  have fn1 := f1_
  have hbl := Bn.byt_le hp0
  refine KL.bd bt152 rfl ⟨(hsu _ (OldB.refl _ _)).cells1, trivial⟩ ?_
  have ob2 : Old H3 H3 := Old.refl _
  refine KL.m (M.box rfl rfl rfl) rfl ?_
  rintro _ H4 ⟨rfl, n4⟩
  have z4 := n4.2.1
  have o0 := o0.trans ((n4.1).b (by omega))
  have fr := fr.old n4.1
  have br := (n4.1).blk br
  have rb := rb.old n4.1
  have b4 := n4.2.2
  have b2 := b4
  have ro : RB H4 (Array.size H3) uc bs := ⟨b2, fun Hx o => hsu Hx ((n4.1.b (Nat.le_of_lt (by omega))).trans (o.mono (by omega))), by have := hbl.1; omega⟩
  have zro := ro.lt
  refine KL.fin 1 rfl (KQ.sr (KL.run 1 rfl ?_))
  refine KL.callX rfl rfl rfl rfl Tryz.call112 rfl rfl rfl (listL_any ro) ?_ ?_
  · rintro vx H5 ⟨ex, hx1, hx2, hx3⟩
    refine KQ.panThen ?_
    exact KQ.pan (⟨_, Bn.cod_e hp0 (Bn.whole_e (Bn.cq_e hx1)), hx2, fr.low2 hx3 (by omega) (.inl rfl)⟩)
  rintro ua H6 ⟨ls, k1, v1, hp1, ra, ro2, f2_⟩
  have zf_H6 := f2_.1
  have o0 := o0.trans (f2_.low (Nat.zero_le _) (Nat.zero_le _))
  have br := f2_.at_ br (by omega)
  have rb := rb.frT f2_ (by omega)
  have ro := ro2
  have zro := ro.lt
  have fr := fr.low2 f2_ (by omega) (.inl rfl)
  have rwra := RW.refl (Array.size H4) H6
  have hll := Bn.lst_len hp1
  refine KL.bd bt54 rfl ⟨ra.cells1, trivial⟩ ?_
  refine KL.m (M.alloc rfl zr54 rfl) rfl ?_
  rintro _ H7 ⟨rfl, n7⟩
  have z7 := n7.2.1
  have o0 := o0.trans ((n7.1).b (by omega))
  have br := (n7.1).blk br
  have rb := rb.old n7.1
  have ro := ro.old n7.1
  have fr := fr.old n7.1
  have rwra := rwra.old n7.1
  have b7 := n7.2.2
  have bx := b7
  refine KL.opS (S.storeAgg rfl sz54 rfl rfl (rfl) (by intro z hz; simp only [List.mem_cons, List.not_mem_nil, or_false] at hz; rcases hz with rfl | rfl <;> first | rfl | exact ra.one) bx (by simp)) rfl rfl ?_
  rintro H8 ⟨u8, b8⟩
  have o0 := o0.trans (OldB.upd u8 (by omega))
  have zu8 := u8.1
  have br := ((u8).2 _ (by omega)).trans br
  have rb := rb.updT u8 (by omega)
  have ro := ro.updT u8 (by omega)
  have fr := (by exact fr.updN u8 (by omega))
  have rwra := rwra.updT u8 (by omega)
  have bx := b8
  rw [over_all (by rfl)] at bx
  refine KL.nil (KQ.sr (KL.fin 1 rfl (KQ.seq (KC.seq (KC.sr (KL.run 1 rfl (KL.ld rfl (cell_of bx rfl) ?_)))))))
  have hlr : ∀ x ∈ ls, 0 ≤ x.1 ∧ x.1 ≤ 4294967295 := by
    intro x hx
    obtain ⟨j, hj, rfl⟩ := List.getElem_of_mem hx
    have h := ((ra _ rwra.k).locAt j hj).2.1
    rw [List.getD_eq_getElem?_getD, List.getElem?_eq_getElem hj] at h
    exact h
  refine KL.q (R.lenS rfl U51 rfl (ra _ rwra.k)) rfl (KL.fin 1 rfl (KQ.seq (KC.block ?_)))
  refine KC.loopD (κ := Nat) [19, 20, 21, 7, 22, 23, 24, 25, 26, 5, 27, 18] (fun k => [(5, .int .u64 (En.locS (ls.take k))), (18, .int .i64 (k : Nat))]) (fun k Hl => k ≤ ls.length ∧ RB Hl g v0 (l.drop k0) ∧ RB Hl (Array.size H3) v1 (bs.drop k1) ∧ RW (Array.size H4) H6 Hl ∧ Hl[(Array.size H6)]? = some (.cells [ua, .slice none 0 0].toArray 54 (0, 0)) ∧ Hl[Array.size H]? = some (.cells [.slice none 0 0, .slice none 0 0].toArray 54 (0, 0)) ∧ Fr g (.slice none 0 0) H Hl ∧ Array.size H8 ≤ Hl.size) (fun k => ls.length - k) 0 ?_ ?_ ?_
  · exact Sub.all rfl
  · exact ⟨Nat.zero_le _, rb, ro, rwra, bx, br, fr, Nat.le_refl _⟩
  rintro k H9 ⟨hk, rb, ro, rwra, bx, br, fr, hzl⟩
  have zfr := fr.1
  have o0 : OldB 0 H H9 := fr.low (Nat.zero_le _) (Nat.zero_le _)
  have zrd := rb.lt
  have zro := ro.lt
  refine KC.sr (KL.fin 1 rfl (KQ.seq (KC.seq ?_)))
  refine KC.iq rfl ?_ ?_
  · intro hc19
    have hk2 : k < ls.length := by omega
    obtain ⟨hcx, hy1, hy2⟩ := (ra _ rwra.k).locAt k hk2
    have hls := En.locS_rng (l := ls.take k) (fun x hx => hlr x (List.mem_of_mem_take hx))
    rw [List.length_take] at hls
    dsimp only [InR] at hy1
    refine KC.skip (KQ.seq (KC.seq (KC.block (KC.sr ?_))))
    refine KL.q (R.index (j := k) rfl U51 sz146 rfl rfl (ra _ rwra.k) rfl (by omega)) rfl ?_
    refine KL.lda rfl hcx rfl ?_
    refine KL.m (M.alloc rfl zr146 rfl) rfl ?_
    rintro _ H10 ⟨rfl, n10⟩
    have z10 := n10.2.1
    have o0 := o0.trans ((n10.1).b (by omega))
    have rb := rb.old n10.1
    have ro := ro.old n10.1
    have rwra := rwra.old n10.1
    have bx := (n10.1).blk bx
    have br := (n10.1).blk br
    have fr := fr.old n10.1
    have b10 := n10.2.2
    have bv := b10
    refine KL.opS (S.storeAgg rfl sz146 rfl rfl (rfl) (by intro z hz; simp only [List.mem_cons, List.not_mem_nil, or_false] at hz; rcases hz with rfl | rfl <;> first | rfl) bv (by simp)) rfl rfl ?_
    rintro H11 ⟨u11, b11⟩
    have o0 := o0.trans (OldB.upd u11 (by omega))
    have zu11 := u11.1
    have rb := rb.updT u11 (by omega)
    have ro := ro.updT u11 (by omega)
    have rwra := rwra.updT u11 (by omega)
    have bx := ((u11).2 _ (by omega)).trans bx
    have br := ((u11).2 _ (by omega)).trans br
    have fr := (by exact fr.updN u11 (by omega))
    have bv := b11
    rw [over_all (by rfl)] at bv
    refine KL.nil (KQ.r (KL.run 2 rfl (KL.ld rfl (cell_of bv rfl) ?_)))
    refine KL.q (R.convI rfl U28 U95 rfl (by dsimp only [InR] at *; omega)) rfl ?_
    refine KL.q ((R.add rfl rfl rfl (by dsimp only [InR]; omega)).val (congrArg (Value.int .u64) (En.locS_step hk2).symm)) rfl ?_
    refine KL.fin 1 rfl (KQ.normBlock (KQ.r ?_))
    refine KL.q ((R.add rfl rfl rfl (by dsimp only [InR]; omega)).val (congrArg (Value.int .i64) (show (k : Int) + 1 = ((k + 1 : Nat) : Int) by omega))) rfl ?_
    refine KL.fin 1 rfl ?_
    refine KQ.again (k + 1) ?_ ?_ ?_
    · exact Sub.all rfl
    · omega
    exact ⟨by omega, rb, ro, rwra, bx, br, fr, by omega⟩
  intro hc19
  have hkl : k = ls.length := by omega
  subst hkl
  rw [List.take_length]
  refine KC.exit (KQ.exitThen (KQ.exitThen (KQ.hit (KQ.sr (KL.run 2 rfl ?_)))))
  refine KL.callX rfl rfl rfl rfl K46 rfl rfl rfl (must_any _) ?_ ?_
  · rintro vx _ ⟨rfl, hb, rfl⟩
    simp only [sd] at hb
    refine KQ.panThen ?_
    exact KQ.pan (⟨_, Bn.cod_e hp0 (Bn.whole_e (Bn.cq_s hp1 (by omega))), rfl, fr⟩)
  rintro _ _ ⟨rfl, hb, rfl⟩
  simp only [sd] at hb
  refine KL.nil (KQ.sr (KL.run 1 rfl ?_))
  refine KL.callX rfl rfl rfl rfl Tryz.call110 rfl rfl rfl (bexpr_any ro) ?_ ?_
  · rintro vx H13 ⟨ex, hx1, hx2, hx3⟩
    refine KQ.panThen ?_
    exact KQ.pan (⟨_, Bn.cod_e hp0 (Bn.whole_e (Bn.cq_e2 hp1 hb hx1)), hx2, fr.low2 hx3 (by omega) (.inl rfl)⟩)
  rintro ub H14 ⟨is, k2, v2, hp2, rb_, ro2, f3_⟩
  have zf_H14 := f3_.1
  have o0 := o0.trans (f3_.low (Nat.zero_le _) (Nat.zero_le _))
  have rb := rb.frT f3_ (by omega)
  have rwra := rwra.frT f3_ (by omega)
  have bx := f3_.at_ bx (by omega)
  have br := f3_.at_ br (by omega)
  have ro := ro2
  have zro := ro.lt
  have fr := fr.low2 f3_ (by omega) (.inl rfl)
  have rwrb_ := RW.refl (Array.size H9) H14
  have rwp := rwra
  refine KL.run 1 rfl ?_
  refine KL.opS (S.store rfl sz52 rfl rfl rb_.cells1 rb_.one bx (by simp)) rfl rfl ?_
  rintro H15 ⟨u15, b15⟩
  have o0 := o0.trans (OldB.upd u15 (by omega))
  have zu15 := u15.1
  have rb := rb.updT u15 (by omega)
  have rwra := rwra.updT u15 (by omega)
  have br := ((u15).2 _ (by omega)).trans br
  have ro := ro.updT u15 (by omega)
  have fr := (by exact fr.updN u15 (by omega))
  have rwrb_ := rwrb_.updT u15 (by omega)
  have bx := b15
  have bx : H15[(Array.size H6)]? = some (.cells [ua, ub].toArray 54 (0, 0)) := bx
  refine KL.nil (KQ.sr (KL.run 3 rfl (KL.ld rfl (cell_of ro.b rfl) (KL.q (R.lenS rfl U34 rfl ro.sl) rfl (KL.run 1 rfl ?_)))))
  refine KL.callX rfl rfl rfl rfl K46 rfl rfl rfl (must_any _) ?_ ?_
  · rintro vx _ ⟨rfl, hq, rfl⟩
    simp only [sd] at hq
    refine KQ.panThen ?_
    exact KQ.pan (⟨_, Bn.cod_e hp0 (Bn.whole_l (Bn.cq_ok hp1 hb hp2) (by simp only [List.length_drop] at hq; omega)), rfl, fr⟩)
  rintro _ _ ⟨rfl, hq, rfl⟩
  simp only [sd] at hq
  refine KL.nil (KQ.sr (KL.lda rfl (cells_of bx) rfl ?_))
  refine KL.opS (S.storeAgg rfl sz54 rfl rfl (rfl) (by intro z hz; simp only [List.mem_cons, List.not_mem_nil, or_false] at hz; rcases hz with rfl | rfl <;> first | rfl | exact ra.one | exact rb_.one) br (by simp)) rfl rfl ?_
  rintro H17 ⟨u17, b17⟩
  have o0 := o0.trans (OldB.upd u17 (by omega))
  have zu17 := u17.1
  have rb := rb.updT u17 (by omega)
  have rwra := rwra.updT u17 (by omega)
  have bx := ((u17).2 _ (by omega)).trans bx
  have fr := (by exact fr.updN u17 (by omega))
  have rwrb_ := rwrb_.updT u17 (by omega)
  have br := b17
  rw [over_all (by rfl)] at br
  refine KL.nil (KQ.seq (KC.ret (KQ.ofRetX (KQ.toX ?_))))
  refine KQ.finCell Tryz.results91 rfl U54 rfl sz54 (cells_of br) (rfl) ?_
  exact ⟨_, _, _, Bn.cod_ok hp0 (Bn.whole_ok (Bn.cq_ok hp1 hb hp2) (by have h4 := (Isp.expr_sound _ _ _ _ _ hp2).2.2; simp only [List.length_drop] at hq h4; omega)), ⟨_, _, rfl, ra.to rwra (by omega), rb_.to rwrb_ (by omega)⟩, rb, fr⟩
theorem listC_any {H : Heap} {g : Nat} {v : Value} {l : List Int} (rb : RB H g v l) : CtX Tryz.prog 90 [.pointer (some ⟨g, 0, none⟩), .func (.func 91) #[] #[]] H (fun u H' => ∃ x k v', Bn.lstP Bn.codP l = .ok (x, k) ∧ RowS 2 ECod H.size H' u x ∧ RB H' g v' (l.drop k) ∧ Fr g (.slice none 0 0) H H') (fun q H' => ∃ e, Bn.lstP Bn.codP l = .error e ∧ q = failB e ∧ Fr g (.slice none 0 0) H H') := by
  refine CtX.mk Tryz.func90 rfl Tryz.ntmps90 rfl ?_
  intro W0 hW0
  have o0 : OldB 0 H H := OldB.refl _ H
  have hg := rb.lt
  have fr : Fr g (.slice none 0 0) H H := Fr.refl _ _ _
  have hle := rb.le
  refine KC.sr (KL.fin 1 rfl (KQ.sr (KL.fin 1 rfl (KQ.seq (KC.seq (KC.sr (KL.run 1 rfl ?_)))))))
  refine KL.callX rfl rfl rfl rfl K80 rfl rfl rfl (bu32_any rb) ?_ ?_
  · rintro vx H1 ⟨ex, hx1, hx2, hx3⟩
    refine KQ.panThen ?_
    refine KQ.panThen ?_
    exact KQ.pan (⟨_, Bn.m_e (Bn.b_e1 hx1), hx2, fr.thenN hx3⟩)
  rintro _ H2 ⟨n0, k0, v0, hp0, rfl, hn0, rb2, f4_⟩
  have zf_H2 := f4_.1
  have o0 := o0.trans (f4_.low (Nat.zero_le _) (Nat.zero_le _))
  have fr := fr.thenN f4_
  have rb := rb2
  have zrd := rb.lt
  have fn4 := f4_
  dsimp only [InR] at hn0
  refine KL.fin 1 rfl (KQ.seq (KC.block ?_))
  refine KC.loopD (κ := List Cod × Nat × Int × Value × Value) [9, 10, 13, 14, 15, 16, 17, 18, 5, 11, 12, 6] (fun k => [(5, k.2.2.2.1), (6, .int .u32 k.2.2.1)]) (fun k Hl => RB Hl g k.2.2.2.2 (l.drop (k0 + k.2.1)) ∧ LS 2 ECod 54 (Array.size H) Hl k.2.2.2.1 k.1 ∧ Isp.Pre Bn.codP n0.toNat (l.drop k0) k.2.2.1.toNat k.1 k.2.1 ∧ Fr g (.slice none 0 0) H Hl ∧ 0 ≤ k.2.2.1 ∧ k.1.length + k.2.2.1.toNat = n0.toNat) (fun k => k.2.2.1.toNat) ([], 0, n0, .slice none 0 0, v0) ?_ ?_ ?_
  · exact Sub.all rfl
  · exact ⟨rb.cast (by simp only [List.drop_drop, Nat.add_assoc, Nat.add_zero]), LS.nil _ _ _ _ _, Isp.Pre.start _ _ _, fr, hn0.1, by simp⟩
  rintro ⟨acc, k, m, vo, vr⟩ H3 ⟨rb, ls, hpre, fr, hm0, hlen⟩
  dsimp only at rb ls hpre hm0 hlen
  have zrd := rb.lt
  have zfr := fr.1
  have o0 : OldB 0 H H3 := fr.low (Nat.zero_le _) (Nat.zero_le _)
  refine KC.seq (KC.sr (KL.fin 2 rfl (KQ.seq ?_)))
  refine KC.iq rfl ?_ ?_
  · intro hc10
    try dsimp only at hc10
    refine KC.skip (KQ.seq (KC.seq (KC.block (KC.region (KL.run 3 rfl ?_)))))
    have hvo := ls.w.lt.imp id (fun h => h.2)
    have hm : m.toNat = (m - 1).toNat + 1 := by omega
    rw [hm] at hpre
    refine KL.callX rfl rfl rfl rfl Tryz.call91 rfl rfl rfl (bcode_any rb) ?_ ?_
    · rintro vx H4 ⟨ex, hx1, hx2, hx3⟩
      refine KQ.panBlock ?_
      refine KQ.panThen ?_
      refine KQ.panThen ?_
      refine KQ.panBlock ?_
      refine KQ.panThen ?_
      exact KQ.pan (⟨_, Bn.m_e (Bn.b_e2 hp0 (hpre.fail (by rw [List.drop_drop]; exact hx1))), hx2, fr.thenN hx3⟩)
    rintro _ H5 ⟨x, kx, vx, hpx, ⟨a, b, rfl, ra, rb_⟩, rb2, f5_⟩
    have zf_H5 := f5_.1
    have o0 := o0.trans (f5_.low (Nat.zero_le _) (Nat.zero_le _))
    have ls := ls.frT f5_ (by omega)
    have fr := fr.thenN f5_
    have rb := rb2
    have zrd := rb.lt
    have fn5 := f5_
    have rwx := RW.refl (Array.size H3) H5
    refine KL.m (M.lit rfl U30 zs54 (by decide) rfl rfl rfl) rfl ?_
    rintro _ H6 ⟨rfl, n6⟩
    have z6 := n6.2.1
    have o0 := o0.trans ((n6.1).b (by omega))
    have ls := ls.old n6.1
    have fr := fr.old n6.1
    have rb := rb.old n6.1
    have rwx := rwx.old n6.1
    have b6 := n6.2.2
    have wo := ls.w
    have se : Sl 2 (FK ECod H6 (vblock vo :: List.range (Array.size H))) H6 _ [x] := Sl.lit1N n6 rfl (by decide) (fun Hx kx_ => ⟨a, b, rfl, fk_row ra rwx hvo (by omega) (by omega) Hx kx_, fk_row rb_ rwx hvo (by omega) (by omega) Hx kx_⟩)
    have lt7 := wo.lt
    refine KL.m (M.appendE rfl U30 inf54 rfl (by decide) rfl rfl wo (se) (by omega) (by simp only [List.length_cons, List.length_nil]; omega) (by unfold maxLen; simp only [List.length_cons, List.length_nil]; omega)) rfl ?_
    rintro vn H7 ⟨w7, g7, nx7⟩
    try dsimp only at g7 nx7
    have ob7 := g7.oldBE wo (by omega)
    have o0 := o0.trans (ob7.mono (by omega))
    have z7 := ob7.1
    have fr := (by exact fr.grownN g7 (lt7.imp id (fun h => by omega)))
    have rb := rb.grownT g7 (lt7.imp id (fun h => by omega))
    have wo := w7
    have ls : LS 2 ECod 54 (Array.size H) H7 vn (acc ++ [x]) := ⟨wo⟩
    refine KL.fin 1 rfl (KQ.normBlock (KQ.r (KL.run 1 rfl ?_)))
    refine KL.q (R.sub rfl rfl rfl (by dsimp only [InR]; omega)) rfl ?_
    refine KL.fin 1 rfl ?_
    refine KQ.again ((acc ++ [x], k + kx, m - 1, vn, vx)) ?_ ?_ ?_
    · exact Sub.all rfl
    · show (m - 1).toNat < m.toNat; omega
    exact ⟨rb.cast (by simp only [List.drop_drop, Nat.add_assoc, Nat.add_zero]), ls, hpre.step (by rw [List.drop_drop]; exact hpx), fr, by show 0 ≤ m - 1; omega, by show (acc ++ [x]).length + (m - 1).toNat = _; rw [List.length_append, List.length_singleton]; omega⟩
  intro hc10
  try dsimp only at hc10
  refine KC.exit (KQ.exitThen (KQ.exitThen (KQ.hit (KQ.sr (KL.fin 2 rfl (KQ.seq (KC.ret (KQ.ofRetX (KQ.toX (KQ.fin1 Tryz.results90 rfl ?_))))))))))
  have h0 : m.toNat = 0 := by omega
  rw [h0] at hpre
  exact ⟨_, _, _, Bn.m_ok (Bn.b_ok hp0 hpre.done), ls.row (by decide), rb, fr⟩
namespace Bn
open Isp
theorem cod_one {α : Type} {f : Int → Except Int α} (g : α → Int) {W : α → Prop} (h1 : ∀ y, W y → f (g y) = .ok y) (h2 : ∀ x y, f x = .ok y → W y) : Isp.Cod (oneP f) (fun y => [g y]) W :=
  ⟨fun y hy r => by unfold oneP; simp only [List.singleton_append, h1 y hy]; rfl, fun r y k h => by
    cases r with
    | nil => simp only [oneP] at h; cases h
    | cons x r =>
      simp only [oneP] at h
      split at h
      · cases h
      next z hz => injection h with h; injection h with h3 h4; subst h3; subst h4; exact ⟨h2 _ _ hz, by simp, by simp⟩, fun y hy i hi => by
    have : i = 0 := by simpa using hi
    subst this; rfl⟩
theorem cod_ret {α : Type} (c : α) : Isp.Cod (retP c) (fun _ => []) (fun y => y = c) :=
  ⟨fun y hy r => by subst hy; rfl, fun r y k h => by unfold retP at h; injection h with h; injection h with h1 h2; subst h1; subst h2; exact ⟨rfl, by simp, by simp⟩, fun y hy i hi => by simp at hi⟩
theorem cod_never {α : Type} {e : α → List Int} : Isp.Cod (fun _ => .error 60) e (fun _ => False) := ⟨fun _ h => False.elim h, fun _ _ _ h => (by cases h), fun _ h => False.elim h⟩
theorem cod_val : Isp.Cod valP (fun t => [t]) (fun t => t = 127 ∨ t = 126) := cod_one (fun t => t) (fun y hy => by unfold valF; rw [if_neg (by omega), if_pos hy]) (fun x y h => by
  unfold valF at h
  split at h
  · cases h
  split at h
  · next hx => injection h with h; subst h; exact hx
  cases h)
theorem cod_flg : Isp.Cod flgP (fun b => [if b = true then 1 else 0]) (fun _ => True) := cod_one (fun b => if b = true then 1 else 0) (fun y _ => by cases y <;> rfl) (fun _ _ _ => trivial)
theorem cod_tag (b : Int) : Isp.Cod (tagP b) (fun _ => [b]) (fun _ => True) := cod_one (fun _ => b) (fun y _ => by unfold tagF; rw [if_pos rfl]) (fun _ _ _ => trivial)
theorem cod_knd : Isp.Cod kndP (fun k => [k]) (fun k => k ≤ 3) := cod_one (fun k => k) (fun y hy => by unfold kndF; rw [if_pos hy]) (fun x y h => by
  unfold kndF at h
  split at h
  · next hx => injection h with h; subst h; exact hx
  cases h)
theorem u_is (z : Int) : En.u z = apN false z := rfl
theorem cod_lst {α : Type} [Inhabited α] {p : Prs α} {e : α → List Int} {V : α → Prop} (hp : Isp.Cod p e V) : Isp.Cod (lstP p) (En.lst e) (fun l => l.length < 4294967296 ∧ ∀ x ∈ l, V x) := by
  refine ((cod_u32.bind fun n => hp.many n.toNat).map (·.2) (fun l => ((l.length : Int), l)) ?_).as (fun l => ?_) (fun l _ => rfl)
  · rintro ⟨n, l⟩ ⟨h1, h2, h3⟩
    simp only at h1 h2 h3
    unfold okU at h1
    have : (l.length : Int) = n := by omega
    simp only [this]
  unfold okU
  simp only [Int.toNat_natCast, and_true, true_and]
  constructor
  · rintro ⟨h1, h2⟩; exact ⟨⟨by omega, by omega⟩, h2⟩
  rintro ⟨⟨_, h1⟩, h2⟩; exact ⟨by omega, h2⟩
def LimV (x : Int × Int) : Prop := okU x.1 ∧ (x.2 = -1 ∨ okU x.2)
theorem cod_limR : ∀ b : Bool, Isp.Cod (limR b) (fun x => if b = true then En.u x.1 ++ En.u x.2 else En.u x.1) (fun x => okU x.1 ∧ (if b = true then okU x.2 else x.2 = -1))
  | true => (cod_u32.bind fun _ => cod_u32).as (fun x => by simp) (fun x _ => by simp [u_is])
  | false => (cod_u32.bind fun _ => cod_ret (-1)).as (fun x => by simp) (fun x _ => by simp [u_is])
theorem cod_lim : Isp.Cod limP En.limB LimV := by
  refine ((cod_flg.bind cod_limR).map (·.2) (fun x => (decide (0 ≤ x.2), x)) ?_).as (fun x => ?_) (fun x hx => ?_)
  · rintro ⟨b, x⟩ ⟨_, h1, h2⟩
    simp only at h1 h2 ⊢
    cases b with
    | true => simp only [if_true] at h2; unfold okU at h2; rw [decide_eq_true h2.1]
    | false => simp at h2; rw [decide_eq_false (by omega)]
  · unfold LimV okU
    simp only [and_true, true_and]
    by_cases h : 0 ≤ x.2
    · simp only [decide_eq_true h, if_true]; omega
    simp only [decide_eq_false h]; simp; omega
  unfold En.limB
  by_cases h : 0 ≤ x.2
  · rw [if_neg (by omega)]
    have h2 := hx.1.2.2
    simp only [decide_eq_true h, if_true] at h2
    unfold okU at h2
    simp only [decide_eq_true h, if_true]
    have e : x.2 % 4294967296 = x.2 := Int.emod_eq_of_lt (by omega) (by omega)
    rw [e]; rfl
  rw [if_pos (by omega)]
  simp only [decide_eq_false h]; rfl
theorem cod_tab : Isp.Cod tabP En.tabB LimV :=
  (((cod_tag 112).bind fun _ => cod_lim).map (·.2) (fun x => ((), x)) (fun x _ => rfl)).as (fun x => by simp) (fun x _ => rfl)
def GlbV (g : Glb) : Prop := g.1 = 127 ∨ g.1 = 126
theorem cod_glb : Isp.Cod glbP En.globB GlbV := (cod_val.bind fun _ => cod_flg).as (fun g => by unfold GlbV; simp) (fun g _ => rfl)
def ValsV (l : List Int) : Prop := l.length < 4294967296 ∧ ∀ t ∈ l, t = 127 ∨ t = 126
theorem cod_vals : Isp.Cod (lstP valP) (En.lst En.valB) ValsV := cod_lst cod_val
def FTyV (x : FTy) : Prop := ValsV x.1 ∧ ValsV x.2
theorem cod_typ : Isp.Cod typP En.typB FTyV :=
  (((cod_tag 96).bind fun _ => cod_vals.bind fun _ => cod_vals).map (·.2) (fun x => ((), x)) (fun x _ => rfl)).as (fun x => by unfold FTyV; simp) (fun x _ => by unfold En.typB; simp only [List.singleton_append])
def NamV (s : ByteArray) : Prop := Utf.valid (ints s) = true ∧ s.size < 4294967296
theorem cod_nam : Isp.Cod namP En.txt NamV := by
  refine ⟨fun s ⟨h1, h2⟩ r => ?_, fun r s k h => ?_, fun s ⟨h1, h2⟩ i hi => ?_⟩
  · have hb := Nm.back (ints s) r (by rw [ints_length]; exact h2)
    rw [ints_length, if_pos h1] at hb
    unfold namP
    have e : En.txt s ++ r = Lb.ap ((s.size : Nat) : Int) ++ ints s ++ r := rfl
    rw [e, hb]
    simp only
    rw [if_pos (List.all_eq_true.2 fun x hx => by have := ints_range x hx; dsimp only [InR] at this; exact decide_eq_true this), bstr_ints]
    have : (En.txt s).length = (Lb.ap ((s.size : Nat) : Int)).length + s.size := by show (En.u _ ++ ints s).length = _; rw [List.length_append, ints_length]; rfl
    rw [this]
  · unfold namP at h
    split at h
    · cases h
    next t k' ht =>
    split at h
    · next hr =>
      injection h with h; injection h with h3 h4; subst h3; subst h4
      have hr' : ∀ x ∈ t, InR .u8 x := fun x hx => by have := of_decide_eq_true (List.all_eq_true.1 hr x hx); dsimp only [InR]; exact this
      have hi : ints (bstr t) = t := ints_bstr hr'
      have hs : (bstr t).size = t.length := bstr_size hr'
      have hnt := ht
      unfold Nm.nt at ht
      split at ht
      · cases ht
      next n j hn =>
      have hb := Lb.tk32 hn
      split at ht
      · next hc =>
        injection ht with ht; injection ht with h5 h6
        have hlen : t.length = n.toNat := by rw [← h5, List.length_take, List.length_drop]; omega
        refine ⟨⟨by rw [hi, ← h5]; exact hc.2, by rw [hs, hlen]; omega⟩, ?_, by omega⟩
        show (En.u ((bstr t).size : Nat) ++ ints (bstr t)).length ≤ _
        have hsh : (Lb.ap n).length ≤ j := by unfold Lb.ap; rw [uints_length]; exact Leb.tk_short hn
        rw [List.length_append, hi, hs, hlen]
        have e : ((n.toNat : Nat) : Int) = n := by omega
        rw [e]
        show (Lb.ap n).length + n.toNat ≤ _
        omega
      cases ht
    cases h
  have h3 := ints_length s
  have hz : 0 ≤ (s.size : Int) ∧ (s.size : Int) < 4294967296 := ⟨by omega, by omega⟩
  unfold namP
  have hn : Nm.nt ((En.txt s).take i) = none := by
    show Nm.nt ((Lb.ap ((s.size : Nat) : Int) ++ ints s).take i) = none
    by_cases hc : i < (Lb.ap ((s.size : Nat) : Int)).length
    · rw [List.take_append_of_le_length (by omega)]
      have := cod_u32.cut _ (show okU ((s.size : Nat) : Int) from hz) i hc
      refine Nm.none ?_
      cases ht : Lb.tk ((Lb.ap ((s.size : Nat) : Int)).take i) 32 with
      | none => rfl
      | some z => obtain ⟨z, k⟩ := z; have h9 := u32_some ht; rw [show apN false ((s.size : Nat) : Int) = Lb.ap ((s.size : Nat) : Int) from rfl, h9] at this; cases this
    have ht := Lb.tk_ap hz.1 hz.2 ((ints s).take (i - (Lb.ap ((s.size : Nat) : Int)).length))
    rw [List.take_append, List.take_of_length_le (by omega)]
    refine Nm.bad ht (.inl ?_)
    have hi' : i < (Lb.ap ((s.size : Nat) : Int)).length + s.size := by
      have e : (En.txt s).length = (Lb.ap ((s.size : Nat) : Int)).length + s.size := by show (En.u _ ++ ints s).length = _; rw [List.length_append, h3]; rfl
      rw [e] at hi; exact hi
    rw [List.length_append, List.length_take, h3]; omega
  rw [hn]
theorem cod_impR (kd : Int) : Isp.Cod (impR kd) (fun z => if kd = 0 then En.u z.1 else if kd = 1 then En.tabB z.2.1 else if kd = 2 then En.limB z.2.1 else if kd = 3 then En.globB z.2.2 else [])
    (fun z => if kd = 0 then okU z.1 ∧ z.2 = ((0, 0), (0, false)) else if kd = 1 then LimV z.2.1 ∧ z.1 = 0 ∧ z.2.2 = (0, false) else if kd = 2 then LimV z.2.1 ∧ z.1 = 0 ∧ z.2.2 = (0, false) else if kd = 3 then GlbV z.2.2 ∧ z.1 = 0 ∧ z.2.1 = (0, 0) else False) := by
  unfold impR
  split
  · exact (cod_u32.map (fun t => (t, (0, 0), (0, false))) (fun z => z.1) (fun _ _ => rfl)).as (fun z => and_congr_right fun _ => ⟨fun h => by rw [← h], fun h => by rw [← h]⟩) (fun z _ => rfl)
  split
  · exact (cod_tab.map (fun l => (0, l, (0, false))) (fun z => z.2.1) (fun _ _ => rfl)).as (fun z => and_congr_right fun _ => ⟨fun ⟨h1, h2⟩ => by obtain ⟨a, b, c⟩ := z; dsimp only at h1 h2 ⊢; rw [h1, h2], fun h => by rw [← h]; exact ⟨rfl, rfl⟩⟩) (fun z _ => rfl)
  split
  · exact (cod_lim.map (fun l => (0, l, (0, false))) (fun z => z.2.1) (fun _ _ => rfl)).as (fun z => and_congr_right fun _ => ⟨fun ⟨h1, h2⟩ => by obtain ⟨a, b, c⟩ := z; dsimp only at h1 h2 ⊢; rw [h1, h2], fun h => by rw [← h]; exact ⟨rfl, rfl⟩⟩) (fun z _ => rfl)
  split
  · exact (cod_glb.map (fun g => (0, (0, 0), g)) (fun z => z.2.2) (fun _ _ => rfl)).as (fun z => and_congr_right fun _ => ⟨fun ⟨h1, h2⟩ => by obtain ⟨a, b, c⟩ := z; dsimp only at h1 h2 ⊢; rw [h1, h2], fun h => by rw [← h]; exact ⟨rfl, rfl⟩⟩) (fun z _ => rfl)
  exact cod_never
def ImpV (x : Imp) : Prop := NamV x.mod ∧ NamV x.nam ∧ (if x.kind = 0 then okU x.typ ∧ (x.lim, x.glob) = ((0, 0), (0, false)) else if x.kind = 1 then LimV x.lim ∧ x.typ = 0 ∧ x.glob = (0, false) else if x.kind = 2 then LimV x.lim ∧ x.typ = 0 ∧ x.glob = (0, false) else if x.kind = 3 then GlbV x.glob ∧ x.typ = 0 ∧ x.lim = (0, 0) else False)
theorem cod_imp : Isp.Cod impP En.impB ImpV :=
  ((cod_nam.bind fun _ => cod_nam.bind fun _ => cod_byte.bind cod_impR).map (fun z => (⟨z.1, z.2.1, z.2.2.1, z.2.2.2.1, z.2.2.2.2.1, z.2.2.2.2.2⟩ : Imp)) (fun x => (x.mod, x.nam, x.kind, x.typ, x.lim, x.glob)) (fun _ _ => rfl)).as
    (fun x => by unfold ImpV; simp only [true_and, and_true]) (fun x _ => by unfold En.impB En.impM; simp only [List.append_assoc, List.singleton_append])
def ExpV (x : Exp) : Prop := NamV x.nam ∧ x.kind ≤ 3 ∧ okU x.idx
theorem cod_exp : Isp.Cod expP En.expB ExpV :=
  ((cod_nam.bind fun _ => cod_knd.bind fun _ => cod_u32).map (fun z => (⟨z.1, z.2.1, z.2.2⟩ : Exp)) (fun x => (x.nam, x.kind, x.idx)) (fun _ _ => rfl)).as (fun x => by unfold ExpV; simp only [and_true]) (fun x _ => rfl)
theorem cod_xpr : Isp.Cod xprP En.exprB Isp.Has := by
  refine ⟨fun xs h r => ?_, fun r xs k h => ?_, fun xs h i hi => ?_⟩
  · have hl := flat_len (l := xs)
    have hb := expr_back xs [] ((flat xs ++ 11 :: r).length + 1) r h.1 h.2 (by simp only [List.length_append, List.length_cons]; omega)
    unfold xprP En.exprB
    rw [if_pos (En.has_yes h), List.append_assoc, List.singleton_append, hb]
    simp
  · obtain ⟨h1, h2, h3, h4⟩ := expr_sound _ _ _ _ _ h
    have hh : Isp.Has xs := ⟨h2, h1⟩
    unfold En.exprB
    rw [if_pos (En.has_yes hh)]
    exact ⟨hh, by simp; omega, h4⟩
  unfold En.exprB at hi ⊢
  rw [if_pos (En.has_yes h)] at hi ⊢
  exact expr_cut xs [] _ i h.1 h.2 (by simpa using hi)
def GloV (x : Glo) : Prop := GlbV x.1 ∧ Isp.Has x.2
theorem cod_glo : Isp.Cod gloP En.gloB GloV := (cod_glb.bind fun _ => cod_xpr).as (fun x => Iff.rfl) (fun x _ => rfl)
def ElmV (x : Elm) : Prop := okU x.1 ∧ Isp.Has x.2.1 ∧ x.2.2.length < 4294967296 ∧ ∀ y ∈ x.2.2, okU y
theorem cod_elm : Isp.Cod elmP En.elmB ElmV := (cod_u32.bind fun _ => cod_xpr.bind fun _ => cod_lst cod_u32).as (fun x => Iff.rfl) (fun x _ => by unfold En.elmB; simp only [List.append_assoc]; rfl)
def LocV (x : Int × Int) : Prop := okU x.1 ∧ (x.2 = 127 ∨ x.2 = 126)
theorem cod_loc : Isp.Cod locP En.locB LocV := (cod_u32.bind fun _ => cod_val).as (fun x => Iff.rfl) (fun x _ => rfl)
theorem cod_byt : Isp.Cod bytP (fun b => En.u (b.length : Nat) ++ b) (fun b => b.length < 4294967296) := by
  refine ⟨fun b hb r => ?_, fun r b k h => ?_, fun b hb i hi => ?_⟩
  · have h1 := cod_u32.back ((b.length : Nat) : Int) ⟨by omega, by omega⟩ (b ++ r)
    rw [List.append_assoc]
    refine (byt_ok (z := ((b.length : Nat) : Int)) h1 ?_).trans ?_
    · simp only [List.length_append, Int.toNat_natCast]; omega
    rw [List.drop_left, Int.toNat_natCast, List.take_left, List.length_append]; rfl
  · have hle := byt_le h
    unfold bytP at h
    split at h
    · cases h
    next n j hn =>
    have h0 := cod_u32.sound _ _ _ hn
    have hu := u32_le hn
    split at h
    · next hc =>
      injection h with h; injection h with h1 h2
      have hlen : b.length = n.toNat := by rw [← h1, List.length_take, List.length_drop]; omega
      refine ⟨by omega, ?_, hle.2⟩
      rw [List.length_append, hlen]
      have e : ((n.toNat : Nat) : Int) = n := by omega
      rw [e, u_is]; omega
    cases h
  by_cases hc : i < (apN false ((b.length : Nat) : Int)).length
  · have := cod_u32.cut ((b.length : Nat) : Int) ⟨by omega, by omega⟩ i hc
    show bytP ((apN false ((b.length : Nat) : Int) ++ b).take i) = _
    rw [List.take_append_of_le_length (by omega)]
    exact byt_e1 this
  have h1 := cod_u32.back ((b.length : Nat) : Int) ⟨by omega, by omega⟩ (b.take (i - (apN false ((b.length : Nat) : Int)).length))
  show bytP ((apN false ((b.length : Nat) : Int) ++ b).take i) = _
  rw [List.length_append] at hi
  rw [List.take_append, List.take_of_length_le (by omega)]
  refine byt_e h1 ?_
  rw [List.length_append, List.length_take, Int.toNat_natCast]
  have hi' : i < (apN false ((b.length : Nat) : Int)).length + b.length := hi
  omega
def DatV (x : Elm) : Prop := okU x.1 ∧ Isp.Has x.2.1 ∧ x.2.2.length < 4294967296
theorem cod_dat : Isp.Cod datP En.datB DatV := (cod_u32.bind fun _ => cod_xpr.bind fun _ => cod_byt).as (fun x => Iff.rfl) (fun x _ => by unfold En.datB; simp only [List.append_assoc]; rfl)
/-- fewer have no more bytes -/
theorem need_mono : ∀ (f : Nat) (a b : Int), 0 ≤ a → a ≤ b → Leb.need false f a ≤ Leb.need false f b
  | 0, a, b, _, _ => Nat.le_refl _
  | f + 1, a, b, h0, h => by
    simp only [Leb.need]
    have hs : ∀ z : Int, 0 ≤ z → (Leb.small false z = true ↔ z < 128) := fun z hz => by rw [Leb.small_iff (.inr hz), Leb.fit7_one]; simp; omega
    by_cases hb : Leb.small false b = true
    · rw [if_pos hb, if_pos ((hs a h0).2 (by have := (hs b (by omega)).1 hb; omega))]; exact Nat.le_refl _
    rw [if_neg hb]
    split
    · omega
    have := need_mono f (a / 128) (b / 128) (by omega) (by omega); omega
theorem u_mono {a b : Int} (h0 : 0 ≤ a) (h : a ≤ b) (h1 : b < 18446744073709551616) : (En.u a).length ≤ (En.u b).length := by
  show (Lb.ap a).length ≤ (Lb.ap b).length
  unfold Lb.ap
  rw [uints_length, uints_length, Leb.ap_length (Lb.fit10 h0 (by omega)), Leb.ap_length (Lb.fit10 (by omega) h1)]
  exact need_mono 10 a b h0 h
def CqV (c : _root_.Go.Proofs.YtldmfchamcpmmaaGreatDoor.Cod) : Prop := (c.1.length < 4294967296 ∧ ∀ x ∈ c.1, LocV x) ∧ Isp.Has c.2 ∧ En.locS c.1 < 4294967296
theorem codQ_is : codQ = bindP (lstP locP) fun ls => if En.locS ls < 4294967296 then xprP else fun _ => .error 60 := by
  funext r
  unfold codQ bindP
  cases lstP locP r with
  | error e => rfl
  | ok y =>
    obtain ⟨ls, k⟩ := y
    simp only
    split
    · cases xprP (r.drop k) <;> rfl
    rfl
theorem cod_cq : Isp.Cod codQ En.codI CqV := by
  rw [codQ_is]
  refine ((cod_lst cod_loc).bind (d := fun _ => En.exprB) (U := fun ls xs => Isp.Has xs ∧ En.locS ls < 4294967296) fun ls => ?_).as (fun c => by unfold CqV; exact Iff.rfl) (fun c _ => rfl)
  split
  · next h => exact cod_xpr.as (fun xs => by simp [h]) (fun _ _ => rfl)
  next h => exact (cod_never (e := En.exprB)).as (fun xs => by simp [h]) (fun _ h => False.elim h)
def CodV (c : _root_.Go.Proofs.YtldmfchamcpmmaaGreatDoor.Cod) : Prop := CqV c ∧ (En.codI c).length < 4294967296
theorem cod_cod : Isp.Cod codP En.codB CodV := by
  refine ⟨fun c ⟨h1, h2⟩ r => ?_, fun r c k h => ?_, fun c ⟨h1, h2⟩ i hi => ?_⟩
  · have hb := cod_byt.back _ h2 r
    have hq := cod_cq.back c h1 []
    rw [List.append_nil] at hq
    exact cod_ok hb (whole_ok hq rfl)
  · unfold codP at h
    split at h
    · cases h
    next b j hb =>
    have h3 := cod_byt.sound _ _ _ hb
    split at h
    · cases h
    next c' hc =>
    injection h with h; injection h with h4 h5; subst h4; subst h5
    unfold whole at hc
    split at hc
    · cases hc
    next x n hx =>
    split at hc
    · next hn =>
      injection hc with hc; subst hc
      have h6 := cod_cq.sound _ _ _ hx
      have h7 := h6.2.1
      have h8 := h3.2.1
      refine ⟨⟨h6.1, by omega⟩, ?_, h3.2.2⟩
      unfold En.codB
      rw [List.length_append] at h8 ⊢
      have := u_mono (a := ((En.codI x).length : Nat)) (b := (b.length : Nat)) (by omega) (by omega) (by omega)
      omega
    cases hc
  exact cod_e0 (cod_byt.cut _ h2 i hi)
end Bn
/-- a module that is being read: its struct, its rows, which last -/
structure MS (H : Heap) (gm N : Nat) (m : Mo) (t i f tb me gl ex el co da : Value) : Prop where
  b : H[gm]? = some (.cells [t, i, f, tb, me, gl, ex, .bool m.hasStart, .int .u32 m.start, el, co, da].toArray 33 (0, 0))
  rt : RowS 2 EFTy N H t m.types
  ri : RowS 8 EImp N H i m.imports
  rf : RowS 1 (EInt .u32) N H f m.funcs
  rtb : RowS 2 ELim N H tb m.tables
  rme : RowS 2 ELim N H me m.mems
  rgl : RowS 3 EGlo N H gl m.globs
  rex : RowS 3 EExp N H ex m.exports
  rel : RowS 3 EElm N H el m.elems
  rco : RowS 2 ECod N H co m.codes
  rda : RowS 3 EDat N H da m.datas
  rs : InR .u32 m.start
namespace Bn
section
variable {id : Int} {b : List Int} {m : Mo} {e : Int} {α β : Type} {x : Except Int α} {y : α} {f : α → β}
theorem mE_e (h : x = .error e) : mapE f x = .error e := by rw [h]; rfl
theorem mE_ok (h : x = .ok y) : mapE f x = .ok (f y) := by rw [h]; rfl
theorem sF_1 (h : id = 1) : secF id b m = mapE (fun x => { m with types := x }) (whole (lstP typP) b) := by subst h; rfl
theorem sF_2 (h : id = 2) : secF id b m = mapE (fun x => { m with imports := x }) (whole (lstP impP) b) := by subst h; rfl
theorem sF_3 (h : id = 3) : secF id b m = mapE (fun x => { m with funcs := x }) (whole (lstP Isp.u32P) b) := by subst h; rfl
theorem sF_4 (h : id = 4) : secF id b m = mapE (fun x => { m with tables := x }) (whole (lstP tabP) b) := by subst h; rfl
theorem sF_5 (h : id = 5) : secF id b m = mapE (fun x => { m with mems := x }) (whole (lstP limP) b) := by subst h; rfl
theorem sF_6 (h : id = 6) : secF id b m = mapE (fun x => { m with globs := x }) (whole (lstP gloP) b) := by subst h; rfl
theorem sF_7 (h : id = 7) : secF id b m = mapE (fun x => { m with exports := x }) (whole (lstP expP) b) := by subst h; rfl
theorem sF_9 (h : id = 9) : secF id b m = mapE (fun x => { m with elems := x }) (whole (lstP elmP) b) := by subst h; rfl
theorem sF_10 (h : id = 10) : secF id b m = mapE (fun x => { m with codes := x }) (whole (lstP codP) b) := by subst h; rfl
theorem sF_8 (h : id = 8) : secF id b m = mapE (fun x => { m with hasStart := true, start := x }) (whole Isp.u32P b) := by subst h; rfl
theorem sF_n (h : ∀ n : Int, 1 ≤ n → n ≤ 10 → id ≠ n) : secF id b m = mapE (fun x => { m with datas := x }) (whole (lstP datP) b) := by
  unfold secF
  rw [if_neg (h 1 (by decide) (by decide)), if_neg (h 2 (by decide) (by decide)), if_neg (h 3 (by decide) (by decide)), if_neg (h 4 (by decide) (by decide)), if_neg (h 5 (by decide) (by decide)), if_neg (h 6 (by decide) (by decide)), if_neg (h 7 (by decide) (by decide)), if_neg (h 8 (by decide) (by decide)), if_neg (h 9 (by decide) (by decide)), if_neg (h 10 (by decide) (by decide))]
end
end Bn
theorem section_any {H : Heap} {gm N : Nat} {m : Mo} {t i f tb me gl ex el co da : Value} (ms : MS H gm N m t i f tb me gl ex el co da) (hN1 : gm < N) (hN2 : N ≤ H.size) {Hb : Heap} (hT : TabU Hb) (oB : Old Hb H) (hgB : Hb.size ≤ gm) (id : Int) {vb : Value} {b : List Int} (hs : Sl 1 (EInt .u8) H vb b) (hlb : b.length ≤ 1000000) : CtX Tryz.prog 45 [.pointer (some ⟨gm, 0, none⟩), .agg [.int .u8 id, vb].toArray] H (fun _ H' => ∃ m' t' i' f' tb' me' gl' ex' el' co' da', Bn.secF id b m = .ok m' ∧ MS H' gm N m' t' i' f' tb' me' gl' ex' el' co' da' ∧ Fr gm (.slice none 0 0) H H') (fun q H' => ∃ e, Bn.secF id b m = .error e ∧ q = failB e ∧ Fr gm (.slice none 0 0) H H' ∧ ∃ cs : List Value, H'[gm]? = some (.cells cs.toArray 33 (0, 0)) ∧ cs.length = 12) := by
  refine CtX.mk Tryz.func45 rfl Tryz.ntmps45 rfl ?_
  intro W0 hW0
  have o0 : OldB 0 H H := OldB.refl _ H
  have bm := ms.b
  have hg := blk_lt bm
  have fr : Fr gm (.slice none 0 0) H H := Fr.refl _ _ _
  have oH : Old H H := Old.refl _
  have rw0 := RW.refl N H
  refine KC.sr ?_
  refine KL.m (M.box rfl rfl rfl) rfl ?_
  rintro _ H1 ⟨rfl, n1⟩
  have z1 := n1.2.1
  have o0 := o0.trans ((n1.1).b (by omega))
  have bm := (n1.1).blk bm
  have fr := fr.old n1.1
  have oB := oB.trans n1.1
  have oH := oH.trans n1.1
  have rw0 := rw0.old n1.1
  have b1 := n1.2.2
  have bs := b1
  refine KL.nil (KQ.sr (KL.run 1 rfl (KL.ld rfl (cell_of bs rfl) (KL.bd bt152 rfl ⟨hs.cells1, trivial⟩ ?_))))
  refine KL.m (M.box rfl rfl rfl) rfl ?_
  rintro _ H2 ⟨rfl, n2⟩
  have z2 := n2.2.1
  have o0 := o0.trans ((n2.1).b (by omega))
  have bm := (n2.1).blk bm
  have fr := fr.old n2.1
  have oB := oB.trans n2.1
  have oH := oH.trans n2.1
  have rw0 := rw0.old n2.1
  have bs := (n2.1).blk bs
  have b2 := n2.2.2
  have b2 := b2
  have ro : RB H2 (Array.size H1) vb b := ⟨b2, fun Hx o => hs.old (oH.then o (by omega)), hlb⟩
  have zro := ro.lt
  refine KL.fin 1 rfl (KQ.seq (KC.seq (KC.sr (KL.run 1 rfl (KL.ld rfl (cell_of bs rfl) (KL.nil (KQ.seq (KC.block (KC.sr (KL.fin 2 rfl (KQ.seq ?_)))))))))))
  refine KC.iq rfl ?_ ?_
  · intro h1
    refine KC.region (KL.run 2 rfl ?_)
    refine KL.callX rfl rfl rfl rfl Tryz.call75 rfl rfl rfl (listF_any ro) ?_ ?_
    · rintro vx H3 ⟨ex_, hx1, hx2, hx3⟩
      refine KQ.panBlock ?_
      refine KQ.panThen ?_
      exact KQ.pan (⟨_, by rw [Bn.sF_1 h1]; exact Bn.mE_e (Bn.whole_e hx1), hx2, fr.low2 hx3 (by omega) (.inl rfl), _, hx3.at_ bm (by omega), rfl⟩)
    rintro ua H4 ⟨xs, k1, v1, hp1, ra, ro2, f1_⟩
    have zf_H4 := f1_.1
    have o0 := o0.trans (f1_.low (Nat.zero_le _) (Nat.zero_le _))
    have bm := f1_.at_ bm (by omega)
    have oB := oB.then (f1_.low (by omega) (by omega)) (Nat.le_refl _)
    have rw0 := rw0.frT f1_ (by omega)
    have bs := f1_.at_ bs (by omega)
    have ro := ro2
    have zro := ro.lt
    have b2 := ro.b
    have slr := ro.sl
    have fr := fr.low2 f1_ (by omega) (.inl rfl)
    have rwra := RW.refl (Array.size H2) H4
    have hfe : ∀ hq : ¬ k1 = b.length, Bn.secF id b m = .error 60 := fun hq => by rw [Bn.sF_1 h1]; exact Bn.mE_e (Bn.whole_l hp1 hq)
    have hkl := (Bn.cod_lst Bn.cod_typ).sound _ _ _ hp1
    have hok : ∀ hq : k1 = b.length, Bn.secF id b m = .ok { m with types := xs } := fun hq => by rw [Bn.sF_1 h1]; exact Bn.mE_ok (Bn.whole_ok hp1 hq)
    refine KL.run 2 rfl ?_
    refine KL.opS (S.store rfl sz22 rfl rfl ra.cells1 ra.one bm (by simp)) rfl rfl ?_
    rintro H5 ⟨u5, b5⟩
    have o0 := o0.trans (OldB.upd u5 (by omega))
    have zu5 := u5.1
    have oB := oB.upd u5 (by omega)
    have rw0 := rw0.updT u5 (by omega)
    have bs := ((u5).2 _ (by omega)).trans bs
    have b2 := ((u5).2 _ (by omega)).trans b2
    have fr := (by exact fr.upd u5)
    have rwra := rwra.updT u5 (by omega)
    have bm := b5
    have bm : H5[gm]? = some (.cells [ua, i, f, tb, me, gl, ex, .bool m.hasStart, .int .u32 m.start, el, co, da].toArray 33 (0, 0)) := bm
    have hms : MS H5 gm N { m with types := xs } ua i f tb me gl ex el co da := ⟨bm, ra.to rwra (by omega), ms.ri.to rw0 (Nat.le_refl _), ms.rf.to rw0 (Nat.le_refl _), ms.rtb.to rw0 (Nat.le_refl _), ms.rme.to rw0 (Nat.le_refl _), ms.rgl.to rw0 (Nat.le_refl _), ms.rex.to rw0 (Nat.le_refl _), ms.rel.to rw0 (Nat.le_refl _), ms.rco.to rw0 (Nat.le_refl _), ms.rda.to rw0 (Nat.le_refl _), ms.rs⟩
    refine KL.nil (KQ.normBlock (KQ.r (KL.run 3 rfl (KL.ld rfl (cell_of b2 rfl) (KL.q (R.lenS rfl U34 rfl slr) rfl (KL.run 1 rfl ?_))))))
    refine KL.callX rfl rfl rfl rfl K46 rfl rfl rfl (must_any _) ?_ ?_
    · rintro vx _ ⟨rfl, hq, rfl⟩
      simp only [sd] at hq
      exact KQ.pan (⟨_, hfe (by simp only [List.length_drop] at hq; omega), rfl, fr, _, bm, rfl⟩)
    rintro _ _ ⟨rfl, hq, rfl⟩
    simp only [sd] at hq
    refine KL.nil (KQ.toX (KQ.fin0 V45 ?_))
    exact ⟨_, _, _, _, _, _, _, _, _, _, _, hok (by have := hkl.2.2; simp only [List.length_drop] at hq; omega), hms, fr⟩
  intro h1
  refine KC.sr (KL.fin 2 rfl (KQ.seq ?_))
  refine KC.iq rfl ?_ ?_
  · intro h2
    refine KC.region (KL.run 2 rfl ?_)
    refine KL.callX rfl rfl rfl rfl Tryz.call77 rfl rfl rfl (listI_any ro hT oB (by omega)) ?_ ?_
    · rintro vx H7 ⟨ex_, hx1, hx2, hx3⟩
      refine KQ.panBlock ?_
      refine KQ.panThen ?_
      exact KQ.pan (⟨_, by rw [Bn.sF_2 h2]; exact Bn.mE_e (Bn.whole_e hx1), hx2, fr.low2 hx3 (by omega) (.inl rfl), _, hx3.at_ bm (by omega), rfl⟩)
    rintro ua H8 ⟨xs, k1, v1, hp1, ra, ro2, f2_⟩
    have zf_H8 := f2_.1
    have o0 := o0.trans (f2_.low (Nat.zero_le _) (Nat.zero_le _))
    have bm := f2_.at_ bm (by omega)
    have oB := oB.then (f2_.low (by omega) (by omega)) (Nat.le_refl _)
    have rw0 := rw0.frT f2_ (by omega)
    have bs := f2_.at_ bs (by omega)
    have ro := ro2
    have zro := ro.lt
    have b2 := ro.b
    have slr := ro.sl
    have fr := fr.low2 f2_ (by omega) (.inl rfl)
    have rwra := RW.refl (Array.size H2) H8
    have hfe : ∀ hq : ¬ k1 = b.length, Bn.secF id b m = .error 60 := fun hq => by rw [Bn.sF_2 h2]; exact Bn.mE_e (Bn.whole_l hp1 hq)
    have hkl := (Bn.cod_lst Bn.cod_imp).sound _ _ _ hp1
    have hok : ∀ hq : k1 = b.length, Bn.secF id b m = .ok { m with imports := xs } := fun hq => by rw [Bn.sF_2 h2]; exact Bn.mE_ok (Bn.whole_ok hp1 hq)
    refine KL.run 2 rfl ?_
    refine KL.opS (S.store rfl sz23 rfl rfl ra.cells1 ra.one bm (by simp)) rfl rfl ?_
    rintro H9 ⟨u9, b9⟩
    have o0 := o0.trans (OldB.upd u9 (by omega))
    have zu9 := u9.1
    have oB := oB.upd u9 (by omega)
    have rw0 := rw0.updT u9 (by omega)
    have bs := ((u9).2 _ (by omega)).trans bs
    have b2 := ((u9).2 _ (by omega)).trans b2
    have fr := (by exact fr.upd u9)
    have rwra := rwra.updT u9 (by omega)
    have bm := b9
    have bm : H9[gm]? = some (.cells [t, ua, f, tb, me, gl, ex, .bool m.hasStart, .int .u32 m.start, el, co, da].toArray 33 (0, 0)) := bm
    have hms : MS H9 gm N { m with imports := xs } t ua f tb me gl ex el co da := ⟨bm, ms.rt.to rw0 (Nat.le_refl _), ra.to rwra (by omega), ms.rf.to rw0 (Nat.le_refl _), ms.rtb.to rw0 (Nat.le_refl _), ms.rme.to rw0 (Nat.le_refl _), ms.rgl.to rw0 (Nat.le_refl _), ms.rex.to rw0 (Nat.le_refl _), ms.rel.to rw0 (Nat.le_refl _), ms.rco.to rw0 (Nat.le_refl _), ms.rda.to rw0 (Nat.le_refl _), ms.rs⟩
    refine KL.nil (KQ.normBlock (KQ.r (KL.run 3 rfl (KL.ld rfl (cell_of b2 rfl) (KL.q (R.lenS rfl U34 rfl slr) rfl (KL.run 1 rfl ?_))))))
    refine KL.callX rfl rfl rfl rfl K46 rfl rfl rfl (must_any _) ?_ ?_
    · rintro vx _ ⟨rfl, hq, rfl⟩
      simp only [sd] at hq
      exact KQ.pan (⟨_, hfe (by simp only [List.length_drop] at hq; omega), rfl, fr, _, bm, rfl⟩)
    rintro _ _ ⟨rfl, hq, rfl⟩
    simp only [sd] at hq
    refine KL.nil (KQ.toX (KQ.fin0 V45 ?_))
    exact ⟨_, _, _, _, _, _, _, _, _, _, _, hok (by have := hkl.2.2; simp only [List.length_drop] at hq; omega), hms, fr⟩
  intro h2
  refine KC.sr (KL.fin 2 rfl (KQ.seq ?_))
  refine KC.iq rfl ?_ ?_
  · intro h3
    refine KC.region (KL.run 2 rfl ?_)
    refine KL.callX rfl rfl rfl rfl Tryz.call79 rfl rfl rfl (listU_any ro) ?_ ?_
    · rintro vx H11 ⟨ex_, hx1, hx2, hx3⟩
      refine KQ.panBlock ?_
      refine KQ.panThen ?_
      exact KQ.pan (⟨_, by rw [Bn.sF_3 h3]; exact Bn.mE_e (Bn.whole_e hx1), hx2, fr.low2 hx3 (by omega) (.inl rfl), _, hx3.at_ bm (by omega), rfl⟩)
    rintro ua H12 ⟨xs, k1, v1, hp1, ra, ro2, f3_⟩
    have zf_H12 := f3_.1
    have o0 := o0.trans (f3_.low (Nat.zero_le _) (Nat.zero_le _))
    have bm := f3_.at_ bm (by omega)
    have oB := oB.then (f3_.low (by omega) (by omega)) (Nat.le_refl _)
    have rw0 := rw0.frT f3_ (by omega)
    have bs := f3_.at_ bs (by omega)
    have ro := ro2
    have zro := ro.lt
    have b2 := ro.b
    have slr := ro.sl
    have fr := fr.low2 f3_ (by omega) (.inl rfl)
    have rwra := RW.refl (Array.size H2) H12
    have hfe : ∀ hq : ¬ k1 = b.length, Bn.secF id b m = .error 60 := fun hq => by rw [Bn.sF_3 h3]; exact Bn.mE_e (Bn.whole_l hp1 hq)
    have hkl := (Bn.cod_lst Isp.cod_u32).sound _ _ _ hp1
    have hok : ∀ hq : k1 = b.length, Bn.secF id b m = .ok { m with funcs := xs } := fun hq => by rw [Bn.sF_3 h3]; exact Bn.mE_ok (Bn.whole_ok hp1 hq)
    refine KL.run 2 rfl ?_
    refine KL.opS (S.store rfl sz24 rfl rfl ra.cells1 ra.one bm (by simp)) rfl rfl ?_
    rintro H13 ⟨u13, b13⟩
    have o0 := o0.trans (OldB.upd u13 (by omega))
    have zu13 := u13.1
    have oB := oB.upd u13 (by omega)
    have rw0 := rw0.updT u13 (by omega)
    have bs := ((u13).2 _ (by omega)).trans bs
    have b2 := ((u13).2 _ (by omega)).trans b2
    have fr := (by exact fr.upd u13)
    have rwra := rwra.updT u13 (by omega)
    have bm := b13
    have bm : H13[gm]? = some (.cells [t, i, ua, tb, me, gl, ex, .bool m.hasStart, .int .u32 m.start, el, co, da].toArray 33 (0, 0)) := bm
    have hms : MS H13 gm N { m with funcs := xs } t i ua tb me gl ex el co da := ⟨bm, ms.rt.to rw0 (Nat.le_refl _), ms.ri.to rw0 (Nat.le_refl _), ra.to rwra (by omega), ms.rtb.to rw0 (Nat.le_refl _), ms.rme.to rw0 (Nat.le_refl _), ms.rgl.to rw0 (Nat.le_refl _), ms.rex.to rw0 (Nat.le_refl _), ms.rel.to rw0 (Nat.le_refl _), ms.rco.to rw0 (Nat.le_refl _), ms.rda.to rw0 (Nat.le_refl _), ms.rs⟩
    refine KL.nil (KQ.normBlock (KQ.r (KL.run 3 rfl (KL.ld rfl (cell_of b2 rfl) (KL.q (R.lenS rfl U34 rfl slr) rfl (KL.run 1 rfl ?_))))))
    refine KL.callX rfl rfl rfl rfl K46 rfl rfl rfl (must_any _) ?_ ?_
    · rintro vx _ ⟨rfl, hq, rfl⟩
      simp only [sd] at hq
      exact KQ.pan (⟨_, hfe (by simp only [List.length_drop] at hq; omega), rfl, fr, _, bm, rfl⟩)
    rintro _ _ ⟨rfl, hq, rfl⟩
    simp only [sd] at hq
    refine KL.nil (KQ.toX (KQ.fin0 V45 ?_))
    exact ⟨_, _, _, _, _, _, _, _, _, _, _, hok (by have := hkl.2.2; simp only [List.length_drop] at hq; omega), hms, fr⟩
  intro h3
  refine KC.sr (KL.fin 2 rfl (KQ.seq ?_))
  refine KC.iq rfl ?_ ?_
  · intro h4
    refine KC.region (KL.run 2 rfl ?_)
    refine KL.callX rfl rfl rfl rfl Tryz.call81 rfl rfl rfl (listT_any ro) ?_ ?_
    · rintro vx H15 ⟨ex_, hx1, hx2, hx3⟩
      refine KQ.panBlock ?_
      refine KQ.panThen ?_
      exact KQ.pan (⟨_, by rw [Bn.sF_4 h4]; exact Bn.mE_e (Bn.whole_e hx1), hx2, fr.low2 hx3 (by omega) (.inl rfl), _, hx3.at_ bm (by omega), rfl⟩)
    rintro ua H16 ⟨xs, k1, v1, hp1, ra, ro2, f4_⟩
    have zf_H16 := f4_.1
    have o0 := o0.trans (f4_.low (Nat.zero_le _) (Nat.zero_le _))
    have bm := f4_.at_ bm (by omega)
    have oB := oB.then (f4_.low (by omega) (by omega)) (Nat.le_refl _)
    have rw0 := rw0.frT f4_ (by omega)
    have bs := f4_.at_ bs (by omega)
    have ro := ro2
    have zro := ro.lt
    have b2 := ro.b
    have slr := ro.sl
    have fr := fr.low2 f4_ (by omega) (.inl rfl)
    have rwra := RW.refl (Array.size H2) H16
    have hfe : ∀ hq : ¬ k1 = b.length, Bn.secF id b m = .error 60 := fun hq => by rw [Bn.sF_4 h4]; exact Bn.mE_e (Bn.whole_l hp1 hq)
    have hkl := (Bn.cod_lst Bn.cod_tab).sound _ _ _ hp1
    have hok : ∀ hq : k1 = b.length, Bn.secF id b m = .ok { m with tables := xs } := fun hq => by rw [Bn.sF_4 h4]; exact Bn.mE_ok (Bn.whole_ok hp1 hq)
    refine KL.run 2 rfl ?_
    refine KL.opS (S.store rfl sz25 rfl rfl ra.cells1 ra.one bm (by simp)) rfl rfl ?_
    rintro H17 ⟨u17, b17⟩
    have o0 := o0.trans (OldB.upd u17 (by omega))
    have zu17 := u17.1
    have oB := oB.upd u17 (by omega)
    have rw0 := rw0.updT u17 (by omega)
    have bs := ((u17).2 _ (by omega)).trans bs
    have b2 := ((u17).2 _ (by omega)).trans b2
    have fr := (by exact fr.upd u17)
    have rwra := rwra.updT u17 (by omega)
    have bm := b17
    have bm : H17[gm]? = some (.cells [t, i, f, ua, me, gl, ex, .bool m.hasStart, .int .u32 m.start, el, co, da].toArray 33 (0, 0)) := bm
    have hms : MS H17 gm N { m with tables := xs } t i f ua me gl ex el co da := ⟨bm, ms.rt.to rw0 (Nat.le_refl _), ms.ri.to rw0 (Nat.le_refl _), ms.rf.to rw0 (Nat.le_refl _), ra.to rwra (by omega), ms.rme.to rw0 (Nat.le_refl _), ms.rgl.to rw0 (Nat.le_refl _), ms.rex.to rw0 (Nat.le_refl _), ms.rel.to rw0 (Nat.le_refl _), ms.rco.to rw0 (Nat.le_refl _), ms.rda.to rw0 (Nat.le_refl _), ms.rs⟩
    refine KL.nil (KQ.normBlock (KQ.r (KL.run 3 rfl (KL.ld rfl (cell_of b2 rfl) (KL.q (R.lenS rfl U34 rfl slr) rfl (KL.run 1 rfl ?_))))))
    refine KL.callX rfl rfl rfl rfl K46 rfl rfl rfl (must_any _) ?_ ?_
    · rintro vx _ ⟨rfl, hq, rfl⟩
      simp only [sd] at hq
      exact KQ.pan (⟨_, hfe (by simp only [List.length_drop] at hq; omega), rfl, fr, _, bm, rfl⟩)
    rintro _ _ ⟨rfl, hq, rfl⟩
    simp only [sd] at hq
    refine KL.nil (KQ.toX (KQ.fin0 V45 ?_))
    exact ⟨_, _, _, _, _, _, _, _, _, _, _, hok (by have := hkl.2.2; simp only [List.length_drop] at hq; omega), hms, fr⟩
  intro h4
  refine KC.sr (KL.fin 2 rfl (KQ.seq ?_))
  refine KC.iq rfl ?_ ?_
  · intro h5
    refine KC.region (KL.run 2 rfl ?_)
    refine KL.callX rfl rfl rfl rfl Tryz.call81 rfl rfl rfl (listM_any ro) ?_ ?_
    · rintro vx H19 ⟨ex_, hx1, hx2, hx3⟩
      refine KQ.panBlock ?_
      refine KQ.panThen ?_
      exact KQ.pan (⟨_, by rw [Bn.sF_5 h5]; exact Bn.mE_e (Bn.whole_e hx1), hx2, fr.low2 hx3 (by omega) (.inl rfl), _, hx3.at_ bm (by omega), rfl⟩)
    rintro ua H20 ⟨xs, k1, v1, hp1, ra, ro2, f5_⟩
    have zf_H20 := f5_.1
    have o0 := o0.trans (f5_.low (Nat.zero_le _) (Nat.zero_le _))
    have bm := f5_.at_ bm (by omega)
    have oB := oB.then (f5_.low (by omega) (by omega)) (Nat.le_refl _)
    have rw0 := rw0.frT f5_ (by omega)
    have bs := f5_.at_ bs (by omega)
    have ro := ro2
    have zro := ro.lt
    have b2 := ro.b
    have slr := ro.sl
    have fr := fr.low2 f5_ (by omega) (.inl rfl)
    have rwra := RW.refl (Array.size H2) H20
    have hfe : ∀ hq : ¬ k1 = b.length, Bn.secF id b m = .error 60 := fun hq => by rw [Bn.sF_5 h5]; exact Bn.mE_e (Bn.whole_l hp1 hq)
    have hkl := (Bn.cod_lst Bn.cod_lim).sound _ _ _ hp1
    have hok : ∀ hq : k1 = b.length, Bn.secF id b m = .ok { m with mems := xs } := fun hq => by rw [Bn.sF_5 h5]; exact Bn.mE_ok (Bn.whole_ok hp1 hq)
    refine KL.run 2 rfl ?_
    refine KL.opS (S.store rfl sz25 rfl rfl ra.cells1 ra.one bm (by simp)) rfl rfl ?_
    rintro H21 ⟨u21, b21⟩
    have o0 := o0.trans (OldB.upd u21 (by omega))
    have zu21 := u21.1
    have oB := oB.upd u21 (by omega)
    have rw0 := rw0.updT u21 (by omega)
    have bs := ((u21).2 _ (by omega)).trans bs
    have b2 := ((u21).2 _ (by omega)).trans b2
    have fr := (by exact fr.upd u21)
    have rwra := rwra.updT u21 (by omega)
    have bm := b21
    have bm : H21[gm]? = some (.cells [t, i, f, tb, ua, gl, ex, .bool m.hasStart, .int .u32 m.start, el, co, da].toArray 33 (0, 0)) := bm
    have hms : MS H21 gm N { m with mems := xs } t i f tb ua gl ex el co da := ⟨bm, ms.rt.to rw0 (Nat.le_refl _), ms.ri.to rw0 (Nat.le_refl _), ms.rf.to rw0 (Nat.le_refl _), ms.rtb.to rw0 (Nat.le_refl _), ra.to rwra (by omega), ms.rgl.to rw0 (Nat.le_refl _), ms.rex.to rw0 (Nat.le_refl _), ms.rel.to rw0 (Nat.le_refl _), ms.rco.to rw0 (Nat.le_refl _), ms.rda.to rw0 (Nat.le_refl _), ms.rs⟩
    refine KL.nil (KQ.normBlock (KQ.r (KL.run 3 rfl (KL.ld rfl (cell_of b2 rfl) (KL.q (R.lenS rfl U34 rfl slr) rfl (KL.run 1 rfl ?_))))))
    refine KL.callX rfl rfl rfl rfl K46 rfl rfl rfl (must_any _) ?_ ?_
    · rintro vx _ ⟨rfl, hq, rfl⟩
      simp only [sd] at hq
      exact KQ.pan (⟨_, hfe (by simp only [List.length_drop] at hq; omega), rfl, fr, _, bm, rfl⟩)
    rintro _ _ ⟨rfl, hq, rfl⟩
    simp only [sd] at hq
    refine KL.nil (KQ.toX (KQ.fin0 V45 ?_))
    exact ⟨_, _, _, _, _, _, _, _, _, _, _, hok (by have := hkl.2.2; simp only [List.length_drop] at hq; omega), hms, fr⟩
  intro h5
  refine KC.sr (KL.fin 2 rfl (KQ.seq ?_))
  refine KC.iq rfl ?_ ?_
  · intro h6
    refine KC.region (KL.run 2 rfl ?_)
    refine KL.callX rfl rfl rfl rfl Tryz.call84 rfl rfl rfl (listG_any ro) ?_ ?_
    · rintro vx H23 ⟨ex_, hx1, hx2, hx3⟩
      refine KQ.panBlock ?_
      refine KQ.panThen ?_
      exact KQ.pan (⟨_, by rw [Bn.sF_6 h6]; exact Bn.mE_e (Bn.whole_e hx1), hx2, fr.low2 hx3 (by omega) (.inl rfl), _, hx3.at_ bm (by omega), rfl⟩)
    rintro ua H24 ⟨xs, k1, v1, hp1, ra, ro2, f6_⟩
    have zf_H24 := f6_.1
    have o0 := o0.trans (f6_.low (Nat.zero_le _) (Nat.zero_le _))
    have bm := f6_.at_ bm (by omega)
    have oB := oB.then (f6_.low (by omega) (by omega)) (Nat.le_refl _)
    have rw0 := rw0.frT f6_ (by omega)
    have bs := f6_.at_ bs (by omega)
    have ro := ro2
    have zro := ro.lt
    have b2 := ro.b
    have slr := ro.sl
    have fr := fr.low2 f6_ (by omega) (.inl rfl)
    have rwra := RW.refl (Array.size H2) H24
    have hfe : ∀ hq : ¬ k1 = b.length, Bn.secF id b m = .error 60 := fun hq => by rw [Bn.sF_6 h6]; exact Bn.mE_e (Bn.whole_l hp1 hq)
    have hkl := (Bn.cod_lst Bn.cod_glo).sound _ _ _ hp1
    have hok : ∀ hq : k1 = b.length, Bn.secF id b m = .ok { m with globs := xs } := fun hq => by rw [Bn.sF_6 h6]; exact Bn.mE_ok (Bn.whole_ok hp1 hq)
    refine KL.run 2 rfl ?_
    refine KL.opS (S.store rfl sz26 rfl rfl ra.cells1 ra.one bm (by simp)) rfl rfl ?_
    rintro H25 ⟨u25, b25⟩
    have o0 := o0.trans (OldB.upd u25 (by omega))
    have zu25 := u25.1
    have oB := oB.upd u25 (by omega)
    have rw0 := rw0.updT u25 (by omega)
    have bs := ((u25).2 _ (by omega)).trans bs
    have b2 := ((u25).2 _ (by omega)).trans b2
    have fr := (by exact fr.upd u25)
    have rwra := rwra.updT u25 (by omega)
    have bm := b25
    have bm : H25[gm]? = some (.cells [t, i, f, tb, me, ua, ex, .bool m.hasStart, .int .u32 m.start, el, co, da].toArray 33 (0, 0)) := bm
    have hms : MS H25 gm N { m with globs := xs } t i f tb me ua ex el co da := ⟨bm, ms.rt.to rw0 (Nat.le_refl _), ms.ri.to rw0 (Nat.le_refl _), ms.rf.to rw0 (Nat.le_refl _), ms.rtb.to rw0 (Nat.le_refl _), ms.rme.to rw0 (Nat.le_refl _), ra.to rwra (by omega), ms.rex.to rw0 (Nat.le_refl _), ms.rel.to rw0 (Nat.le_refl _), ms.rco.to rw0 (Nat.le_refl _), ms.rda.to rw0 (Nat.le_refl _), ms.rs⟩
    refine KL.nil (KQ.normBlock (KQ.r (KL.run 3 rfl (KL.ld rfl (cell_of b2 rfl) (KL.q (R.lenS rfl U34 rfl slr) rfl (KL.run 1 rfl ?_))))))
    refine KL.callX rfl rfl rfl rfl K46 rfl rfl rfl (must_any _) ?_ ?_
    · rintro vx _ ⟨rfl, hq, rfl⟩
      simp only [sd] at hq
      exact KQ.pan (⟨_, hfe (by simp only [List.length_drop] at hq; omega), rfl, fr, _, bm, rfl⟩)
    rintro _ _ ⟨rfl, hq, rfl⟩
    simp only [sd] at hq
    refine KL.nil (KQ.toX (KQ.fin0 V45 ?_))
    exact ⟨_, _, _, _, _, _, _, _, _, _, _, hok (by have := hkl.2.2; simp only [List.length_drop] at hq; omega), hms, fr⟩
  intro h6
  refine KC.sr (KL.fin 2 rfl (KQ.seq ?_))
  refine KC.iq rfl ?_ ?_
  · intro h7
    refine KC.region (KL.run 2 rfl ?_)
    refine KL.callX rfl rfl rfl rfl Tryz.call86 rfl rfl rfl (listE_any ro hT oB (by omega)) ?_ ?_
    · rintro vx H27 ⟨ex_, hx1, hx2, hx3⟩
      refine KQ.panBlock ?_
      refine KQ.panThen ?_
      exact KQ.pan (⟨_, by rw [Bn.sF_7 h7]; exact Bn.mE_e (Bn.whole_e hx1), hx2, fr.low2 hx3 (by omega) (.inl rfl), _, hx3.at_ bm (by omega), rfl⟩)
    rintro ua H28 ⟨xs, k1, v1, hp1, ra, ro2, f7_⟩
    have zf_H28 := f7_.1
    have o0 := o0.trans (f7_.low (Nat.zero_le _) (Nat.zero_le _))
    have bm := f7_.at_ bm (by omega)
    have oB := oB.then (f7_.low (by omega) (by omega)) (Nat.le_refl _)
    have rw0 := rw0.frT f7_ (by omega)
    have bs := f7_.at_ bs (by omega)
    have ro := ro2
    have zro := ro.lt
    have b2 := ro.b
    have slr := ro.sl
    have fr := fr.low2 f7_ (by omega) (.inl rfl)
    have rwra := RW.refl (Array.size H2) H28
    have hfe : ∀ hq : ¬ k1 = b.length, Bn.secF id b m = .error 60 := fun hq => by rw [Bn.sF_7 h7]; exact Bn.mE_e (Bn.whole_l hp1 hq)
    have hkl := (Bn.cod_lst Bn.cod_exp).sound _ _ _ hp1
    have hok : ∀ hq : k1 = b.length, Bn.secF id b m = .ok { m with exports := xs } := fun hq => by rw [Bn.sF_7 h7]; exact Bn.mE_ok (Bn.whole_ok hp1 hq)
    refine KL.run 2 rfl ?_
    refine KL.opS (S.store rfl sz27 rfl rfl ra.cells1 ra.one bm (by simp)) rfl rfl ?_
    rintro H29 ⟨u29, b29⟩
    have o0 := o0.trans (OldB.upd u29 (by omega))
    have zu29 := u29.1
    have oB := oB.upd u29 (by omega)
    have rw0 := rw0.updT u29 (by omega)
    have bs := ((u29).2 _ (by omega)).trans bs
    have b2 := ((u29).2 _ (by omega)).trans b2
    have fr := (by exact fr.upd u29)
    have rwra := rwra.updT u29 (by omega)
    have bm := b29
    have bm : H29[gm]? = some (.cells [t, i, f, tb, me, gl, ua, .bool m.hasStart, .int .u32 m.start, el, co, da].toArray 33 (0, 0)) := bm
    have hms : MS H29 gm N { m with exports := xs } t i f tb me gl ua el co da := ⟨bm, ms.rt.to rw0 (Nat.le_refl _), ms.ri.to rw0 (Nat.le_refl _), ms.rf.to rw0 (Nat.le_refl _), ms.rtb.to rw0 (Nat.le_refl _), ms.rme.to rw0 (Nat.le_refl _), ms.rgl.to rw0 (Nat.le_refl _), ra.to rwra (by omega), ms.rel.to rw0 (Nat.le_refl _), ms.rco.to rw0 (Nat.le_refl _), ms.rda.to rw0 (Nat.le_refl _), ms.rs⟩
    refine KL.nil (KQ.normBlock (KQ.r (KL.run 3 rfl (KL.ld rfl (cell_of b2 rfl) (KL.q (R.lenS rfl U34 rfl slr) rfl (KL.run 1 rfl ?_))))))
    refine KL.callX rfl rfl rfl rfl K46 rfl rfl rfl (must_any _) ?_ ?_
    · rintro vx _ ⟨rfl, hq, rfl⟩
      simp only [sd] at hq
      exact KQ.pan (⟨_, hfe (by simp only [List.length_drop] at hq; omega), rfl, fr, _, bm, rfl⟩)
    rintro _ _ ⟨rfl, hq, rfl⟩
    simp only [sd] at hq
    refine KL.nil (KQ.toX (KQ.fin0 V45 ?_))
    exact ⟨_, _, _, _, _, _, _, _, _, _, _, hok (by have := hkl.2.2; simp only [List.length_drop] at hq; omega), hms, fr⟩
  intro h7
  refine KC.sr (KL.fin 2 rfl (KQ.seq ?_))
  refine KC.iq rfl ?_ ?_
  · intro h8
    refine KC.region (KL.run 3 rfl ?_)
    refine KL.callX rfl rfl rfl rfl K80 rfl rfl rfl (bu32_any ro) ?_ ?_
    · rintro vx H31 ⟨ex_, hx1, hx2, hx3⟩
      refine KQ.panBlock ?_
      refine KQ.panThen ?_
      exact KQ.pan (⟨_, by rw [Bn.sF_8 h8]; exact Bn.mE_e (Bn.whole_e hx1), hx2, fr.low2 hx3 (by omega) (.inl rfl), _, hx3.at_ bm (by omega), rfl⟩)
    rintro _ H32 ⟨xs, k1, v1, hp1, rfl, hxs, ro2, f8_⟩
    have zf_H32 := f8_.1
    have o0 := o0.trans (f8_.low (Nat.zero_le _) (Nat.zero_le _))
    have bm := f8_.at_ bm (by omega)
    have oB := oB.then (f8_.low (by omega) (by omega)) (Nat.le_refl _)
    have rw0 := rw0.frT f8_ (by omega)
    have bs := f8_.at_ bs (by omega)
    have ro := ro2
    have zro := ro.lt
    have b2 := ro.b
    have slr := ro.sl
    have fr := fr.low2 f8_ (by omega) (.inl rfl)
    have hfe : ∀ hq : ¬ k1 = b.length, Bn.secF id b m = .error 60 := fun hq => by rw [Bn.sF_8 h8]; exact Bn.mE_e (Bn.whole_l hp1 hq)
    have hkl := Isp.cod_u32.sound _ _ _ hp1
    have hok : ∀ hq : k1 = b.length, Bn.secF id b m = .ok { m with hasStart := true, start := xs } := fun hq => by rw [Bn.sF_8 h8]; exact Bn.mE_ok (Bn.whole_ok hp1 hq)
    refine KL.run 2 rfl ?_
    refine KL.opS (S.store rfl sz4 rfl rfl rfl rfl bm (by simp)) rfl rfl ?_
    rintro H33 ⟨u33, b33⟩
    have o0 := o0.trans (OldB.upd u33 (by omega))
    have zu33 := u33.1
    have oB := oB.upd u33 (by omega)
    have rw0 := rw0.updT u33 (by omega)
    have bs := ((u33).2 _ (by omega)).trans bs
    have b2 := ((u33).2 _ (by omega)).trans b2
    have fr := (by exact fr.upd u33)
    have bm := b33
    refine KL.run 2 rfl ?_
    refine KL.opS (S.store rfl sz28 rfl rfl rfl rfl bm (by simp)) rfl rfl ?_
    rintro H34 ⟨u34, b34⟩
    have o0 := o0.trans (OldB.upd u34 (by omega))
    have zu34 := u34.1
    have oB := oB.upd u34 (by omega)
    have rw0 := rw0.updT u34 (by omega)
    have bs := ((u34).2 _ (by omega)).trans bs
    have b2 := ((u34).2 _ (by omega)).trans b2
    have fr := (by exact fr.upd u34)
    have bm := b34
    have bm : H34[gm]? = some (.cells [t, i, f, tb, me, gl, ex, .bool true, .int .u32 xs, el, co, da].toArray 33 (0, 0)) := bm
    have hms : MS H34 gm N { m with hasStart := true, start := xs } t i f tb me gl ex el co da := ⟨bm, ms.rt.to rw0 (Nat.le_refl _), ms.ri.to rw0 (Nat.le_refl _), ms.rf.to rw0 (Nat.le_refl _), ms.rtb.to rw0 (Nat.le_refl _), ms.rme.to rw0 (Nat.le_refl _), ms.rgl.to rw0 (Nat.le_refl _), ms.rex.to rw0 (Nat.le_refl _), ms.rel.to rw0 (Nat.le_refl _), ms.rco.to rw0 (Nat.le_refl _), ms.rda.to rw0 (Nat.le_refl _), hxs⟩
    refine KL.nil (KQ.normBlock (KQ.r (KL.run 3 rfl (KL.ld rfl (cell_of b2 rfl) (KL.q (R.lenS rfl U34 rfl slr) rfl (KL.run 1 rfl ?_))))))
    refine KL.callX rfl rfl rfl rfl K46 rfl rfl rfl (must_any _) ?_ ?_
    · rintro vx _ ⟨rfl, hq, rfl⟩
      simp only [sd] at hq
      exact KQ.pan (⟨_, hfe (by simp only [List.length_drop] at hq; omega), rfl, fr, _, bm, rfl⟩)
    rintro _ _ ⟨rfl, hq, rfl⟩
    simp only [sd] at hq
    refine KL.nil (KQ.toX (KQ.fin0 V45 ?_))
    exact ⟨_, _, _, _, _, _, _, _, _, _, _, hok (by have := hkl.2.2; simp only [List.length_drop] at hq; omega), hms, fr⟩
  intro h8
  refine KC.sr (KL.fin 2 rfl (KQ.seq ?_))
  refine KC.iq rfl ?_ ?_
  · intro h9
    refine KC.region (KL.run 2 rfl ?_)
    refine KL.callX rfl rfl rfl rfl Tryz.call88 rfl rfl rfl (listX_any ro) ?_ ?_
    · rintro vx H36 ⟨ex_, hx1, hx2, hx3⟩
      refine KQ.panBlock ?_
      refine KQ.panThen ?_
      exact KQ.pan (⟨_, by rw [Bn.sF_9 h9]; exact Bn.mE_e (Bn.whole_e hx1), hx2, fr.low2 hx3 (by omega) (.inl rfl), _, hx3.at_ bm (by omega), rfl⟩)
    rintro ua H37 ⟨xs, k1, v1, hp1, ra, ro2, f9_⟩
    have zf_H37 := f9_.1
    have o0 := o0.trans (f9_.low (Nat.zero_le _) (Nat.zero_le _))
    have bm := f9_.at_ bm (by omega)
    have oB := oB.then (f9_.low (by omega) (by omega)) (Nat.le_refl _)
    have rw0 := rw0.frT f9_ (by omega)
    have bs := f9_.at_ bs (by omega)
    have ro := ro2
    have zro := ro.lt
    have b2 := ro.b
    have slr := ro.sl
    have fr := fr.low2 f9_ (by omega) (.inl rfl)
    have rwra := RW.refl (Array.size H2) H37
    have hfe : ∀ hq : ¬ k1 = b.length, Bn.secF id b m = .error 60 := fun hq => by rw [Bn.sF_9 h9]; exact Bn.mE_e (Bn.whole_l hp1 hq)
    have hkl := (Bn.cod_lst Bn.cod_elm).sound _ _ _ hp1
    have hok : ∀ hq : k1 = b.length, Bn.secF id b m = .ok { m with elems := xs } := fun hq => by rw [Bn.sF_9 h9]; exact Bn.mE_ok (Bn.whole_ok hp1 hq)
    refine KL.run 2 rfl ?_
    refine KL.opS (S.store rfl sz29 rfl rfl ra.cells1 ra.one bm (by simp)) rfl rfl ?_
    rintro H38 ⟨u38, b38⟩
    have o0 := o0.trans (OldB.upd u38 (by omega))
    have zu38 := u38.1
    have oB := oB.upd u38 (by omega)
    have rw0 := rw0.updT u38 (by omega)
    have bs := ((u38).2 _ (by omega)).trans bs
    have b2 := ((u38).2 _ (by omega)).trans b2
    have fr := (by exact fr.upd u38)
    have rwra := rwra.updT u38 (by omega)
    have bm := b38
    have bm : H38[gm]? = some (.cells [t, i, f, tb, me, gl, ex, .bool m.hasStart, .int .u32 m.start, ua, co, da].toArray 33 (0, 0)) := bm
    have hms : MS H38 gm N { m with elems := xs } t i f tb me gl ex ua co da := ⟨bm, ms.rt.to rw0 (Nat.le_refl _), ms.ri.to rw0 (Nat.le_refl _), ms.rf.to rw0 (Nat.le_refl _), ms.rtb.to rw0 (Nat.le_refl _), ms.rme.to rw0 (Nat.le_refl _), ms.rgl.to rw0 (Nat.le_refl _), ms.rex.to rw0 (Nat.le_refl _), ra.to rwra (by omega), ms.rco.to rw0 (Nat.le_refl _), ms.rda.to rw0 (Nat.le_refl _), ms.rs⟩
    refine KL.nil (KQ.normBlock (KQ.r (KL.run 3 rfl (KL.ld rfl (cell_of b2 rfl) (KL.q (R.lenS rfl U34 rfl slr) rfl (KL.run 1 rfl ?_))))))
    refine KL.callX rfl rfl rfl rfl K46 rfl rfl rfl (must_any _) ?_ ?_
    · rintro vx _ ⟨rfl, hq, rfl⟩
      simp only [sd] at hq
      exact KQ.pan (⟨_, hfe (by simp only [List.length_drop] at hq; omega), rfl, fr, _, bm, rfl⟩)
    rintro _ _ ⟨rfl, hq, rfl⟩
    simp only [sd] at hq
    refine KL.nil (KQ.toX (KQ.fin0 V45 ?_))
    exact ⟨_, _, _, _, _, _, _, _, _, _, _, hok (by have := hkl.2.2; simp only [List.length_drop] at hq; omega), hms, fr⟩
  intro h9
  refine KC.sr (KL.fin 2 rfl (KQ.seq ?_))
  refine KC.iq rfl ?_ ?_
  · intro h10
    refine KC.region (KL.run 2 rfl ?_)
    refine KL.callX rfl rfl rfl rfl Tryz.call90 rfl rfl rfl (listC_any ro) ?_ ?_
    · rintro vx H40 ⟨ex_, hx1, hx2, hx3⟩
      refine KQ.panBlock ?_
      refine KQ.panThen ?_
      exact KQ.pan (⟨_, by rw [Bn.sF_10 h10]; exact Bn.mE_e (Bn.whole_e hx1), hx2, fr.low2 hx3 (by omega) (.inl rfl), _, hx3.at_ bm (by omega), rfl⟩)
    rintro ua H41 ⟨xs, k1, v1, hp1, ra, ro2, f10_⟩
    have zf_H41 := f10_.1
    have o0 := o0.trans (f10_.low (Nat.zero_le _) (Nat.zero_le _))
    have bm := f10_.at_ bm (by omega)
    have oB := oB.then (f10_.low (by omega) (by omega)) (Nat.le_refl _)
    have rw0 := rw0.frT f10_ (by omega)
    have bs := f10_.at_ bs (by omega)
    have ro := ro2
    have zro := ro.lt
    have b2 := ro.b
    have slr := ro.sl
    have fr := fr.low2 f10_ (by omega) (.inl rfl)
    have rwra := RW.refl (Array.size H2) H41
    have hfe : ∀ hq : ¬ k1 = b.length, Bn.secF id b m = .error 60 := fun hq => by rw [Bn.sF_10 h10]; exact Bn.mE_e (Bn.whole_l hp1 hq)
    have hkl := (Bn.cod_lst Bn.cod_cod).sound _ _ _ hp1
    have hok : ∀ hq : k1 = b.length, Bn.secF id b m = .ok { m with codes := xs } := fun hq => by rw [Bn.sF_10 h10]; exact Bn.mE_ok (Bn.whole_ok hp1 hq)
    refine KL.run 2 rfl ?_
    refine KL.opS (S.store rfl sz30 rfl rfl ra.cells1 ra.one bm (by simp)) rfl rfl ?_
    rintro H42 ⟨u42, b42⟩
    have o0 := o0.trans (OldB.upd u42 (by omega))
    have zu42 := u42.1
    have oB := oB.upd u42 (by omega)
    have rw0 := rw0.updT u42 (by omega)
    have bs := ((u42).2 _ (by omega)).trans bs
    have b2 := ((u42).2 _ (by omega)).trans b2
    have fr := (by exact fr.upd u42)
    have rwra := rwra.updT u42 (by omega)
    have bm := b42
    have bm : H42[gm]? = some (.cells [t, i, f, tb, me, gl, ex, .bool m.hasStart, .int .u32 m.start, el, ua, da].toArray 33 (0, 0)) := bm
    have hms : MS H42 gm N { m with codes := xs } t i f tb me gl ex el ua da := ⟨bm, ms.rt.to rw0 (Nat.le_refl _), ms.ri.to rw0 (Nat.le_refl _), ms.rf.to rw0 (Nat.le_refl _), ms.rtb.to rw0 (Nat.le_refl _), ms.rme.to rw0 (Nat.le_refl _), ms.rgl.to rw0 (Nat.le_refl _), ms.rex.to rw0 (Nat.le_refl _), ms.rel.to rw0 (Nat.le_refl _), ra.to rwra (by omega), ms.rda.to rw0 (Nat.le_refl _), ms.rs⟩
    refine KL.nil (KQ.normBlock (KQ.r (KL.run 3 rfl (KL.ld rfl (cell_of b2 rfl) (KL.q (R.lenS rfl U34 rfl slr) rfl (KL.run 1 rfl ?_))))))
    refine KL.callX rfl rfl rfl rfl K46 rfl rfl rfl (must_any _) ?_ ?_
    · rintro vx _ ⟨rfl, hq, rfl⟩
      simp only [sd] at hq
      exact KQ.pan (⟨_, hfe (by simp only [List.length_drop] at hq; omega), rfl, fr, _, bm, rfl⟩)
    rintro _ _ ⟨rfl, hq, rfl⟩
    simp only [sd] at hq
    refine KL.nil (KQ.toX (KQ.fin0 V45 ?_))
    exact ⟨_, _, _, _, _, _, _, _, _, _, _, hok (by have := hkl.2.2; simp only [List.length_drop] at hq; omega), hms, fr⟩
  intro h10
  refine KC.region (KL.run 2 rfl ?_)
  refine KL.callX rfl rfl rfl rfl Tryz.call92 rfl rfl rfl (listD_any ro) ?_ ?_
  · rintro vx H44 ⟨ex_, hx1, hx2, hx3⟩
    refine KQ.panBlock ?_
    refine KQ.panThen ?_
    exact KQ.pan (⟨_, by rw [Bn.sF_n (fun n h_ h__ => by omega)]; exact Bn.mE_e (Bn.whole_e hx1), hx2, fr.low2 hx3 (by omega) (.inl rfl), _, hx3.at_ bm (by omega), rfl⟩)
  rintro ua H45 ⟨xs, k1, v1, hp1, ra, ro2, f11_⟩
  have zf_H45 := f11_.1
  have o0 := o0.trans (f11_.low (Nat.zero_le _) (Nat.zero_le _))
  have bm := f11_.at_ bm (by omega)
  have oB := oB.then (f11_.low (by omega) (by omega)) (Nat.le_refl _)
  have rw0 := rw0.frT f11_ (by omega)
  have bs := f11_.at_ bs (by omega)
  have ro := ro2
  have zro := ro.lt
  have b2 := ro.b
  have slr := ro.sl
  have fr := fr.low2 f11_ (by omega) (.inl rfl)
  have rwra := RW.refl (Array.size H2) H45
  have hfe : ∀ hq : ¬ k1 = b.length, Bn.secF id b m = .error 60 := fun hq => by rw [Bn.sF_n (fun n h_ h__ => by omega)]; exact Bn.mE_e (Bn.whole_l hp1 hq)
  have hkl := (Bn.cod_lst Bn.cod_dat).sound _ _ _ hp1
  have hok : ∀ hq : k1 = b.length, Bn.secF id b m = .ok { m with datas := xs } := fun hq => by rw [Bn.sF_n (fun n h_ h__ => by omega)]; exact Bn.mE_ok (Bn.whole_ok hp1 hq)
  refine KL.run 2 rfl ?_
  refine KL.opS (S.store rfl sz31 rfl rfl ra.cells1 ra.one bm (by simp)) rfl rfl ?_
  rintro H46 ⟨u46, b46⟩
  have o0 := o0.trans (OldB.upd u46 (by omega))
  have zu46 := u46.1
  have oB := oB.upd u46 (by omega)
  have rw0 := rw0.updT u46 (by omega)
  have bs := ((u46).2 _ (by omega)).trans bs
  have b2 := ((u46).2 _ (by omega)).trans b2
  have fr := (by exact fr.upd u46)
  have rwra := rwra.updT u46 (by omega)
  have bm := b46
  have bm : H46[gm]? = some (.cells [t, i, f, tb, me, gl, ex, .bool m.hasStart, .int .u32 m.start, el, co, ua].toArray 33 (0, 0)) := bm
  have hms : MS H46 gm N { m with datas := xs } t i f tb me gl ex el co ua := ⟨bm, ms.rt.to rw0 (Nat.le_refl _), ms.ri.to rw0 (Nat.le_refl _), ms.rf.to rw0 (Nat.le_refl _), ms.rtb.to rw0 (Nat.le_refl _), ms.rme.to rw0 (Nat.le_refl _), ms.rgl.to rw0 (Nat.le_refl _), ms.rex.to rw0 (Nat.le_refl _), ms.rel.to rw0 (Nat.le_refl _), ms.rco.to rw0 (Nat.le_refl _), ra.to rwra (by omega), ms.rs⟩
  refine KL.nil (KQ.normBlock (KQ.r (KL.run 3 rfl (KL.ld rfl (cell_of b2 rfl) (KL.q (R.lenS rfl U34 rfl slr) rfl (KL.run 1 rfl ?_))))))
  refine KL.callX rfl rfl rfl rfl K46 rfl rfl rfl (must_any _) ?_ ?_
  · rintro vx _ ⟨rfl, hq, rfl⟩
    simp only [sd] at hq
    exact KQ.pan (⟨_, hfe (by simp only [List.length_drop] at hq; omega), rfl, fr, _, bm, rfl⟩)
  rintro _ _ ⟨rfl, hq, rfl⟩
  simp only [sd] at hq
  refine KL.nil (KQ.toX (KQ.fin0 V45 ?_))
  exact ⟨_, _, _, _, _, _, _, _, _, _, _, hok (by have := hkl.2.2; simp only [List.length_drop] at hq; omega), hms, fr⟩
end Go.Proofs.YtldmfchamcpmmaaGreatDoor
namespace Go.Proofs.YtldmfchamcpmmaaGreatDoor
open Go Go.RowKit Go.Deep
section
variable {P : Program} {n d : Nat} {W0 : World} {Q : Exit → Act → World → Prop} {E : Env} {H : Heap} {D : List Deferred}
theorem KQD.normBlock {id : Nat} (h : KQ n W0 (plusQ D Q) .normal E H) : KQ n W0 (plusQ D (Exit.inBlock id Q)) .normal E H := h
theorem KQD.retBlock {id : Nat} (h : KQ n W0 (plusQ D Q) .ret E H) : KQ n W0 (plusQ D (Exit.inBlock id Q)) .ret E H := h
theorem KQD.panBlock {id : Nat} {ch : List PanicEntry} (h : KQ n W0 (plusQ D Q) (.panic ch) E H) : KQ n W0 (plusQ D (Exit.inBlock id Q)) (.panic ch) E H := h
theorem KQD.hit {id : Nat} (h : KQ n W0 (plusQ D Q) .normal E H) : KQ n W0 (plusQ D (Exit.inBlock id Q)) (.exit id) E H := fun a w ha hw => by
  show (if id = id then _ else _); rw [if_pos rfl]; exact h a w ha hw
theorem KQD.exitThen {N : Act → World → Prop} {id : Nat} (h : KQ n W0 (plusQ D Q) (.exit id) E H) : KQ n W0 (plusQ D (Exit.then N Q)) (.exit id) E H := h
theorem KCD.exit {id : Nat} (h : KQ n W0 (plusQ D Q) (.exit id) E H) : KCD D P n W0 Q (.exit id) E H := fun a w ha hw => wp_exit (h a w ha hw)
theorem KCD.block {id : Nat} {c : Code} (h : KCD D P n W0 (Exit.inBlock id Q) c E H) : KCD D P n W0 Q (.block id c) E H := fun a w ha hw => wp_block (h a w ha hw)
theorem KCD.sub {c : Code} {E' : Env} (hs : Sub E' E) (h : KCD D P n W0 Q c E' H) : KCD D P n W0 Q c E H := fun a w ha hw => h a w (ha.sub hs) hw
theorem KCD.iteL {x y : Code} {b : Bool} (hc : get E d = some (.bool b)) (ht : b = true → KCD D P n W0 Q x ((d, .bool true) :: E) H) (hf : b = false → KCD D P n W0 Q y ((d, .bool false) :: E) H) : KCD D P n W0 Q (.cond (.tmp d) x y) E H := by
  cases hb : b with
  | true => exact KCD.sub (sub_case hc true hb) (KCD.condT (by simp [ev, get]) (ht hb))
  | false => exact KCD.sub (sub_case hc false hb) (KCD.condF (by simp [ev, get]) (hf hb))
/-- a loop's round is done -/
def AgainD (D : List Deferred) (n : Nat) (W0 : World) {κ : Type} (Ek : κ → Env) (I : κ → Heap → Prop) (μ : κ → Nat) (m : Nat) (a : Act) (w : World) : Prop := ∃ a0, a = plusA D a0 ∧ Again n W0 Ek I μ m a0 w
theorem KCD.loopD {κ : Type} {c : Code} (m : List Nat) (L : κ → Env) (I : κ → Heap → Prop) (μ : κ → Nat) (k0 : κ) (hs : Sub (L k0 ++ drop m E) E) (h0 : I k0 H)
    (round : ∀ k H', I k H' → KCD D P n W0 (Exit.then (AgainD D n W0 (fun k => L k ++ drop m E) I μ (μ k)) Q) c (L k ++ drop m E) H') : KCD D P n W0 Q (.loop c) E H := by
  intro a w ha hw
  refine wp_loop_at (fun m' a w => ∃ k H a0, a = plusA D a0 ∧ μ k = m' ∧ I k H ∧ Rep n (L k ++ drop m E) a0 ∧ St W0 H w) ⟨_, k0, H, a, rfl, rfl, h0, ha.sub hs, hw⟩ ?_
  rintro m' a w ⟨k, H', a0, rfl, rfl, hI, hr, hst⟩
  refine wp_mono (round k H' hI a0 w hr hst) fun e a' w' hq => ?_
  cases e with
  | normal =>
    obtain ⟨a1, rfl, k', H'', hlt, hI', hr', hst'⟩ := hq
    exact ⟨_, hlt, k', H'', a1, rfl, rfl, hI', hr', hst'⟩
  | _ => exact hq
theorem KQD.again {κ : Type} {Ek : κ → Env} {I : κ → Heap → Prop} {μ : κ → Nat} {m : Nat} (k : κ) (hs : Sub (Ek k) E) (hμ : μ k < m) (hI : I k H) : KQ n W0 (plusQ D (Exit.then (AgainD D n W0 Ek I μ m) Q)) .normal E H :=
  fun a w ha hw => ⟨a, rfl, k, H, hμ, hI, ha.sub hs, hw⟩
/-- a way out with nothing put by -/
theorem KQ.finD {fn : Func} {R : Value → Heap → Prop} (v : Value) (hr : ∀ a w, Rep n E a → w.heap = H → (results fn a.tmps).run P w = .ok v w) (hR : R v H) : KQ n W0 (PostD P fn W0 R) .ret E H := by
  intro a w ha hw
  show Leaves P fn a.tmps _ a.defers .returning w
  rw [ha.defers]
  refine ⟨v, hr a w ha hw.heap, v, rfl, ⟨rfl, hw.os, hw.tape, hw.output⟩, ?_⟩
  rw [hw.heap]; exact hR
end
end Go.Proofs.YtldmfchamcpmmaaGreatDoor
namespace Go.Proofs.YtldmfchamcpmmaaGreatDoor
open Go Go.RowKit
theorem cloD_ret {H : Heap} {g1 g2 : Nat} : CtDef Tryz.prog 44 [.pointer (some ⟨g1, 0, none⟩), .pointer (some ⟨g2, 0, none⟩)] H (.returning) (fun u' H' => settle u' = .returning ∧ H' = H) := by
  refine CtDef.mk (u' := .returning) (r := .nilIface) Tryz.func44 rfl Tryz.ntmps44 rfl rfl rfl rfl rfl rfl rfl rfl rfl (⟨rfl, rfl⟩) ?_
  intro W0 hW0
  have o0 : Old H H := Old.refl H
  refine KC.sr (KL.run 1 rfl ?_)
  refine KL.q ((R.neqNilI rfl Tryz.underlying20 rfl rfl (by exact .inl rfl)).val (show _ = Value.bool false from rfl)) rfl ?_
  refine KL.nil (KQ.seq (KC.condF rfl (KC.skip (KQ.fin0 Tryz.results44 ?_))))
  exact ⟨rfl, rfl⟩
theorem cloD_pan {H : Heap} {g1 g2 : Nat} {e : Int} {c2 : Value} {l1 : List Value} (ba : H[g1]? = some (.cells l1.toArray 33 (0, 0))) (bb : H[g2]? = some (.cells [c2].toArray 37 (0, 0))) (h12 : g1 < g2) (hl1 : l1.length = 12) : CtDef Tryz.prog 44 [.pointer (some ⟨g1, 0, none⟩), .pointer (some ⟨g2, 0, none⟩)] H (.panicking (Pan (failB e))) (fun u' H' => settle u' = .returning ∧ OldB g1 H H' ∧ H'[g1]? = some (.cells [.slice none 0 0, .slice none 0 0, .slice none 0 0, .slice none 0 0, .slice none 0 0, .slice none 0 0, .slice none 0 0, .bool false, .int .u32 0, .slice none 0 0, .slice none 0 0, .slice none 0 0].toArray 33 (0, 0)) ∧ H'[g2]? = some (.cells [.int .i64 e].toArray 37 (0, 0))) := by
  refine CtDef.mk (u' := .panicking [{ v := failB e, recovered := true }]) (r := failB e) Tryz.func44 rfl Tryz.ntmps44 rfl rfl rfl rfl rfl rfl rfl rfl rfl (⟨rfl, rfl⟩) ?_
  intro W0 hW0
  have o0 : OldB g1 H H := OldB.refl _ H
  have hlt1 := blk_lt ba
  have hlt2 := blk_lt bb
  unfold failB
  refine KC.sr (KL.run 1 rfl ?_)
  refine KL.q ((R.neqNilI rfl Tryz.underlying20 rfl rfl (by exact .inr ⟨_, _, rfl⟩)).val (show _ = Value.bool true from rfl)) rfl ?_
  refine KL.nil (KQ.seq (KC.condT rfl (KC.sr (KL.run 1 rfl (KL.q (R.assertIs rfl U107 rfl rfl) rfl (KL.run 3 rfl ?_))))))
  refine KL.m (M.alloc rfl zr107 rfl) rfl ?_
  rintro _ H1 ⟨rfl, n1⟩
  have z1 := n1.2.1
  have o0 := o0.trans ((n1.1).b (by omega))
  have ba := (n1.1).blk ba
  have bb := (n1.1).blk bb
  have b1 := n1.2.2
  have bf := b1
  refine KL.opS (S.storeAgg rfl sz107 rfl rfl (rfl) (by intro u hu; simp only [List.mem_cons, List.not_mem_nil, or_false] at hu; subst hu; rfl) bf (by simp)) rfl rfl ?_
  rintro H2 ⟨u2, b2⟩
  have o0 := o0.trans (OldB.upd u2 (by omega))
  have zu2 := u2.1
  have ba := ((u2).2 _ (by omega)).trans ba
  have bb := ((u2).2 _ (by omega)).trans bb
  have bf := b2
  rw [over_all (by rfl)] at bf
  refine KL.fin 1 rfl (KQ.seq (KC.seq (KC.sr (KL.fin 2 rfl (KQ.seq (KC.condF rfl (KC.skip (KQ.seq ?_))))))))
  refine KC.text (clOf [(3, 2), (4, 2)]) (fun _ Hc => Hc[_]? = some _) (by kernel_rfl) (by kernel_rfl) (fun _ => bf) ?_
  refine KP.op rfl (fun Hg hg => R.buildL rfl U33 zr33 [(0, 1), (1, 1), (2, 1), (3, 1), (4, 1), (5, 1), (6, 1), (7, 1), (8, 1), (9, 1), (10, 1), (11, 1)] (fun w => by kernel_rfl) rfl trivial rfl rfl trivial rfl) rfl rfl rfl ?_
  refine KP.run 1 rfl rfl ?_
  refine KP.op rfl (fun Hg hg => R.load rfl U37 rfl rfl (cell_of hg rfl)) rfl rfl rfl ?_
  refine KP.opS rfl (S.storeAgg rfl sz33 rfl rfl (rfl) (by intro z hz; simp only [List.mem_cons, List.not_mem_nil, or_false] at hz; rcases hz with rfl | rfl | rfl | rfl | rfl | rfl | rfl | rfl | rfl | rfl | rfl | rfl <;> rfl) ba (by simp [hl1])) rfl rfl (fun _ h _ _ _ => (h.1.2 _ (by omega)).trans bf) ?_
  rintro H3 ⟨u3, b3⟩
  have o0 := o0.trans (OldB.upd u3 (by omega))
  have zu3 := u3.1
  have bb := ((u3).2 _ (by omega)).trans bb
  have bf := ((u3).2 _ (by omega)).trans bf
  have ba := b3
  rw [over_all (by rw [hl1]; rfl)] at ba
  refine KP.opS rfl (S.store rfl sz37 rfl rfl rfl rfl bb (by simp)) rfl rfl (fun _ h _ _ _ => (h.1.2 _ (by omega)).trans bf) ?_
  rintro H4 ⟨u4, b4⟩
  have o0 := o0.trans (OldB.upd u4 (by omega))
  have zu4 := u4.1
  have ba := ((u4).2 _ (by omega)).trans ba
  have bf := ((u4).2 _ (by omega)).trans bf
  have bb := b4
  refine KP.nil (KQ.fin0 Tryz.results44 ?_)
  exact ⟨rfl, o0, ba, bb⟩
namespace Bn
/-- the module of a binary, or none and why -/
def decR (l : List Int) : Mo × Int := match dec l with
  | .error e => (mo0, e)
  | .ok m => (m, 0)
theorem fills_step {s : Sec} {ss : List Sec} {m m' : Mo} (h : secF s.1 s.2 m = .ok m') : fills (s :: ss) m = fills ss m' := by simp only [fills, h]
theorem fills_e {s : Sec} {ss : List Sec} {m : Mo} {e : Int} (h : secF s.1 s.2 m = .error e) : fills (s :: ss) m = .error e := by simp only [fills, h]
section
variable {l : List Int} {ss : List Sec} {m : Mo} {e : Int}
theorem dec_long (h : 65536 < l.length) : decR l = (mo0, 3) := by unfold decR dec; rw [if_pos h]
theorem dec_none (h : ¬ 65536 < l.length) (hs : Sc.split l = none) : decR l = (mo0, 60) := by unfold decR dec; rw [if_neg h, hs]
theorem dec_err (h : ¬ 65536 < l.length) (hs : Sc.split l = some ss) (hf : fills ss mo0 = .error e) : decR l = (mo0, e) := by unfold decR dec; rw [if_neg h, hs]; simp only [hf]
theorem dec_odd (h : ¬ 65536 < l.length) (hs : Sc.split l = some ss) (hf : fills ss mo0 = .ok m) (hm : ¬ m.codes.length = m.funcs.length) : decR l = (mo0, 60) := by unfold decR dec; rw [if_neg h, hs]; simp only [hf]; rw [if_neg hm]
theorem dec_ok (h : ¬ 65536 < l.length) (hs : Sc.split l = some ss) (hf : fills ss mo0 = .ok m) (hm : m.codes.length = m.funcs.length) : decR l = (m, 0) := by unfold decR dec; rw [if_neg h, hs]; simp only [hf]; rw [if_pos hm]
end
/-- the sections of a binary have no more bytes than it -/
theorem go_len : ∀ (f : Nat) (r : List Int) (last : Int) (ss : List Sec), Sc.go f r last = some ss → ∀ s ∈ ss, s.2.length ≤ r.length
  | 0, r, last, ss, h => by simp only [Sc.go] at h; cases h
  | f + 1, r, last, ss, h => by
    simp only [Sc.go] at h
    split at h
    · injection h with h; subst h; intro s hs; cases hs
    split at h
    · cases h
    next n k ht =>
    split at h
    · cases h
    split at h
    · split at h
      · cases h
      intro s hs
      have := go_len f _ _ _ h s hs
      rw [List.length_drop] at this; omega
    split at h
    · cases hg : Sc.go f (r.drop (1 + k + n.toNat)) (r.getD 0 default) with
      | none => rw [hg] at h; cases h
      | some ss' =>
        rw [hg] at h
        injection h with h; subst h
        intro s hs
        rcases List.mem_cons.1 hs with rfl | hs
        · rw [List.length_take, List.length_drop]; omega
        have := go_len f _ _ _ hg s hs
        rw [List.length_drop] at this; omega
    cases h
theorem split_len {l : List Int} {ss : List Sec} (h : Sc.split l = some ss) : ∀ s ∈ ss, s.2.length ≤ l.length := by
  unfold Sc.split at h
  split at h
  · intro s hs
    have := go_len _ _ _ _ h s hs
    rw [List.length_drop] at this; omega
  cases h
end Bn
theorem Split_or {H : Heap} {v : Value} {l : List Int} (hs : Sl 1 (EInt .u8) H v l) (hT : TabU H) (hl : l.length ≤ 140737488351232) : Ct Tryz.prog 10 [v] H (fun u H' => Old H H' ∧ ((Sc.split l = none ∧ u = .tuple #[.slice none 0 0, .int .i64 60]) ∨ ∃ ss vo, Sc.split l = some ss ∧ u = .tuple #[vo, .int .i64 0] ∧ RowS 2 ESec H.size H' vo ss)) :=
  (Split_any v l hs hT hl).mono fun u H' ⟨o, h⟩ => ⟨o, by
    cases hp : Sc.split l with
    | none => rw [hp] at h; exact .inl ⟨rfl, h⟩
    | some ss => rw [hp] at h; obtain ⟨vo, h1, h2⟩ := h; exact .inr ⟨ss, vo, rfl, h1, h2⟩⟩
theorem Decode_st {H : Heap} {v : Value} {l : List Int} (hs : Sl 1 (EInt .u8) H v l) (hT : TabU H) : Ct Tryz.prog 8 [v] H (fun u H' => Old H H' ∧ ∃ t i f tb me gl ex el co da, u = .tuple #[.agg [t, i, f, tb, me, gl, ex, .bool (Bn.decR l).1.hasStart, .int .u32 (Bn.decR l).1.start, el, co, da].toArray, .int .i64 (Bn.decR l).2] ∧ ∀ H2, KeepX (List.range (Array.size H)) H' H2 → MoV H2 t i f tb me gl ex el co da (Bn.decR l).1) := by
  refine Ct.mkD Tryz.func8 rfl Tryz.ntmps8 rfl ?_
  intro W0 hW0
  have o0 : Old H H := Old.refl H
  refine KC.sr ?_
  refine KL.m (M.alloc rfl zr33 rfl) rfl ?_
  rintro _ H1 ⟨rfl, n1⟩
  have z1 := n1.2.1
  have o0 := o0.trans n1.1
  have b1 := n1.2.2
  have bm := b1
  refine KL.m (M.alloc rfl zr37 rfl) rfl ?_
  rintro _ H2 ⟨rfl, n2⟩
  have z2 := n2.2.1
  have o0 := o0.trans n2.1
  have bm := (n2.1).blk bm
  have b2 := n2.2.2
  have be := b2
  refine KL.nil (KQ.seq (KC.seq (KC.sr (KL.run 1 rfl (KL.q (R.lenS rfl U34 rfl hs) rfl (KL.fin 1 rfl (KQ.seq ?_)))))))
  refine KC.iq rfl ?_ ?_
  · intro hlong
    refine KC.sr (KL.lda rfl (cells_of bm) rfl ?_)
    refine KL.opS (S.storeAgg rfl sz33 rfl rfl (rfl) (by intro z hz; simp only [List.mem_cons, List.not_mem_nil, or_false] at hz; rcases hz with rfl | rfl | rfl | rfl | rfl | rfl | rfl | rfl | rfl | rfl | rfl | rfl <;> rfl) bm (by simp)) rfl rfl ?_
    rintro H3 ⟨u3, b3⟩
    have o0 := o0.upd u3 (by omega)
    have zu3 := u3.1
    have be := ((u3).2 _ (by omega)).trans be
    have bm := b3
    rw [over_all (by rfl)] at bm
    refine KL.opS (S.store rfl sz37 rfl rfl rfl rfl be (by simp)) rfl rfl ?_
    rintro H4 ⟨u4, b4⟩
    have o0 := o0.upd u4 (by omega)
    have zu4 := u4.1
    have bm := ((u4).2 _ (by omega)).trans bm
    have be := b4
    refine KL.nil (KQ.seq (KC.ret (KQ.retThen ?_)))
    refine KQ.finD _ (fun ar wr har hwr => results_cells2 har V8 rfl rfl (loadVar_agg U33 rfl sz33 (by rw [hwr]; exact cells_of bm) rfl) (loadVar_one U37 rfl (by rw [hwr]; exact cell_of be rfl))) ?_
    refine ⟨o0, _, _, _, _, _, _, _, _, _, _, by rw [Bn.dec_long (by omega)]; rfl, ?_⟩
    rw [Bn.dec_long (by omega)]
    exact fun _ _ => ⟨Sl.nil _ _ _, Sl.nil _ _ _, Sl.nil _ _ _, Sl.nil _ _ _, Sl.nil _ _ _, Sl.nil _ _ _, Sl.nil _ _ _, Sl.nil _ _ _, Sl.nil _ _ _, Sl.nil _ _ _, (show InR .u32 0 by decide)⟩
  intro hlong
  have hlong : ¬ 65536 < l.length := by omega
  refine KC.skip (KQ.sr (KL.run 1 rfl ?_))
  refine KL.defer rfl rfl rfl rfl ?_
  refine KQD.seq ?_
  refine KCD.seq ?_
  refine KCD.region ?_
  refine KL.run 1 rfl ?_
  refine KL.c rfl Tryz.call10 (Split_or (hs.old o0) (hT.old o0) (by omega)) ?_
  rintro u9 H5 ⟨ox, hR⟩
  have zc_H5 := (ox).1
  have o0 := o0.trans ox
  have bm := (ox).blk bm
  have be := (ox).blk be
  rcases hR with ⟨hsp, rfl⟩ | ⟨ss, vo, hsp, rfl, hrow⟩
  · skip
    refine KL.run 4 rfl ?_
    refine KL.opS (S.store rfl sz37 rfl rfl rfl rfl be (by simp)) rfl rfl ?_
    rintro H6 ⟨u6, b6⟩
    have o0 := o0.upd u6 (by omega)
    have zu6 := u6.1
    have bm := ((u6).2 _ (by omega)).trans bm
    have be := b6
    refine KL.nil ?_
    refine KQD.seq ?_
    refine KCD.seq ?_
    refine KCD.seq ?_
    refine KCD.region ?_
    refine KL.ld rfl (cell_of be rfl) (KL.q ((R.neq rfl rfl rfl).val (congrArg (fun b => Value.bool (!b)) (decide_eq_false (by decide)))) rfl (KL.nil ?_))
    refine KQD.seq ?_
    refine KCD.condT rfl ?_
    refine KCD.seq ?_
    refine KCD.order [0, 1, 2, 3] (clOf [(2, 2), (3, 2)]) (fun j Hc => (j = 0 → Hc[(Array.size H)]? = some _) ∧ (j = 1 → Hc[_]? = some _)) (fun _ _ => False) (by kernel_rfl) (by kernel_rfl) (by kernel_rfl) rfl (fun _ => ⟨fun _ => bm, fun _ => be⟩) (fun _ _ h => h.elim) ?_
    refine KO.op rfl rfl (fun Hg hg => R.loadAgg rfl U33 rfl sz33 rfl (cells_of (hg.1 rfl)) rfl) rfl rfl rfl ?_
    refine KO.op rfl rfl (fun Hg hg => R.load rfl U37 rfl rfl (cell_of (hg.2 rfl) rfl)) rfl rfl rfl ?_
    refine KO.opS rfl rfl (S.storeAgg rfl sz33 rfl rfl (rfl) (by intro z hz; simp only [List.mem_cons, List.not_mem_nil, or_false] at hz; rcases hz with rfl | rfl | rfl | rfl | rfl | rfl | rfl | rfl | rfl | rfl | rfl | rfl <;> rfl) bm (by simp)) rfl rfl (fun _ hR j hj1 hj2 => ⟨fun hj => by subst hj; exact absurd (by decide +kernel) hj2, fun hj => (hR.1.2 _ (by omega)).trans be⟩) ?_
    rintro H7 ⟨u7, b7⟩
    have o0 := o0.upd u7 (by omega)
    have zu7 := u7.1
    have be := ((u7).2 _ (by omega)).trans be
    have bm := b7
    rw [over_all (by rfl)] at bm
    refine KO.opS rfl rfl (S.store rfl sz37 rfl rfl rfl rfl be (by simp)) rfl rfl (fun _ hR j hj1 hj2 => ⟨fun hj => by subst hj; exact absurd (by decide +kernel) hj2, fun hj => by subst hj; exact absurd (by decide +kernel) hj2⟩) ?_
    rintro H8 ⟨u8, b8⟩
    have o0 := o0.upd u8 (by omega)
    have zu8 := u8.1
    have bm := ((u8).2 _ (by omega)).trans bm
    have be := b8
    refine KO.nil ?_
    refine KQD.seq ?_
    refine KCD.ret ?_
    refine KQD.retThen ?_
    refine KQD.fin_ret (R1 := fun H' => H' = H8) Tryz.call44 (cloD_ret) ?_
    rintro HR rfl
    refine ⟨_, fun ar wr har hwr => results_cells2 har V8 rfl rfl (loadVar_agg U33 rfl sz33 (by rw [hwr]; exact cells_of bm) rfl) (loadVar_one U37 rfl (by rw [hwr]; exact cell_of be rfl)), o0, _, _, _, _, _, _, _, _, _, _, by rw [Bn.dec_none hlong hsp]; rfl, ?_⟩
    rw [Bn.dec_none hlong hsp]
    exact fun _ _ => ⟨Sl.nil _ _ _, Sl.nil _ _ _, Sl.nil _ _ _, Sl.nil _ _ _, Sl.nil _ _ _, Sl.nil _ _ _, Sl.nil _ _ _, Sl.nil _ _ _, Sl.nil _ _ _, Sl.nil _ _ _, (show InR .u32 0 by decide)⟩
  have rws := RW.refl (Array.size H2) H5
  have hsl := Bn.split_len hsp
  refine KL.run 4 rfl ?_
  refine KL.opS (S.store rfl sz37 rfl rfl rfl rfl be (by simp)) rfl rfl ?_
  rintro H9 ⟨u9, b9⟩
  have o0 := o0.upd u9 (by omega)
  have zu9 := u9.1
  have bm := ((u9).2 _ (by omega)).trans bm
  have rws := rws.updT u9 (by omega)
  have be := b9
  refine KL.nil ?_
  refine KQD.seq ?_
  refine KCD.seq ?_
  refine KCD.seq ?_
  refine KCD.region ?_
  refine KL.ld rfl (cell_of be rfl) (KL.q ((R.neq rfl rfl rfl).val (congrArg (fun b => Value.bool (!b)) (decide_eq_true (by decide)))) rfl (KL.nil ?_))
  refine KQD.seq ?_
  refine KCD.condF rfl ?_
  refine KCD.skip ?_
  refine KQD.seq ?_
  refine KCD.seq ?_
  refine KCD.seq ?_
  refine KCD.region ?_
  refine KL.run 1 rfl (KL.q (R.lenS rfl U44 rfl hrow.sl) rfl ?_)
  have ms : MS H9 (Array.size H) ((Array.size H) + 2) Bn.mo0 (.slice none 0 0) (.slice none 0 0) (.slice none 0 0) (.slice none 0 0) (.slice none 0 0) (.slice none 0 0) (.slice none 0 0) (.slice none 0 0) (.slice none 0 0) (.slice none 0 0) := ⟨bm, fun _ _ => Sl.nil _ _ _, fun _ _ => Sl.nil _ _ _, fun _ _ => Sl.nil _ _ _, fun _ _ => Sl.nil _ _ _, fun _ _ => Sl.nil _ _ _, fun _ _ => Sl.nil _ _ _, fun _ _ => Sl.nil _ _ _, fun _ _ => Sl.nil _ _ _, fun _ _ => Sl.nil _ _ _, fun _ _ => Sl.nil _ _ _, by decide⟩
  refine KL.fin 1 rfl ?_
  refine KQD.seq ?_
  refine KCD.block ?_
  refine KCD.loopD (κ := Nat × Mo × Value × Value × Value × Value × Value × Value × Value × Value × Value × Value) [24, 25, 26, 6, 27, 28, 29, 23] (fun k => [(23, .int .i64 (k.1 : Nat))]) (fun k Hl => k.1 ≤ ss.length ∧ MS Hl (Array.size H) ((Array.size H) + 2) k.2.1 k.2.2.1 k.2.2.2.1 k.2.2.2.2.1 k.2.2.2.2.2.1 k.2.2.2.2.2.2.1 k.2.2.2.2.2.2.2.1 k.2.2.2.2.2.2.2.2.1 k.2.2.2.2.2.2.2.2.2.1 k.2.2.2.2.2.2.2.2.2.2.1 k.2.2.2.2.2.2.2.2.2.2.2 ∧ Hl[(Array.size H1)]? = some (.cells [.int .i64 0].toArray 37 (0, 0)) ∧ Bn.fills ss Bn.mo0 = Bn.fills (ss.drop k.1) k.2.1 ∧ RW (Array.size H2) H5 Hl ∧ Old H Hl ∧ (Array.size H) + 2 ≤ Hl.size) (fun k => ss.length - k.1) (0, Bn.mo0, .slice none 0 0, .slice none 0 0, .slice none 0 0, .slice none 0 0, .slice none 0 0, .slice none 0 0, .slice none 0 0, .slice none 0 0, .slice none 0 0, .slice none 0 0) ?_ ?_ ?_
  · exact Sub.all rfl
  · exact ⟨Nat.zero_le _, ms, be, rfl, rws, o0, by omega⟩
  rintro ⟨k, mk, t, i, f, tb, me, gl, ex, el, co, da⟩ H10 ⟨hk, ms, be, hfl, rws, o0, hz2⟩
  have zl_H10 := o0.1
  dsimp only at hk ms hfl
  have bm := ms.b
  have zl := o0.1
  have zrw := rws.k.1
  have oP : Old H10 H10 := Old.refl _
  refine KCD.seq ?_
  refine KCD.region ?_
  refine KL.fin 1 rfl ?_
  refine KQD.seq ?_
  refine KCD.seq ?_
  refine KCD.iteL rfl ?_ ?_
  · intro hc24
    simp only [sd] at hc24
    have hk2 : k < ss.length := by omega
    have rwm := RW.refl ((Array.size H) + 2) H10
    obtain ⟨u2, hcx, hu, hid⟩ := (hrow _ rws.k).secAt k hk2
    have hge : (ss.getD k default) = ss[k] := by rw [List.getD_eq_getElem?_getD, List.getElem?_eq_getElem hk2]; rfl
    refine KCD.skip ?_
    refine KQD.seq ?_
    refine KCD.seq ?_
    refine KCD.block ?_
    refine KCD.seq ?_
    refine KCD.region ?_
    refine KL.q (R.index (j := k) rfl U44 sz48 rfl rfl (hrow _ rws.k) rfl (by omega)) rfl ?_
    refine KL.lda rfl (oP.cells hcx) rfl ?_
    refine KL.m (M.alloc rfl zr48 rfl) rfl ?_
    rintro _ H11 ⟨rfl, n11⟩
    have z11 := n11.2.1
    have o0 := o0.trans n11.1
    have bm := (n11.1).blk bm
    have be := (n11.1).blk be
    have rws := rws.old n11.1
    have oP := oP.trans n11.1
    have rwm := rwm.old n11.1
    have b11 := n11.2.2
    have bv := b11
    refine KL.opS (S.storeAgg rfl sz48 rfl rfl (rfl) (by intro z hz; simp only [List.mem_cons, List.not_mem_nil, or_false] at hz; rcases hz with rfl | rfl <;> first | rfl | exact hu.one) bv (by simp)) rfl rfl ?_
    rintro H12 ⟨u12, b12⟩
    have o0 := o0.upd u12 (by omega)
    have zu12 := u12.1
    have bm := ((u12).2 _ (by omega)).trans bm
    have be := ((u12).2 _ (by omega)).trans be
    have rws := rws.updT u12 (by omega)
    have oP := oP.upd u12 (by omega)
    have rwm := rwm.updT u12 (by omega)
    have bv := b12
    rw [over_all (by rfl)] at bv
    refine KL.nil ?_
    refine KQD.seq ?_
    refine KCD.region ?_
    refine KL.lda rfl (cells_of bv) rfl ?_
    have ms2 : MS H12 (Array.size H) ((Array.size H) + 2) mk t i f tb me gl ex el co da := ⟨bm, ms.rt.to rwm (Nat.le_refl _), ms.ri.to rwm (Nat.le_refl _), ms.rf.to rwm (Nat.le_refl _), ms.rtb.to rwm (Nat.le_refl _), ms.rme.to rwm (Nat.le_refl _), ms.rgl.to rwm (Nat.le_refl _), ms.rex.to rwm (Nat.le_refl _), ms.rel.to rwm (Nat.le_refl _), ms.rco.to rwm (Nat.le_refl _), ms.rda.to rwm (Nat.le_refl _), ms.rs⟩
    refine KL.callX rfl rfl rfl rfl Tryz.call45 rfl rfl rfl (section_any ms2 (by omega) (by omega) hT o0 (Nat.le_refl _) _ (hu.old oP) (by have := hsl _ (En.getD_memD hk2); omega)) ?_ ?_
    · rintro vx H13 ⟨ex_, hx1, rfl, hx3, csx, hbx, hlx⟩
      have be := hx3.at_ be (by omega)
      have o0 := o0.then (hx3.low (B0 := Array.size H) (by omega) (Nat.le_refl _)) (Nat.le_refl _)
      have hfx : Bn.fills ss Bn.mo0 = .error ex_ := by rw [hfl, List.drop_eq_getElem_cons hk2]; exact Bn.fills_e (by rw [hge] at hx1; exact hx1)
      refine KQD.panBlock ?_
      refine KQD.panThen ?_
      refine KQD.panThen ?_
      refine KQD.panBlock ?_
      refine KQD.panThen ?_
      refine KQD.fin_pan (R1 := fun H' => OldB (Array.size H) _ H' ∧ _ ∧ _) Tryz.call44 (cloD_pan hbx be (by omega) hlx) ?_
      rintro HR ⟨f0, d4, d5⟩
      refine ⟨_, fun ar wr har hwr => results_cells2 har V8 rfl rfl (loadVar_agg U33 rfl sz33 (by rw [hwr]; exact cells_of d4) rfl) (loadVar_one U37 rfl (by rw [hwr]; exact cell_of d5 rfl)), o0.then f0 (Nat.le_refl _), _, _, _, _, _, _, _, _, _, _, by rw [Bn.dec_err hlong hsp hfx]; rfl, ?_⟩
      rw [Bn.dec_err hlong hsp hfx]
      exact fun _ _ => ⟨Sl.nil _ _ _, Sl.nil _ _ _, Sl.nil _ _ _, Sl.nil _ _ _, Sl.nil _ _ _, Sl.nil _ _ _, Sl.nil _ _ _, Sl.nil _ _ _, Sl.nil _ _ _, Sl.nil _ _ _, (show InR .u32 0 by decide)⟩
    rintro _ H14 ⟨m', t', i', f', tb', me', gl', ex', el', co', da', hsf, ms', f1⟩
    have zf_H14 := f1.1
    have o0 := o0.then (f1.low (B0 := H.size) (by omega) (by omega)) (Nat.le_refl _)
    have be := f1.at_ be (by omega)
    have rws := rws.frT f1 (by omega)
    have bv := f1.at_ bv (by omega)
    have zms := ms'.b
    have zmb := blk_lt zms
    rw [hge] at hsf
    refine KL.nil ?_
    refine KQD.normBlock ?_
    refine KQD.seq ?_
    refine KCD.region ?_
    refine KL.q ((R.add rfl rfl rfl (by have := hrow.sl.len; dsimp only [InR]; omega)).val (congrArg (Value.int .i64) (show (k : Int) + 1 = ((k + 1 : Nat) : Int) by omega))) rfl ?_
    refine KL.fin 1 rfl ?_
    refine KQD.again ((k + 1, m', t', i', f', tb', me', gl', ex', el', co', da')) ?_ ?_ ?_
    · exact Sub.all rfl
    · show ss.length - (k + 1) < ss.length - k; omega
    exact ⟨by show k + 1 ≤ _; omega, ms', be, by rw [hfl, List.drop_eq_getElem_cons hk2]; exact Bn.fills_step hsf, rws, o0, by omega⟩
  intro hc24
  simp only [sd] at hc24
  have hkl : k = ss.length := by omega
  subst hkl
  rw [List.drop_length] at hfl
  have hfl : Bn.fills ss Bn.mo0 = .ok mk := hfl
  refine KCD.exit ?_
  refine KQD.exitThen ?_
  refine KQD.exitThen ?_
  refine KQD.hit ?_
  refine KQD.seq ?_
  refine KCD.seq ?_
  refine KCD.region ?_
  refine KL.run 1 rfl (KL.ld rfl (cell_of bm rfl) (KL.q (R.lenS rfl U30 rfl ms.rco.sl) rfl (KL.run 1 rfl (KL.ld rfl (cell_of bm rfl) (KL.q (R.lenS rfl U24 rfl ms.rf.sl) rfl (KL.run 1 rfl ?_))))))
  refine KL.callX rfl rfl rfl rfl K46 rfl rfl rfl (must_any _) ?_ ?_
  · rintro vx _ ⟨rfl, hq, rfl⟩
    simp only [sd] at hq
    refine KQD.panThen ?_
    refine KQD.fin_pan (R1 := fun H' => OldB (Array.size H) _ H' ∧ _ ∧ _) Tryz.call44 (cloD_pan bm be (by omega) rfl) ?_
    rintro HR ⟨f0, d4, d5⟩
    refine ⟨_, fun ar wr har hwr => results_cells2 har V8 rfl rfl (loadVar_agg U33 rfl sz33 (by rw [hwr]; exact cells_of d4) rfl) (loadVar_one U37 rfl (by rw [hwr]; exact cell_of d5 rfl)), o0.then f0 (Nat.le_refl _), _, _, _, _, _, _, _, _, _, _, by rw [Bn.dec_odd hlong hsp hfl (by omega)]; rfl, ?_⟩
    rw [Bn.dec_odd hlong hsp hfl (by omega)]
    exact fun _ _ => ⟨Sl.nil _ _ _, Sl.nil _ _ _, Sl.nil _ _ _, Sl.nil _ _ _, Sl.nil _ _ _, Sl.nil _ _ _, Sl.nil _ _ _, Sl.nil _ _ _, Sl.nil _ _ _, Sl.nil _ _ _, (show InR .u32 0 by decide)⟩
  rintro _ _ ⟨rfl, hq, rfl⟩
  simp only [sd] at hq
  have oM : Old H10 H10 := Old.refl _
  have msM := ms
  have rwm := RW.refl ((Array.size H) + 2) H10
  refine KL.nil ?_
  refine KQD.seq ?_
  refine KCD.seq ?_
  refine KCD.region ?_
  refine KL.lda rfl (cells_of bm) rfl ?_
  refine KL.opS (S.storeAgg rfl sz33 rfl rfl (rfl) (by intro z hz; simp only [List.mem_cons, List.not_mem_nil, or_false] at hz; rcases hz with rfl | rfl | rfl | rfl | rfl | rfl | rfl | rfl | rfl | rfl | rfl | rfl <;> first | rfl | exact ms.rt.one | exact ms.ri.one | exact ms.rf.one | exact ms.rtb.one | exact ms.rme.one | exact ms.rgl.one | exact ms.rex.one | exact ms.rel.one | exact ms.rco.one | exact ms.rda.one) bm (by simp)) rfl rfl ?_
  rintro H16 ⟨u16, b16⟩
  have o0 := o0.upd u16 (by omega)
  have zu16 := u16.1
  have be := ((u16).2 _ (by omega)).trans be
  have rws := rws.updT u16 (by omega)
  have rwm := rwm.updT u16 (by omega)
  have bm := b16
  rw [over_all (by rfl)] at bm
  refine KL.opS (S.store rfl sz37 rfl rfl rfl rfl be (by simp)) rfl rfl ?_
  rintro H17 ⟨u17, b17⟩
  have o0 := o0.upd u17 (by omega)
  have zu17 := u17.1
  have bm := ((u17).2 _ (by omega)).trans bm
  have rws := rws.updT u17 (by omega)
  have rwm := rwm.updT u17 (by omega)
  have be := b17
  refine KL.nil ?_
  refine KQD.seq ?_
  refine KCD.ret ?_
  refine KQD.fin_ret (R1 := fun H' => H' = H17) Tryz.call44 (cloD_ret) ?_
  rintro HR rfl
  refine ⟨_, fun ar wr har hwr => results_cells2 har V8 rfl rfl (loadVar_agg U33 rfl sz33 (by rw [hwr]; exact cells_of bm) rfl) (loadVar_one U37 rfl (by rw [hwr]; exact cell_of be rfl)), o0, _, _, _, _, _, _, _, _, _, _, by rw [Bn.dec_ok hlong hsp hfl (by omega)], ?_⟩
  rw [Bn.dec_ok hlong hsp hfl (by omega)]
  exact fun H2_ k_ => ⟨(ms.rt.to (N0 := Array.size H) rwm (by omega)) H2_ k_, (ms.ri.to (N0 := Array.size H) rwm (by omega)) H2_ k_, (ms.rf.to (N0 := Array.size H) rwm (by omega)) H2_ k_, (ms.rtb.to (N0 := Array.size H) rwm (by omega)) H2_ k_, (ms.rme.to (N0 := Array.size H) rwm (by omega)) H2_ k_, (ms.rgl.to (N0 := Array.size H) rwm (by omega)) H2_ k_, (ms.rex.to (N0 := Array.size H) rwm (by omega)) H2_ k_, (ms.rel.to (N0 := Array.size H) rwm (by omega)) H2_ k_, (ms.rco.to (N0 := Array.size H) rwm (by omega)) H2_ k_, (ms.rda.to (N0 := Array.size H) rwm (by omega)) H2_ k_, ms.rs⟩
theorem Decode_any {H : Heap} {v : Value} {l : List Int} (hs : Sl 1 (EInt .u8) H v l) (hT : TabU H) : Ct Tryz.prog 8 [v] H (fun u H' => Old H H' ∧ ∃ t i f tb me gl ex el co da, u = .tuple #[.agg [t, i, f, tb, me, gl, ex, .bool (Bn.decR l).1.hasStart, .int .u32 (Bn.decR l).1.start, el, co, da].toArray, .int .i64 (Bn.decR l).2] ∧ MoV H' t i f tb me gl ex el co da (Bn.decR l).1) :=
  (Decode_st hs hT).mono fun u H' ⟨o, t, i, f, tb, me, gl, ex, el, co, da, h1, h2⟩ => ⟨o, t, i, f, tb, me, gl, ex, el, co, da, h1, h2 H' (KeepX.refl _ _)⟩
theorem SameI_refl {H : Heap} {a : Ins} {va vb : Value} (ha : Sl 1 (EInt .u32) H va a.l) (hb : Sl 1 (EInt .u32) H vb a.l) : Ct Tryz.prog 94 [insV a va, insV a vb] H (fun u H' => u = .bool true ∧ Old H H') := by
  refine Ct.mk Tryz.func94 rfl Tryz.ntmps94 rfl ?_
  intro W0 hW0
  have o0 : Old H H := Old.refl H
  unfold insV
  refine KC.sr ?_
  refine KL.m (M.box (cs := [.int .u8 a.op, .int .u32 a.a, .int .u32 a.b, .int .i64 a.c, va]) rfl rfl rfl) rfl ?_
  rintro _ H1 ⟨rfl, n1⟩
  have z1 := n1.2.1
  have o0 := o0.trans n1.1
  have ha := ha.old n1.1
  have hb := hb.old n1.1
  have b1 := n1.2.2
  have bx := b1
  refine KL.m (M.box (cs := [.int .u8 a.op, .int .u32 a.a, .int .u32 a.b, .int .i64 a.c, vb]) rfl rfl rfl) rfl ?_
  rintro _ H2 ⟨rfl, n2⟩
  have z2 := n2.2.1
  have o0 := o0.trans n2.1
  have ha := ha.old n2.1
  have hb := hb.old n2.1
  have bx := (n2.1).blk bx
  have b2 := n2.2.2
  have by_ := b2
  refine KL.fin 1 rfl (KQ.sr (KL.run 1 rfl (KL.ld rfl (cell_of bx rfl) (KL.run 1 rfl (KL.ld rfl (cell_of by_ rfl) (KL.q ((R.eql rfl rfl rfl).val (congrArg Value.bool (decide_eq_true rfl))) rfl (KL.run 2 rfl (KL.ld rfl (cell_of bx rfl) (KL.run 1 rfl (KL.ld rfl (cell_of by_ rfl) (KL.q ((R.eql rfl rfl rfl).val (congrArg Value.bool (decide_eq_true rfl))) rfl ?_)))))))))))
  refine KL.run 3 rfl (KL.ld rfl (cell_of bx rfl) (KL.run 1 rfl (KL.ld rfl (cell_of by_ rfl) (KL.q ((R.eql rfl rfl rfl).val (congrArg Value.bool (decide_eq_true rfl))) rfl (KL.run 3 rfl (KL.ld rfl (cell_of bx rfl) (KL.run 1 rfl (KL.ld rfl (cell_of by_ rfl) (KL.q ((R.eql rfl rfl rfl).val (congrArg Value.bool (decide_eq_true rfl))) rfl (KL.run 3 rfl (KL.ld rfl (cell_of bx rfl) (KL.q (R.lenS rfl U24 rfl ha) rfl (KL.run 1 rfl ?_)))))))))))))
  refine KL.ld rfl (cell_of by_ rfl) (KL.q (R.lenS rfl U24 rfl hb) rfl (KL.q ((R.eql rfl rfl rfl).val (congrArg Value.bool (decide_eq_true rfl))) rfl (KL.fin 2 rfl (KQ.seq (KC.seq (KC.sr (KL.fin 1 rfl (KQ.seq (KC.block ?_)))))))))
  refine KC.loopD (κ := Nat) [42, 43, 44, 45, 46, 47, 48, 49, 52, 53, 54, 55, 56, 57, 58, 59, 60, 61, 62, 5, 50, 51, 6] (fun k => [(5, .bool true), (6, .int .i64 (k : Nat))]) (fun k Hl => k ≤ a.l.length ∧ H2 = Hl) (fun k => a.l.length - k) 0 ?_ ?_ ?_
  · exact Sub.all rfl
  · exact ⟨Nat.zero_le _, rfl⟩
  rintro k H3 ⟨hk, rfl⟩
  refine KC.seq (KC.sr (KL.run 2 rfl (KL.ld rfl (cell_of bx rfl) (KL.q (R.lenS rfl U24 rfl ha) rfl (KL.run 2 rfl ?_)))))
  refine KL.cq 47 rfl ?_ ?_
  · intro hg47
    refine KL.fin 2 rfl (KQ.seq (KC.condT rfl (KC.skip (KQ.seq (KC.seq (KC.block (KC.quiet (by kernel_rfl) (by kernel_rfl) (KD.run 1 rfl (KD.ld rfl (cell_of bx rfl) (KD.run 1 rfl ?_))))))))))
    refine KD.op (R.index1 (j := k) rfl U24 sz28 rfl rfl ha rfl (by omega)) rfl rfl rfl ?_
    refine KD.ld rfl (ha.int k (by omega)).1 ?_
    refine KD.run 1 rfl (KD.ld rfl (cell_of by_ rfl) (KD.run 1 rfl ?_))
    refine KD.op (R.index1 (j := k) rfl U24 sz28 rfl rfl hb rfl (by omega)) rfl rfl rfl ?_
    refine KD.ld rfl (hb.int k (by omega)).1 ?_
    refine KD.op ((R.eql rfl rfl rfl).val (congrArg Value.bool (decide_eq_true rfl))) rfl rfl rfl (KD.fin 1 rfl (KQ.normBlock (KQ.r (KL.run 1 rfl ?_))))
    refine KL.q ((R.add rfl rfl rfl (by have := ha.len; dsimp only [InR]; omega)).val (congrArg (Value.int .i64) (show (k : Int) + 1 = ((k + 1 : Nat) : Int) by omega))) rfl ?_
    refine KL.fin 1 rfl ?_
    refine KQ.again (k + 1) ?_ ?_ ?_
    · exact Sub.all rfl
    · show a.l.length - (k + 1) < a.l.length - k; omega
    exact ⟨by omega, rfl⟩
  intro hg47
  refine KL.fin 2 rfl (KQ.seq (KC.condF rfl (KC.exit (KQ.exitThen (KQ.exitThen (KQ.hit (KQ.sr (KL.fin 2 rfl (KQ.seq (KC.ret (KQ.ofRet ?_)))))))))))
  refine KQ.fin1 Tryz.results94 rfl ?_
  exact ⟨rfl, o0⟩
theorem SameAll_refl {H : Heap} {vx vy : Value} {xs : List Ins} (hx : Sl 5 EIns H vx xs) (hy : Sl 5 EIns H vy xs) : Ct Tryz.prog 50 [vx, vy] H (fun u H' => u = .bool true ∧ Old H H') := by
  refine Ct.mk Tryz.func50 rfl Tryz.ntmps50 rfl ?_
  intro W0 hW0
  have o0 : Old H H := Old.refl H
  refine KC.sr (KL.fin 1 rfl (KQ.sr (KL.run 1 rfl (KL.q (R.lenS rfl U52 rfl hx) rfl (KL.run 1 rfl (KL.q (R.lenS rfl U52 rfl hy) rfl (KL.q ((R.eql rfl rfl rfl).val (congrArg Value.bool (decide_eq_true rfl))) rfl (KL.fin 1 rfl (KQ.seq (KC.seq ?_))))))))))
  refine KC.sr (KL.fin 1 rfl (KQ.seq (KC.block ?_)))
  refine KC.loopD (κ := Nat) [12, 13, 14, 15, 16, 17, 18, 21, 22, 23, 24, 25, 26, 27, 28, 29, 5, 19, 20, 6] (fun k => [(5, .bool true), (6, .int .i64 (k : Nat))]) (fun k Hl => k ≤ xs.length ∧ Old H Hl) (fun k => xs.length - k) 0 ?_ ?_ ?_
  · exact Sub.all rfl
  · exact ⟨Nat.zero_le _, o0⟩
  rintro k H1 ⟨hk, o0⟩
  have zl_H1 := o0.1
  have hx1 := hx.old o0
  have hy1 := hy.old o0
  refine KC.seq (KC.sr (KL.run 2 rfl (KL.q (R.lenS rfl U52 rfl hx) rfl (KL.run 2 rfl ?_))))
  refine KL.cq 16 rfl ?_ ?_
  · intro hg16
    obtain ⟨va, hcx, hcl, _⟩ := hx1.insV k (by omega)
    obtain ⟨vb, hdx, hdl, _⟩ := hy1.insV k (by omega)
    refine KL.fin 2 rfl (KQ.seq (KC.condT rfl (KC.skip (KQ.seq (KC.seq (KC.block ?_))))))
    refine KC.grow (by kernel_rfl) (by kernel_rfl) ?_
    refine KG.op (fun Hg og => R.move rfl rfl) rfl rfl rfl ?_
    refine KG.op (fun Hg og => R.move rfl rfl) rfl rfl rfl ?_
    refine KG.op (fun Hg og => R.index (j := k) rfl U52 sz126 rfl rfl hx rfl (by omega)) rfl rfl rfl ?_
    refine KG.op (fun Hg og => R.loadAgg rfl U126 rfl sz126 rfl (og.cells hcx) rfl) rfl rfl rfl ?_
    refine KG.op (fun Hg og => R.move rfl rfl) rfl rfl rfl ?_
    refine KG.op (fun Hg og => R.move rfl rfl) rfl rfl rfl ?_
    refine KG.op (fun Hg og => R.index (j := k) rfl U52 sz126 rfl rfl hy rfl (by omega)) rfl rfl rfl ?_
    refine KG.op (fun Hg og => R.loadAgg rfl U126 rfl sz126 rfl (og.cells hdx) rfl) rfl rfl rfl ?_
    refine KG.call rfl rfl rfl rfl Tryz.call94 rfl rfl rfl (fun Hg og => SameI_refl (hcl.old og) (hdl.old og)) ?_
    refine KG.op (fun Hg og => R.assign rfl rfl) rfl rfl rfl ?_
    refine KG.nil ?_
    intro H2 ogH2
    have o0 := o0.trans ogH2
    have zH2 := ogH2.1
    refine KQ.normBlock (KQ.r (KL.run 1 rfl ?_))
    refine KL.q ((R.add rfl rfl rfl (by have := hx.len; dsimp only [InR]; omega)).val (congrArg (Value.int .i64) (show (k : Int) + 1 = ((k + 1 : Nat) : Int) by omega))) rfl ?_
    refine KL.fin 1 rfl ?_
    refine KQ.again (k + 1) ?_ ?_ ?_
    · exact Sub.all rfl
    · show xs.length - (k + 1) < xs.length - k; omega
    exact ⟨by omega, o0⟩
  intro hg16
  refine KL.fin 2 rfl (KQ.seq (KC.condF rfl (KC.exit (KQ.exitThen (KQ.exitThen (KQ.hit (KQ.sr (KL.fin 2 rfl (KQ.seq (KC.ret (KQ.ofRet ?_)))))))))))
  refine KQ.fin1 Tryz.results50 rfl ?_
  exact ⟨rfl, o0⟩
theorem SameN_refl {H : Heap} {va vb : Value} {l : List Int} (ha : Sl 1 (EInt .u32) H va l) (hb : Sl 1 (EInt .u32) H vb l) : Ct Tryz.prog 47 [va, vb] H (fun u H' => u = .bool true ∧ H = H') := by
  refine Ct.mk Tryz.func47 rfl Tryz.ntmps47 rfl ?_
  intro W0 hW0
  have o0 : Old H H := Old.refl H
  refine KC.sr (KL.fin 1 rfl (KQ.sr (KL.run 1 rfl (KL.q (R.lenS rfl U24 rfl ha) rfl (KL.run 1 rfl (KL.q (R.lenS rfl U24 rfl hb) rfl (KL.q ((R.eql rfl rfl rfl).val (congrArg Value.bool (decide_eq_true rfl))) rfl (KL.fin 1 rfl (KQ.seq (KC.seq ?_))))))))))
  refine KC.sr (KL.fin 1 rfl (KQ.seq (KC.block ?_)))
  refine KC.loopD (κ := Nat) [12, 13, 14, 15, 16, 17, 18, 21, 22, 23, 24, 25, 26, 27, 28, 29, 5, 19, 20, 6] (fun k => [(5, .bool true), (6, .int .i64 (k : Nat))]) (fun k Hl => k ≤ l.length ∧ H = Hl) (fun k => l.length - k) 0 ?_ ?_ ?_
  · exact Sub.all rfl
  · exact ⟨Nat.zero_le _, rfl⟩
  rintro k H1 ⟨hk, rfl⟩
  refine KC.seq (KC.sr (KL.run 2 rfl (KL.q (R.lenS rfl U24 rfl ha) rfl (KL.run 2 rfl ?_))))
  refine KL.cq 16 rfl ?_ ?_
  · intro hg16
    refine KL.fin 2 rfl (KQ.seq (KC.condT rfl (KC.skip (KQ.seq (KC.seq (KC.block (KC.quiet (by kernel_rfl) (by kernel_rfl) (KD.run 2 rfl ?_))))))))
    refine KD.op (R.index1 (j := k) rfl U24 sz28 rfl rfl ha rfl (by omega)) rfl rfl rfl ?_
    refine KD.ld rfl (ha.int k (by omega)).1 ?_
    refine KD.run 2 rfl ?_
    refine KD.op (R.index1 (j := k) rfl U24 sz28 rfl rfl hb rfl (by omega)) rfl rfl rfl ?_
    refine KD.ld rfl (hb.int k (by omega)).1 ?_
    refine KD.op ((R.eql rfl rfl rfl).val (congrArg Value.bool (decide_eq_true rfl))) rfl rfl rfl (KD.fin 1 rfl (KQ.normBlock (KQ.r (KL.run 1 rfl ?_))))
    refine KL.q ((R.add rfl rfl rfl (by have := ha.len; dsimp only [InR]; omega)).val (congrArg (Value.int .i64) (show (k : Int) + 1 = ((k + 1 : Nat) : Int) by omega))) rfl ?_
    refine KL.fin 1 rfl ?_
    refine KQ.again (k + 1) ?_ ?_ ?_
    · exact Sub.all rfl
    · show l.length - (k + 1) < l.length - k; omega
    exact ⟨by omega, rfl⟩
  intro hg16
  refine KL.fin 2 rfl (KQ.seq (KC.condF rfl (KC.exit (KQ.exitThen (KQ.exitThen (KQ.hit (KQ.sr (KL.fin 2 rfl (KQ.seq (KC.ret (KQ.ofRet ?_)))))))))))
  refine KQ.fin1 Tryz.results47 rfl ?_
  exact ⟨rfl, rfl⟩
theorem SameL_refl {H : Heap} {va vb : Value} {l : List (Int × Int)} (ha : Sl 2 ELim H va l) (hb : Sl 2 ELim H vb l) : Ct Tryz.prog 48 [va, vb] H (fun u H' => u = .bool true ∧ H = H') := by
  refine Ct.mk Tryz.func48 rfl Tryz.ntmps48 rfl ?_
  intro W0 hW0
  have o0 : Old H H := Old.refl H
  refine KC.sr (KL.fin 1 rfl (KQ.sr (KL.run 1 rfl (KL.q (R.lenS rfl U25 rfl ha) rfl (KL.run 1 rfl (KL.q (R.lenS rfl U25 rfl hb) rfl (KL.q ((R.eql rfl rfl rfl).val (congrArg Value.bool (decide_eq_true rfl))) rfl (KL.fin 1 rfl (KQ.seq (KC.seq ?_))))))))))
  refine KC.sr (KL.fin 1 rfl (KQ.seq (KC.block ?_)))
  refine KC.loopD (κ := Nat) [12, 13, 14, 15, 16, 17, 18, 21, 22, 23, 24, 25, 26, 27, 28, 29, 5, 19, 20, 6] (fun k => [(5, .bool true), (6, .int .i64 (k : Nat))]) (fun k Hl => k ≤ l.length ∧ H = Hl) (fun k => l.length - k) 0 ?_ ?_ ?_
  · exact Sub.all rfl
  · exact ⟨Nat.zero_le _, rfl⟩
  rintro k H1 ⟨hk, rfl⟩
  refine KC.seq (KC.sr (KL.run 2 rfl (KL.q (R.lenS rfl U25 rfl ha) rfl (KL.run 2 rfl ?_))))
  refine KL.cq 16 rfl ?_ ?_
  · intro hg16
    refine KL.fin 2 rfl (KQ.seq (KC.condT rfl (KC.skip (KQ.seq (KC.seq (KC.block (KC.quiet (by kernel_rfl) (by kernel_rfl) (KD.run 2 rfl ?_))))))))
    refine KD.op (R.index (j := k) rfl U25 sz57 rfl rfl ha rfl (by omega)) rfl rfl rfl ?_
    refine KD.op (R.loadAgg rfl U57 rfl sz57 rfl (ha.limAt k (by omega)).1 rfl) rfl rfl rfl ?_
    refine KD.run 2 rfl ?_
    refine KD.op (R.index (j := k) rfl U25 sz57 rfl rfl hb rfl (by omega)) rfl rfl rfl ?_
    refine KD.op (R.loadAgg rfl U57 rfl sz57 rfl (hb.limAt k (by omega)).1 rfl) rfl rfl rfl ?_
    refine KD.op ((R.eqlSt rfl U57 (by kernel_rfl) (by kernel_rfl) rfl rfl (EqFs.int (by decide) U28 rfl rfl (EqFs.int (by decide) U2 rfl rfl EqFs.nil))).val (congrArg Value.bool (show _ = true from by simp))) rfl rfl rfl ?_
    refine KD.fin 1 rfl (KQ.normBlock (KQ.r (KL.run 1 rfl ?_)))
    refine KL.q ((R.add rfl rfl rfl (by have := ha.len; dsimp only [InR]; omega)).val (congrArg (Value.int .i64) (show (k : Int) + 1 = ((k + 1 : Nat) : Int) by omega))) rfl ?_
    refine KL.fin 1 rfl ?_
    refine KQ.again (k + 1) ?_ ?_ ?_
    · exact Sub.all rfl
    · show l.length - (k + 1) < l.length - k; omega
    exact ⟨by omega, rfl⟩
  intro hg16
  refine KL.fin 2 rfl (KQ.seq (KC.condF rfl (KC.exit (KQ.exitThen (KQ.exitThen (KQ.hit (KQ.sr (KL.fin 2 rfl (KQ.seq (KC.ret (KQ.ofRet ?_)))))))))))
  refine KQ.fin1 Tryz.results48 rfl ?_
  exact ⟨rfl, rfl⟩
section
variable {H : Heap} {v : Value}
theorem Sl.ftyAt {l : List FTy} (h : Sl 2 EFTy H v l) (j : Nat) (hj : j < l.length) : ∃ a b, CellsH H ((vbase v).add (j * 2)) [a, b] ∧ Sl 1 (EInt .u8) H a (l.getD j default).1 ∧ Sl 1 (EInt .u8) H b (l.getD j default).2 := by
  obtain ⟨cs, hl, hc, a, b, rfl, h1, h2⟩ := h.at j hj
  exact ⟨a, b, hc, h1, h2⟩
theorem Sl.codAt {l : List Cod} (h : Sl 2 ECod H v l) (j : Nat) (hj : j < l.length) : ∃ a b, CellsH H ((vbase v).add (j * 2)) [a, b] ∧ Sl 2 ELoc H a (l.getD j default).1 ∧ Sl 5 EIns H b (l.getD j default).2 := by
  obtain ⟨cs, hl, hc, a, b, rfl, h1, h2⟩ := h.at j hj
  exact ⟨a, b, hc, h1, h2⟩
theorem Sl.impAt {l : List Imp} (h : Sl 8 EImp H v l) (j : Nat) (hj : j < l.length) : CellsH H ((vbase v).add (j * 8)) [.string (l.getD j default).mod, .string (l.getD j default).nam, .int .u8 (l.getD j default).kind, .int .u32 (l.getD j default).typ, .int .u32 (l.getD j default).lim.1, .int .i64 (l.getD j default).lim.2, .int .u8 (l.getD j default).glob.1, .bool (l.getD j default).glob.2] ∧ InR .u8 (l.getD j default).kind ∧ InR .u8 (l.getD j default).glob.1 := by
  obtain ⟨cs, hl, hc, rfl, h1, _, _, _, h2⟩ := h.at j hj
  exact ⟨hc, h1, h2⟩
theorem Sl.expAt {l : List Exp} (h : Sl 3 EExp H v l) (j : Nat) (hj : j < l.length) : CellsH H ((vbase v).add (j * 3)) [.string (l.getD j default).nam, .int .u8 (l.getD j default).kind, .int .u32 (l.getD j default).idx] := by
  obtain ⟨cs, hl, hc, rfl, h1, _⟩ := h.at j hj
  exact hc
theorem Sl.gloAt {l : List Glo} (h : Sl 3 EGlo H v l) (j : Nat) (hj : j < l.length) : ∃ a, CellsH H ((vbase v).add (j * 3)) [.int .u8 (l.getD j default).1.1, .bool (l.getD j default).1.2, a] ∧ Sl 5 EIns H a (l.getD j default).2 ∧ InR .u8 (l.getD j default).1.1 := by
  obtain ⟨cs, hl, hc, a, rfl, h1, h2⟩ := h.at j hj
  exact ⟨a, hc, h1, h2⟩
theorem Sl.elmAt {l : List Elm} (h : Sl 3 EElm H v l) (j : Nat) (hj : j < l.length) : ∃ a b, CellsH H ((vbase v).add (j * 3)) [.int .u32 (l.getD j default).1, a, b] ∧ Sl 5 EIns H a (l.getD j default).2.1 ∧ Sl 1 (EInt .u32) H b (l.getD j default).2.2 := by
  obtain ⟨cs, hl, hc, a, b, rfl, h1, h2, _⟩ := h.at j hj
  exact ⟨a, b, hc, h1, h2⟩
theorem Sl.datAt {l : List Elm} (h : Sl 3 EDat H v l) (j : Nat) (hj : j < l.length) : ∃ a b, CellsH H ((vbase v).add (j * 3)) [.int .u32 (l.getD j default).1, a, b] ∧ Sl 5 EIns H a (l.getD j default).2.1 ∧ Sl 1 (EInt .u8) H b (l.getD j default).2.2 := by
  obtain ⟨cs, hl, hc, a, b, rfl, h1, h2, _⟩ := h.at j hj
  exact ⟨a, b, hc, h1, h2⟩
end
theorem SameC_refl {H : Heap} {va vb : Value} {l : List Cod} (ha : Sl 2 ECod H va l) (hb : Sl 2 ECod H vb l) : Ct Tryz.prog 49 [va, vb] H (fun u H' => u = .bool true ∧ Old H H') := by
  refine Ct.mk Tryz.func49 rfl Tryz.ntmps49 rfl ?_
  intro W0 hW0
  have o0 : Old H H := Old.refl H
  refine KC.sr (KL.fin 1 rfl (KQ.sr (KL.run 1 rfl (KL.q (R.lenS rfl U30 rfl ha) rfl (KL.run 1 rfl (KL.q (R.lenS rfl U30 rfl hb) rfl (KL.q ((R.eql rfl rfl rfl).val (congrArg Value.bool (decide_eq_true rfl))) rfl (KL.fin 1 rfl (KQ.seq (KC.seq ?_))))))))))
  refine KC.sr (KL.fin 1 rfl (KQ.seq (KC.block ?_)))
  refine KC.loopD (κ := Nat) [13, 14, 15, 16, 17, 18, 19, 22, 23, 24, 25, 26, 27, 28, 29, 30, 31, 32, 33, 34, 35, 36, 37, 38, 39, 40, 41, 42, 43, 44, 45, 46, 47, 5, 7, 48, 49, 50, 51, 52, 53, 54, 55, 56, 57, 58, 61, 62, 63, 64, 65, 66, 67, 68, 69, 70, 71, 72, 73, 74, 75, 76, 77, 59, 60, 20, 21, 6] (fun k => [(5, .bool true), (6, .int .i64 (k : Nat))]) (fun k Hl => k ≤ l.length ∧ Old H Hl) (fun k => l.length - k) 0 ?_ ?_ ?_
  · exact Sub.all rfl
  · exact ⟨Nat.zero_le _, o0⟩
  rintro k H1 ⟨hk, o0⟩
  have zl_H1 := o0.1
  have ha1 := ha.old o0
  have hb1 := hb.old o0
  refine KC.seq (KC.sr (KL.run 2 rfl (KL.q (R.lenS rfl U30 rfl ha) rfl (KL.run 2 rfl ?_))))
  refine KL.cq 17 rfl ?_ ?_
  · intro hg17
    obtain ⟨va1, va2, hca, hca1, hca2⟩ := ha1.codAt k (by omega)
    obtain ⟨vb1, vb2, hcb, hcb1, hcb2⟩ := hb1.codAt k (by omega)
    refine KL.fin 2 rfl (KQ.seq (KC.condT rfl (KC.skip (KQ.seq (KC.seq (KC.block (KC.seq ?_)))))))
    refine KC.grow (by kernel_rfl) (by kernel_rfl) ?_
    refine KG.op (fun Hg og => R.move rfl rfl) rfl rfl rfl ?_
    refine KG.op (fun Hg og => R.move rfl rfl) rfl rfl rfl ?_
    refine KG.op (fun Hg og => R.index (j := k) rfl U30 sz54 rfl rfl ha rfl (by omega)) rfl rfl rfl ?_
    refine KG.op (fun Hg og => (R.fieldAddrP rfl U54 rfl rfl sz51 rfl)) rfl rfl rfl ?_
    refine KG.op (fun Hg og => R.load rfl U51 rfl rfl (og.cell (hca 0 _ rfl))) rfl rfl rfl ?_
    refine KG.op (fun Hg og => R.lenS rfl U51 rfl hca1) rfl rfl rfl ?_
    refine KG.op (fun Hg og => R.move rfl rfl) rfl rfl rfl ?_
    refine KG.op (fun Hg og => R.move rfl rfl) rfl rfl rfl ?_
    refine KG.op (fun Hg og => R.index (j := k) rfl U30 sz54 rfl rfl hb rfl (by omega)) rfl rfl rfl ?_
    refine KG.op (fun Hg og => (R.fieldAddrP rfl U54 rfl rfl sz51 rfl)) rfl rfl rfl ?_
    refine KG.op (fun Hg og => R.load rfl U51 rfl rfl (og.cell (hcb 0 _ rfl))) rfl rfl rfl ?_
    refine KG.op (fun Hg og => R.lenS rfl U51 rfl hcb1) rfl rfl rfl ?_
    refine KG.op (fun Hg og => (R.eql rfl rfl rfl).val (congrArg Value.bool (decide_eq_true rfl))) rfl rfl rfl ?_
    refine KG.op (fun Hg og => R.move rfl rfl) rfl rfl rfl ?_
    refine KG.op (fun Hg og => R.move rfl rfl) rfl rfl rfl ?_
    refine KG.op (fun Hg og => R.move rfl rfl) rfl rfl rfl ?_
    refine KG.op (fun Hg og => R.index (j := k) rfl U30 sz54 rfl rfl ha rfl (by omega)) rfl rfl rfl ?_
    refine KG.op (fun Hg og => (R.fieldAddrP rfl U54 rfl rfl sz52 rfl)) rfl rfl rfl ?_
    refine KG.op (fun Hg og => R.load rfl U52 rfl rfl (og.cell (hca 1 _ rfl))) rfl rfl rfl ?_
    refine KG.op (fun Hg og => R.move rfl rfl) rfl rfl rfl ?_
    refine KG.op (fun Hg og => R.move rfl rfl) rfl rfl rfl ?_
    refine KG.op (fun Hg og => R.index (j := k) rfl U30 sz54 rfl rfl hb rfl (by omega)) rfl rfl rfl ?_
    refine KG.op (fun Hg og => (R.fieldAddrP rfl U54 rfl rfl sz52 rfl)) rfl rfl rfl ?_
    refine KG.op (fun Hg og => R.load rfl U52 rfl rfl (og.cell (hcb 1 _ rfl))) rfl rfl rfl ?_
    refine KG.call rfl rfl rfl rfl Tryz.call50 rfl rfl rfl (fun Hg og => SameAll_refl (hca2.old og) (hcb2.old og)) ?_
    refine KG.op (fun Hg og => R.pick rfl rfl rfl) rfl rfl rfl ?_
    refine KG.op (fun Hg og => R.assign rfl rfl) rfl rfl rfl ?_
    refine KG.nil ?_
    intro H2 ogH2
    have o0 := o0.trans ogH2
    have zH2 := ogH2.1
    have hca : CellsH H2 _ _ := ogH2.cells hca
    have hcb : CellsH H2 _ _ := ogH2.cells hcb
    have hca1 := hca1.old ogH2
    have hcb1 := hcb1.old ogH2
    refine KQ.sr (KL.fin 1 rfl (KQ.seq (KC.block ?_)))
    refine KC.loopD (κ := Nat) [48, 49, 50, 51, 52, 53, 54, 55, 56, 57, 58, 61, 62, 63, 64, 65, 66, 67, 68, 69, 70, 71, 72, 73, 74, 75, 76, 77, 5, 59, 60, 7] (fun j => [(5, .bool true), (7, .int .i64 (j : Nat))]) (fun j Hl => j ≤ (l.getD k default).1.length ∧ H2 = Hl) (fun j => (l.getD k default).1.length - j) 0 ?_ ?_ ?_
    · exact Sub.all rfl
    · exact ⟨Nat.zero_le _, rfl⟩
    rintro j H3 ⟨hj, rfl⟩
    refine KC.seq (KC.sr (KL.run 3 rfl ?_))
    refine KL.q (R.index (j := k) rfl U30 sz54 rfl rfl ha rfl (by omega)) rfl ?_
    refine KL.q (R.fieldAddrP rfl U54 rfl rfl sz51 rfl) rfl (KL.ld rfl (hca 0 _ rfl) (KL.q (R.lenS rfl U51 rfl hca1) rfl (KL.run 2 rfl ?_)))
    refine KL.cq 56 rfl ?_ ?_
    · intro hg56
      refine KL.fin 2 rfl (KQ.seq (KC.condT rfl (KC.skip (KQ.seq (KC.seq (KC.block (KC.quiet (by kernel_rfl) (by kernel_rfl) (KD.run 2 rfl ?_))))))))
      refine KD.op (R.index (j := k) rfl U30 sz54 rfl rfl ha rfl (by omega)) rfl rfl rfl ?_
      refine KD.op (R.fieldAddrP rfl U54 rfl rfl sz51 rfl) rfl rfl rfl (KD.ld rfl (hca 0 _ rfl) (KD.run 1 rfl ?_))
      refine KD.op (R.index (j := j) rfl U51 sz146 rfl rfl hca1 rfl (by omega)) rfl rfl rfl ?_
      refine KD.op (R.loadAgg rfl U146 rfl sz146 rfl (hca1.locAt j (by omega)).1 rfl) rfl rfl rfl ?_
      refine KD.run 2 rfl ?_
      refine KD.op (R.index (j := k) rfl U30 sz54 rfl rfl hb rfl (by omega)) rfl rfl rfl ?_
      refine KD.op (R.fieldAddrP rfl U54 rfl rfl sz51 rfl) rfl rfl rfl (KD.ld rfl (hcb 0 _ rfl) (KD.run 1 rfl ?_))
      refine KD.op (R.index (j := j) rfl U51 sz146 rfl rfl hcb1 rfl (by omega)) rfl rfl rfl ?_
      refine KD.op (R.loadAgg rfl U146 rfl sz146 rfl (hcb1.locAt j (by omega)).1 rfl) rfl rfl rfl ?_
      refine KD.op ((R.eqlSt rfl U146 (by kernel_rfl) (by kernel_rfl) rfl rfl (EqFs.int (by decide) U28 rfl rfl (EqFs.int (by decide) U5 rfl rfl EqFs.nil))).val (congrArg Value.bool (show _ = true from by simp))) rfl rfl rfl ?_
      refine KD.fin 1 rfl (KQ.normBlock (KQ.r (KL.run 1 rfl ?_)))
      refine KL.q ((R.add rfl rfl rfl (by have := hca1.len; dsimp only [InR]; omega)).val (congrArg (Value.int .i64) (show (j : Int) + 1 = ((j + 1 : Nat) : Int) by omega))) rfl ?_
      refine KL.fin 1 rfl ?_
      refine KQ.again (j + 1) ?_ ?_ ?_
      · exact Sub.all rfl
      · show (l.getD k default).1.length - (j + 1) < (l.getD k default).1.length - j; omega
      exact ⟨by omega, rfl⟩
    intro hg56
    refine KL.fin 2 rfl (KQ.seq (KC.condF rfl (KC.exit (KQ.exitThen (KQ.exitThen (KQ.hit (KQ.normBlock (KQ.r (KL.run 1 rfl ?_)))))))))
    refine KL.q ((R.add rfl rfl rfl (by have := ha.len; dsimp only [InR]; omega)).val (congrArg (Value.int .i64) (show (k : Int) + 1 = ((k + 1 : Nat) : Int) by omega))) rfl ?_
    refine KL.fin 1 rfl ?_
    refine KQ.again (k + 1) ?_ ?_ ?_
    · exact Sub.all rfl
    · show l.length - (k + 1) < l.length - k; omega
    exact ⟨by omega, o0⟩
  intro hg17
  refine KL.fin 2 rfl (KQ.seq (KC.condF rfl (KC.exit (KQ.exitThen (KQ.exitThen (KQ.hit (KQ.sr (KL.fin 2 rfl (KQ.seq (KC.ret (KQ.ofRet ?_)))))))))))
  refine KQ.fin1 Tryz.results49 rfl ?_
  exact ⟨rfl, o0⟩
section
variable {P : Program} {E : Env} {H : Heap} {o : Oper}
theorem part_sub {t : TypeId} {ds : TypeDesc} {cs : Array Value} {i m : Nat} (hu : P.underlying t = some ds) (hd : isAggD ds = true) (hs : (P.info? t).map (·.size) = some m) (w : World) : (part t cs i).run P w = .ok (.agg (cs.extract i (i + m))) w := by
  have h2 : (isAgg t).run P w = .ok true w := by
    cases ds <;> simp [isAggD] at hd <;> simp [isAgg, underlying, program, hu, Sem.run_bind, Sem.run_pure, Result.andThen, Sem.run]
  cases hq : P.info? t with
  | none => simp [hq] at hs
  | some i' =>
    simp [hq] at hs
    simp [part, h2, sizeOf, typeInfo, program, hq, hs, Sem.run_bind, Sem.run_pure, Result.andThen, Sem.run]
/-- two structs' fields are alike -/
inductive SameFs (P : Program) (xs : Array Value) : List Field → Prop
  | nil : SameFs P xs []
  | int {f : Field} {fs : List Field} {k k' : IntKind} {a : Int} (hn : f.name ≠ "_") (hu : P.underlying f.type = some (.int k')) (hx : nth xs.toList f.offset = some (.int k a)) (h : SameFs P xs fs) : SameFs P xs (f :: fs)
  | str {f : Field} {fs : List Field} {a : ByteArray} (hn : f.name ≠ "_") (hu : P.underlying f.type = some .string) (hx : nth xs.toList f.offset = some (.string a)) (h : SameFs P xs fs) : SameFs P xs (f :: fs)
  | sub {f : Field} {fs : List Field} {gs : Array Field} {m : Nat} {r : Bool} (hn : f.name ≠ "_") (hu : P.underlying f.type = some (.struct gs)) (hst : P.stoodInHeld f.type = false) (hs : (P.info? f.type).map (·.size) = some m) (hf : EqFs P (xs.extract f.offset (f.offset + m)) (xs.extract f.offset (f.offset + m)) gs.toList r) (hr : r = true) (h : SameFs P xs fs) : SameFs P xs (f :: fs)
theorem SameFs.run {xs : Array Value} {fs : List Field} (h : SameFs P xs fs) (d : Nat) (w : World) : (Op.eqFields (d + 2) xs xs fs).run P w = .ok true w := by
  induction h with
  | nil => simp [Op.eqFields, Sem.run_pure]
  | @int f fs k k' a hn hu hx h ih =>
    have e : (a == a) = true := by simp
    simp only [Op.eqFields, hn, ne_eq, not_false_eq_true, if_true, Sem.run_bind, part_one hu rfl hx, run_equalIn_int w (d + 1) _ k k' a a hu, Result.andThen_ok, e]
    simp [ih]
  | @str f fs a hn hu hx h ih =>
    have e : (a.toList == a.toList) = true := by simp
    simp only [Op.eqFields, hn, ne_eq, not_false_eq_true, if_true, Sem.run_bind, part_one hu rfl hx, run_equalIn_string w (d + 1) _ a a hu, Result.andThen_ok, e]
    simp [ih]
  | @sub f fs gs m r hn hu hst hs hf hr h ih =>
    subst hr
    have e : P.fieldsOf f.type = gs := by simp [Program.fieldsOf, hu]
    have h9 : (Op.equalIn (d + 2) f.type (.agg (xs.extract f.offset (f.offset + m))) (.agg (xs.extract f.offset (f.offset + m)))).run P w = .ok true w := by
      rw [run_equalIn_struct w (d + 1) f.type _ _ (by rw [e]; exact hu) hst, e]
      exact hf.run d w
    simp only [Op.eqFields, hn, ne_eq, not_false_eq_true, if_true, Sem.run_bind, part_sub hu rfl hs, h9, Result.andThen_ok]
    simp [ih]
theorem R.eqlSame {T T' : TypeId} {x y : Operand} {xs : Array Value} {fs : Array Field} (ho : o.op = .binOp .eql T x y T') (ht : P.underlying T = some (.struct fs)) (hst : P.stoodInHeld T = false) (hG : P.eqGuardType P.depth T = false) (hx : ev E x = some (.agg xs)) (hy : ev E y = some (.agg xs)) (hf : SameFs P xs fs.toList) : Run P E H o (.bool true) := by
  intro ρ w ha hw
  have e : P.fieldsOf T = fs := by simp [Program.fieldsOf, ht]
  have h1 : (Op.equal T (.agg xs) (.agg xs)).run P w = .ok true w := by
    show (Op.equalIn (9999 + 1) T _ _).run P w = _
    rw [run_equalIn_struct w 9999 T xs xs (by rw [e]; exact ht) hst, e]
    exact hf.run 9997 w
  simp [execOp, ho, ha x _ hx, ha y _ hy, run_eqGuard_agg w _ T x y xs xs hG, binOp, program, h1, Sem.run_bind, Sem.run_pure, Result.andThen, Sem.run]
end
theorem Same_refl {H : Heap} {t i f tb me g e el c d : Value} {t' i' f' tb' me' g' e' el' c' d' : Value} {m : Mo} (m1 : MoV H t i f tb me g e el c d m) (m2 : MoV H t' i' f' tb' me' g' e' el' c' d' m) : Ct Tryz.prog 9 [.agg [t, i, f, tb, me, g, e, .bool m.hasStart, .int .u32 m.start, el, c, d].toArray, .agg [t', i', f', tb', me', g', e', .bool m.hasStart, .int .u32 m.start, el', c', d'].toArray] H (fun u H' => u = .bool true ∧ Old H H') := by
  refine Ct.mk Tryz.func9 rfl Tryz.ntmps9 rfl ?_
  intro W0 hW0
  have o0 : Old H H := Old.refl H
  refine KC.sr ?_
  refine KL.m (M.box (cs := [t, i, f, tb, me, g, e, .bool m.hasStart, .int .u32 m.start, el, c, d]) rfl rfl rfl) rfl ?_
  rintro _ H1 ⟨rfl, n1⟩
  have z1 := n1.2.1
  have o0 := o0.trans n1.1
  have b1 := n1.2.2
  have bx := b1
  refine KL.m (M.box (cs := [t', i', f', tb', me', g', e', .bool m.hasStart, .int .u32 m.start, el', c', d']) rfl rfl rfl) rfl ?_
  rintro _ H2 ⟨rfl, n2⟩
  have z2 := n2.2.1
  have o0 := o0.trans n2.1
  have bx := (n2.1).blk bx
  have b2 := n2.2.2
  have by_ := b2
  refine KL.fin 1 rfl (KQ.sr (KL.run 1 rfl (KL.ld rfl (cell_of bx rfl) (KL.q (R.lenS rfl U22 rfl m1.t) rfl (KL.run 1 rfl (KL.ld rfl (cell_of by_ rfl) (KL.q (R.lenS rfl U22 rfl m2.t) rfl (KL.q ((R.eql rfl rfl rfl).val (congrArg Value.bool (decide_eq_true rfl))) rfl (KL.run 2 rfl (KL.ld rfl (cell_of bx rfl) (KL.q (R.lenS rfl U23 rfl m1.i) rfl ?_)))))))))))
  refine KL.run 1 rfl (KL.ld rfl (cell_of by_ rfl) (KL.q (R.lenS rfl U23 rfl m2.i) rfl (KL.q ((R.eql rfl rfl rfl).val (congrArg Value.bool (decide_eq_true rfl))) rfl (KL.run 3 rfl (KL.ld rfl (cell_of bx rfl) (KL.run 1 rfl (KL.ld rfl (cell_of by_ rfl) ?_)))))))
  refine KL.c rfl Tryz.call47 (SameN_refl (m1.f.old o0) (m2.f.old o0)) ?_
  rintro _ _ ⟨rfl, rfl⟩
  refine KL.run 3 rfl (KL.ld rfl (cell_of bx rfl) (KL.run 1 rfl (KL.ld rfl (cell_of by_ rfl) ?_)))
  refine KL.c rfl Tryz.call48 (SameL_refl (m1.tb.old o0) (m2.tb.old o0)) ?_
  rintro _ _ ⟨rfl, rfl⟩
  refine KL.run 3 rfl (KL.ld rfl (cell_of bx rfl) (KL.run 1 rfl (KL.ld rfl (cell_of by_ rfl) ?_)))
  refine KL.c rfl Tryz.call48 (SameL_refl (m1.me.old o0) (m2.me.old o0)) ?_
  rintro _ _ ⟨rfl, rfl⟩
  refine KL.run 3 rfl (KL.ld rfl (cell_of bx rfl) (KL.q (R.lenS rfl U26 rfl m1.g) rfl (KL.run 1 rfl (KL.ld rfl (cell_of by_ rfl) (KL.q (R.lenS rfl U26 rfl m2.g) rfl (KL.q ((R.eql rfl rfl rfl).val (congrArg Value.bool (decide_eq_true rfl))) rfl (KL.run 3 rfl (KL.ld rfl (cell_of bx rfl) (KL.q (R.lenS rfl U27 rfl m1.e) rfl (KL.run 1 rfl (KL.ld rfl (cell_of by_ rfl) (KL.q (R.lenS rfl U27 rfl m2.e) rfl (KL.q ((R.eql rfl rfl rfl).val (congrArg Value.bool (decide_eq_true rfl))) rfl ?_)))))))))))))
  refine KL.run 3 rfl (KL.ld rfl (cell_of bx rfl) (KL.run 1 rfl (KL.ld rfl (cell_of by_ rfl) ?_)))
  refine KL.q ((R.eqlB rfl U4 rfl rfl).val (congrArg Value.bool (show _ = true from by simp))) rfl ?_
  refine KL.run 3 rfl (KL.ld rfl (cell_of bx rfl) (KL.run 1 rfl (KL.ld rfl (cell_of by_ rfl) (KL.q ((R.eql rfl rfl rfl).val (congrArg Value.bool (decide_eq_true rfl))) rfl (KL.run 3 rfl (KL.ld rfl (cell_of bx rfl) (KL.q (R.lenS rfl U29 rfl m1.el) rfl (KL.run 1 rfl (KL.ld rfl (cell_of by_ rfl) (KL.q (R.lenS rfl U29 rfl m2.el) rfl (KL.q ((R.eql rfl rfl rfl).val (congrArg Value.bool (decide_eq_true rfl))) rfl (KL.run 3 rfl (KL.ld rfl (cell_of bx rfl) ?_)))))))))))))
  refine KL.run 1 rfl (KL.ld rfl (cell_of by_ rfl) ?_)
  refine KL.c rfl Tryz.call49 (SameC_refl (m1.c.old o0) (m2.c.old o0)) ?_
  rintro _ H3 ⟨rfl, ox⟩
  have zc_H3 := (ox).1
  have o0 := o0.trans ox
  have bx := (ox).blk bx
  have by_ := (ox).blk by_
  refine KL.run 3 rfl (KL.ld rfl (cell_of bx rfl) (KL.q (R.lenS rfl U31 rfl m1.d) rfl (KL.run 1 rfl (KL.ld rfl (cell_of by_ rfl) (KL.q (R.lenS rfl U31 rfl m2.d) rfl (KL.q ((R.eql rfl rfl rfl).val (congrArg Value.bool (decide_eq_true rfl))) rfl (KL.fin 2 rfl (KQ.seq (KC.seq (KC.sr (KL.fin 1 rfl (KQ.seq ?_))))))))))))
  refine KC.block ?_
  refine KC.loopD (κ := Nat) [106, 107, 108, 109, 110, 111, 112, 113, 116, 117, 118, 119, 120, 121, 122, 123, 124, 125, 126, 127, 128, 129, 130, 131, 132, 133, 134, 135, 136, 137, 138, 139, 140, 141, 142, 143, 144, 145, 146, 147, 5, 114, 115, 6] (fun k => [(5, .bool true), (6, .int .i64 (k : Nat))]) (fun k Hl => k ≤ m.types.length ∧ Old H Hl ∧ Hl[Array.size H]? = some (.cells [t, i, f, tb, me, g, e, .bool m.hasStart, .int .u32 m.start, el, c, d].toArray 33 (0, 0)) ∧ Hl[Array.size H1]? = some (.cells [t', i', f', tb', me', g', e', .bool m.hasStart, .int .u32 m.start, el', c', d'].toArray 33 (0, 0))) (fun k => m.types.length - k) 0 ?_ ?_ ?_
  · exact Sub.all rfl
  · exact ⟨Nat.zero_le _, o0, bx, by_⟩
  rintro k H4 ⟨hk, o0, bx, by_⟩
  have zl_H4 := o0.1
  have zl := o0.1
  refine KC.seq (KC.sr (KL.run 2 rfl (KL.ld rfl (cell_of bx rfl) (KL.q (R.lenS rfl U22 rfl m1.t) rfl (KL.run 2 rfl ?_)))))
  refine KL.cq 111 rfl ?_ ?_
  · intro hg111
    obtain ⟨a1, a2, hca, ha1, ha2⟩ := (m1.t.old o0).ftyAt k (by omega)
    obtain ⟨b1_, b2_, hcb, hb1, hb2⟩ := (m2.t.old o0).ftyAt k (by omega)
    refine KL.fin 2 rfl (KQ.seq (KC.condT rfl (KC.skip (KQ.seq (KC.seq (KC.block (KC.quiet (by kernel_rfl) (by kernel_rfl) (KD.run 1 rfl (KD.ld rfl (cell_of bx rfl) (KD.run 1 rfl ?_))))))))))
    refine KD.op (R.index (j := k) rfl U22 sz50 rfl rfl m1.t rfl (by omega)) rfl rfl rfl ?_
    refine KD.op (R.fieldAddrP rfl U50 rfl rfl sz34 rfl) rfl rfl rfl (KD.ld rfl (hca 0 _ rfl) (KD.op (R.convBS rfl U34 U5 U9 rfl ha1) rfl rfl rfl (KD.run 1 rfl (KD.ld rfl (cell_of by_ rfl) (KD.run 1 rfl ?_)))))
    refine KD.op (R.index (j := k) rfl U22 sz50 rfl rfl m2.t rfl (by omega)) rfl rfl rfl ?_
    refine KD.op (R.fieldAddrP rfl U50 rfl rfl sz34 rfl) rfl rfl rfl (KD.ld rfl (hcb 0 _ rfl) (KD.op (R.convBS rfl U34 U5 U9 rfl hb1) rfl rfl rfl ?_))
    refine KD.op ((R.eqlStr rfl rfl rfl).val (congrArg Value.bool (show _ = true from by simp))) rfl rfl rfl ?_
    refine KD.run 2 rfl (KD.ld rfl (cell_of bx rfl) (KD.run 1 rfl ?_))
    refine KD.op (R.index (j := k) rfl U22 sz50 rfl rfl m1.t rfl (by omega)) rfl rfl rfl ?_
    refine KD.op (R.fieldAddrP rfl U50 rfl rfl sz34 rfl) rfl rfl rfl (KD.ld rfl (hca 1 _ rfl) (KD.op (R.convBS rfl U34 U5 U9 rfl ha2) rfl rfl rfl (KD.run 1 rfl (KD.ld rfl (cell_of by_ rfl) (KD.run 1 rfl ?_)))))
    refine KD.op (R.index (j := k) rfl U22 sz50 rfl rfl m2.t rfl (by omega)) rfl rfl rfl ?_
    refine KD.op (R.fieldAddrP rfl U50 rfl rfl sz34 rfl) rfl rfl rfl (KD.ld rfl (hcb 1 _ rfl) (KD.op (R.convBS rfl U34 U5 U9 rfl hb2) rfl rfl rfl ?_))
    refine KD.op ((R.eqlStr rfl rfl rfl).val (congrArg Value.bool (show _ = true from by simp))) rfl rfl rfl ?_
    refine KD.fin 2 rfl (KQ.normBlock (KQ.r (KL.run 1 rfl ?_)))
    refine KL.q ((R.add rfl rfl rfl (by have := m1.t.len; dsimp only [InR]; omega)).val (congrArg (Value.int .i64) (show (k : Int) + 1 = ((k + 1 : Nat) : Int) by omega))) rfl ?_
    refine KL.fin 1 rfl ?_
    refine KQ.again (k + 1) ?_ ?_ ?_
    · exact Sub.all rfl
    · show m.types.length - (k + 1) < m.types.length - k; omega
    exact ⟨by omega, o0, bx, by_⟩
  intro hg111
  refine KL.fin 2 rfl (KQ.seq (KC.condF rfl (KC.exit (KQ.exitThen (KQ.exitThen (KQ.hit (KQ.seq (KC.seq (KC.sr (KL.fin 1 rfl (KQ.seq (KC.block ?_))))))))))))
  refine KC.loopD (κ := Nat) [148, 149, 150, 151, 152, 153, 154, 155, 158, 159, 160, 161, 162, 163, 164, 165, 166, 167, 168, 5, 156, 157, 7] (fun k => [(5, .bool true), (7, .int .i64 (k : Nat))]) (fun k Hl => k ≤ m.imports.length ∧ Old H Hl ∧ Hl[Array.size H]? = some (.cells [t, i, f, tb, me, g, e, .bool m.hasStart, .int .u32 m.start, el, c, d].toArray 33 (0, 0)) ∧ Hl[Array.size H1]? = some (.cells [t', i', f', tb', me', g', e', .bool m.hasStart, .int .u32 m.start, el', c', d'].toArray 33 (0, 0))) (fun k => m.imports.length - k) 0 ?_ ?_ ?_
  · exact Sub.all rfl
  · exact ⟨Nat.zero_le _, o0, bx, by_⟩
  rintro k H5 ⟨hk, o0, bx, by_⟩
  have zl_H5 := o0.1
  have zl := o0.1
  refine KC.seq (KC.sr (KL.run 2 rfl (KL.ld rfl (cell_of bx rfl) (KL.q (R.lenS rfl U23 rfl m1.i) rfl (KL.run 2 rfl ?_)))))
  refine KL.cq 153 rfl ?_ ?_
  · intro hg153
    refine KL.fin 2 rfl (KQ.seq (KC.condT rfl (KC.skip (KQ.seq (KC.seq (KC.block (KC.quiet (by kernel_rfl) (by kernel_rfl) (KD.run 1 rfl (KD.ld rfl (cell_of bx rfl) (KD.run 1 rfl ?_))))))))))
    refine KD.op (R.index (j := k) rfl U23 sz61 rfl rfl m1.i rfl (by omega)) rfl rfl rfl ?_
    refine KD.op (R.loadAgg rfl U61 rfl sz61 rfl ((m1.i.old o0).impAt k (by omega)).1 rfl) rfl rfl rfl ?_
    refine KD.run 1 rfl (KD.ld rfl (cell_of by_ rfl) (KD.run 1 rfl ?_))
    refine KD.op (R.index (j := k) rfl U23 sz61 rfl rfl m2.i rfl (by omega)) rfl rfl rfl ?_
    refine KD.op (R.loadAgg rfl U61 rfl sz61 rfl ((m2.i.old o0).impAt k (by omega)).1 rfl) rfl rfl rfl ?_
    refine KD.op (R.eqlSame rfl U61 (by kernel_rfl) (by kernel_rfl) rfl rfl (SameFs.str (by decide) U9 rfl (SameFs.str (by decide) U9 rfl (SameFs.int (by decide) U5 rfl (SameFs.int (by decide) U28 rfl (SameFs.sub (by decide) U57 (by kernel_rfl) sz57 (EqFs.int (by decide) U28 rfl rfl (EqFs.int (by decide) U2 rfl rfl EqFs.nil)) (by simp) (SameFs.sub (by decide) U59 (by kernel_rfl) sz59 (EqFs.int (by decide) U5 rfl rfl (EqFs.bool (by decide) U4 rfl rfl EqFs.nil)) (by simp) SameFs.nil))))))) rfl rfl rfl ?_
    refine KD.fin 1 rfl (KQ.normBlock (KQ.r (KL.run 1 rfl ?_)))
    refine KL.q ((R.add rfl rfl rfl (by have := m1.i.len; dsimp only [InR]; omega)).val (congrArg (Value.int .i64) (show (k : Int) + 1 = ((k + 1 : Nat) : Int) by omega))) rfl ?_
    refine KL.fin 1 rfl ?_
    refine KQ.again (k + 1) ?_ ?_ ?_
    · exact Sub.all rfl
    · show m.imports.length - (k + 1) < m.imports.length - k; omega
    exact ⟨by omega, o0, bx, by_⟩
  intro hg153
  refine KL.fin 2 rfl (KQ.seq (KC.condF rfl (KC.exit (KQ.exitThen (KQ.exitThen (KQ.hit (KQ.seq (KC.seq (KC.sr (KL.fin 1 rfl (KQ.seq (KC.block ?_))))))))))))
  refine KC.loopD (κ := Nat) [169, 170, 171, 172, 173, 174, 175, 176, 179, 180, 181, 182, 183, 184, 185, 186, 187, 188, 189, 190, 191, 192, 193, 194, 195, 196, 197, 198, 199, 200, 201, 202, 203, 204, 205, 206, 5, 177, 178, 8] (fun k => [(5, .bool true), (8, .int .i64 (k : Nat))]) (fun k Hl => k ≤ m.globs.length ∧ Old H Hl ∧ Hl[Array.size H]? = some (.cells [t, i, f, tb, me, g, e, .bool m.hasStart, .int .u32 m.start, el, c, d].toArray 33 (0, 0)) ∧ Hl[Array.size H1]? = some (.cells [t', i', f', tb', me', g', e', .bool m.hasStart, .int .u32 m.start, el', c', d'].toArray 33 (0, 0))) (fun k => m.globs.length - k) 0 ?_ ?_ ?_
  · exact Sub.all rfl
  · exact ⟨Nat.zero_le _, o0, bx, by_⟩
  rintro k H6 ⟨hk, o0, bx, by_⟩
  have zl_H6 := o0.1
  have zl := o0.1
  refine KC.seq (KC.sr (KL.run 2 rfl (KL.ld rfl (cell_of bx rfl) (KL.q (R.lenS rfl U26 rfl m1.g) rfl (KL.run 2 rfl ?_)))))
  refine KL.cq 174 rfl ?_ ?_
  · intro hg174
    obtain ⟨a1, hca, ha1, _⟩ := (m1.g.old o0).gloAt k (by omega)
    obtain ⟨b1_, hcb, hb1, _⟩ := (m2.g.old o0).gloAt k (by omega)
    have hcaT : CellsH H6 _ [.int .u8 (m.globs.getD k default).1.1, .bool (m.globs.getD k default).1.2] := fun i v hv => hca i v (by match i, hv with | 0, hv => exact hv | 1, hv => exact hv)
    have hcbT : CellsH H6 _ [.int .u8 (m.globs.getD k default).1.1, .bool (m.globs.getD k default).1.2] := fun i v hv => hcb i v (by match i, hv with | 0, hv => exact hv | 1, hv => exact hv)
    refine KL.fin 2 rfl (KQ.seq (KC.condT rfl (KC.skip (KQ.seq (KC.seq (KC.block ?_))))))
    refine KC.grow (by kernel_rfl) (by kernel_rfl) ?_
    refine KG.op (fun Hg og => (R.fieldAddr rfl U33 rfl rfl sz26 rfl)) rfl rfl rfl ?_
    refine KG.op (fun Hg og => R.load rfl U26 rfl rfl (cell_of (og.blk bx) rfl)) rfl rfl rfl ?_
    refine KG.op (fun Hg og => R.move rfl rfl) rfl rfl rfl ?_
    refine KG.op (fun Hg og => R.index (j := k) rfl U26 sz63 rfl rfl m1.g rfl (by omega)) rfl rfl rfl ?_
    refine KG.op (fun Hg og => (R.fieldAddrP rfl U63 rfl rfl sz59 rfl)) rfl rfl rfl ?_
    refine KG.op (fun Hg og => R.loadAgg rfl U59 rfl sz59 rfl (og.cells hcaT) rfl) rfl rfl rfl ?_
    refine KG.op (fun Hg og => (R.fieldAddr rfl U33 rfl rfl sz26 rfl)) rfl rfl rfl ?_
    refine KG.op (fun Hg og => R.load rfl U26 rfl rfl (cell_of (og.blk by_) rfl)) rfl rfl rfl ?_
    refine KG.op (fun Hg og => R.move rfl rfl) rfl rfl rfl ?_
    refine KG.op (fun Hg og => R.index (j := k) rfl U26 sz63 rfl rfl m2.g rfl (by omega)) rfl rfl rfl ?_
    refine KG.op (fun Hg og => (R.fieldAddrP rfl U63 rfl rfl sz59 rfl)) rfl rfl rfl ?_
    refine KG.op (fun Hg og => R.loadAgg rfl U59 rfl sz59 rfl (og.cells hcbT) rfl) rfl rfl rfl ?_
    refine KG.op (fun Hg og => (R.eqlSt rfl U59 (by kernel_rfl) (by kernel_rfl) rfl rfl (EqFs.int (by decide) U5 rfl rfl (EqFs.bool (by decide) U4 rfl rfl EqFs.nil))).val (congrArg Value.bool (show _ = true from by simp))) rfl rfl rfl ?_
    refine KG.op (fun Hg og => R.move rfl rfl) rfl rfl rfl ?_
    refine KG.op (fun Hg og => (R.fieldAddr rfl U33 rfl rfl sz26 rfl)) rfl rfl rfl ?_
    refine KG.op (fun Hg og => R.load rfl U26 rfl rfl (cell_of (og.blk bx) rfl)) rfl rfl rfl ?_
    refine KG.op (fun Hg og => R.move rfl rfl) rfl rfl rfl ?_
    refine KG.op (fun Hg og => R.index (j := k) rfl U26 sz63 rfl rfl m1.g rfl (by omega)) rfl rfl rfl ?_
    refine KG.op (fun Hg og => (R.fieldAddrP rfl U63 rfl rfl sz52 rfl)) rfl rfl rfl ?_
    refine KG.op (fun Hg og => R.load rfl U52 rfl rfl (og.cell (hca 2 _ rfl))) rfl rfl rfl ?_
    refine KG.op (fun Hg og => (R.fieldAddr rfl U33 rfl rfl sz26 rfl)) rfl rfl rfl ?_
    refine KG.op (fun Hg og => R.load rfl U26 rfl rfl (cell_of (og.blk by_) rfl)) rfl rfl rfl ?_
    refine KG.op (fun Hg og => R.move rfl rfl) rfl rfl rfl ?_
    refine KG.op (fun Hg og => R.index (j := k) rfl U26 sz63 rfl rfl m2.g rfl (by omega)) rfl rfl rfl ?_
    refine KG.op (fun Hg og => (R.fieldAddrP rfl U63 rfl rfl sz52 rfl)) rfl rfl rfl ?_
    refine KG.op (fun Hg og => R.load rfl U52 rfl rfl (og.cell (hcb 2 _ rfl))) rfl rfl rfl ?_
    refine KG.call rfl rfl rfl rfl Tryz.call50 rfl rfl rfl (fun Hg og => SameAll_refl (ha1.old og) (hb1.old og)) ?_
    refine KG.op (fun Hg og => R.pick rfl rfl rfl) rfl rfl rfl ?_
    refine KG.op (fun Hg og => R.assign rfl rfl) rfl rfl rfl ?_
    refine KG.nil ?_
    intro H7 ogH7
    have o0 := o0.trans ogH7
    have bx := (ogH7).blk bx
    have by_ := (ogH7).blk by_
    have zH7 := ogH7.1
    refine KQ.normBlock (KQ.r (KL.run 1 rfl ?_))
    refine KL.q ((R.add rfl rfl rfl (by have := m1.g.len; dsimp only [InR]; omega)).val (congrArg (Value.int .i64) (show (k : Int) + 1 = ((k + 1 : Nat) : Int) by omega))) rfl ?_
    refine KL.fin 1 rfl ?_
    refine KQ.again (k + 1) ?_ ?_ ?_
    · exact Sub.all rfl
    · show m.globs.length - (k + 1) < m.globs.length - k; omega
    exact ⟨by omega, o0, bx, by_⟩
  intro hg174
  refine KL.fin 2 rfl (KQ.seq (KC.condF rfl (KC.exit (KQ.exitThen (KQ.exitThen (KQ.hit (KQ.seq (KC.seq (KC.sr (KL.fin 1 rfl (KQ.seq (KC.block ?_))))))))))))
  refine KC.loopD (κ := Nat) [207, 208, 209, 210, 211, 212, 213, 214, 217, 218, 219, 220, 221, 222, 223, 224, 225, 226, 227, 5, 215, 216, 9] (fun k => [(5, .bool true), (9, .int .i64 (k : Nat))]) (fun k Hl => k ≤ m.exports.length ∧ Old H Hl ∧ Hl[Array.size H]? = some (.cells [t, i, f, tb, me, g, e, .bool m.hasStart, .int .u32 m.start, el, c, d].toArray 33 (0, 0)) ∧ Hl[Array.size H1]? = some (.cells [t', i', f', tb', me', g', e', .bool m.hasStart, .int .u32 m.start, el', c', d'].toArray 33 (0, 0))) (fun k => m.exports.length - k) 0 ?_ ?_ ?_
  · exact Sub.all rfl
  · exact ⟨Nat.zero_le _, o0, bx, by_⟩
  rintro k H8 ⟨hk, o0, bx, by_⟩
  have zl_H8 := o0.1
  have zl := o0.1
  refine KC.seq (KC.sr (KL.run 2 rfl (KL.ld rfl (cell_of bx rfl) (KL.q (R.lenS rfl U27 rfl m1.e) rfl (KL.run 2 rfl ?_)))))
  refine KL.cq 212 rfl ?_ ?_
  · intro hg212
    refine KL.fin 2 rfl (KQ.seq (KC.condT rfl (KC.skip (KQ.seq (KC.seq (KC.block (KC.quiet (by kernel_rfl) (by kernel_rfl) (KD.run 1 rfl (KD.ld rfl (cell_of bx rfl) (KD.run 1 rfl ?_))))))))))
    refine KD.op (R.index (j := k) rfl U27 sz66 rfl rfl m1.e rfl (by omega)) rfl rfl rfl ?_
    refine KD.op (R.loadAgg rfl U66 rfl sz66 rfl ((m1.e.old o0).expAt k (by omega)) rfl) rfl rfl rfl ?_
    refine KD.run 1 rfl (KD.ld rfl (cell_of by_ rfl) (KD.run 1 rfl ?_))
    refine KD.op (R.index (j := k) rfl U27 sz66 rfl rfl m2.e rfl (by omega)) rfl rfl rfl ?_
    refine KD.op (R.loadAgg rfl U66 rfl sz66 rfl ((m2.e.old o0).expAt k (by omega)) rfl) rfl rfl rfl ?_
    refine KD.op (R.eqlSame rfl U66 (by kernel_rfl) (by kernel_rfl) rfl rfl (SameFs.str (by decide) U9 rfl (SameFs.int (by decide) U5 rfl (SameFs.int (by decide) U28 rfl SameFs.nil)))) rfl rfl rfl (KD.fin 1 rfl (KQ.normBlock (KQ.r (KL.run 1 rfl ?_))))
    refine KL.q ((R.add rfl rfl rfl (by have := m1.e.len; dsimp only [InR]; omega)).val (congrArg (Value.int .i64) (show (k : Int) + 1 = ((k + 1 : Nat) : Int) by omega))) rfl ?_
    refine KL.fin 1 rfl ?_
    refine KQ.again (k + 1) ?_ ?_ ?_
    · exact Sub.all rfl
    · show m.exports.length - (k + 1) < m.exports.length - k; omega
    exact ⟨by omega, o0, bx, by_⟩
  intro hg212
  refine KL.fin 2 rfl (KQ.seq (KC.condF rfl (KC.exit (KQ.exitThen (KQ.exitThen (KQ.hit (KQ.seq (KC.seq (KC.sr (KL.fin 1 rfl (KQ.seq (KC.block ?_))))))))))))
  refine KC.loopD (κ := Nat) [228, 229, 230, 231, 232, 233, 234, 235, 238, 239, 240, 241, 242, 243, 244, 245, 246, 247, 248, 249, 250, 251, 252, 253, 254, 255, 256, 257, 258, 259, 260, 261, 262, 263, 264, 265, 266, 267, 268, 269, 270, 271, 272, 273, 274, 275, 276, 277, 278, 279, 280, 5, 236, 237, 10] (fun k => [(5, .bool true), (10, .int .i64 (k : Nat))]) (fun k Hl => k ≤ m.elems.length ∧ Old H Hl ∧ Hl[Array.size H]? = some (.cells [t, i, f, tb, me, g, e, .bool m.hasStart, .int .u32 m.start, el, c, d].toArray 33 (0, 0)) ∧ Hl[Array.size H1]? = some (.cells [t', i', f', tb', me', g', e', .bool m.hasStart, .int .u32 m.start, el', c', d'].toArray 33 (0, 0))) (fun k => m.elems.length - k) 0 ?_ ?_ ?_
  · exact Sub.all rfl
  · exact ⟨Nat.zero_le _, o0, bx, by_⟩
  rintro k H9 ⟨hk, o0, bx, by_⟩
  have zl_H9 := o0.1
  have zl := o0.1
  refine KC.seq (KC.sr (KL.run 2 rfl (KL.ld rfl (cell_of bx rfl) (KL.q (R.lenS rfl U29 rfl m1.el) rfl (KL.run 2 rfl ?_)))))
  refine KL.cq 233 rfl ?_ ?_
  · intro hg233
    obtain ⟨a1, a2, hca, ha1, ha2⟩ := (m1.el.old o0).elmAt k (by omega)
    obtain ⟨b1_, b2_, hcb, hb1, hb2⟩ := (m2.el.old o0).elmAt k (by omega)
    refine KL.fin 2 rfl (KQ.seq (KC.condT rfl (KC.skip (KQ.seq (KC.seq (KC.block ?_))))))
    refine KC.grow (by kernel_rfl) (by kernel_rfl) ?_
    refine KG.op (fun Hg og => (R.fieldAddr rfl U33 rfl rfl sz29 rfl)) rfl rfl rfl ?_
    refine KG.op (fun Hg og => R.load rfl U29 rfl rfl (cell_of (og.blk bx) rfl)) rfl rfl rfl ?_
    refine KG.op (fun Hg og => R.move rfl rfl) rfl rfl rfl ?_
    refine KG.op (fun Hg og => R.index (j := k) rfl U29 sz69 rfl rfl m1.el rfl (by omega)) rfl rfl rfl ?_
    refine KG.op (fun Hg og => (R.fieldAddrP rfl U69 rfl rfl sz28 rfl)) rfl rfl rfl ?_
    refine KG.op (fun Hg og => R.load rfl U28 rfl rfl (og.cell (hca 0 _ rfl))) rfl rfl rfl ?_
    refine KG.op (fun Hg og => (R.fieldAddr rfl U33 rfl rfl sz29 rfl)) rfl rfl rfl ?_
    refine KG.op (fun Hg og => R.load rfl U29 rfl rfl (cell_of (og.blk by_) rfl)) rfl rfl rfl ?_
    refine KG.op (fun Hg og => R.move rfl rfl) rfl rfl rfl ?_
    refine KG.op (fun Hg og => R.index (j := k) rfl U29 sz69 rfl rfl m2.el rfl (by omega)) rfl rfl rfl ?_
    refine KG.op (fun Hg og => (R.fieldAddrP rfl U69 rfl rfl sz28 rfl)) rfl rfl rfl ?_
    refine KG.op (fun Hg og => R.load rfl U28 rfl rfl (og.cell (hcb 0 _ rfl))) rfl rfl rfl ?_
    refine KG.op (fun Hg og => (R.eql rfl rfl rfl).val (congrArg Value.bool (decide_eq_true rfl))) rfl rfl rfl ?_
    refine KG.op (fun Hg og => R.move rfl rfl) rfl rfl rfl ?_
    refine KG.op (fun Hg og => (R.fieldAddr rfl U33 rfl rfl sz29 rfl)) rfl rfl rfl ?_
    refine KG.op (fun Hg og => R.load rfl U29 rfl rfl (cell_of (og.blk bx) rfl)) rfl rfl rfl ?_
    refine KG.op (fun Hg og => R.move rfl rfl) rfl rfl rfl ?_
    refine KG.op (fun Hg og => R.index (j := k) rfl U29 sz69 rfl rfl m1.el rfl (by omega)) rfl rfl rfl ?_
    refine KG.op (fun Hg og => (R.fieldAddrP rfl U69 rfl rfl sz52 rfl)) rfl rfl rfl ?_
    refine KG.op (fun Hg og => R.load rfl U52 rfl rfl (og.cell (hca 1 _ rfl))) rfl rfl rfl ?_
    refine KG.op (fun Hg og => (R.fieldAddr rfl U33 rfl rfl sz29 rfl)) rfl rfl rfl ?_
    refine KG.op (fun Hg og => R.load rfl U29 rfl rfl (cell_of (og.blk by_) rfl)) rfl rfl rfl ?_
    refine KG.op (fun Hg og => R.move rfl rfl) rfl rfl rfl ?_
    refine KG.op (fun Hg og => R.index (j := k) rfl U29 sz69 rfl rfl m2.el rfl (by omega)) rfl rfl rfl ?_
    refine KG.op (fun Hg og => (R.fieldAddrP rfl U69 rfl rfl sz52 rfl)) rfl rfl rfl ?_
    refine KG.op (fun Hg og => R.load rfl U52 rfl rfl (og.cell (hcb 1 _ rfl))) rfl rfl rfl ?_
    refine KG.call rfl rfl rfl rfl Tryz.call50 rfl rfl rfl (fun Hg og => SameAll_refl (ha1.old og) (hb1.old og)) ?_
    refine KG.op (fun Hg og => R.pick rfl rfl rfl) rfl rfl rfl ?_
    refine KG.op (fun Hg og => R.move rfl rfl) rfl rfl rfl ?_
    refine KG.op (fun Hg og => (R.fieldAddr rfl U33 rfl rfl sz29 rfl)) rfl rfl rfl ?_
    refine KG.op (fun Hg og => R.load rfl U29 rfl rfl (cell_of (og.blk bx) rfl)) rfl rfl rfl ?_
    refine KG.op (fun Hg og => R.move rfl rfl) rfl rfl rfl ?_
    refine KG.op (fun Hg og => R.index (j := k) rfl U29 sz69 rfl rfl m1.el rfl (by omega)) rfl rfl rfl ?_
    refine KG.op (fun Hg og => (R.fieldAddrP rfl U69 rfl rfl sz24 rfl)) rfl rfl rfl ?_
    refine KG.op (fun Hg og => R.load rfl U24 rfl rfl (og.cell (hca 2 _ rfl))) rfl rfl rfl ?_
    refine KG.op (fun Hg og => (R.fieldAddr rfl U33 rfl rfl sz29 rfl)) rfl rfl rfl ?_
    refine KG.op (fun Hg og => R.load rfl U29 rfl rfl (cell_of (og.blk by_) rfl)) rfl rfl rfl ?_
    refine KG.op (fun Hg og => R.move rfl rfl) rfl rfl rfl ?_
    refine KG.op (fun Hg og => R.index (j := k) rfl U29 sz69 rfl rfl m2.el rfl (by omega)) rfl rfl rfl ?_
    refine KG.op (fun Hg og => (R.fieldAddrP rfl U69 rfl rfl sz24 rfl)) rfl rfl rfl ?_
    refine KG.op (fun Hg og => R.load rfl U24 rfl rfl (og.cell (hcb 2 _ rfl))) rfl rfl rfl ?_
    refine KG.call rfl rfl rfl rfl Tryz.call47 rfl rfl rfl (fun Hg og => (SameN_refl (ha2.old og) (hb2.old og)).mono (fun _ _ ⟨a, b⟩ => ⟨a, b ▸ Old.refl _⟩)) ?_
    refine KG.op (fun Hg og => R.pick rfl rfl rfl) rfl rfl rfl ?_
    refine KG.op (fun Hg og => R.assign rfl rfl) rfl rfl rfl ?_
    refine KG.nil ?_
    intro H10 ogH10
    have o0 := o0.trans ogH10
    have bx := (ogH10).blk bx
    have by_ := (ogH10).blk by_
    have zH10 := ogH10.1
    refine KQ.normBlock (KQ.r (KL.run 1 rfl ?_))
    refine KL.q ((R.add rfl rfl rfl (by have := m1.el.len; dsimp only [InR]; omega)).val (congrArg (Value.int .i64) (show (k : Int) + 1 = ((k + 1 : Nat) : Int) by omega))) rfl ?_
    refine KL.fin 1 rfl ?_
    refine KQ.again (k + 1) ?_ ?_ ?_
    · exact Sub.all rfl
    · show m.elems.length - (k + 1) < m.elems.length - k; omega
    exact ⟨by omega, o0, bx, by_⟩
  intro hg233
  refine KL.fin 2 rfl (KQ.seq (KC.condF rfl (KC.exit (KQ.exitThen (KQ.exitThen (KQ.hit (KQ.seq (KC.seq (KC.sr (KL.fin 1 rfl (KQ.seq (KC.block ?_))))))))))))
  refine KC.loopD (κ := Nat) [281, 282, 283, 284, 285, 286, 287, 288, 291, 292, 293, 294, 295, 296, 297, 298, 299, 300, 301, 302, 303, 304, 305, 306, 307, 308, 309, 310, 311, 312, 313, 314, 315, 316, 317, 318, 319, 320, 321, 322, 323, 324, 325, 326, 327, 328, 329, 330, 331, 332, 333, 334, 335, 5, 289, 290, 11] (fun k => [(5, .bool true), (11, .int .i64 (k : Nat))]) (fun k Hl => k ≤ m.datas.length ∧ Old H Hl ∧ Hl[Array.size H]? = some (.cells [t, i, f, tb, me, g, e, .bool m.hasStart, .int .u32 m.start, el, c, d].toArray 33 (0, 0)) ∧ Hl[Array.size H1]? = some (.cells [t', i', f', tb', me', g', e', .bool m.hasStart, .int .u32 m.start, el', c', d'].toArray 33 (0, 0))) (fun k => m.datas.length - k) 0 ?_ ?_ ?_
  · exact Sub.all rfl
  · exact ⟨Nat.zero_le _, o0, bx, by_⟩
  rintro k H11 ⟨hk, o0, bx, by_⟩
  have zl_H11 := o0.1
  have zl := o0.1
  refine KC.seq (KC.sr (KL.run 2 rfl (KL.ld rfl (cell_of bx rfl) (KL.q (R.lenS rfl U31 rfl m1.d) rfl (KL.run 2 rfl ?_)))))
  refine KL.cq 286 rfl ?_ ?_
  · intro hg286
    obtain ⟨a1, a2, hca, ha1, ha2⟩ := (m1.d.old o0).datAt k (by omega)
    obtain ⟨b1_, b2_, hcb, hb1, hb2⟩ := (m2.d.old o0).datAt k (by omega)
    refine KL.fin 2 rfl (KQ.seq (KC.condT rfl (KC.skip (KQ.seq (KC.seq (KC.block ?_))))))
    refine KC.grow (by kernel_rfl) (by kernel_rfl) ?_
    refine KG.op (fun Hg og => (R.fieldAddr rfl U33 rfl rfl sz31 rfl)) rfl rfl rfl ?_
    refine KG.op (fun Hg og => R.load rfl U31 rfl rfl (cell_of (og.blk bx) rfl)) rfl rfl rfl ?_
    refine KG.op (fun Hg og => R.move rfl rfl) rfl rfl rfl ?_
    refine KG.op (fun Hg og => R.index (j := k) rfl U31 sz71 rfl rfl m1.d rfl (by omega)) rfl rfl rfl ?_
    refine KG.op (fun Hg og => (R.fieldAddrP rfl U71 rfl rfl sz28 rfl)) rfl rfl rfl ?_
    refine KG.op (fun Hg og => R.load rfl U28 rfl rfl (og.cell (hca 0 _ rfl))) rfl rfl rfl ?_
    refine KG.op (fun Hg og => (R.fieldAddr rfl U33 rfl rfl sz31 rfl)) rfl rfl rfl ?_
    refine KG.op (fun Hg og => R.load rfl U31 rfl rfl (cell_of (og.blk by_) rfl)) rfl rfl rfl ?_
    refine KG.op (fun Hg og => R.move rfl rfl) rfl rfl rfl ?_
    refine KG.op (fun Hg og => R.index (j := k) rfl U31 sz71 rfl rfl m2.d rfl (by omega)) rfl rfl rfl ?_
    refine KG.op (fun Hg og => (R.fieldAddrP rfl U71 rfl rfl sz28 rfl)) rfl rfl rfl ?_
    refine KG.op (fun Hg og => R.load rfl U28 rfl rfl (og.cell (hcb 0 _ rfl))) rfl rfl rfl ?_
    refine KG.op (fun Hg og => (R.eql rfl rfl rfl).val (congrArg Value.bool (decide_eq_true rfl))) rfl rfl rfl ?_
    refine KG.op (fun Hg og => R.move rfl rfl) rfl rfl rfl ?_
    refine KG.op (fun Hg og => (R.fieldAddr rfl U33 rfl rfl sz31 rfl)) rfl rfl rfl ?_
    refine KG.op (fun Hg og => R.load rfl U31 rfl rfl (cell_of (og.blk bx) rfl)) rfl rfl rfl ?_
    refine KG.op (fun Hg og => R.move rfl rfl) rfl rfl rfl ?_
    refine KG.op (fun Hg og => R.index (j := k) rfl U31 sz71 rfl rfl m1.d rfl (by omega)) rfl rfl rfl ?_
    refine KG.op (fun Hg og => (R.fieldAddrP rfl U71 rfl rfl sz52 rfl)) rfl rfl rfl ?_
    refine KG.op (fun Hg og => R.load rfl U52 rfl rfl (og.cell (hca 1 _ rfl))) rfl rfl rfl ?_
    refine KG.op (fun Hg og => (R.fieldAddr rfl U33 rfl rfl sz31 rfl)) rfl rfl rfl ?_
    refine KG.op (fun Hg og => R.load rfl U31 rfl rfl (cell_of (og.blk by_) rfl)) rfl rfl rfl ?_
    refine KG.op (fun Hg og => R.move rfl rfl) rfl rfl rfl ?_
    refine KG.op (fun Hg og => R.index (j := k) rfl U31 sz71 rfl rfl m2.d rfl (by omega)) rfl rfl rfl ?_
    refine KG.op (fun Hg og => (R.fieldAddrP rfl U71 rfl rfl sz52 rfl)) rfl rfl rfl ?_
    refine KG.op (fun Hg og => R.load rfl U52 rfl rfl (og.cell (hcb 1 _ rfl))) rfl rfl rfl ?_
    refine KG.call rfl rfl rfl rfl Tryz.call50 rfl rfl rfl (fun Hg og => SameAll_refl (ha1.old og) (hb1.old og)) ?_
    refine KG.op (fun Hg og => R.pick rfl rfl rfl) rfl rfl rfl ?_
    refine KG.op (fun Hg og => R.move rfl rfl) rfl rfl rfl ?_
    refine KG.op (fun Hg og => (R.fieldAddr rfl U33 rfl rfl sz31 rfl)) rfl rfl rfl ?_
    refine KG.op (fun Hg og => R.load rfl U31 rfl rfl (cell_of (og.blk bx) rfl)) rfl rfl rfl ?_
    refine KG.op (fun Hg og => R.move rfl rfl) rfl rfl rfl ?_
    refine KG.op (fun Hg og => R.index (j := k) rfl U31 sz71 rfl rfl m1.d rfl (by omega)) rfl rfl rfl ?_
    refine KG.op (fun Hg og => (R.fieldAddrP rfl U71 rfl rfl sz34 rfl)) rfl rfl rfl ?_
    refine KG.op (fun Hg og => R.load rfl U34 rfl rfl (og.cell (hca 2 _ rfl))) rfl rfl rfl ?_
    refine KG.op (fun Hg og => R.convBS rfl U34 U5 U9 rfl (ha2.old og)) rfl rfl rfl ?_
    refine KG.op (fun Hg og => (R.fieldAddr rfl U33 rfl rfl sz31 rfl)) rfl rfl rfl ?_
    refine KG.op (fun Hg og => R.load rfl U31 rfl rfl (cell_of (og.blk by_) rfl)) rfl rfl rfl ?_
    refine KG.op (fun Hg og => R.move rfl rfl) rfl rfl rfl ?_
    refine KG.op (fun Hg og => R.index (j := k) rfl U31 sz71 rfl rfl m2.d rfl (by omega)) rfl rfl rfl ?_
    refine KG.op (fun Hg og => (R.fieldAddrP rfl U71 rfl rfl sz34 rfl)) rfl rfl rfl ?_
    refine KG.op (fun Hg og => R.load rfl U34 rfl rfl (og.cell (hcb 2 _ rfl))) rfl rfl rfl ?_
    refine KG.op (fun Hg og => R.convBS rfl U34 U5 U9 rfl (hb2.old og)) rfl rfl rfl ?_
    refine KG.op (fun Hg og => (R.eqlStr rfl rfl rfl).val (congrArg Value.bool (show _ = true from by simp))) rfl rfl rfl ?_
    refine KG.op (fun Hg og => R.pick rfl rfl rfl) rfl rfl rfl ?_
    refine KG.op (fun Hg og => R.assign rfl rfl) rfl rfl rfl ?_
    refine KG.nil ?_
    intro H12 ogH12
    have o0 := o0.trans ogH12
    have bx := (ogH12).blk bx
    have by_ := (ogH12).blk by_
    have zH12 := ogH12.1
    refine KQ.normBlock (KQ.r (KL.run 1 rfl ?_))
    refine KL.q ((R.add rfl rfl rfl (by have := m1.d.len; dsimp only [InR]; omega)).val (congrArg (Value.int .i64) (show (k : Int) + 1 = ((k + 1 : Nat) : Int) by omega))) rfl ?_
    refine KL.fin 1 rfl ?_
    refine KQ.again (k + 1) ?_ ?_ ?_
    · exact Sub.all rfl
    · show m.datas.length - (k + 1) < m.datas.length - k; omega
    exact ⟨by omega, o0, bx, by_⟩
  intro hg286
  refine KL.fin 2 rfl (KQ.seq (KC.condF rfl (KC.exit (KQ.exitThen (KQ.exitThen (KQ.hit (KQ.sr (KL.fin 2 rfl (KQ.seq (KC.ret (KQ.ofRet ?_)))))))))))
  refine KQ.fin1 Tryz.results9 rfl ?_
  exact ⟨rfl, o0⟩
namespace Bn
/-- what a module is whose bytes were read -/
structure MV (m : Mo) : Prop where
  t : ∀ x ∈ m.types, FTyV x
  i : ∀ x ∈ m.imports, ImpV x
  f : ∀ x ∈ m.funcs, Isp.okU x
  tb : ∀ x ∈ m.tables, LimV x
  me : ∀ x ∈ m.mems, LimV x
  g : ∀ x ∈ m.globs, GloV x
  e : ∀ x ∈ m.exports, ExpV x
  s : Isp.okU m.start
  el : ∀ x ∈ m.elems, ElmV x
  c : ∀ x ∈ m.codes, CodV x
  d : ∀ x ∈ m.datas, DatV x
theorem whole_V {α : Type} {p : Isp.Prs α} {e : α → List Int} {V : α → Prop} (hp : Isp.Cod p e V) {b : List Int} {x : α} (h : whole p b = .ok x) : V x := by
  unfold whole at h
  split at h
  · cases h
  next y k hy =>
  split at h
  · injection h with h; subst h; exact (hp.sound _ _ _ hy).1
  cases h
theorem mapE_ok {α β : Type} {f : α → β} {x : Except Int α} {y : β} (h : mapE f x = .ok y) : ∃ z, x = .ok z ∧ y = f z := by
  cases x with
  | error e => cases h
  | ok z => injection h with h; exact ⟨z, rfl, h.symm⟩
theorem mv0 : MV mo0 := ⟨(fun _ h => by cases h), (fun _ h => by cases h), (fun _ h => by cases h), (fun _ h => by cases h), (fun _ h => by cases h), (fun _ h => by cases h), (fun _ h => by cases h), ⟨by decide, by decide⟩, (fun _ h => by cases h), (fun _ h => by cases h), (fun _ h => by cases h)⟩
theorem sec_V {id : Int} {b : List Int} {m m' : Mo} (h : secF id b m = .ok m') (hm : MV m) : MV m' := by
  by_cases h1 : id = 1
  · rw [sF_1 h1] at h; obtain ⟨x, hx, rfl⟩ := mapE_ok h; exact { hm with t := (whole_V (cod_lst cod_typ) hx).2 }
  by_cases h2 : id = 2
  · rw [sF_2 h2] at h; obtain ⟨x, hx, rfl⟩ := mapE_ok h; exact { hm with i := (whole_V (cod_lst cod_imp) hx).2 }
  by_cases h3 : id = 3
  · rw [sF_3 h3] at h; obtain ⟨x, hx, rfl⟩ := mapE_ok h; exact { hm with f := (whole_V (cod_lst Isp.cod_u32) hx).2 }
  by_cases h4 : id = 4
  · rw [sF_4 h4] at h; obtain ⟨x, hx, rfl⟩ := mapE_ok h; exact { hm with tb := (whole_V (cod_lst cod_tab) hx).2 }
  by_cases h5 : id = 5
  · rw [sF_5 h5] at h; obtain ⟨x, hx, rfl⟩ := mapE_ok h; exact { hm with me := (whole_V (cod_lst cod_lim) hx).2 }
  by_cases h6 : id = 6
  · rw [sF_6 h6] at h; obtain ⟨x, hx, rfl⟩ := mapE_ok h; exact { hm with g := (whole_V (cod_lst cod_glo) hx).2 }
  by_cases h7 : id = 7
  · rw [sF_7 h7] at h; obtain ⟨x, hx, rfl⟩ := mapE_ok h; exact { hm with e := (whole_V (cod_lst cod_exp) hx).2 }
  by_cases h8 : id = 8
  · rw [sF_8 h8] at h; obtain ⟨x, hx, rfl⟩ := mapE_ok h; exact { hm with s := whole_V Isp.cod_u32 hx }
  by_cases h9 : id = 9
  · rw [sF_9 h9] at h; obtain ⟨x, hx, rfl⟩ := mapE_ok h; exact { hm with el := (whole_V (cod_lst cod_elm) hx).2 }
  by_cases h10 : id = 10
  · rw [sF_10 h10] at h; obtain ⟨x, hx, rfl⟩ := mapE_ok h; exact { hm with c := (whole_V (cod_lst cod_cod) hx).2 }
  rw [sF_n (fun n a b => by omega)] at h; obtain ⟨x, hx, rfl⟩ := mapE_ok h; exact { hm with d := (whole_V (cod_lst cod_dat) hx).2 }
theorem fills_V : ∀ {ss : List Sec} {m m' : Mo}, fills ss m = .ok m' → MV m → MV m'
  | [], m, m', h, hm => by injection h with h; subst h; exact hm
  | s :: ss, m, m', h, hm => by
    simp only [fills] at h
    split at h
    · cases h
    next m1 h1 => exact fills_V h (sec_V h1 hm)
theorem dec_V {l : List Int} {m : Mo} (h : dec l = .ok m) : MV m ∧ m.codes.length = m.funcs.length := by
  unfold dec at h
  split at h
  · cases h
  split at h
  · cases h
  split at h
  · cases h
  next m' hf =>
  split at h
  · next hc => injection h with h; subst h; exact ⟨fills_V hf mv0, hc⟩
  cases h
theorem decR_V (l : List Int) : MV (decR l).1 ∧ (decR l).1.codes.length = (decR l).1.funcs.length := by
  unfold decR
  split
  · exact ⟨mv0, rfl⟩
  next m h => exact dec_V h
end Bn
theorem Decode_is {H : Heap} {v : Value} {l : List Int} {m : Mo} {ec : Int} (hs : Sl 1 (EInt .u8) H v l) (hT : TabU H) (hd : Bn.decR l = (m, ec)) : Ct Tryz.prog 8 [v] H (fun u H' => Old H H' ∧ ∃ t i f tb me g e el c d, u = .tuple #[.agg [t, i, f, tb, me, g, e, .bool m.hasStart, .int .u32 m.start, el, c, d].toArray, .int .i64 ec] ∧ MoV H' t i f tb me g e el c d m) := by
  have h := Decode_any hs hT
  rw [hd] at h
  exact h
namespace Bn
theorem d1 : decR (Sc.beg ++ [1, 4, 1, 96, 0, 0, 3, 2, 1, 0, 10, 4, 1, 2, 0, 11]) = (⟨[([], [])], [], [0], [], [], [], [], false, 0, [], [([], [])], []⟩, 0) := by kernel_rfl
theorem d4 : decR (Sc.beg ++ [5, 3, 1, 0, 2]) = (⟨[], [], [], [], [(2, -1)], [], [], false, 0, [], [], []⟩, 0) := by kernel_rfl
theorem d5 : decR (Sc.beg ++ [5, 4, 1, 1, 2, 3]) = (⟨[], [], [], [], [(2, 3)], [], [], false, 0, [], [], []⟩, 0) := by kernel_rfl
end Bn
namespace Sc
theorem cut_ap {x : Int} {a b r : List Int} : ([x] ++ a ++ b ++ r).drop (1 + a.length) = b ++ r ∧ ([x] ++ a ++ b ++ r).drop (1 + a.length + b.length) = r ∧ ([x] ++ a ++ b ++ r).drop 1 = a ++ (b ++ r) ∧ ([x] ++ a ++ b ++ r).getD 0 default = x ∧ ([x] ++ a ++ b ++ r).length = 1 + a.length + b.length + r.length := by
  refine ⟨?_, ?_, by simp, by simp, by simp; omega⟩
  · rw [show [x] ++ a ++ b ++ r = ([x] ++ a) ++ (b ++ r) by simp, List.drop_left' (by simp; omega)]
  rw [show [x] ++ a ++ b ++ r = ([x] ++ a ++ b) ++ r by simp, List.drop_left' (by simp; omega)]
theorem sp_body {l : List Sec} {last : Int} (h0 : 0 ≤ last) (hr : rise last l = true) (hb : ∀ s ∈ l, s.2.length < 4294967296) : sp (body l) last = some l := by
  induction l generalizing last with
  | nil => exact sp_nil rfl
  | cons s l ih =>
    simp only [rise, Bool.and_eq_true, decide_eq_true_eq] at hr
    have hs := hb s (List.mem_cons_self ..)
    simp only [body]
    obtain ⟨e1, e2, e3, e4, e5⟩ := cut_ap (x := s.1) (a := Lb.ap (s.2.length : Int)) (b := s.2) (r := body l)
    have hp := Lb.ap_length (z := (s.2.length : Int)) (by omega) (by omega)
    rw [sp_good (n := (s.2.length : Int)) (k := (Lb.ap (s.2.length : Int)).length) (by rw [e5]; omega) (by rw [e3]; exact Lb.tk_ap (by omega) (by omega) _) (by rw [e5]; omega) (by rw [e4]; omega) (by rw [e4]; exact hr.1), e4, Int.toNat_natCast, e2, e1, ih (by omega) hr.2 (fun s hs => hb s (List.mem_cons_of_mem _ hs))]
    simp
theorem split_join {l : List Sec} {c : List Int} (h : join l = some c) (hb : ∀ s ∈ l, s.2.length < 4294967296) : split c = some l := by
  unfold join at h
  split at h
  · next hr =>
    injection h with h
    subst h
    unfold split
    rw [if_pos (show (beg ++ body l).take 8 = beg from rfl), show (beg ++ body l).drop 8 = body l from rfl]
    exact sp_body (Int.le_refl _) hr hb
  cases h
theorem ap_short {l : List Int} {z n : Int} {k : Nat} (h : Lb.tk l z = some (n, k)) : (Lb.ap n).length ≤ k := by
  have := Leb.tk_short h
  unfold Lb.ap; rw [uints_length]; exact this
theorem sp_facts : ∀ (f : Nat) {r : List Int} {last : Int} {m : List Sec}, r.length < f → sp r last = some m → rise last m = true ∧ (body m).length ≤ r.length ∧ ∀ s ∈ m, s.2.length < 4294967296 := by
  intro f
  induction f with
  | zero => intro r last m h; omega
  | succ f ih =>
    intro r last m hf h
    by_cases h0 : r.length = 0
    · rw [sp_nil h0] at h; injection h with h; subst h
      exact ⟨rfl, by simp [body], by simp⟩
    cases ht : Lb.tk (r.drop 1) 32 with
    | none => rw [sp_none (by omega) ht] at h; cases h
    | some p =>
      obtain ⟨n, k⟩ := p
      have hb := Lb.tk32 ht
      rw [List.length_drop] at hb
      by_cases hn : ((r.length - 1 - k : Nat) : Int) < n
      · rw [sp_long (by omega) ht hn] at h; cases h
      have hd : (r.drop (1 + k + n.toNat)).length + (1 + k + n.toNat) = r.length := by rw [List.length_drop]; omega
      by_cases hz : r.getD 0 default = 0
      · rw [sp_cust (by omega) ht hn hz] at h
        split at h
        · cases h
        obtain ⟨a1, a2, a3⟩ := ih (by omega) h
        exact ⟨a1, by omega, a3⟩
      by_cases hi : last < r.getD 0 default ∧ r.getD 0 default ≤ 11
      · rw [sp_good (by omega) ht hn hz hi, Option.map_eq_some_iff] at h
        obtain ⟨m', hm, rfl⟩ := h
        obtain ⟨a1, a2, a3⟩ := ih (by omega) hm
        have hl : ((r.drop (1 + k)).take n.toNat).length = n.toNat := by rw [List.length_take, List.length_drop]; omega
        refine ⟨by simp only [rise, a1, Bool.and_true]; exact decide_eq_true hi, ?_, ?_⟩
        · simp only [body, List.length_append, List.length_cons, List.length_nil, hl]
          rw [show ((n.toNat : Nat) : Int) = n from by omega]
          have := ap_short ht
          omega
        intro s hs
        rcases List.mem_cons.1 hs with rfl | hs
        · show ((r.drop (1 + k)).take n.toNat).length < _; rw [hl]; omega
        exact a3 s hs
      rw [sp_bad (by omega) ht hn hz hi] at h; cases h
/-- what is split may be joined, has at most as many bytes then, and is split as the same -/
theorem join_split {b : List Int} {m : List Sec} (h : split b = some m) : ∃ c, join m = some c ∧ c.length ≤ b.length ∧ split c = some m := by
  have h' := h
  unfold split at h
  split at h
  · next he =>
    obtain ⟨a1, a2, a3⟩ := sp_facts _ (Nat.lt_succ_self _) h
    have hj : join m = some (beg ++ body m) := by unfold join; rw [if_pos a1]
    have h8 : 8 ≤ b.length := by have := congrArg List.length he; rw [List.length_take, show beg.length = 8 from rfl] at this; omega
    refine ⟨_, hj, ?_, split_join hj a3⟩
    rw [List.length_append, show beg.length = 8 from rfl]
    rw [List.length_drop] at a2
    omega
  cases h
theorem split_body {b : List Int} {m : List Sec} (h : split b = some m) : (body m).length + 8 ≤ b.length := by
  obtain ⟨c, h1, h2, _⟩ := join_split h
  unfold join at h1
  split at h1
  · injection h1 with h1; subst h1; rw [List.length_append, show beg.length = 8 from rfl] at h2; omega
  cases h1
end Sc
namespace Bn
theorem sF_ids {P : Int → Prop} {n : Int} (h : 1 ≤ n ∧ n ≤ 11) (h1 : P 1) (h2 : P 2) (h3 : P 3) (h4 : P 4) (h5 : P 5) (h6 : P 6) (h7 : P 7) (h8 : P 8) (h9 : P 9) (h10 : P 10) (h11 : P 11) : P n := by
  have : n = 1 ∨ n = 2 ∨ n = 3 ∨ n = 4 ∨ n = 5 ∨ n = 6 ∨ n = 7 ∨ n = 8 ∨ n = 9 ∨ n = 10 ∨ n = 11 := by omega
  rcases this with rfl | rfl | rfl | rfl | rfl | rfl | rfl | rfl | rfl | rfl | rfl <;> assumption
theorem fills_app : ∀ {a c : List Sec} {m : Mo}, fills (a ++ c) m = match fills a m with | .error e => .error e | .ok m' => fills c m'
  | [], c, m => rfl
  | s :: a, c, m => by
    simp only [List.cons_append, fills]
    cases secF s.1 s.2 m with
    | error e => rfl
    | ok m' => exact fills_app
theorem rise_ids : ∀ {l : List Sec} {last : Int}, 0 ≤ last → Sc.rise last l = true → ∀ s ∈ l, last < s.1 ∧ (1 ≤ s.1 ∧ s.1 ≤ 11)
  | [], _, _, _ => fun s hs => by cases hs
  | t :: l, last, h0, h => fun s hs => by
    simp only [Sc.rise, Bool.and_eq_true, decide_eq_true_eq] at h
    rcases List.mem_cons.1 hs with rfl | hs
    · omega
    have := rise_ids (by omega) h.2 s hs; omega
/-- a reader says 60 or 61 where it fails -/
def Er {α : Type} (p : Isp.Prs α) : Prop := ∀ r e, p r = .error e → e = 60 ∨ e = 61
section
open Isp
variable {α β : Type} {p : Prs α} {q : α → Prs β} {g : α → β}
theorem er_bind (hp : Er p) (hq : ∀ x, Er (q x)) : Er (bindP p q) := fun r e h => by
  unfold bindP at h
  split at h
  · next e' he => injection h with h; subst h; exact hp _ _ he
  next x k hx =>
  split at h
  · next e' he => injection h with h; subst h; exact hq _ _ _ he
  cases h
theorem er_map (hp : Er p) : Er (mapP g p) := fun r e h => by
  unfold mapP at h
  split at h
  · next e' he => injection h with h; subst h; exact hp _ _ he
  cases h
theorem er_many (hp : Er p) : ∀ n, Er (manyP p n)
  | 0 => fun r e h => by cases h
  | n + 1 => er_map (er_bind hp fun _ => er_many hp n)
theorem er_num (sg : Bool) (b : Nat) : Er (numP sg b) := fun r e h => by
  unfold numP at h
  split at h
  · injection h with h; exact .inl h.symm
  cases h
theorem er_byte : Er byteP := fun r e h => by
  cases r with
  | nil => injection h with h; exact .inl h.symm
  | cons x r => cases h
theorem er_zero : Er zeroP := fun r e h => by
  cases r with
  | nil => injection h with h; exact .inl h.symm
  | cons x r =>
    simp only [zeroP] at h
    split at h
    · cases h
    injection h with h; exact .inl h.symm
theorem er_block : Er blockP := fun r e h => by
  cases r with
  | nil => injection h with h; exact .inl h.symm
  | cons x r =>
    simp only [blockP] at h
    split at h
    · cases h
    split at h
    · injection h with h; exact .inr h.symm
    injection h with h; exact .inl h.symm
theorem er_labs : Er labsP := by unfold labsP; exact er_map (er_bind (er_bind (er_num _ _) fun _ => er_many (er_num _ _) _) fun _ => er_num _ _)
theorem er_body (f : Int) : Er (bodyP f) := by
  unfold bodyP
  split
  · exact er_map er_block
  split
  · exact er_map (er_num _ _)
  split
  · exact er_map er_labs
  split
  · exact er_map (er_bind (er_num _ _) fun _ => er_zero)
  split
  · exact er_map (er_bind (er_num _ _) fun _ => er_num _ _)
  split
  · exact er_map er_zero
  split
  · exact er_map (er_num _ _)
  split
  · exact er_map (er_num _ _)
  intro r e h; cases h
theorem er_ins : Er insP := fun r e h => by
  cases r with
  | nil => injection h with h; exact .inl h.symm
  | cons op r =>
    simp only [insP] at h
    split at h
    · injection h with h; exact .inr h.symm
    split at h
    · injection h with h; exact .inl h.symm
    split at h
    · next e' he => injection h with h; subst h; exact er_body _ _ _ he
    cases h
theorem er_expr : ∀ (f : Nat) (m : List Int), Er (exprP f m)
  | 0, m => fun r e h => by injection h with h; exact .inl h.symm
  | f + 1, m => fun r e h => by
    simp only [exprP] at h
    split at h
    · next e' he => injection h with h; subst h; exact er_ins _ _ he
    split at h
    · injection h with h; exact .inl h.symm
    · cases h
    split at h
    · next e' he => injection h with h; subst h; exact er_expr f _ _ _ he
    cases h
theorem er_one {f : Int → Except Int α} (hf : ∀ x e, f x = .error e → e = 60 ∨ e = 61) : Er (oneP f) := fun r e h => by
  cases r with
  | nil => injection h with h; exact .inl h.symm
  | cons x r =>
    simp only [oneP] at h
    split at h
    · next e' he => injection h with h; subst h; exact hf _ _ he
    cases h
theorem er_val : Er valP := er_one fun x e h => by
  unfold valF at h
  split at h
  · injection h with h; exact .inr h.symm
  split at h
  · cases h
  injection h with h; exact .inl h.symm
theorem er_flg : Er flgP := er_one fun x e h => by
  unfold flgF at h
  split at h
  · cases h
  injection h with h; exact .inl h.symm
theorem er_tag (b : Int) : Er (tagP b) := er_one fun x e h => by
  unfold tagF at h
  split at h
  · cases h
  injection h with h; exact .inl h.symm
theorem er_knd : Er kndP := er_one fun x e h => by
  unfold kndF at h
  split at h
  · cases h
  injection h with h; exact .inl h.symm
theorem er_ret (x : α) : Er (retP x) := fun r e h => by cases h
theorem er_lst (hp : Er p) : Er (lstP p) := er_map (er_bind (er_num _ _) fun _ => er_many hp _)
theorem er_lim : Er limP := er_map (er_bind er_flg fun b => by
  cases b
  · exact er_bind (er_num _ _) fun _ => er_ret _
  exact er_bind (er_num _ _) fun _ => er_num _ _)
theorem er_tab : Er tabP := er_map (er_bind (er_tag _) fun _ => er_lim)
theorem er_glb : Er glbP := er_bind er_val fun _ => er_flg
theorem er_typ : Er typP := er_map (er_bind (er_tag _) fun _ => er_bind (er_lst er_val) fun _ => er_lst er_val)
theorem er_nam : Er namP := fun r e h => by
  unfold namP at h
  split at h
  · injection h with h; exact .inl h.symm
  split at h
  · cases h
  injection h with h; exact .inl h.symm
theorem er_imp : Er impP := er_map (er_bind er_nam fun _ => er_bind er_nam fun _ => er_bind er_byte fun k => by
  unfold impR
  split
  · exact er_map (er_num _ _)
  split
  · exact er_map er_tab
  split
  · exact er_map er_lim
  split
  · exact er_map er_glb
  intro r e h; injection h with h; exact .inl h.symm)
theorem er_exp : Er expP := er_map (er_bind er_nam fun _ => er_bind er_knd fun _ => er_num _ _)
theorem er_xpr : Er xprP := fun r e h => er_expr _ _ r e h
theorem er_glo : Er gloP := er_bind er_glb fun _ => er_xpr
theorem er_elm : Er elmP := er_bind (er_num _ _) fun _ => er_bind er_xpr fun _ => er_lst (er_num _ _)
theorem er_byt : Er bytP := fun r e h => by
  unfold bytP at h
  split at h
  · next e' he => injection h with h; subst h; exact er_num _ _ _ _ he
  split at h
  · cases h
  injection h with h; exact .inl h.symm
theorem er_dat : Er datP := er_bind (er_num _ _) fun _ => er_bind er_xpr fun _ => er_byt
theorem er_whole (hp : Er p) {b : List Int} {e : Int} (h : whole p b = .error e) : e = 60 ∨ e = 61 := by
  unfold whole at h
  split at h
  · next e' he => injection h with h; subst h; exact hp _ _ he
  split at h
  · cases h
  injection h with h; exact .inl h.symm
theorem er_codQ : Er codQ := fun r e h => by
  unfold codQ at h
  split at h
  · next e' he => injection h with h; subst h; exact er_lst (er_bind (er_num _ _) fun _ => er_val) _ _ he
  split at h
  · split at h
    · next e' he => injection h with h; subst h; exact er_xpr _ _ he
    cases h
  injection h with h; exact .inl h.symm
theorem er_cod : Er codP := fun r e h => by
  unfold codP at h
  split at h
  · next e' he => injection h with h; subst h; exact er_byt _ _ he
  split at h
  · next e' he => injection h with h; subst h; exact er_whole er_codQ he
  cases h
theorem er_mapE {x : Except Int α} {f : α → β} {e : Int} (h : mapE f x = .error e) : x = .error e := by
  cases x with
  | error e' => have h : (Except.error e' : Except Int β) = .error e := h; injection h with h; rw [h]
  | ok y => cases h
theorem er_sec {id : Int} {b : List Int} {m : Mo} {e : Int} (h : secF id b m = .error e) : e = 60 ∨ e = 61 := by
  by_cases h1 : id = 1
  · rw [sF_1 h1] at h; exact er_whole (er_lst er_typ) (er_mapE h)
  by_cases h2 : id = 2
  · rw [sF_2 h2] at h; exact er_whole (er_lst er_imp) (er_mapE h)
  by_cases h3 : id = 3
  · rw [sF_3 h3] at h; exact er_whole (er_lst (er_num _ _)) (er_mapE h)
  by_cases h4 : id = 4
  · rw [sF_4 h4] at h; exact er_whole (er_lst er_tab) (er_mapE h)
  by_cases h5 : id = 5
  · rw [sF_5 h5] at h; exact er_whole (er_lst er_lim) (er_mapE h)
  by_cases h6 : id = 6
  · rw [sF_6 h6] at h; exact er_whole (er_lst er_glo) (er_mapE h)
  by_cases h7 : id = 7
  · rw [sF_7 h7] at h; exact er_whole (er_lst er_exp) (er_mapE h)
  by_cases h8 : id = 8
  · rw [sF_8 h8] at h; exact er_whole (er_num _ _) (er_mapE h)
  by_cases h9 : id = 9
  · rw [sF_9 h9] at h; exact er_whole (er_lst er_elm) (er_mapE h)
  by_cases h10 : id = 10
  · rw [sF_10 h10] at h; exact er_whole (er_lst er_cod) (er_mapE h)
  rw [sF_n (fun n a b => by omega)] at h; exact er_whole (er_lst er_dat) (er_mapE h)
theorem er_fills : ∀ {ss : List Sec} {m : Mo} {e : Int}, fills ss m = .error e → e = 60 ∨ e = 61
  | [], m, e, h => by cases h
  | s :: ss, m, e, h => by
    simp only [fills] at h
    split at h
    · next e' he => injection h with h; subst h; exact er_sec he
    exact er_fills h
end
/-- what is decoded without a fault -/
theorem decR_ok {l : List Int} (h : (decR l).2 = 0) : ∃ ss, Sc.split l = some ss ∧ fills ss mo0 = .ok (decR l).1 ∧ (decR l).1.codes.length = (decR l).1.funcs.length ∧ decR l = ((decR l).1, 0) ∧ l.length ≤ 65536 := by
  by_cases hl : 65536 < l.length
  · rw [dec_long hl] at h; cases h
  cases hs : Sc.split l with
  | none => rw [dec_none hl hs] at h; cases h
  | some ss =>
    cases hf : fills ss mo0 with
    | error e =>
      rw [dec_err hl hs hf] at h
      have : e = 0 := h
      have := er_fills hf
      omega
    | ok m =>
      by_cases hc : m.codes.length = m.funcs.length
      · rw [dec_ok hl hs hf hc]
        exact ⟨ss, rfl, hf, hc, rfl, by omega⟩
      rw [dec_odd hl hs hf hc] at h; cases h
end Bn
end Go.Proofs.YtldmfchamcpmmaaGreatDoor
