/- What the proof of EncBytes leans on, part 5. No condition but those that each law states. -/
import Derived.Test.YtldmfchamcpmmaaDoorRows
import Derived.WalkKit
import Derived.Deep.Quiet
import Derived.Below
import Derived.WalkLawsBesides
import Derived.Lib.Hide
import Derived.Laws.AppendOwnNone
import Derived.Laws.CopyRow
import Derived.Laws.Tables
import Derived.Orders
import Derived.Deep.Slices
import Derived.Deep.Fields
import Derived.OpenShut
import Derived.Lib.AppendZerosOnto
import Derived.Maps.AppendAt
import Derived.ChangeKeysEq
import Derived.Laws.BytesString
import Derived.Lib.SlBytesConst
import Derived.Laws.IdiomStrings
import Derived.Lib.AppendStr
import Derived.Lib.EndianZ
import Derived.WalkSpells
import Derived.Lib.ItoaNum
import Derived.Lib.DecodeN
import Derived.Lib.ValidLaws
import Derived.Lib.EndianBits
import Derived.ProofKit
import Derived.Defers
import Derived.Recover
import Derived.Scope
import Derived.Laws.StructEq
import Derived.ArgAppend
import Derived.Test.YtldmfchamcpmmaaDoorEncBytesPD
set_option maxHeartbeats 4000000
set_option maxRecDepth 100000
namespace Go.Proofs.YtldmfchamcpmmaaDoor
open Go Go.RowKit
set_option linter.unusedVariables false
set_option linter.unusedSimpArgs false
set_option linter.unnecessarySimpa false
/-- what the document hands back: bytes, and whether they are right -/
def RB (H : Heap) (B : List Int) (ok : Bool) (N : Nat) (u : Value) (H' : Heap) : Prop :=
  (∃ w l, u = .tuple #[w, .bool ok] ∧ Own 1 (EInt .u8) 5 #[] H.size H' w l ∧ l.length ≤ N ∧ (ok = true → l = B)) ∧ Old H H'
theorem En.vals_flat : ∀ (l : List Int), l.flatMap En.valB = l
  | [] => rfl
  | x :: l => by rw [List.flatMap_cons, En.vals_flat l]; rfl
theorem En.lst_vals (l : List Int) : En.lst En.valB l = En.u (l.length : Nat) ++ l := by unfold En.lst; rw [En.vals_flat]
theorem bdec {b c : Bool} (h : b = true ↔ c = true) : b = c := by cases b <;> cases c <;> simp_all
theorem En.limB_free {a b : Int} (h : b = -1) : En.limB (a, b) = [0] ++ En.u a := by unfold En.limB; dsimp only; rw [if_pos (by omega)]; rfl
theorem En.limO_free {a b : Int} (h : b = -1) : En.limO (a, b) = true := by unfold En.limO; exact decide_eq_true (by dsimp only; omega)
theorem En.limO_lt {a b : Int} (h0 : b < 0) (h : ¬ b = -1) : En.limO (a, b) = false := by unfold En.limO; exact decide_eq_false (by dsimp only; omega)
theorem En.limO_ge {a b : Int} (h0 : 0 ≤ b) : En.limO (a, b) = decide (b ≤ 4294967295) := by unfold En.limO; exact decide_eq_decide.2 (by dsimp only; omega)
theorem En.limB_max {a b : Int} (h : ¬ b = -1) (hk : En.limO (a, b) = true) : En.limB (a, b) = [1] ++ En.u a ++ En.u (b % 18446744073709551616) := by
  unfold En.limO at hk
  have h2 := of_decide_eq_true hk
  dsimp only at h2
  unfold En.limB; dsimp only
  rw [if_neg (by omega), show b % 18446744073709551616 = b % 4294967296 by omega]; simp
theorem getD_memD' {α : Type} [Inhabited α] {l : List α} {k : Nat} (h : k < l.length) : l.getD k default ∈ l := En.getD_memD h
theorem En.all_not {α : Type} {p : α → Bool} {l : List α} {x : α} (h : x ∈ l) (hp : p x = false) : l.all p = false := by
  cases hq : l.all p with
  | false => rfl
  | true => rw [List.all_eq_true.1 hq x h] at hp; cases hp
theorem RExprX_any {H : Heap} {v : Value} {xs : List Ins} (hs0 : Sl 5 EIns H v xs) (hb : Isp.bulk xs ≤ 2000000) : Ct Tryd.prog 91 [v] H (fun u H' => RB H (En.exprB xs) (En.has xs) (31 * Isp.bulk xs + 1) u H') := by
  refine Ct.mk Tryd.func91 rfl Tryd.ntmps91 rfl ?_
  intro W0 hW0
  have o0 : Old H H := Old.refl H
  have hs := hs0
  refine KC.sr (KL.fin 2 rfl (KQ.sr (KL.fin 1 rfl (KQ.sr (KL.fin 1 rfl (KQ.seq (KC.seq (KC.seq ?_))))))))
  refine KC.region (KL.fin 1 rfl (KQ.seq (KC.block ?_)))
  refine KC.loopD (κ := Nat × Value × Value × List Int) [9, 10, 11, 12, 16, 17, 18, 19, 20, 21, 22, 15, 23, 24, 7, 8, 25, 26, 27, 28, 29, 30, 31, 32, 33, 34, 2, 3, 35, 5, 36, 37, 38, 39, 40, 41, 42, 4, 13, 14, 6] (fun k => [(4, k.2.1), (5, k.2.2.1), (6, .int .i64 (k.1 : Nat))]) (fun k Hl => k.1 ≤ xs.length ∧ Own 1 (EInt .u8) 5 #[] H.size Hl k.2.1 (Isp.flat (xs.take k.1)) ∧ Sl 1 (EInt .i64) Hl k.2.2.1 (k.2.2.2.map Isp.dm) ∧ Isp.okm k.2.2.2 ∧ Isp.walkM [] (xs.take k.1) = some k.2.2.2 ∧ (∀ x ∈ xs.take k.1, Isp.May x) ∧ Old H Hl) (fun k => xs.length - k.1) (0, .slice none 0 0, .slice none 0 0, []) ?_ ?_ ?_
  · exact Sub.all rfl
  · exact ⟨Nat.zero_le _, by simpa [Isp.flat] using Own.nil _ _ _ _ _ _, by simpa using Sl.nil _ _ _, (by intro x hx; cases hx), by simp [Isp.walkM], by simp, Old.refl _⟩
  rintro ⟨k, vo, vm, m⟩ H1 ⟨hk, wo, sm, hok, hw, hMs, o0⟩
  have zl_H1 := o0.1
  dsimp only at hk wo sm hok hw hMs
  have zl := o0.1
  have hs := hs0.old o0
  have hlx := Isp.bulk_len xs
  have hfl := flatB (k := k) hs0 hb
  have hml : m.length ≤ xs.length := by
    have := Isp.walk_len hw
    rw [List.length_take] at this; omega
  refine KC.seq (KC.sr (KL.run 2 rfl (KL.q (R.lenS rfl Tryd.underlying52 rfl hs) rfl (KL.fin 1 rfl (KQ.seq ?_)))))
  refine KC.iq rfl ?_ ?_
  · intro hc12
    try dsimp only at hc12
    obtain ⟨vl, hcx, hcl, hxr⟩ := hs.insV k (by omega)
    have hbm := Isp.bulk_mem (ins_mem (l := xs) (j := k) (by omega))
    obtain ⟨hop1, hok2⟩ := Isp.opn_nx hok (xs.getD k default).op
    refine KC.skip (KQ.seq (KC.seq (KC.block (KC.sr (KL.run 3 rfl ?_)))))
    refine KL.q (R.index (j := k) rfl Tryd.underlying52 sz127 rfl rfl hs rfl (by omega)) rfl ?_
    refine KL.q (R.fieldAddrP rfl Tryd.underlying127 rfl rfl sz5 rfl) rfl (KL.ld rfl (hcx 0 _ rfl) ?_)
    have hvo := wo.lt
    refine KL.c rfl Tryd.call127 (Open_any _ sm (by rw [List.length_map]; omega)) ?_
    rintro u H2 ⟨hR0, ox⟩
    rw [hop1] at hR0
    have hR : ((∀ m2, Isp.nx m (xs.getD k default).op ≠ .go m2) ∧ u = .tuple #[.slice none 0 0, .bool false]) ∨ ∃ m2 vn, Isp.nx m (xs.getD k default).op = .go m2 ∧ u = .tuple #[vn, .bool true] ∧ Own 1 (EInt .i64) 3 #[] (Array.size H1) H2 vn (m2.map Isp.dm) := by
      cases hq : Isp.nx m (xs.getD k default).op with
      | go m2 => rw [hq] at hR0; obtain ⟨vn, h1, h2⟩ := hR0; exact .inr ⟨m2, vn, rfl, h1, h2⟩
      | bad => rw [hq] at hR0; exact .inl ⟨fun _ => by simp, hR0⟩
      | over => rw [hq] at hR0; exact .inl ⟨fun _ => by simp, hR0⟩
    rcases hR with ⟨hno, rfl⟩ | ⟨m2, vn, hnx, rfl, wn⟩
    · skip
      have o0 := o0.trans ox
      have wo := wo.old ox
      have sm := sm.old ox
      have hs := hs.old ox
      have zox := ox.1
      refine KL.fin 5 rfl (KQ.seq (KC.seq (KC.sr (KL.fin 10 rfl (KQ.seq (KC.condT rfl (KC.sr (KL.fin 2 rfl (KQ.seq (KC.ret (KQ.retThen ?_)))))))))))
      refine KQ.retBlock (KQ.retThen (KQ.retThen (KQ.retBlock (KQ.retThen (KQ.ofRet (KQ.fin2 Tryd.results91 rfl rfl ?_))))))
      (exact ⟨⟨_, [], by rw [En.has_no (l := xs) (fun h => by have h1 := h.1; rw [Isp.walk_stop (by omega) hw hno] at h1; cases h1)], Own.nil _ _ _ _ _ _, by simp, fun h => by rw [En.has_no (l := xs) (fun h => by have h1 := h.1; rw [Isp.walk_stop (by omega) hw hno] at h1; cases h1)] at h; cases h⟩, o0⟩)
    have o0 := o0.trans ox
    have wo := wo.old ox
    have sm := sm.old ox
    have hs := hs.old ox
    have zox := ox.1
    have sn := wn.sl (emptyOld _) (by omega)
    obtain ⟨vl2, hcx, hcl, _⟩ := hs.insV k (by omega)
    refine KL.fin 5 rfl (KQ.seq (KC.seq (KC.sr (KL.run 5 rfl ?_))))
    refine KL.q (R.index (j := k) rfl Tryd.underlying52 sz127 rfl rfl hs rfl (by omega)) rfl ?_
    refine KL.lda rfl hcx rfl ?_
    refine KL.c rfl Tryd.call128 (RMay_any hxr (by omega) hcl) ?_
    rintro _ H3 ⟨⟨bM, rfl, hbM⟩, ox⟩
    have zc_H3 := (ox).1
    have o0 := o0.trans ox
    have wo := wo.old ox
    have sm := sm.old ox
    have hs := hs.old ox
    have sn := sn.old ox
    have hcl := hcl.old ox
    have wn := wn.old ox
    obtain ⟨vl3, hcx, hcl, _⟩ := hs.insV k (by omega)
    refine KL.fin 2 rfl (KQ.seq ?_)
    refine KC.iq rfl ?_ ?_
    · intro hc34
      try dsimp only at hc34
      refine KC.sr (KL.fin 2 rfl (KQ.seq (KC.ret (KQ.retThen (KQ.retBlock (KQ.retThen (KQ.retThen (KQ.retBlock (KQ.retThen (KQ.ofRet (KQ.fin2 Tryd.results91 rfl rfl ?_)))))))))))
      (exact ⟨⟨_, [], by rw [En.has_no (l := xs) (fun h => absurd h.2 (Isp.may_no (k := k) (by omega) (fun hm => by have hq := hbM.2 hm; rw [hc34] at hq; cases hq)))], Own.nil _ _ _ _ _ _, by simp, fun h => by rw [En.has_no (l := xs) (fun h => absurd h.2 (Isp.may_no (k := k) (by omega) (fun hm => by have hq := hbM.2 hm; rw [hc34] at hq; cases hq)))] at h; cases h⟩, o0⟩)
    intro hc34
    try dsimp only at hc34
    have hM : Isp.May (xs.getD k default) := hbM.1 (by simpa using hc34)
    refine KC.skip (KQ.sr (KL.fin 2 rfl (KQ.r (KL.run 3 rfl ?_))))
    refine KL.q (R.index (j := k) rfl Tryd.underlying52 sz127 rfl rfl hs rfl (by omega)) rfl ?_
    refine KL.lda rfl hcx rfl ?_
    refine KL.c rfl Tryd.call129 (RBytes_any hxr (by omega) hcl hM) ?_
    rintro va H4 ⟨wa, ox⟩
    have zc_H4 := (ox).1
    have o0 := o0.trans ox
    have wo := wo.old ox
    have sm := sm.old ox
    have hs := hs.old ox
    have sn := sn.old ox
    have hcl := hcl.old ox
    have wn := wn.old ox
    have wnB := wn
    have hap := wa.sl (emptyOld _) (by omega)
    have hbl := Isp.bytes_len hxr (fun y hy => hcl.rng y hy) (by omega)
    have lt5 := wo.lt
    refine KL.m (M.append rfl Tryd.underlying36 inf5 rfl (by decide) rfl rfl wo hap (fun _ _ h _ => h) (by omega) (by omega) (by unfold maxLen; omega)) rfl ?_
    rintro vp H5 ⟨w5, g5⟩
    try dsimp only at g5
    have ob5 := g5.oldB wo (by omega)
    have o0 := o0.then ob5 (by omega)
    have z5 := ob5.1
    have wo := w5
    have sn := (wnB.keepN (wnB.lt.imp id (fun h => g5.2 _ h.2 (hvo.imp id (fun k => by omega))))).sl (emptyOld _) (by omega)
    refine KL.fin 1 rfl (KQ.normBlock (KQ.r (KL.run 1 rfl ?_)))
    refine KL.q ((R.add rfl rfl rfl (by dsimp only [InR]; omega)).val (congrArg (Value.int .i64) (show (k : Int) + 1 = ((k + 1 : Nat) : Int) by omega))) rfl ?_
    refine KL.fin 1 rfl ?_
    refine KQ.again ((k + 1, vp, vn, m2)) ?_ ?_ ?_
    · exact Sub.all rfl
    · show xs.length - (k + 1) < xs.length - k; omega
    exact ⟨by show k + 1 ≤ _; omega, by dsimp only; rw [Isp.flat_step (by omega)]; exact wo, sn, hok2 m2 hnx, Isp.walk_step (by omega) hw hnx, by
      dsimp only
      intro x hx
      rw [List.take_add_one, List.getElem?_eq_getElem (by omega)] at hx
      rcases List.mem_append.1 hx with hx | hx
      · exact hMs x hx
      simp only [Option.toList_some, List.mem_cons, List.not_mem_nil, or_false] at hx; subst hx
      have : xs.getD k default = xs[k] := by rw [List.getD_eq_getElem?_getD, List.getElem?_eq_getElem (by omega)]; rfl
      rw [← this]; exact hM, o0⟩
  intro hc12
  try dsimp only at hc12
  obtain ⟨am, cm, rfl⟩ := sm.val
  refine KC.exit (KQ.exitThen (KQ.exitThen (KQ.hit (KQ.sr (KL.run 1 rfl ?_)))))
  refine KL.m (M.lit rfl Tryd.underlying36 zs5 (by decide) rfl rfl rfl) rfl ?_
  rintro _ H6 ⟨rfl, n6⟩
  have z6 := n6.2.1
  have o0 := o0.trans n6.1
  have wo := wo.old n6.1
  have sm := sm.old n6.1
  have hs := hs.old n6.1
  have b6 := n6.2.2
  have h11 : Sl 1 (EInt .u8) H6 _ [11] := Sl.lits (l := [11]) n6 rfl (by simp) (by decide)
  have lt7 := wo.lt
  refine KL.m (M.append rfl Tryd.underlying36 inf5 rfl (by decide) rfl rfl wo h11 (fun _ _ h _ => h) (by omega) (by simp only [List.length_append, List.length_cons, List.length_nil]; omega) (by unfold maxLen; simp only [List.length_append, List.length_cons, List.length_nil]; omega)) rfl ?_
  rintro vq H7 ⟨w7, g7⟩
  try dsimp only at g7
  have ob7 := g7.oldB wo (by omega)
  have o0 := o0.then ob7 (by omega)
  have z7 := ob7.1
  have wo := w7
  refine KL.run 1 rfl (KL.q (R.len (ty := 0) rfl Tryd.underlying157 rfl) rfl (KL.fin 3 rfl (KQ.seq (KC.ret (KQ.ofRet (KQ.fin2 Tryd.results91 rfl rfl ?_))))))
  first
    | (have hkl : k = xs.length := by omega
       rw [hkl, List.take_length] at wo hw hMs
       have hfl := En.flat_le xs
       have hiff : decide (((m.map Isp.dm).length : Int) = 0) = En.has xs := by
         refine bdec ⟨fun h => En.has_yes ⟨?_, hMs⟩, fun h => ?_⟩
         · rw [hw]; have := of_decide_eq_true h; simp only [List.length_map] at this; rw [List.eq_nil_of_length_eq_zero (l := m) (by omega)]
         have hh : Isp.Has xs := Classical.byContradiction (fun hn => by rw [En.has_no hn] at h; cases h)
         have e := hh.1.symm.trans hw; injection e with e; subst e; rfl
       refine ⟨⟨_, _, by rw [← hiff], wo, by rw [List.length_append, List.length_singleton]; omega, fun h => by unfold En.exprB; rw [if_pos h]⟩, o0⟩)
theorem U_any {H : Heap} (z : Int) (h0 : 0 ≤ z) (h1 : z < 18446744073709551616) : Ct Tryd.prog 50 [.int .u64 z] H (fun u H' => Own 1 (EInt .u8) 5 #[] H.size H' u (En.u z) ∧ Old H H') := by
  refine Ct.mk Tryd.func50 rfl Tryd.ntmps50 rfl ?_
  intro W0 hW0
  have o0 : Old H H := Old.refl H
  refine KC.sr (KL.fin 1 rfl (KQ.sr (KL.run 1 rfl ?_)))
  refine KL.c rfl Tryd.call86 (Fewest_k z h0 h1) ?_
  rintro vf H1 ⟨wf, ox⟩
  have zc_H1 := (ox).1
  have o0 := o0.trans ox
  refine KL.fin 1 rfl (KQ.seq (KC.ret (KQ.ofRet (KQ.fin1 Tryd.results50 rfl ?_))))
  exact ⟨wf, o0⟩
theorem text_any {H : Heap} (s : ByteArray) (hl : s.size ≤ 100000) : Ct Tryd.prog 92 [.string s] H (fun u H' => Own 1 (EInt .u8) 5 #[] H.size H' u (En.txt s) ∧ Old H H') := by
  refine Ct.mk Tryd.func92 rfl Tryd.ntmps92 rfl ?_
  intro W0 hW0
  have o0 : Old H H := Old.refl H
  refine KC.sr (KL.fin 1 rfl (KQ.sr (KL.run 1 rfl (KL.q (R.lenStr (ty := 0) rfl Tryd.underlying9 rfl) rfl ?_))))
  refine KL.q (R.convI rfl Tryd.underlying3 Tryd.underlying101 rfl (by dsimp only [InR] at *; omega)) rfl ?_
  refine KL.c rfl Tryd.call50 (U_any ((s.size : Nat)) (by omega) (by omega)) ?_
  rintro v_wf H1 ⟨wf, ox⟩
  have zc_H1 := (ox).1
  have o0 := o0.trans ox
  have zwf := ox.1
  have lwf := wf.lt
  have hul := En.u_le (s.size : Nat)
  refine KL.run 1 rfl ?_
  have lt2 := wf.lt
  refine KL.m (M.appendStr rfl Tryd.underlying36 Tryd.underlying9 inf5 rfl rfl wf (by omega) (by omega)) rfl ?_
  rintro vr H2 ⟨w2, g2⟩
  have ob2 := g2.oldB wf (by omega)
  have o0 := o0.then ob2 (by omega)
  have z2 := ob2.1
  have wf := w2
  refine KL.fin 1 rfl (KQ.seq (KC.ret (KQ.ofRet (KQ.fin1 Tryd.results92 rfl ?_))))
  exact ⟨wf, o0⟩
theorem rvalue_any {H : Heap} (t : Int) : Ct Tryd.prog 126 [.int .u8 t] H (fun u H' => u = .bool (En.vOk t) ∧ H = H') := by
  refine Ct.mk Tryd.func126 rfl Tryd.ntmps126 rfl ?_
  intro W0 hW0
  have o0 : Old H H := Old.refl H
  refine KC.sr (KL.fin 1 rfl (KQ.sr (KL.run 3 rfl ?_)))
  refine KL.cq 5 rfl ?_ ?_
  · intro hg5
    refine KL.fin 4 rfl (KQ.seq (KC.ret (KQ.ofRet (KQ.fin1 Tryd.results126 rfl ?_))))
    exact ⟨congrArg Value.bool (by unfold En.vOk; ((symm; exact decide_eq_true (by omega)))), rfl⟩
  intro hg5
  refine KL.fin 4 rfl (KQ.seq (KC.ret (KQ.ofRet (KQ.fin1 Tryd.results126 rfl ?_))))
  exact ⟨congrArg Value.bool (by unfold En.vOk; exact decide_eq_decide.2 (by omega)), rfl⟩
theorem values_any {H : Heap} {v : Value} {l : List Int} (hs : Sl 1 (EInt .u8) H v l) (hl : l.length ≤ 4000) : Ct Tryd.prog 87 [v] H (fun u H' => RB H (En.lst En.valB l) (l.all En.vOk) 4010 u H') := by
  refine Ct.mk Tryd.func87 rfl Tryd.ntmps87 rfl ?_
  intro W0 hW0
  have o0 : Old H H := Old.refl H
  refine KC.sr (KL.fin 2 rfl (KQ.sr (KL.run 1 rfl (KL.q (R.lenS rfl Tryd.underlying36 rfl hs) rfl ?_))))
  refine KL.q (R.convI rfl Tryd.underlying3 Tryd.underlying101 rfl (by dsimp only [InR] at *; omega)) rfl ?_
  refine KL.c rfl Tryd.call50 (U_any ((l.length : Nat)) (by omega) (by omega)) ?_
  rintro v_wf H1 ⟨wf, ox⟩
  have zc_H1 := (ox).1
  have o0 := o0.trans ox
  have zwf := ox.1
  have lwf := wf.lt
  refine KL.fin 1 rfl (KQ.seq (KC.seq (KC.sr (KL.fin 1 rfl (KQ.seq (KC.block ?_))))))
  refine KC.loopD (κ := Nat × Value) [10, 11, 12, 13, 16, 17, 18, 19, 20, 21, 2, 3, 22, 23, 24, 25, 26, 27, 28, 4, 14, 15, 5] (fun k => [(5, .int .i64 (k.1 : Nat)), (4, k.2)]) (fun k Hl => k.1 ≤ l.length ∧ Own 1 (EInt .u8) 5 #[] H.size Hl k.2 (En.u (l.length : Nat) ++ l.take k.1) ∧ (l.take k.1).all En.vOk = true ∧ Old H Hl) (fun k => l.length - k.1) (0, v_wf) ?_ ?_ ?_
  · exact Sub.all rfl
  · exact ⟨Nat.zero_le _, by simpa using wf, rfl, o0⟩
  rintro ⟨k, vo⟩ H2 ⟨hk, wo, ha, o0⟩
  have zl_H2 := o0.1
  dsimp only at hk wo ha
  have zl := o0.1
  have hvo := wo.lt
  have hul := En.u_le (l.length : Nat)
  have htl : (l.take k).length ≤ l.length := by rw [List.length_take]; omega
  refine KC.seq (KC.sr (KL.run 2 rfl (KL.q (R.lenS rfl Tryd.underlying36 rfl hs) rfl (KL.fin 1 rfl (KQ.seq ?_)))))
  refine KC.iq rfl ?_ ?_
  · intro hc13
    try dsimp only at hc13
    obtain ⟨hcx, hxr⟩ := hs.int k (by omega)
    refine KC.skip (KQ.seq (KC.seq (KC.block (KC.seq (KC.sr (KL.run 2 rfl ?_))))))
    refine KL.q (R.index1 (j := k) rfl Tryd.underlying36 sz5 rfl rfl (hs.old o0) rfl (by omega)) rfl ?_
    refine KL.ld rfl (o0.cell hcx) ?_
    refine KL.c rfl Tryd.call126 (rvalue_any _) ?_
    rintro _ _ ⟨rfl, rfl⟩
    refine KL.fin 1 rfl (KQ.seq ?_)
    refine KC.iq rfl ?_ ?_
    · intro hok
      try dsimp only at hok
      refine KC.sr (KL.fin 2 rfl (KQ.seq (KC.ret (KQ.retThen (KQ.retBlock (KQ.retThen (KQ.retThen (KQ.retBlock (KQ.retThen (KQ.ofRet (KQ.fin2 Tryd.results87 rfl rfl ?_)))))))))))
      (exact ⟨⟨_, [], by rw [En.all_not (getD_memD' (l := l) (k := k) (by omega)) (by simpa using hok)], Own.nil _ _ _ _ _ _, by simp, fun h => by rw [En.all_not (getD_memD' (l := l) (k := k) (by omega)) (by simpa using hok)] at h; cases h⟩, o0⟩)
    intro hok
    try dsimp only at hok
    refine KC.skip (KQ.r (KL.run 3 rfl ?_))
    refine KL.q (R.index1 (j := k) rfl Tryd.underlying36 sz5 rfl rfl (hs.old o0) rfl (by omega)) rfl ?_
    refine KL.ld rfl (o0.cell hcx) ?_
    refine KL.m (M.lit rfl Tryd.underlying36 zs5 (by decide) rfl rfl rfl) rfl ?_
    rintro _ H3 ⟨rfl, n3⟩
    have z3 := n3.2.1
    have o0 := o0.trans n3.1
    have wo := wo.old n3.1
    have b3 := n3.2.2
    have s1 : Sl 1 (EInt .u8) H3 _ [(l.getD k default)] := Sl.lits (l := [(l.getD k default)]) n3 rfl (by simp) (by intro y hy; simp only [List.mem_cons, List.not_mem_nil, or_false] at hy; subst hy; dsimp only [InR] at *; omega)
    have lt4 := wo.lt
    refine KL.m (M.append rfl Tryd.underlying36 inf5 rfl (by decide) rfl rfl wo s1 (fun _ _ h _ => h) (by omega) (by (simp only [List.length_append, List.length_cons, List.length_nil]; omega)) (by unfold maxLen; ((simp only [List.length_append, List.length_cons, List.length_nil]; omega)))) rfl ?_
    rintro vn H4 ⟨w4, g4⟩
    try dsimp only at g4
    have ob4 := g4.oldB wo (by omega)
    have o0 := o0.then ob4 (by omega)
    have z4 := ob4.1
    have wo := w4
    refine KL.fin 1 rfl (KQ.normBlock (KQ.r (KL.run 1 rfl ?_)))
    refine KL.q ((R.add rfl rfl rfl (by dsimp only [InR]; omega)).val (congrArg (Value.int .i64) (show (k : Int) + 1 = ((k + 1 : Nat) : Int) by omega))) rfl ?_
    refine KL.fin 1 rfl ?_
    refine KQ.again ((k + 1, vn)) ?_ ?_ ?_
    · exact Sub.all rfl
    · show l.length - (k + 1) < l.length - k; omega
    exact ⟨by show k + 1 ≤ _; omega, by show Own _ _ _ _ _ _ _ (_ ++ l.take (k + 1)); rw [En.take_succD (by omega), ← List.append_assoc]; exact wo, by show (l.take (k + 1)).all _ = true; rw [En.take_succD (by omega), List.all_append, ha]; simpa using hok, o0⟩
  intro hc13
  try dsimp only at hc13
  have hkl : k = l.length := by omega
  subst hkl
  rw [List.take_length] at wo ha
  refine KC.exit (KQ.exitThen (KQ.exitThen (KQ.hit (KQ.sr (KL.fin 3 rfl (KQ.seq (KC.ret (KQ.ofRet (KQ.fin2 Tryd.results87 rfl rfl ?_)))))))))
  (exact ⟨⟨_, _, by rw [ha], wo.weak (Nat.le_refl _), by rw [List.length_append]; omega, fun _ => (En.lst_vals l).symm⟩, o0⟩)
theorem rlimits_any {H : Heap} (a b : Int) (ra : InR .u32 a) (rb : InR .i64 b) : Ct Tryd.prog 89 [.agg [.int .u32 a, .int .i64 b].toArray] H (fun u H' => RB H (En.limB (a, b)) (En.limO (a, b)) 21 u H') := by
  refine Ct.mk Tryd.func89 rfl Tryd.ntmps89 rfl ?_
  intro W0 hW0
  have o0 : Old H H := Old.refl H
  have hua := En.u_le a
  have hub := En.u_le (b % 18446744073709551616)
  dsimp only [InR] at rb
  refine KC.sr ?_
  refine KL.m (M.box rfl rfl rfl) rfl ?_
  rintro _ H1 ⟨rfl, n1⟩
  have z1 := n1.2.1
  have o0 := o0.trans n1.1
  have b1 := n1.2.2
  have bx := b1
  refine KL.fin 2 rfl (KQ.seq (KC.seq (KC.sr (KL.run 1 rfl (KL.ld rfl (cell_of bx rfl) (KL.fin 1 rfl (KQ.seq ?_)))))))
  refine KC.iq rfl ?_ ?_
  · intro hc7
    refine KC.sr ?_
    refine KL.m (M.lit rfl Tryd.underlying36 zs5 (by decide) rfl rfl rfl) rfl ?_
    rintro _ H2 ⟨rfl, n2⟩
    have z2 := n2.2.1
    have o0 := o0.trans n2.1
    have bx := (n2.1).blk bx
    have b2 := n2.2.2
    have s0 : Own 1 (EInt .u8) 5 #[] (Array.size H1) H2 (.slice (some ⟨Array.size H1, 0, none⟩) 1 1) [0] := Own.litI (l := [0]) (m := 1) n2 (Nat.le_refl _) rfl (by omega) (by intro y hy; simp only [List.mem_cons, List.not_mem_nil, or_false] at hy; subst hy; dsimp only [InR] at *; omega)
    refine KL.run 1 rfl (KL.ld rfl (cell_of bx rfl) ?_)
    refine KL.q (R.convI rfl Tryd.underlying28 Tryd.underlying101 rfl (by dsimp only [InR] at *; omega)) rfl ?_
    refine KL.c rfl Tryd.call50 (U_any (a) (by (dsimp only [InR] at *; omega)) (by (dsimp only [InR] at *; omega))) ?_
    rintro v_wu H3 ⟨wu, ox⟩
    have zc_H3 := (ox).1
    have o0 := o0.trans ox
    have bx := (ox).blk bx
    have s0 := s0.old ox
    have zwu := ox.1
    have lwu := wu.lt
    have lt4 := s0.lt
    refine KL.m (M.append rfl Tryd.underlying36 inf5 rfl (by decide) rfl rfl s0 (by exact (wu.sl (emptyOld _) (by decide))) (fun _ _ h _ => h) (by omega) (by (simp only [List.length_append, List.length_cons, List.length_nil]; omega)) (by unfold maxLen; ((simp only [List.length_append, List.length_cons, List.length_nil]; omega)))) rfl ?_
    rintro vr H4 ⟨w4, g4⟩
    have ob4 := g4.oldB s0 (by omega)
    have o0 := o0.then ob4 (by omega)
    have z4 := ob4.1
    have bx := (g4.2 _ (blk_lt bx) (by exact lt4.imp id (fun h => by omega))).trans bx
    have s0 := w4
    refine KL.fin 2 rfl (KQ.seq (KC.ret (KQ.retThen (KQ.ofRet (KQ.fin2 Tryd.results89 rfl rfl ?_)))))
    (exact ⟨⟨_, _, by rw [En.limO_free hc7], s0.weak (by omega), by simp only [List.length_append, List.length_cons, List.length_nil]; omega, fun _ => (En.limB_free hc7).symm⟩, o0⟩)
  intro hc7
  refine KC.skip (KQ.sr ?_)
  refine KL.m (M.lit rfl Tryd.underlying36 zs5 (by decide) rfl rfl rfl) rfl ?_
  rintro _ H5 ⟨rfl, n5⟩
  have z5 := n5.2.1
  have o0 := o0.trans n5.1
  have bx := (n5.1).blk bx
  have b5 := n5.2.2
  have s0 : Own 1 (EInt .u8) 5 #[] (Array.size H1) H5 (.slice (some ⟨Array.size H1, 0, none⟩) 1 1) [1] := Own.litI (l := [1]) (m := 1) n5 (Nat.le_refl _) rfl (by omega) (by intro y hy; simp only [List.mem_cons, List.not_mem_nil, or_false] at hy; subst hy; dsimp only [InR] at *; omega)
  refine KL.run 1 rfl (KL.ld rfl (cell_of bx rfl) ?_)
  refine KL.q (R.convI rfl Tryd.underlying28 Tryd.underlying101 rfl (by dsimp only [InR] at *; omega)) rfl ?_
  refine KL.c rfl Tryd.call50 (U_any (a) (by (dsimp only [InR] at *; omega)) (by (dsimp only [InR] at *; omega))) ?_
  rintro v_wu H6 ⟨wu, ox⟩
  have zc_H6 := (ox).1
  have o0 := o0.trans ox
  have bx := (ox).blk bx
  have s0 := s0.old ox
  have zwu := ox.1
  have lwu := wu.lt
  have lt7 := s0.lt
  refine KL.m (M.append rfl Tryd.underlying36 inf5 rfl (by decide) rfl rfl s0 (by exact (wu.sl (emptyOld _) (by decide))) (fun _ _ h _ => h) (by omega) (by (simp only [List.length_append, List.length_cons, List.length_nil]; omega)) (by unfold maxLen; ((simp only [List.length_append, List.length_cons, List.length_nil]; omega)))) rfl ?_
  rintro vq H7 ⟨w7, g7⟩
  have ob7 := g7.oldB s0 (by omega)
  have o0 := o0.then ob7 (by omega)
  have z7 := ob7.1
  have bx := (g7.2 _ (blk_lt bx) (by exact lt7.imp id (fun h => by omega))).trans bx
  have s0 := w7
  have lq := s0.lt
  refine KL.fin 1 rfl (KQ.seq (KC.seq ?_))
  refine KC.text (clOf [(4, 2), (5, 2)]) (fun i Hc => (i = 2 ∨ i = 7 ∨ i = 11) → Hc[Array.size H]? = some (.cells [.int .u32 a, .int .i64 b].toArray 47 (0, 0))) (by kernel_rfl) (by kernel_rfl) (fun _ _ => bx) ?_
  refine KP.run 2 rfl rfl ?_
  refine KP.op rfl (fun Hg hg => R.load rfl Tryd.underlying2 rfl rfl (cell_of (hg (by omega)) rfl)) rfl rfl rfl ?_
  refine KP.op rfl (fun Hg hg => (R.convW rfl Tryd.underlying2 Tryd.underlying101 rfl).val (congrArg (Value.int .u64) (show IntKind.u64.wrap b = b % 18446744073709551616 from by simp [IntKind.wrap, IntKind.bits, IntKind.signed]))) rfl rfl rfl ?_
  refine KP.call rfl rfl rfl rfl rfl Tryd.call50 rfl rfl rfl (U_any (b % 18446744073709551616) (by omega) (by omega)) (fun _ _ hR j _ _ _ => hR.2.blk bx) ?_
  rintro v_wb H8 ⟨wb, ox⟩
  have zc_H8 := (ox).1
  have o0 := o0.trans ox
  have bx := (ox).blk bx
  have s0 := s0.old ox
  have zwb := ox.1
  have lwb := wb.lt
  have lt9 := s0.lt
  refine KP.opM rfl (M.append rfl Tryd.underlying36 inf5 rfl (by decide) rfl rfl s0 (by exact (wb.sl (emptyOld _) (by decide))) (fun _ _ h _ => h) (by omega) (by (simp only [List.length_append, List.length_cons, List.length_nil]; omega)) (by unfold maxLen; ((simp only [List.length_append, List.length_cons, List.length_nil]; omega)))) rfl rfl rfl (fun _ _ hR j _ _ _ => (hR.2.2 _ (blk_lt bx) (lq.imp id (fun e => by omega))).trans bx) ?_
  rintro vr H9 ⟨w9, g9⟩
  have ob9 := g9.oldB s0 (by omega)
  have o0 := o0.then ob9 (by omega)
  have z9 := ob9.1
  have bx := (g9.2 _ (blk_lt bx) (by exact lt9.imp id (fun h => by omega))).trans bx
  have s0 := w9
  refine KP.run 1 rfl rfl ?_
  refine KP.op rfl (fun Hg hg => R.load rfl Tryd.underlying2 rfl rfl (cell_of (hg (by omega)) rfl)) rfl rfl rfl ?_
  refine KP.run 2 rfl rfl ?_
  refine KP.case (d := 29) rfl ?_ ?_
  · intro hg29
    simp only [sd] at hg29
    refine KP.run 1 rfl rfl ?_
    refine KP.op rfl (fun Hg hg => R.load rfl Tryd.underlying2 rfl rfl (cell_of (hg (by omega)) rfl)) rfl rfl rfl ?_
    refine KP.fin 4 rfl rfl (KQ.seq (KC.ret (KQ.ofRet (KQ.fin2 Tryd.results89 rfl rfl ?_))))
    (exact ⟨⟨_, _, by rw [En.limO_ge (b := b) (by omega)], s0.weak (by omega), by simp only [List.length_append, List.length_cons, List.length_nil]; omega, fun h => (En.limB_max hc7 h).symm⟩, o0⟩)
  intro hg29
  simp only [sd] at hg29
  refine KP.fin 6 rfl rfl (KQ.seq (KC.ret (KQ.ofRet (KQ.fin2 Tryd.results89 rfl rfl ?_))))
  (exact ⟨⟨_, _, by rw [En.limO_lt (b := b) (by omega) hc7], s0.weak (by omega), by simp only [List.length_append, List.length_cons, List.length_nil]; omega, fun h => by rw [En.limO_lt (b := b) (by omega) hc7] at h; cases h⟩, o0⟩)
theorem rglob_any {H : Heap} (t : Int) (mu : Bool) (rt : InR .u8 t) : Ct Tryd.prog 90 [.agg [.int .u8 t, .bool mu].toArray] H (fun u H' => RB H (En.globB (t, mu)) (En.globO (t, mu)) 2 u H') := by
  refine Ct.mk Tryd.func90 rfl Tryd.ntmps90 rfl ?_
  intro W0 hW0
  have o0 : Old H H := Old.refl H
  refine KC.sr ?_
  refine KL.m (M.box rfl rfl rfl) rfl ?_
  rintro _ H1 ⟨rfl, n1⟩
  have z1 := n1.2.1
  have o0 := o0.trans n1.1
  have b1 := n1.2.2
  have bx := b1
  refine KL.fin 2 rfl (KQ.seq (KC.seq (KC.sr (KL.run 1 rfl (KL.ld rfl (cell_of bx rfl) (KL.nil (KQ.seq ?_)))))))
  refine KC.iq rfl ?_ ?_
  · intro hc5
    refine KC.seq ?_
    refine KC.valsL [6, 7, 8, 9, 10, 11, 2, 3] [[], [0], [1], [], [3], [4], [2, 5, 0, 1, 2], [5, 6, 0, 1, 2, 3, 4, 5, 6]] (fun (i : Nat) (u : Value) (Hc : Heap) => match i with | 0 => u = .pointer (some ⟨Array.size H, 0, none⟩) | 1 => u = .int .u8 t | 2 => Own 1 (EInt .u8) 5 #[] (Array.size H + 1) Hc u [t, 1] | 3 => u = .pointer (some ⟨Array.size H, 0, none⟩) | 4 => u = .int .u8 t | 5 => u = .bool (En.vOk t) | 6 => Own 1 (EInt .u8) 5 #[] (Array.size H + 1) Hc u [t, 1] | 7 => u = .bool (En.vOk t) | _ => True) (by kernel_rfl) (by kernel_rfl) (by kernel_rfl) (by kernel_rfl) ?_ ?_
    · intro i o ho u Hc og hp
      have hst : ∀ H2, Old Hc H2 → ∀ j x, (fun (i : Nat) (u : Value) (Hc : Heap) => match i with | 0 => u = .pointer (some ⟨Array.size H, 0, none⟩) | 1 => u = .int .u8 t | 2 => Own 1 (EInt .u8) 5 #[] (Array.size H + 1) Hc u [t, 1] | 3 => u = .pointer (some ⟨Array.size H, 0, none⟩) | 4 => u = .int .u8 t | 5 => u = .bool (En.vOk t) | 6 => Own 1 (EInt .u8) 5 #[] (Array.size H + 1) Hc u [t, 1] | 7 => u = .bool (En.vOk t) | _ => True) j x Hc → (fun (i : Nat) (u : Value) (Hc : Heap) => match i with | 0 => u = .pointer (some ⟨Array.size H, 0, none⟩) | 1 => u = .int .u8 t | 2 => Own 1 (EInt .u8) 5 #[] (Array.size H + 1) Hc u [t, 1] | 3 => u = .pointer (some ⟨Array.size H, 0, none⟩) | 4 => u = .int .u8 t | 5 => u = .bool (En.vOk t) | 6 => Own 1 (EInt .u8) 5 #[] (Array.size H + 1) Hc u [t, 1] | 7 => u = .bool (En.vOk t) | _ => True) j x H2 := by
        intro H2 o2 j x hx
        match j, hx with
        | 0, hx => exact hx
        | 1, hx => exact hx
        | 2, hx => exact hx.old o2
        | 3, hx => exact hx
        | 4, hx => exact hx
        | 5, hx => exact hx
        | 6, hx => exact hx.old o2
        | 7, hx => exact hx
        | j + 8, hx => exact hx
      match i, ho, hp with
      | 0, ho, hp =>
        have e := Option.some.inj (ho : some _ = some o)
        subst e
        change ∀ j ∈ ([] : List Nat), _ at hp
        change Ob _ _ (([] : Env) ++ _) _ _ _
        exact .inl ⟨rfl, D1.op (R.fieldAddr rfl Tryd.underlying49 rfl rfl sz5 rfl) ⟨rfl, og, fun _ _ h => h⟩⟩
      | 1, ho, hp =>
        have e := Option.some.inj (ho : some _ = some o)
        subst e
        change ∀ j ∈ ([0] : List Nat), _ at hp
        have h6 : (u 0) = .pointer (some ⟨Array.size H, 0, none⟩) := hp 0 (by simp)
        change Ob _ _ (([(6, u 0)] : Env) ++ _) _ _ _
        simp only [h6]
        exact .inl ⟨rfl, D1.op (R.load rfl Tryd.underlying5 rfl rfl (cell_of (og.blk bx) rfl)) ⟨rfl, og, fun _ _ h => h⟩⟩
      | 2, ho, hp =>
        have e := Option.some.inj (ho : some _ = some o)
        subst e
        change ∀ j ∈ ([1] : List Nat), _ at hp
        have h7 : (u 1) = .int .u8 t := hp 1 (by simp)
        change Ob _ _ (([(7, u 1)] : Env) ++ _) _ _ _
        simp only [h7]
        refine .inl ⟨rfl, D1.mem (M.lit rfl Tryd.underlying36 zs5 (by decide) rfl rfl rfl) ?_⟩
        rintro _ H2 ⟨rfl, nn⟩
        exact ⟨Own.litI (l := [t, 1]) (m := 2) nn (by have := og.1; omega) rfl (by omega) (by intro y hy; simp only [List.mem_cons, List.not_mem_nil, or_false] at hy; rcases hy with rfl | rfl <;> dsimp only [InR] at * <;> omega), og.trans nn.1, hst _ nn.1⟩
      | 3, ho, hp =>
        have e := Option.some.inj (ho : some _ = some o)
        subst e
        change ∀ j ∈ ([] : List Nat), _ at hp
        change Ob _ _ (([] : Env) ++ _) _ _ _
        exact .inl ⟨rfl, D1.op (R.fieldAddr rfl Tryd.underlying49 rfl rfl sz5 rfl) ⟨rfl, og, fun _ _ h => h⟩⟩
      | 4, ho, hp =>
        have e := Option.some.inj (ho : some _ = some o)
        subst e
        change ∀ j ∈ ([3] : List Nat), _ at hp
        have h9 : (u 3) = .pointer (some ⟨Array.size H, 0, none⟩) := hp 3 (by simp)
        change Ob _ _ (([(9, u 3)] : Env) ++ _) _ _ _
        simp only [h9]
        exact .inl ⟨rfl, D1.op (R.load rfl Tryd.underlying5 rfl rfl (cell_of (og.blk bx) rfl)) ⟨rfl, og, fun _ _ h => h⟩⟩
      | 5, ho, hp =>
        have e := Option.some.inj (ho : some _ = some o)
        subst e
        change ∀ j ∈ ([4] : List Nat), _ at hp
        have h10 : (u 4) = .int .u8 t := hp 4 (by simp)
        change Ob _ _ (([(10, u 4)] : Env) ++ _) _ _ _
        simp only [h10]
        exact .inl ⟨rfl, D1.call rfl rfl rfl rfl Tryd.call126 (rvalue_any _) (by rintro _ H2 ⟨rfl, rfl⟩; exact ⟨rfl, og, fun _ _ h => h⟩)⟩
      | 6, ho, hp =>
        have e := Option.some.inj (ho : some _ = some o)
        subst e
        change ∀ j ∈ ([2, 5, 0, 1, 2] : List Nat), _ at hp
        have h6 : (u 0) = .pointer (some ⟨Array.size H, 0, none⟩) := hp 0 (by simp)
        have h7 : (u 1) = .int .u8 t := hp 1 (by simp)
        have h8 : Own 1 (EInt .u8) 5 #[] (Array.size H + 1) Hc (u 2) [t, 1] := hp 2 (by simp)
        have h11 : (u 5) = .bool (En.vOk t) := hp 5 (by simp)
        change Ob _ _ (([(8, u 2), (11, u 5), (6, u 0), (7, u 1), (8, u 2)] : Env) ++ _) _ _ _
        simp only [h6, h7, h11]
        exact .inl ⟨rfl, D1.op (R.assign rfl rfl) ⟨h8, og, fun _ _ h => h⟩⟩
      | 7, ho, hp =>
        have e := Option.some.inj (ho : some _ = some o)
        subst e
        change ∀ j ∈ ([5, 6, 0, 1, 2, 3, 4, 5, 6] : List Nat), _ at hp
        have h6 : (u 0) = .pointer (some ⟨Array.size H, 0, none⟩) := hp 0 (by simp)
        have h7 : (u 1) = .int .u8 t := hp 1 (by simp)
        have h8 : Own 1 (EInt .u8) 5 #[] (Array.size H + 1) Hc (u 2) [t, 1] := hp 2 (by simp)
        have h9 : (u 3) = .pointer (some ⟨Array.size H, 0, none⟩) := hp 3 (by simp)
        have h10 : (u 4) = .int .u8 t := hp 4 (by simp)
        have h11 : (u 5) = .bool (En.vOk t) := hp 5 (by simp)
        have h2 : Own 1 (EInt .u8) 5 #[] (Array.size H + 1) Hc (u 6) [t, 1] := hp 6 (by simp)
        change Ob _ _ (([(11, u 5), (2, u 6), (6, u 0), (7, u 1), (8, u 2), (9, u 3), (10, u 4), (11, u 5), (2, u 6)] : Env) ++ _) _ _ _
        simp only [h6, h7, h9, h10, h11]
        exact .inl ⟨rfl, D1.op (R.assign rfl rfl) ⟨rfl, og, fun _ _ h => h⟩⟩
      | i + 8, ho, hp => exact absurd ho (by simp)
    intro u H2 og2 hv
    have h6 : (u 0) = .pointer (some ⟨Array.size H, 0, none⟩) := hv 0 (by decide)
    have h7 : (u 1) = .int .u8 t := hv 1 (by decide)
    have h8 : Own 1 (EInt .u8) 5 #[] (Array.size H + 1) H2 (u 2) [t, 1] := hv 2 (by decide)
    have h9 : (u 3) = .pointer (some ⟨Array.size H, 0, none⟩) := hv 3 (by decide)
    have h10 : (u 4) = .int .u8 t := hv 4 (by decide)
    have h11 : (u 5) = .bool (En.vOk t) := hv 5 (by decide)
    have h2 : Own 1 (EInt .u8) 5 #[] (Array.size H + 1) H2 (u 6) [t, 1] := hv 6 (by decide)
    have h3 : (u 7) = .bool (En.vOk t) := hv 7 (by decide)
    change KQ _ _ _ _ (([(6, u 0), (7, u 1), (8, u 2), (9, u 3), (10, u 4), (11, u 5), (2, u 6), (3, u 7)] : Env) ++ _) _
    have o0 := o0.trans og2
    have bx := (og2).blk bx
    have z2 := og2.1
    simp only [h6, h7, h9, h10, h11, h3]
    refine KQ.seq (KC.ret (KQ.retThen (KQ.ofRet (KQ.fin2 Tryd.results90 rfl rfl ?_))))
    exact ⟨⟨_, _, rfl, h2.weak (by omega), by simp, fun _ => by unfold En.globB; simp_all⟩, o0⟩
  intro hc5
  refine KC.skip (KQ.seq (KC.seq ?_))
  refine KC.valsL [12, 13, 14, 15, 16, 17, 2, 3] [[], [0], [1], [], [3], [4], [2, 5, 0, 1, 2], [5, 6, 0, 1, 2, 3, 4, 5, 6]] (fun (i : Nat) (u : Value) (Hc : Heap) => match i with | 0 => u = .pointer (some ⟨Array.size H, 0, none⟩) | 1 => u = .int .u8 t | 2 => Own 1 (EInt .u8) 5 #[] (Array.size H + 1) Hc u [t, 0] | 3 => u = .pointer (some ⟨Array.size H, 0, none⟩) | 4 => u = .int .u8 t | 5 => u = .bool (En.vOk t) | 6 => Own 1 (EInt .u8) 5 #[] (Array.size H + 1) Hc u [t, 0] | 7 => u = .bool (En.vOk t) | _ => True) (by kernel_rfl) (by kernel_rfl) (by kernel_rfl) (by kernel_rfl) ?_ ?_
  · intro i o ho u Hc og hp
    have hst : ∀ H2, Old Hc H2 → ∀ j x, (fun (i : Nat) (u : Value) (Hc : Heap) => match i with | 0 => u = .pointer (some ⟨Array.size H, 0, none⟩) | 1 => u = .int .u8 t | 2 => Own 1 (EInt .u8) 5 #[] (Array.size H + 1) Hc u [t, 0] | 3 => u = .pointer (some ⟨Array.size H, 0, none⟩) | 4 => u = .int .u8 t | 5 => u = .bool (En.vOk t) | 6 => Own 1 (EInt .u8) 5 #[] (Array.size H + 1) Hc u [t, 0] | 7 => u = .bool (En.vOk t) | _ => True) j x Hc → (fun (i : Nat) (u : Value) (Hc : Heap) => match i with | 0 => u = .pointer (some ⟨Array.size H, 0, none⟩) | 1 => u = .int .u8 t | 2 => Own 1 (EInt .u8) 5 #[] (Array.size H + 1) Hc u [t, 0] | 3 => u = .pointer (some ⟨Array.size H, 0, none⟩) | 4 => u = .int .u8 t | 5 => u = .bool (En.vOk t) | 6 => Own 1 (EInt .u8) 5 #[] (Array.size H + 1) Hc u [t, 0] | 7 => u = .bool (En.vOk t) | _ => True) j x H2 := by
      intro H2 o2 j x hx
      match j, hx with
      | 0, hx => exact hx
      | 1, hx => exact hx
      | 2, hx => exact hx.old o2
      | 3, hx => exact hx
      | 4, hx => exact hx
      | 5, hx => exact hx
      | 6, hx => exact hx.old o2
      | 7, hx => exact hx
      | j + 8, hx => exact hx
    match i, ho, hp with
    | 0, ho, hp =>
      have e := Option.some.inj (ho : some _ = some o)
      subst e
      change ∀ j ∈ ([] : List Nat), _ at hp
      change Ob _ _ (([] : Env) ++ _) _ _ _
      exact .inl ⟨rfl, D1.op (R.fieldAddr rfl Tryd.underlying49 rfl rfl sz5 rfl) ⟨rfl, og, fun _ _ h => h⟩⟩
    | 1, ho, hp =>
      have e := Option.some.inj (ho : some _ = some o)
      subst e
      change ∀ j ∈ ([0] : List Nat), _ at hp
      have h12 : (u 0) = .pointer (some ⟨Array.size H, 0, none⟩) := hp 0 (by simp)
      change Ob _ _ (([(12, u 0)] : Env) ++ _) _ _ _
      simp only [h12]
      exact .inl ⟨rfl, D1.op (R.load rfl Tryd.underlying5 rfl rfl (cell_of (og.blk bx) rfl)) ⟨rfl, og, fun _ _ h => h⟩⟩
    | 2, ho, hp =>
      have e := Option.some.inj (ho : some _ = some o)
      subst e
      change ∀ j ∈ ([1] : List Nat), _ at hp
      have h13 : (u 1) = .int .u8 t := hp 1 (by simp)
      change Ob _ _ (([(13, u 1)] : Env) ++ _) _ _ _
      simp only [h13]
      refine .inl ⟨rfl, D1.mem (M.lit rfl Tryd.underlying36 zs5 (by decide) rfl rfl rfl) ?_⟩
      rintro _ H2 ⟨rfl, nn⟩
      exact ⟨Own.litI (l := [t, 0]) (m := 2) nn (by have := og.1; omega) rfl (by omega) (by intro y hy; simp only [List.mem_cons, List.not_mem_nil, or_false] at hy; rcases hy with rfl | rfl <;> dsimp only [InR] at * <;> omega), og.trans nn.1, hst _ nn.1⟩
    | 3, ho, hp =>
      have e := Option.some.inj (ho : some _ = some o)
      subst e
      change ∀ j ∈ ([] : List Nat), _ at hp
      change Ob _ _ (([] : Env) ++ _) _ _ _
      exact .inl ⟨rfl, D1.op (R.fieldAddr rfl Tryd.underlying49 rfl rfl sz5 rfl) ⟨rfl, og, fun _ _ h => h⟩⟩
    | 4, ho, hp =>
      have e := Option.some.inj (ho : some _ = some o)
      subst e
      change ∀ j ∈ ([3] : List Nat), _ at hp
      have h15 : (u 3) = .pointer (some ⟨Array.size H, 0, none⟩) := hp 3 (by simp)
      change Ob _ _ (([(15, u 3)] : Env) ++ _) _ _ _
      simp only [h15]
      exact .inl ⟨rfl, D1.op (R.load rfl Tryd.underlying5 rfl rfl (cell_of (og.blk bx) rfl)) ⟨rfl, og, fun _ _ h => h⟩⟩
    | 5, ho, hp =>
      have e := Option.some.inj (ho : some _ = some o)
      subst e
      change ∀ j ∈ ([4] : List Nat), _ at hp
      have h16 : (u 4) = .int .u8 t := hp 4 (by simp)
      change Ob _ _ (([(16, u 4)] : Env) ++ _) _ _ _
      simp only [h16]
      exact .inl ⟨rfl, D1.call rfl rfl rfl rfl Tryd.call126 (rvalue_any _) (by rintro _ H2 ⟨rfl, rfl⟩; exact ⟨rfl, og, fun _ _ h => h⟩)⟩
    | 6, ho, hp =>
      have e := Option.some.inj (ho : some _ = some o)
      subst e
      change ∀ j ∈ ([2, 5, 0, 1, 2] : List Nat), _ at hp
      have h12 : (u 0) = .pointer (some ⟨Array.size H, 0, none⟩) := hp 0 (by simp)
      have h13 : (u 1) = .int .u8 t := hp 1 (by simp)
      have h14 : Own 1 (EInt .u8) 5 #[] (Array.size H + 1) Hc (u 2) [t, 0] := hp 2 (by simp)
      have h17 : (u 5) = .bool (En.vOk t) := hp 5 (by simp)
      change Ob _ _ (([(14, u 2), (17, u 5), (12, u 0), (13, u 1), (14, u 2)] : Env) ++ _) _ _ _
      simp only [h12, h13, h17]
      exact .inl ⟨rfl, D1.op (R.assign rfl rfl) ⟨h14, og, fun _ _ h => h⟩⟩
    | 7, ho, hp =>
      have e := Option.some.inj (ho : some _ = some o)
      subst e
      change ∀ j ∈ ([5, 6, 0, 1, 2, 3, 4, 5, 6] : List Nat), _ at hp
      have h12 : (u 0) = .pointer (some ⟨Array.size H, 0, none⟩) := hp 0 (by simp)
      have h13 : (u 1) = .int .u8 t := hp 1 (by simp)
      have h14 : Own 1 (EInt .u8) 5 #[] (Array.size H + 1) Hc (u 2) [t, 0] := hp 2 (by simp)
      have h15 : (u 3) = .pointer (some ⟨Array.size H, 0, none⟩) := hp 3 (by simp)
      have h16 : (u 4) = .int .u8 t := hp 4 (by simp)
      have h17 : (u 5) = .bool (En.vOk t) := hp 5 (by simp)
      have h2 : Own 1 (EInt .u8) 5 #[] (Array.size H + 1) Hc (u 6) [t, 0] := hp 6 (by simp)
      change Ob _ _ (([(17, u 5), (2, u 6), (12, u 0), (13, u 1), (14, u 2), (15, u 3), (16, u 4), (17, u 5), (2, u 6)] : Env) ++ _) _ _ _
      simp only [h12, h13, h15, h16, h17]
      exact .inl ⟨rfl, D1.op (R.assign rfl rfl) ⟨rfl, og, fun _ _ h => h⟩⟩
    | i + 8, ho, hp => exact absurd ho (by simp)
  intro u H3 og3 hv
  have h12 : (u 0) = .pointer (some ⟨Array.size H, 0, none⟩) := hv 0 (by decide)
  have h13 : (u 1) = .int .u8 t := hv 1 (by decide)
  have h14 : Own 1 (EInt .u8) 5 #[] (Array.size H + 1) H3 (u 2) [t, 0] := hv 2 (by decide)
  have h15 : (u 3) = .pointer (some ⟨Array.size H, 0, none⟩) := hv 3 (by decide)
  have h16 : (u 4) = .int .u8 t := hv 4 (by decide)
  have h17 : (u 5) = .bool (En.vOk t) := hv 5 (by decide)
  have h2 : Own 1 (EInt .u8) 5 #[] (Array.size H + 1) H3 (u 6) [t, 0] := hv 6 (by decide)
  have h3 : (u 7) = .bool (En.vOk t) := hv 7 (by decide)
  change KQ _ _ _ _ (([(12, u 0), (13, u 1), (14, u 2), (15, u 3), (16, u 4), (17, u 5), (2, u 6), (3, u 7)] : Env) ++ _) _
  have o0 := o0.trans og3
  have bx := (og3).blk bx
  have z3 := og3.1
  simp only [h12, h13, h15, h16, h17, h3]
  refine KQ.seq (KC.ret (KQ.ofRet (KQ.fin2 Tryd.results90 rfl rfl ?_)))
  exact ⟨⟨_, _, rfl, h2.weak (by omega), by simp, fun _ => by unfold En.globB; simp_all⟩, o0⟩
end Go.Proofs.YtldmfchamcpmmaaDoor
namespace Go.Proofs.YtldmfchamcpmmaaDoor
open Go Go.RowKit
set_option linter.unusedVariables false
set_option linter.unusedSimpArgs false
set_option linter.unnecessarySimpa false
/-- within a row's room: what was ahead of it stays -/
def InPlace (e : TypeId) (B n m : Nat) (v v' : Value) (H H' : Heap) : Prop :=
  ∃ g cap cur cur', B ≤ g ∧ v = .slice (some ⟨g, 0, none⟩) n cap ∧ v' = .slice (some ⟨g, 0, none⟩) (n + m) cap ∧ H[g]? = some (.cells cur e (0, 0)) ∧ cur.size = cap ∧ n + m ≤ cap ∧ Upd g H H' ∧ H'[g]? = some (.cells cur' e (0, 0)) ∧ cur'.size = cur.size ∧ cur'.toList.take n = cur.toList.take n ∧ cur'.toList.drop (n + m) = cur.toList.drop (n + m)
section
variable {P : Program} {E : Env} {H H' : Heap} {o : Oper} {v v' : Value} {e : TypeId} {B : Nat} {l : List Int}
theorem M.appendQ {T : TypeId} {s x : Operand} {u : Value} {m : List Int} {z : Value} {by' : Nat} (ho : o.op = .call { callee := .builtin .append, args := #[s, x], argTypes := #[T, T] }) (ht : P.underlying T = some (.slice e)) (hi : (P.info? e).map (fun i => (i.zero, i.size, i.bytes)) = some (some z, 1, by')) (hz : z.cells.size = 1)
    (hs : ev E s = some v) (hx : ev E x = some u) (hown : Own 1 (EInt .u8) e #[] B H v l) (hl0 : 0 < l.length) (hm : Sl 1 (EInt .u8) H u m) (hB : B ≤ H.size) (hsz : (l.length + m.length) * by' ≤ 140737488355328) (hlen : l.length + m.length ≤ maxLen) (hm0 : 0 < m.length) :
    RunM P E H o (fun v' H' => Own 1 (EInt .u8) e #[] B H' v' (l ++ m) ∧ (Old H H' ∨ InPlace e B l.length m.length v v' H H')) := by
  intro ρ w ha hw
  obtain ⟨v', w', hr, hst, h1, h2, h3⟩ := M.appendN (P := P) (E := E) (H := H) (o := o) ho ht hi hz (by omega) hs hx hown hm (fun _ _ h _ => h) hB hsz hlen ρ w ha hw
  refine ⟨v', w', hr, hst, h1, ?_⟩
  obtain ⟨i, hi', hz0, hz1, hz2⟩ : ∃ i, P.info? e = some i ∧ i.zero = some z ∧ i.size = 1 ∧ i.bytes = by' := by
    cases hq : P.info? e with
    | none => simp [hq] at hi
    | some i => simp [hq] at hi; exact ⟨i, rfl, hi⟩
  obtain ⟨ad, cap2, hu, hsp, hb⟩ := hm.addr hm0
  obtain ⟨fm, hfl, hfc, hfe⟩ := hm.flat hm0
  rw [hb] at hfc
  have h1c : ∀ q ∈ fm, q.oneCell' = true := by
    intro q hq
    obtain ⟨k, hk1, hk2⟩ := List.getElem_of_mem hq
    have hk3 : k < m.length := by omega
    refine (oneInt .u8).one (hfe k _ (nth_getD hk3)) q ?_
    rw [List.mem_iff_getElem?]
    refine ⟨0, ?_⟩
    rw [List.getElem?_take, if_pos (by omega), List.getElem?_drop, Nat.mul_one, Nat.add_zero, List.getElem?_eq_getElem hk1, hk2]
  have hnews : ∀ j q, fm[j]? = some q → w.cell? (ad.add j) = some q := fun j q hj => by rw [cell_w hw]; exact hfc j q hj
  have key : ∀ v2 w2, (Builtin.append_ #[T, T] o.type #[v, .slice (some ad) m.length cap2]).run P w = .ok v2 w2 → v' = v2 ∧ w' = w2 := by
    intro v2 w2 hr2
    have : (execOp ρ o).run P w = .ok (.value v2) w2 := by
      subst hu
      simp [execOp, ho, resolve, invoke, builtin, ha s _ hs, ha x _ hx, Sem.run_bind, Sem.run_pure, Result.andThen]
      simp [hr2]
    rw [hr] at this
    injection this with a b
    injection a with a
    exact ⟨a, b⟩
  obtain ⟨flat, ⟨h0, hc⟩, hel⟩ := hown
  rcases hc with ⟨rfl, hc⟩ | ⟨g, cap, cur, rfl, hBg, hg, hnc, hcm, hcs, htake⟩
  · omega
  have hg' : w.heap[g]? = some (.cells cur e (0, 0)) := by rw [hw]; exact hg
  by_cases hroom : l.length + m.length ≤ cap
  · have hfit : l.length * i.size + fm.length ≤ cur.size := by rw [hz1, hfl, hcs]; omega
    obtain ⟨hv2, hw2⟩ := key _ _ (run_append_room (P := P) w T o.type e i ht hi' g l.length cap cur hg' ad m.length cap2 fm (by rw [hz1]; exact hfl) hnews h1c hroom hfit)
    right
    rw [hw2]
    refine ⟨g, cap, cur, _, hBg, rfl, hv2, hg, by omega, hroom, ⟨by rw [← hw]; simp, fun k hk => by rw [← hw]; exact setRow_other w g k _ hk⟩, setRow_heap w g cur _ e _ hg', ?_, ?_, ?_⟩
    · simp only [List.size_toArray, List.length_append, List.length_take, List.length_drop, Array.length_toList]
      omega
    · rw [hz1, Nat.mul_one, List.append_assoc, List.take_append_of_le_length (by rw [List.length_take, show cur.toList.length = cur.size from rfl]; omega), List.take_take, Nat.min_self]
    have hf1 : fm.length = m.length := by omega
    have hl9 : (cur.toList.take l.length ++ fm).length = l.length + m.length := by
      rw [List.length_append, List.length_take, show cur.toList.length = cur.size from rfl]; omega
    rw [hz1, Nat.mul_one, hf1]
    exact List.drop_left' hl9
  have holds : ∀ j q, flat[j]? = some q → w.cell? ((⟨g, 0, none⟩ : Addr).add j) = some q := by
    intro j q hj
    have hown' : w.ownsRow B e 1 (.slice (some ⟨g, 0, none⟩) l.length cap) l.length flat := by rw [ownH_w, hw]; exact ⟨h0, .inr ⟨g, cap, cur, rfl, hBg, hg, hnc, hcm, hcs, htake⟩⟩
    exact hown'.cells (g := g) rfl j q hj
  have hsmall : l.length + m.length ≤ 9223372036854775807 := by simp only [maxLen] at hlen; omega
  obtain ⟨-, hw2⟩ := key _ _ (run_append_grow (P := P) w T o.type e i z ht hi' hz0 ⟨g, 0, none⟩ l.length cap flat (by rw [hz1]; exact h0) holds ad m.length cap2 fm (by rw [hz1]; exact hfl) hnews (by omega) (by omega) (growslice_fits (by omega) (by rw [hz2]; exact hsz)))
  left
  rw [hw2, ← hw]
  exact ⟨by simp, fun k hk => heap_alloc_old w.drew _ hk⟩
/-- a row of the same elements, not longer than what stays -/
theorem Own.inPlace {n m : Nat} {u : Value} {l' : List Int} (h : Own 1 (EInt .u8) e #[] B H u l') (ip : InPlace e B n m v v' H H') (hl : l'.length ≤ n) : Own 1 (EInt .u8) e #[] B H' u l' := by
  obtain ⟨g, cap, cur, cur', hg0, hv, hv', hg, hcs, hcap, up, hg', hsz, htk, hdr⟩ := ip
  obtain ⟨flat, ⟨h0, hc⟩, hel⟩ := h
  rcases hc with ⟨rfl, hc⟩ | ⟨g2, cap2, cur2, rfl, hB2, hg2, hn2, hc2, hs2, ht2⟩
  · exact ⟨flat, ⟨h0, .inl ⟨rfl, hc⟩⟩, hel⟩
  by_cases e1 : g2 = g
  · subst e1
    rw [hg] at hg2
    injection hg2 with hg2
    injection hg2 with hg2
    subst hg2
    refine ⟨flat, ⟨h0, .inr ⟨g2, cap2, cur', rfl, hB2, hg', hn2, hc2, by omega, ?_⟩⟩, hel⟩
    rw [Nat.mul_one] at ht2 ⊢
    rw [← ht2, show cur'.toList.take l'.length = (cur'.toList.take n).take l'.length by rw [List.take_take, Nat.min_eq_left hl], htk, List.take_take, Nat.min_eq_left hl]
  exact ⟨flat, ⟨h0, .inr ⟨g2, cap2, cur2, rfl, hB2, (up.2 g2 e1).trans hg2, hn2, hc2, hs2, ht2⟩⟩, hel⟩
/-- the row that has come of it: it stays, too -/
theorem Own.inPlaceEq {n m : Nat} {u : Value} {l' : List Int} (h : Own 1 (EInt .u8) e #[] B H u l') (ip : InPlace e B n m v v' H H') (hl : l'.length = n + m) (hpos : 0 < n + m) (hown : Own 1 (EInt .u8) e #[] B H' v' l') : Own 1 (EInt .u8) e #[] B H' u l' := by
  obtain ⟨g, cap, cur, cur', hg0, hv, hv', hg, hcs, hcap, up, hg', hsz, htk, hdr⟩ := ip
  obtain ⟨flat, ⟨h0, hc⟩, hel⟩ := h
  rcases hc with ⟨rfl, hc⟩ | ⟨g2, cap2, cur2, rfl, hB2, hg2, hn2, hc2, hs2, ht2⟩
  · omega
  by_cases e1 : g2 = g
  · subst e1
    rw [hg] at hg2
    injection hg2 with hg2
    injection hg2 with hg2
    subst hg2
    have : Value.slice (some ⟨g2, 0, none⟩) l'.length cap2 = v' := by rw [hv', hl]; congr 1; omega
    rw [this]; exact hown
  exact ⟨flat, ⟨h0, .inr ⟨g2, cap2, cur2, rfl, hB2, (up.2 g2 e1).trans hg2, hn2, hc2, hs2, ht2⟩⟩, hel⟩
/-- a block of other elements, or of another size, is not it -/
theorem InPlace.other {n m : Nat} {g2 : Nat} {cs : Array Value} {e2 : TypeId} (ip : InPlace e B n m v v' H H') (hb : H[g2]? = some (.cells cs e2 (0, 0))) (h : e2 ≠ e ∨ cs.size < n + m) : H'[g2]? = some (.cells cs e2 (0, 0)) := by
  obtain ⟨g, cap, cur, cur', hg0, hv, hv', hg, hcs, hcap, up, hg', hsz, htk, hdr⟩ := ip
  refine (up.2 g2 (fun e1 => ?_)).trans hb
  subst e1
  rw [hg] at hb
  injection hb with hb
  injection hb with h1 h2
  rcases h with h | h
  · exact h h2.symm
  subst h1; omega
theorem InPlace.oldFrom {n m : Nat} {H0 : Heap} (ip : InPlace e H0.size n m v v' H H') (o : Old H0 H) : Old H0 H' := by
  obtain ⟨g, cap, cur, cur', hg0, hv, hv', hg, hcs, hcap, up, _⟩ := ip
  exact o.upd up hg0
end
theorem Own.inPlaceP {E : Env} {H H' : Heap} {v v' : Value} {e : TypeId} {B : Nat} {l : List Int} {m : Nat} {u : Value} {l' : List Int} (h : Own 1 (EInt .u8) e #[] B H u l') (hv0 : Own 1 (EInt .u8) e #[] B H v l) (ip : InPlace e B l.length m v v' H H') (hp : ∀ r, l' = l ++ r → r = []) : Own 1 (EInt .u8) e #[] B H' u l' := by
  by_cases hl : l'.length ≤ l.length
  · exact h.inPlace ip hl
  obtain ⟨g, cap, cur, cur', hg0, hv, hv', hg, hcs, hcap, up, hg', hsz, htk, hdr⟩ := ip
  obtain ⟨flat, ⟨h0, hc⟩, hel⟩ := h
  rcases hc with ⟨rfl, hc⟩ | ⟨g2, cap2, cur2, rfl, hB2, hg2, hn2, hc2, hs2, ht2⟩
  · omega
  by_cases e1 : g2 = g
  · exfalso
    subst e1
    obtain ⟨flv, ⟨w0, wc⟩, wel⟩ := hv0
    rw [hg] at hg2
    injection hg2 with hg2
    injection hg2 with hg2
    subst hg2
    rcases wc with ⟨hvn, wc⟩ | ⟨g3, cap3, cur3, hve, wB, wg, wn, wc2, ws, wt⟩
    · rw [hv] at hvn; cases hvn
    rw [hv] at hve
    injection hve with q1 q2 q3
    injection q1 with q1
    injection q1 with q1
    subst q1
    rw [hg] at wg
    injection wg with wg
    injection wg with wg
    subst wg
    have hpre : l'.take l.length = l := by
      apply List.ext_getElem?
      intro j
      by_cases hj : j < l.length
      · rw [List.getElem?_take_of_lt hj, List.getElem?_eq_getElem (by omega), List.getElem?_eq_getElem hj]
        have k1 := hel j (l'[j]'(by omega)) (by rw [nth_eq]; exact List.getElem?_eq_getElem (by omega))
        have k2 := wel j (l[j]'hj) (by rw [nth_eq]; exact List.getElem?_eq_getElem hj)
        have f1 : (flat.drop (j * 1)).take 1 = (flv.drop (j * 1)).take 1 := by
          rw [Nat.mul_one] at ht2 wt
          rw [← ht2, ← wt, Nat.mul_one]
          apply List.ext_getElem?
          intro i
          simp only [List.getElem?_take, List.getElem?_drop]
          by_cases hi : i < 1
          · rw [if_pos hi, if_pos hi, if_pos (by omega), if_pos (by omega)]
          rw [if_neg hi, if_neg hi]
        obtain ⟨c1, _⟩ := k1
        obtain ⟨c2, _⟩ := k2
        rw [f1, c2] at c1
        injection c1 with c1
        injection c1 with _ c1
        rw [c1]
      rw [List.getElem?_eq_none (by rw [List.length_take]; omega), List.getElem?_eq_none (by omega)]
    have := hp (l'.drop l.length) (by conv => lhs; rw [← List.take_append_drop l.length l', hpre])
    have h2 := congrArg List.length this
    rw [List.length_drop, List.length_nil] at h2
    omega
  exact ⟨flat, ⟨h0, .inr ⟨g2, cap2, cur2, rfl, hB2, (up.2 g2 e1).trans hg2, hn2, hc2, hs2, ht2⟩⟩, hel⟩
theorem Own.cellsAt {H : Heap} {e : TypeId} {B : Nat} {l : List Int} {g n cap : Nat} {cur : Array Value} (h : Own 1 (EInt .u8) e #[] B H (.slice (some ⟨g, 0, none⟩) n cap) l) (hg : H[g]? = some (.cells cur e (0, 0))) (j : Nat) (hj : j < l.length) : cur.toList[j]? = some (.int .u8 (l[j]'hj)) := by
  obtain ⟨flat, ⟨h0, hc⟩, hel⟩ := h
  rcases hc with ⟨hn, hc⟩ | ⟨g2, cap2, cur2, hv, hB2, hg2, hn2, hc2, hs2, ht2⟩
  · cases hn
  injection hv with q1 q2 q3
  injection q1 with q1
  injection q1 with q1
  subst q1
  rw [hg] at hg2
  injection hg2 with hg2
  injection hg2 with hg2
  subst hg2
  obtain ⟨c1, _⟩ := hel j (l[j]'hj) (by rw [nth_eq]; exact List.getElem?_eq_getElem hj)
  rw [← ht2, Nat.mul_one, Nat.mul_one] at c1
  have c2 := congrArg (fun q => q[0]?) c1
  simp only [List.getElem?_take, List.getElem?_drop] at c2
  rw [if_pos (by omega), if_pos (by omega)] at c2
  simpa using c2
theorem Own.inPlaceX {H H' : Heap} {v v' : Value} {e : TypeId} {B : Nat} {l m r : List Int} {u : Value} {l' : List Int} (h : Own 1 (EInt .u8) e #[] B H u l') (hown : Own 1 (EInt .u8) e #[] B H' v' (l ++ m)) (ip : InPlace e B l.length m.length v v' H H') (hx : l' = l ++ m ++ r) : Own 1 (EInt .u8) e #[] B H' u l' := by
  obtain ⟨g, cap, cur, cur', hg0, hv, hv', hg, hcs, hcap, up, hg', hsz, htk, hdr⟩ := ip
  have h9 := h
  obtain ⟨flat, ⟨h0, hc⟩, hel⟩ := h
  rcases hc with ⟨rfl, hc⟩ | ⟨g2, cap2, cur2, rfl, hB2, hg2, hn2, hc2, hs2, ht2⟩
  · exact ⟨flat, ⟨h0, .inl ⟨rfl, hc⟩⟩, hel⟩
  by_cases e1 : g2 = g
  · subst e1
    have hcc : cur = cur2 := by
      rw [hg] at hg2
      injection hg2 with hg2
      injection hg2
    subst hcc
    refine ⟨flat, ⟨h0, .inr ⟨g2, cap2, cur', rfl, hB2, hg', hn2, hc2, by omega, ?_⟩⟩, hel⟩
    rw [← ht2, Nat.mul_one]
    apply List.ext_getElem?
    intro j
    simp only [List.getElem?_take]
    by_cases hj : j < l'.length
    · rw [if_pos hj, if_pos hj]
      by_cases hA : j < (l ++ m).length
      · subst hv'
        rw [hown.cellsAt hg' j hA, h9.cellsAt hg j hj]
        subst hx
        simp only [List.getElem_append_left hA]
      rw [List.length_append] at hA
      have c := congrArg (fun q => q[j - (l.length + m.length)]?) hdr
      simp only [List.getElem?_drop] at c
      rwa [show l.length + m.length + (j - (l.length + m.length)) = j by omega] at c
    rw [if_neg hj, if_neg hj]
  exact ⟨flat, ⟨h0, .inr ⟨g2, cap2, cur2, rfl, hB2, (up.2 g2 e1).trans hg2, hn2, hc2, hs2, ht2⟩⟩, hel⟩
theorem En.u_pre {y z : Int} {s : List Int} (hy : 0 ≤ y ∧ y < 4294967296) (hz : 0 ≤ z ∧ z < 4294967296) (h : En.u z = En.u y ++ s) : s = [] := by
  have h1 := Lb.tk_ap hz.1 hz.2 []
  have h2 := Lb.tk_ap hy.1 hy.2 s
  rw [List.append_nil] at h1
  rw [show Lb.ap z = Lb.ap y ++ s from h, h2] at h1
  have h3 := (Prod.mk.inj (Option.some.inj h1)).2
  rw [List.length_append] at h3
  exact List.eq_nil_of_length_eq_zero (by omega)
theorem En.txt_pre {a b : ByteArray} {r : List Int} (ha : a.size < 4294967296) (hb : b.size < 4294967296) (h : En.txt b = En.txt a ++ r) : r = [] := by
  have h1 := Lb.tk_ap (n := (b.size : Int)) (by omega) (by omega) (ints b)
  have h2 := Lb.tk_ap (n := (a.size : Int)) (by omega) (by omega) (ints a ++ r)
  have h3 : Lb.ap (b.size : Int) ++ ints b = Lb.ap (a.size : Int) ++ (ints a ++ r) := by
    have := h; unfold En.txt En.u at this; rw [this, List.append_assoc]
  rw [h3, h2] at h1
  have h5 := (Prod.mk.inj (Option.some.inj h1)).2
  have h4 := (Prod.mk.inj (Option.some.inj h1)).1
  have h6 := congrArg List.length h3
  simp only [List.length_append, ints_length] at h6
  exact List.eq_nil_of_length_eq_zero (by omega)
theorem En.u_ptxt {a : ByteArray} {z : Int} {r : List Int} (ha : a.size < 4294967296) (hz : 0 ≤ z ∧ z < 4294967296) (h : En.u z = En.txt a ++ r) : r = [] := by
  have := En.u_pre (y := (a.size : Int)) (s := ints a ++ r) (by omega) hz (by rw [h]; unfold En.txt; rw [List.append_assoc])
  exact (List.append_eq_nil_iff.1 this).2
theorem En.u_pos {z : Int} (hz : 0 ≤ z ∧ z < 4294967296) : 0 < (En.u z).length := (Lb.ap_length hz.1 (by omega)).1
theorem En.txt_pos {a : ByteArray} (ha : a.size < 4294967296) : 0 < (En.txt a).length := by
  unfold En.txt; rw [List.length_append]; have := En.u_pos (z := (a.size : Int)) (by omega); omega
theorem En.impO_2 {x : Imp} (h : En.impO x = true) : En.impO2 x = true := by unfold En.impO at h; rw [Bool.and_eq_true] at h; exact h.2
theorem rimp_0 {H : Heap} (s1 s2 : ByteArray) (ty la lb gt : Int) (gm : Bool) (h1 : s1.size ≤ 4000) (h2 : s2.size ≤ 4000) (rty : InR .u32 ty) (rla : InR .u32 la) (rlb : InR .i64 lb) (rgt : InR .u8 gt) : Ct Tryd.prog 88 [.agg [.string s1, .string s2, .int .u8 0, .int .u32 ty, .int .u32 la, .int .i64 lb, .int .u8 gt, .bool gm].toArray] H (fun u H' => RB H (En.impB ⟨s1, s2, 0, ty, (la, lb), (gt, gm)⟩) (En.impO ⟨s1, s2, 0, ty, (la, lb), (gt, gm)⟩) 10000 u H') := by
  refine Ct.mk Tryd.func88 rfl Tryd.ntmps88 rfl ?_
  intro W0 hW0
  have o0 : Old H H := Old.refl H
  have ht1 := En.txt_le h1
  have ht2 := En.txt_le h2
  have hut := En.u_le ty
  refine KC.sr ?_
  refine KL.m (M.box rfl rfl rfl) rfl ?_
  rintro _ H1 ⟨rfl, n1⟩
  have z1 := n1.2.1
  have o0 := o0.trans n1.1
  have b1 := n1.2.2
  have bx := b1
  refine KL.fin 2 rfl (KQ.seq (KC.seq ?_))
  refine KC.valsL [10, 11, 12, 13, 14, 15, 16, 4] [[], [0], [1], [], [3], [4, 2], [2, 5, 5], [6, 6, 0, 1, 2, 3, 4, 5, 6]] (fun (i : Nat) (u : Value) (Hc : Heap) => match i with | 0 => u = .pointer (some ⟨Array.size H, 0, none⟩) | 1 => u = .string s1 | 2 => Own 1 (EInt .u8) 5 #[] (Array.size H1) Hc u (En.txt s1) | 3 => u = .pointer (some ⟨Array.size H, 1, none⟩) | 4 => u = .string s2 | 5 => Own 1 (EInt .u8) 5 #[] (Array.size H1) Hc u (En.txt s2) | 6 => Own 1 (EInt .u8) 5 #[] (Array.size H1) Hc u (En.txt s1 ++ En.txt s2) | 7 => Own 1 (EInt .u8) 5 #[] (Array.size H1) Hc u (En.txt s1 ++ En.txt s2) | _ => True) (by kernel_rfl) (by kernel_rfl) (by kernel_rfl) (by kernel_rfl) ?_ ?_
  · intro i o ho u Hc og hp
    have hst : ∀ H2, Old Hc H2 → ∀ j x, (fun (i : Nat) (u : Value) (Hc : Heap) => match i with | 0 => u = .pointer (some ⟨Array.size H, 0, none⟩) | 1 => u = .string s1 | 2 => Own 1 (EInt .u8) 5 #[] (Array.size H1) Hc u (En.txt s1) | 3 => u = .pointer (some ⟨Array.size H, 1, none⟩) | 4 => u = .string s2 | 5 => Own 1 (EInt .u8) 5 #[] (Array.size H1) Hc u (En.txt s2) | 6 => Own 1 (EInt .u8) 5 #[] (Array.size H1) Hc u (En.txt s1 ++ En.txt s2) | 7 => Own 1 (EInt .u8) 5 #[] (Array.size H1) Hc u (En.txt s1 ++ En.txt s2) | _ => True) j x Hc → (fun (i : Nat) (u : Value) (Hc : Heap) => match i with | 0 => u = .pointer (some ⟨Array.size H, 0, none⟩) | 1 => u = .string s1 | 2 => Own 1 (EInt .u8) 5 #[] (Array.size H1) Hc u (En.txt s1) | 3 => u = .pointer (some ⟨Array.size H, 1, none⟩) | 4 => u = .string s2 | 5 => Own 1 (EInt .u8) 5 #[] (Array.size H1) Hc u (En.txt s2) | 6 => Own 1 (EInt .u8) 5 #[] (Array.size H1) Hc u (En.txt s1 ++ En.txt s2) | 7 => Own 1 (EInt .u8) 5 #[] (Array.size H1) Hc u (En.txt s1 ++ En.txt s2) | _ => True) j x H2 := by
      intro H2 o2 j x hx
      match j, hx with
      | 0, hx => exact hx
      | 1, hx => exact hx
      | 2, hx => exact hx.old o2
      | 3, hx => exact hx
      | 4, hx => exact hx
      | 5, hx => exact hx.old o2
      | 6, hx => exact hx.old o2
      | 7, hx => exact hx.old o2
      | j + 8, hx => exact hx
    match i, ho, hp with
    | 0, ho, hp =>
      have e := Option.some.inj (ho : some _ = some o)
      subst e
      change ∀ j ∈ ([] : List Nat), _ at hp
      change Ob _ _ (([] : Env) ++ _) _ _ _
      exact .inl ⟨rfl, D1.op (R.fieldAddr rfl Tryd.underlying51 rfl rfl sz9 rfl) ⟨rfl, og, fun _ _ h => h⟩⟩
    | 1, ho, hp =>
      have e := Option.some.inj (ho : some _ = some o)
      subst e
      change ∀ j ∈ ([0] : List Nat), _ at hp
      have h10 : (u 0) = .pointer (some ⟨Array.size H, 0, none⟩) := hp 0 (by simp)
      change Ob _ _ (([(10, u 0)] : Env) ++ _) _ _ _
      simp only [h10]
      exact .inl ⟨rfl, D1.op (R.load rfl Tryd.underlying9 rfl rfl (cell_of (og.blk bx) rfl)) ⟨rfl, og, fun _ _ h => h⟩⟩
    | 2, ho, hp =>
      have e := Option.some.inj (ho : some _ = some o)
      subst e
      change ∀ j ∈ ([1] : List Nat), _ at hp
      have h11 : (u 1) = .string s1 := hp 1 (by simp)
      change Ob _ _ (([(11, u 1)] : Env) ++ _) _ _ _
      simp only [h11]
      exact .inl ⟨rfl, D1.call rfl rfl rfl rfl Tryd.call92 (text_any s1 (by omega)) (by rintro _ H2 ⟨w, ox⟩; exact ⟨w.weak (by have := og.1; omega), og.trans ox, hst _ ox⟩)⟩
    | 3, ho, hp =>
      have e := Option.some.inj (ho : some _ = some o)
      subst e
      change ∀ j ∈ ([] : List Nat), _ at hp
      change Ob _ _ (([] : Env) ++ _) _ _ _
      exact .inl ⟨rfl, D1.op (R.fieldAddr rfl Tryd.underlying51 rfl rfl sz9 rfl) ⟨rfl, og, fun _ _ h => h⟩⟩
    | 4, ho, hp =>
      have e := Option.some.inj (ho : some _ = some o)
      subst e
      change ∀ j ∈ ([3] : List Nat), _ at hp
      have h13 : (u 3) = .pointer (some ⟨Array.size H, 1, none⟩) := hp 3 (by simp)
      change Ob _ _ (([(13, u 3)] : Env) ++ _) _ _ _
      simp only [h13]
      exact .inl ⟨rfl, D1.op (R.load rfl Tryd.underlying9 rfl rfl (cell_of (og.blk bx) rfl)) ⟨rfl, og, fun _ _ h => h⟩⟩
    | 5, ho, hp =>
      have e := Option.some.inj (ho : some _ = some o)
      subst e
      change ∀ j ∈ ([4, 2] : List Nat), _ at hp
      have h12 : Own 1 (EInt .u8) 5 #[] (Array.size H1) Hc (u 2) (En.txt s1) := hp 2 (by simp)
      have h14 : (u 4) = .string s2 := hp 4 (by simp)
      change Ob _ _ (([(14, u 4), (12, u 2)] : Env) ++ _) _ _ _
      simp only [h14]
      exact .inl ⟨rfl, D1.call rfl rfl rfl rfl Tryd.call92 (text_any s2 (by omega)) (by rintro _ H2 ⟨w, ox⟩; exact ⟨w.weak (by have := og.1; omega), og.trans ox, hst _ ox⟩)⟩
    | 6, ho, hp =>
      have e := Option.some.inj (ho : some _ = some o)
      subst e
      change ∀ j ∈ ([2, 5, 5] : List Nat), _ at hp
      have h12 : Own 1 (EInt .u8) 5 #[] (Array.size H1) Hc (u 2) (En.txt s1) := hp 2 (by simp)
      have h15 : Own 1 (EInt .u8) 5 #[] (Array.size H1) Hc (u 5) (En.txt s2) := hp 5 (by simp)
      change Ob _ _ (([(12, u 2), (15, u 5), (15, u 5)] : Env) ++ _) _ _ _
      refine .inl ⟨rfl, D1.mem (M.appendQ (m := En.txt s2) rfl Tryd.underlying36 inf5 rfl rfl rfl h12 (En.txt_pos (by omega)) ((h15.sl (emptyOld _) (by decide))) og.1 (by omega) (by unfold maxLen; omega) (En.txt_pos (by omega))) ?_⟩
      rintro v2 H2 ⟨k1, k2⟩
      rcases k2 with k2 | k2
      · exact ⟨k1, og.trans k2, hst _ k2⟩
      refine ⟨k1, k2.oldFrom og, ?_⟩
      intro j z hz
      match j, hz with
      | 0, hz => exact hz
      | 1, hz => exact hz
      | 2, hz => exact Own.inPlace hz k2 (Nat.le_refl _)
      | 3, hz => exact hz
      | 4, hz => exact hz
      | 5, hz => exact Own.inPlaceP (E := []) hz h12 k2 (fun r h => En.txt_pre (by omega) (by omega) h)
      | 6, hz => exact Own.inPlaceEq hz k2 (by rw [List.length_append]) (by have := En.txt_pos (a := s1) (by omega); omega) k1
      | 7, hz => exact Own.inPlaceEq hz k2 (by rw [List.length_append]) (by have := En.txt_pos (a := s1) (by omega); omega) k1
      | j + 8, hz => exact hz
    | 7, ho, hp =>
      have e := Option.some.inj (ho : some _ = some o)
      subst e
      change ∀ j ∈ ([6, 6, 0, 1, 2, 3, 4, 5, 6] : List Nat), _ at hp
      have h10 : (u 0) = .pointer (some ⟨Array.size H, 0, none⟩) := hp 0 (by simp)
      have h11 : (u 1) = .string s1 := hp 1 (by simp)
      have h12 : Own 1 (EInt .u8) 5 #[] (Array.size H1) Hc (u 2) (En.txt s1) := hp 2 (by simp)
      have h13 : (u 3) = .pointer (some ⟨Array.size H, 1, none⟩) := hp 3 (by simp)
      have h14 : (u 4) = .string s2 := hp 4 (by simp)
      have h15 : Own 1 (EInt .u8) 5 #[] (Array.size H1) Hc (u 5) (En.txt s2) := hp 5 (by simp)
      have h16 : Own 1 (EInt .u8) 5 #[] (Array.size H1) Hc (u 6) (En.txt s1 ++ En.txt s2) := hp 6 (by simp)
      change Ob _ _ (([(16, u 6), (16, u 6), (10, u 0), (11, u 1), (12, u 2), (13, u 3), (14, u 4), (15, u 5), (16, u 6)] : Env) ++ _) _ _ _
      simp only [h10, h11, h13, h14]
      exact .inl ⟨rfl, D1.op (R.assign rfl rfl) ⟨h16, og, fun _ _ h => h⟩⟩
    | i + 8, ho, hp => exact absurd ho (by simp)
  intro u H2 og2 hv
  have h10 : (u 0) = .pointer (some ⟨Array.size H, 0, none⟩) := hv 0 (by decide)
  have h11 : (u 1) = .string s1 := hv 1 (by decide)
  have h12 : Own 1 (EInt .u8) 5 #[] (Array.size H1) H2 (u 2) (En.txt s1) := hv 2 (by decide)
  have h13 : (u 3) = .pointer (some ⟨Array.size H, 1, none⟩) := hv 3 (by decide)
  have h14 : (u 4) = .string s2 := hv 4 (by decide)
  have h15 : Own 1 (EInt .u8) 5 #[] (Array.size H1) H2 (u 5) (En.txt s2) := hv 5 (by decide)
  have h16 : Own 1 (EInt .u8) 5 #[] (Array.size H1) H2 (u 6) (En.txt s1 ++ En.txt s2) := hv 6 (by decide)
  have h4 : Own 1 (EInt .u8) 5 #[] (Array.size H1) H2 (u 7) (En.txt s1 ++ En.txt s2) := hv 7 (by decide)
  change KQ _ _ _ _ (([(10, u 0), (11, u 1), (12, u 2), (13, u 3), (14, u 4), (15, u 5), (16, u 6), (4, u 7)] : Env) ++ _) _
  have o0 := o0.trans og2
  have bx := (og2).blk bx
  have z2 := og2.1
  simp only [h10, h11, h13, h14]
  have wo := h4
  refine KQ.sr (KL.run 2 rfl (KL.ld rfl (cell_of bx rfl) ?_))
  refine KL.m (M.lit rfl Tryd.underlying36 zs5 (by decide) rfl rfl rfl) rfl ?_
  rintro _ H3 ⟨rfl, n3⟩
  have z3 := n3.2.1
  have o0 := o0.trans n3.1
  have bx := (n3.1).blk bx
  have wo := wo.old n3.1
  have b3 := n3.2.2
  have s0 : Sl 1 (EInt .u8) H3 _ [0] := Sl.lits (l := [0]) n3 rfl (by simp) (by intro y hy; simp only [List.mem_cons, List.not_mem_nil, or_false] at hy; subst hy; dsimp only [InR] at *; omega)
  have lt4 := wo.lt
  refine KL.m (M.append rfl Tryd.underlying36 inf5 rfl (by decide) rfl rfl wo s0 (fun _ _ h _ => h) (by omega) (by (simp only [List.length_append, List.length_cons, List.length_nil]; omega)) (by unfold maxLen; ((simp only [List.length_append, List.length_cons, List.length_nil]; omega)))) rfl ?_
  rintro vn H4 ⟨w4, g4⟩
  have ob4 := g4.oldB wo (by omega)
  have o0 := o0.then ob4 (by omega)
  have z4 := ob4.1
  have bx := (g4.2 _ (blk_lt bx) (by exact lt4.imp id (fun h => by omega))).trans bx
  have wo := w4
  refine KL.fin 1 rfl (KQ.seq (KC.seq ?_))
  refine KC.cutD (κ := Unit) [22, 23, 24, 25, 26, 27, 28, 29, 30, 31, 5] (fun _ => [(5, .bool (Utf.valid (ints s1) && Utf.valid (ints s2)))]) (fun _ Hl => Own 1 (EInt .u8) 5 #[] (Array.size H1) Hl vn (En.txt s1 ++ En.txt s2 ++ [0]) ∧ Hl[Array.size H]? = some (.cells [.string s1, .string s2, .int .u8 0, .int .u32 ty, .int .u32 la, .int .i64 lb, .int .u8 gt, .bool gm].toArray 51 (0, 0)) ∧ Old H Hl ∧ Array.size H1 ≤ Array.size Hl) ?_ ?_
  · skip
    refine KC.region (KL.run 1 rfl (KL.ld rfl (cell_of bx rfl) ?_))
    refine KL.m (M.toBytes rfl Tryd.underlying9 Tryd.underlying36 Tryd.underlying5 rfl (by omega)) rfl ?_
    rintro v5 H5 ⟨t5, e5, n5, z5⟩
    have o0 := o0.trans n5
    have bx := (n5).blk bx
    have wo := wo.old n5
    have q1 := t5
    have hvb : vblock vn < Array.size H5 := by
      rcases wo.lt with e | e
      · rw [e]; show 0 < _; omega
      exact e.2
    refine KL.c rfl Tryd.call93 (refValid_any _ _ q1) ?_
    rintro _ _ ⟨rfl, rfl⟩
    refine KL.run 1 rfl ?_
    refine KL.cq 26 rfl ?_ ?_
    · intro hg26
      refine KL.run 1 rfl (KL.ld rfl (cell_of bx rfl) ?_)
      refine KL.m (M.toBytes rfl Tryd.underlying9 Tryd.underlying36 Tryd.underlying5 rfl (by omega)) rfl ?_
      rintro v6 H6 ⟨t6, e6, n6, z6⟩
      have o0 := o0.trans n6
      have bx := (n6).blk bx
      have wo := wo.old n6
      have q1 := q1.old n6
      have q2 := t6
      refine KL.c rfl Tryd.call93 (refValid_any _ _ q2) ?_
      rintro _ _ ⟨rfl, rfl⟩
      refine KL.q ((R.pick rfl rfl rfl).val (congrArg Value.bool (show _ = (Utf.valid (ints s1) && Utf.valid (ints s2)) from by rw [hg26]; rfl))) rfl ?_
      refine KL.fin 1 rfl ?_
      refine KQ.meet () ?_ ?_
      · exact Sub.all rfl
      exact ⟨wo, bx, o0, by omega⟩
    intro hg26
    refine KL.run 4 rfl ?_
    refine KL.q ((R.pick rfl rfl rfl).val (congrArg Value.bool (show _ = (Utf.valid (ints s1) && Utf.valid (ints s2)) from by rw [hg26]; rfl))) rfl ?_
    refine KL.fin 1 rfl ?_
    refine KQ.meet () ?_ ?_
    · exact Sub.all rfl
    exact ⟨wo, bx, o0, by omega⟩
  rintro _ H7 ⟨wo, bx, o0, zz⟩
  have zl := o0.1
  have zb := blk_lt bx
  have hvb : vblock vn < Array.size H7 := by
    rcases wo.lt with e | e
    · rw [e]; show 0 < _; omega
    exact e.2
  refine KQ.sr (KL.b0 bt47 rfl rfl (KL.b0 bt49 rfl rfl ?_))
  refine KL.m (M.alloc rfl zr47 rfl) rfl ?_
  rintro _ H8 ⟨rfl, n8⟩
  have z8 := n8.2.1
  have o0 := o0.trans n8.1
  have wo := wo.old n8.1
  have bx := (n8.1).blk bx
  have b8 := n8.2.2
  have bn := b8
  refine KL.m (M.alloc rfl zr49 rfl) rfl ?_
  rintro _ H9 ⟨rfl, n9⟩
  have z9 := n9.2.1
  have o0 := o0.trans n9.1
  have wo := wo.old n9.1
  have bx := (n9.1).blk bx
  have bn := (n9.1).blk bn
  have b9 := n9.2.2
  have bf := b9
  refine KL.opS (S.storeAgg rfl sz47 rfl rfl (rfl) (by intro z hz; simp only [List.mem_cons, List.not_mem_nil, or_false] at hz; rcases hz with rfl | rfl <;> rfl) bn (by simp)) rfl rfl ?_
  rintro H10 ⟨u10, b10⟩
  have o0 := o0.upd u10 (by omega)
  have zu10 := u10.1
  have wo := wo.upd u10 (by exact .inr (by omega))
  have bx := ((u10).2 _ (by omega)).trans bx
  have bf := ((u10).2 _ (by omega)).trans bf
  have bn := b10
  rw [over_all (by rfl)] at bn
  refine KL.opS (S.storeAgg rfl sz49 rfl rfl (rfl) (by intro z hz; simp only [List.mem_cons, List.not_mem_nil, or_false] at hz; rcases hz with rfl | rfl <;> rfl) bf (by simp)) rfl rfl ?_
  rintro H11 ⟨u11, b11⟩
  have o0 := o0.upd u11 (by omega)
  have zu11 := u11.1
  have wo := wo.upd u11 (by exact .inr (by omega))
  have bx := ((u11).2 _ (by omega)).trans bx
  have bn := ((u11).2 _ (by omega)).trans bn
  have bf := b11
  rw [over_all (by rfl)] at bf
  refine KL.nil (KQ.sr (KL.fin 1 rfl (KQ.sr (KL.fin 1 rfl (KQ.seq (KC.seq (KC.sr (KL.run 1 rfl ?_))))))))
  refine KL.ld rfl (cell_of bx rfl) (KL.nil (KQ.seq (KC.block (KC.sr (KL.q ((R.eql rfl rfl rfl).val (congrArg Value.bool (decide_eq_true rfl))) rfl (KL.fin 1 rfl (KQ.seq (KC.condT rfl (KC.sr (KL.run 1 rfl (KL.ld rfl (cell_of bx rfl) ?_)))))))))))
  refine KL.q (R.convI rfl Tryd.underlying28 Tryd.underlying101 rfl (by dsimp only [InR] at *; omega)) rfl ?_
  refine KL.c rfl Tryd.call50 (U_any (ty) (by (dsimp only [InR] at *; omega)) (by (dsimp only [InR] at *; omega))) ?_
  rintro v_wm H12 ⟨wm, ox⟩
  have zc_H12 := (ox).1
  have o0 := o0.trans ox
  have wo := wo.old ox
  have bx := (ox).blk bx
  have bn := (ox).blk bn
  have bf := (ox).blk bf
  have zwm := ox.1
  have lwm := wm.lt
  refine KL.fin 1 rfl (KQ.r (KL.run 1 rfl (KL.lda rfl (cells_mid (k := 4) (n := 2) bx) rfl (KL.lda rfl (cells_of bn) rfl (KL.q (R.eqlSt rfl Tryd.underlying47 (by kernel_rfl) (by kernel_rfl) rfl rfl (EqFs.int (by decide) Tryd.underlying28 rfl rfl (EqFs.int (by decide) Tryd.underlying2 rfl rfl EqFs.nil))) rfl (KL.run 1 rfl ?_))))))
  refine KL.cq 46 rfl ?_ ?_
  · intro hg46
    refine KL.run 1 rfl (KL.lda rfl (cells_mid (k := 6) (n := 2) bx) rfl (KL.lda rfl (cells_of bf) rfl (KL.q (R.eqlSt rfl Tryd.underlying49 (by kernel_rfl) (by kernel_rfl) rfl rfl (EqFs.int (by decide) Tryd.underlying5 rfl rfl (EqFs.bool (by decide) Tryd.underlying4 rfl rfl EqFs.nil))) rfl (KL.fin 2 rfl (KQ.normBlock (KQ.sr (KL.run 2 rfl ?_)))))))
    have lt13 := wo.lt
    refine KL.m (M.append rfl Tryd.underlying36 inf5 rfl (by decide) rfl rfl wo (by exact (wm.sl (emptyOld _) (by decide))) (fun _ _ h _ => h) (by omega) (by (simp only [List.length_append, List.length_cons, List.length_nil]; omega)) (by unfold maxLen; ((simp only [List.length_append, List.length_cons, List.length_nil]; omega)))) rfl ?_
    rintro vz H13 ⟨w13, g13⟩
    have ob13 := g13.oldB wo (by omega)
    have o0 := o0.then ob13 (by omega)
    have z13 := ob13.1
    have bx := (g13.2 _ (blk_lt bx) (by exact lt13.imp id (fun h => by omega))).trans bx
    have bn := (g13.2 _ (blk_lt bn) (by exact .inr (by omega))).trans bn
    have bf := (g13.2 _ (blk_lt bf) (by exact .inr (by omega))).trans bf
    have wo := w13
    refine KL.run 2 rfl ?_
    refine KL.cq 103 rfl ?_ ?_
    · intro hg103
      refine KL.fin 4 rfl (KQ.seq (KC.ret (KQ.ofRet (KQ.fin2 Tryd.results88 rfl rfl ?_))))
      exact ⟨⟨_, _, congrArg (fun b => Value.tuple #[_, Value.bool b]) (by unfold En.impO En.impO2; dsimp only; simp_all), wo.weak (by omega), by simp only [List.length_append, List.length_cons, List.length_nil]; omega, fun h => by unfold En.impB En.impM; simp⟩, o0⟩
    intro hg103
    refine KL.fin 4 rfl (KQ.seq (KC.ret (KQ.ofRet (KQ.fin2 Tryd.results88 rfl rfl ?_))))
    exact ⟨⟨_, _, congrArg (fun b => Value.tuple #[_, Value.bool b]) (by unfold En.impO En.impO2; dsimp only; simp_all), wo.weak (by omega), by simp only [List.length_append, List.length_cons, List.length_nil]; omega, fun h => by unfold En.impB En.impM; simp⟩, o0⟩
  intro hg46
  refine KL.fin 6 rfl (KQ.normBlock (KQ.sr (KL.run 2 rfl ?_)))
  have lt14 := wo.lt
  refine KL.m (M.append rfl Tryd.underlying36 inf5 rfl (by decide) rfl rfl wo (by exact (wm.sl (emptyOld _) (by decide))) (fun _ _ h _ => h) (by omega) (by (simp only [List.length_append, List.length_cons, List.length_nil]; omega)) (by unfold maxLen; ((simp only [List.length_append, List.length_cons, List.length_nil]; omega)))) rfl ?_
  rintro vz H14 ⟨w14, g14⟩
  have ob14 := g14.oldB wo (by omega)
  have o0 := o0.then ob14 (by omega)
  have z14 := ob14.1
  have bx := (g14.2 _ (blk_lt bx) (by exact lt14.imp id (fun h => by omega))).trans bx
  have bn := (g14.2 _ (blk_lt bn) (by exact .inr (by omega))).trans bn
  have bf := (g14.2 _ (blk_lt bf) (by exact .inr (by omega))).trans bf
  have wo := w14
  refine KL.run 2 rfl ?_
  refine KL.cq 103 rfl ?_ ?_
  · intro hg103
    refine KL.fin 4 rfl (KQ.seq (KC.ret (KQ.ofRet (KQ.fin2 Tryd.results88 rfl rfl ?_))))
    exact ⟨⟨_, _, congrArg (fun b => Value.tuple #[_, Value.bool b]) (by unfold En.impO En.impO2; dsimp only; simp_all), wo.weak (by omega), by simp only [List.length_append, List.length_cons, List.length_nil]; omega, fun h => by unfold En.impB En.impM; simp⟩, o0⟩
  intro hg103
  refine KL.fin 4 rfl (KQ.seq (KC.ret (KQ.ofRet (KQ.fin2 Tryd.results88 rfl rfl ?_))))
  exact ⟨⟨_, _, congrArg (fun b => Value.tuple #[_, Value.bool b]) (by unfold En.impO En.impO2; dsimp only; simp_all), wo.weak (by omega), by simp only [List.length_append, List.length_cons, List.length_nil]; omega, fun h => by unfold En.impB En.impM; simp⟩, o0⟩
theorem rimp_1 {H : Heap} (s1 s2 : ByteArray) (ty la lb gt : Int) (gm : Bool) (h1 : s1.size ≤ 4000) (h2 : s2.size ≤ 4000) (rty : InR .u32 ty) (rla : InR .u32 la) (rlb : InR .i64 lb) (rgt : InR .u8 gt) : Ct Tryd.prog 88 [.agg [.string s1, .string s2, .int .u8 1, .int .u32 ty, .int .u32 la, .int .i64 lb, .int .u8 gt, .bool gm].toArray] H (fun u H' => RB H (En.impB ⟨s1, s2, 1, ty, (la, lb), (gt, gm)⟩) (En.impO ⟨s1, s2, 1, ty, (la, lb), (gt, gm)⟩) 10000 u H') := by
  refine Ct.mk Tryd.func88 rfl Tryd.ntmps88 rfl ?_
  intro W0 hW0
  have o0 : Old H H := Old.refl H
  have ht1 := En.txt_le h1
  have ht2 := En.txt_le h2
  have hut := En.u_le ty
  refine KC.sr ?_
  refine KL.m (M.box rfl rfl rfl) rfl ?_
  rintro _ H1 ⟨rfl, n1⟩
  have z1 := n1.2.1
  have o0 := o0.trans n1.1
  have b1 := n1.2.2
  have bx := b1
  refine KL.fin 2 rfl (KQ.seq (KC.seq ?_))
  refine KC.valsL [10, 11, 12, 13, 14, 15, 16, 4] [[], [0], [1], [], [3], [4, 2], [2, 5, 5], [6, 6, 0, 1, 2, 3, 4, 5, 6]] (fun (i : Nat) (u : Value) (Hc : Heap) => match i with | 0 => u = .pointer (some ⟨Array.size H, 0, none⟩) | 1 => u = .string s1 | 2 => Own 1 (EInt .u8) 5 #[] (Array.size H1) Hc u (En.txt s1) | 3 => u = .pointer (some ⟨Array.size H, 1, none⟩) | 4 => u = .string s2 | 5 => Own 1 (EInt .u8) 5 #[] (Array.size H1) Hc u (En.txt s2) | 6 => Own 1 (EInt .u8) 5 #[] (Array.size H1) Hc u (En.txt s1 ++ En.txt s2) | 7 => Own 1 (EInt .u8) 5 #[] (Array.size H1) Hc u (En.txt s1 ++ En.txt s2) | _ => True) (by kernel_rfl) (by kernel_rfl) (by kernel_rfl) (by kernel_rfl) ?_ ?_
  · intro i o ho u Hc og hp
    have hst : ∀ H2, Old Hc H2 → ∀ j x, (fun (i : Nat) (u : Value) (Hc : Heap) => match i with | 0 => u = .pointer (some ⟨Array.size H, 0, none⟩) | 1 => u = .string s1 | 2 => Own 1 (EInt .u8) 5 #[] (Array.size H1) Hc u (En.txt s1) | 3 => u = .pointer (some ⟨Array.size H, 1, none⟩) | 4 => u = .string s2 | 5 => Own 1 (EInt .u8) 5 #[] (Array.size H1) Hc u (En.txt s2) | 6 => Own 1 (EInt .u8) 5 #[] (Array.size H1) Hc u (En.txt s1 ++ En.txt s2) | 7 => Own 1 (EInt .u8) 5 #[] (Array.size H1) Hc u (En.txt s1 ++ En.txt s2) | _ => True) j x Hc → (fun (i : Nat) (u : Value) (Hc : Heap) => match i with | 0 => u = .pointer (some ⟨Array.size H, 0, none⟩) | 1 => u = .string s1 | 2 => Own 1 (EInt .u8) 5 #[] (Array.size H1) Hc u (En.txt s1) | 3 => u = .pointer (some ⟨Array.size H, 1, none⟩) | 4 => u = .string s2 | 5 => Own 1 (EInt .u8) 5 #[] (Array.size H1) Hc u (En.txt s2) | 6 => Own 1 (EInt .u8) 5 #[] (Array.size H1) Hc u (En.txt s1 ++ En.txt s2) | 7 => Own 1 (EInt .u8) 5 #[] (Array.size H1) Hc u (En.txt s1 ++ En.txt s2) | _ => True) j x H2 := by
      intro H2 o2 j x hx
      match j, hx with
      | 0, hx => exact hx
      | 1, hx => exact hx
      | 2, hx => exact hx.old o2
      | 3, hx => exact hx
      | 4, hx => exact hx
      | 5, hx => exact hx.old o2
      | 6, hx => exact hx.old o2
      | 7, hx => exact hx.old o2
      | j + 8, hx => exact hx
    match i, ho, hp with
    | 0, ho, hp =>
      have e := Option.some.inj (ho : some _ = some o)
      subst e
      change ∀ j ∈ ([] : List Nat), _ at hp
      change Ob _ _ (([] : Env) ++ _) _ _ _
      exact .inl ⟨rfl, D1.op (R.fieldAddr rfl Tryd.underlying51 rfl rfl sz9 rfl) ⟨rfl, og, fun _ _ h => h⟩⟩
    | 1, ho, hp =>
      have e := Option.some.inj (ho : some _ = some o)
      subst e
      change ∀ j ∈ ([0] : List Nat), _ at hp
      have h10 : (u 0) = .pointer (some ⟨Array.size H, 0, none⟩) := hp 0 (by simp)
      change Ob _ _ (([(10, u 0)] : Env) ++ _) _ _ _
      simp only [h10]
      exact .inl ⟨rfl, D1.op (R.load rfl Tryd.underlying9 rfl rfl (cell_of (og.blk bx) rfl)) ⟨rfl, og, fun _ _ h => h⟩⟩
    | 2, ho, hp =>
      have e := Option.some.inj (ho : some _ = some o)
      subst e
      change ∀ j ∈ ([1] : List Nat), _ at hp
      have h11 : (u 1) = .string s1 := hp 1 (by simp)
      change Ob _ _ (([(11, u 1)] : Env) ++ _) _ _ _
      simp only [h11]
      exact .inl ⟨rfl, D1.call rfl rfl rfl rfl Tryd.call92 (text_any s1 (by omega)) (by rintro _ H2 ⟨w, ox⟩; exact ⟨w.weak (by have := og.1; omega), og.trans ox, hst _ ox⟩)⟩
    | 3, ho, hp =>
      have e := Option.some.inj (ho : some _ = some o)
      subst e
      change ∀ j ∈ ([] : List Nat), _ at hp
      change Ob _ _ (([] : Env) ++ _) _ _ _
      exact .inl ⟨rfl, D1.op (R.fieldAddr rfl Tryd.underlying51 rfl rfl sz9 rfl) ⟨rfl, og, fun _ _ h => h⟩⟩
    | 4, ho, hp =>
      have e := Option.some.inj (ho : some _ = some o)
      subst e
      change ∀ j ∈ ([3] : List Nat), _ at hp
      have h13 : (u 3) = .pointer (some ⟨Array.size H, 1, none⟩) := hp 3 (by simp)
      change Ob _ _ (([(13, u 3)] : Env) ++ _) _ _ _
      simp only [h13]
      exact .inl ⟨rfl, D1.op (R.load rfl Tryd.underlying9 rfl rfl (cell_of (og.blk bx) rfl)) ⟨rfl, og, fun _ _ h => h⟩⟩
    | 5, ho, hp =>
      have e := Option.some.inj (ho : some _ = some o)
      subst e
      change ∀ j ∈ ([4, 2] : List Nat), _ at hp
      have h12 : Own 1 (EInt .u8) 5 #[] (Array.size H1) Hc (u 2) (En.txt s1) := hp 2 (by simp)
      have h14 : (u 4) = .string s2 := hp 4 (by simp)
      change Ob _ _ (([(14, u 4), (12, u 2)] : Env) ++ _) _ _ _
      simp only [h14]
      exact .inl ⟨rfl, D1.call rfl rfl rfl rfl Tryd.call92 (text_any s2 (by omega)) (by rintro _ H2 ⟨w, ox⟩; exact ⟨w.weak (by have := og.1; omega), og.trans ox, hst _ ox⟩)⟩
    | 6, ho, hp =>
      have e := Option.some.inj (ho : some _ = some o)
      subst e
      change ∀ j ∈ ([2, 5, 5] : List Nat), _ at hp
      have h12 : Own 1 (EInt .u8) 5 #[] (Array.size H1) Hc (u 2) (En.txt s1) := hp 2 (by simp)
      have h15 : Own 1 (EInt .u8) 5 #[] (Array.size H1) Hc (u 5) (En.txt s2) := hp 5 (by simp)
      change Ob _ _ (([(12, u 2), (15, u 5), (15, u 5)] : Env) ++ _) _ _ _
      refine .inl ⟨rfl, D1.mem (M.appendQ (m := En.txt s2) rfl Tryd.underlying36 inf5 rfl rfl rfl h12 (En.txt_pos (by omega)) ((h15.sl (emptyOld _) (by decide))) og.1 (by omega) (by unfold maxLen; omega) (En.txt_pos (by omega))) ?_⟩
      rintro v2 H2 ⟨k1, k2⟩
      rcases k2 with k2 | k2
      · exact ⟨k1, og.trans k2, hst _ k2⟩
      refine ⟨k1, k2.oldFrom og, ?_⟩
      intro j z hz
      match j, hz with
      | 0, hz => exact hz
      | 1, hz => exact hz
      | 2, hz => exact Own.inPlace hz k2 (Nat.le_refl _)
      | 3, hz => exact hz
      | 4, hz => exact hz
      | 5, hz => exact Own.inPlaceP (E := []) hz h12 k2 (fun r h => En.txt_pre (by omega) (by omega) h)
      | 6, hz => exact Own.inPlaceEq hz k2 (by rw [List.length_append]) (by have := En.txt_pos (a := s1) (by omega); omega) k1
      | 7, hz => exact Own.inPlaceEq hz k2 (by rw [List.length_append]) (by have := En.txt_pos (a := s1) (by omega); omega) k1
      | j + 8, hz => exact hz
    | 7, ho, hp =>
      have e := Option.some.inj (ho : some _ = some o)
      subst e
      change ∀ j ∈ ([6, 6, 0, 1, 2, 3, 4, 5, 6] : List Nat), _ at hp
      have h10 : (u 0) = .pointer (some ⟨Array.size H, 0, none⟩) := hp 0 (by simp)
      have h11 : (u 1) = .string s1 := hp 1 (by simp)
      have h12 : Own 1 (EInt .u8) 5 #[] (Array.size H1) Hc (u 2) (En.txt s1) := hp 2 (by simp)
      have h13 : (u 3) = .pointer (some ⟨Array.size H, 1, none⟩) := hp 3 (by simp)
      have h14 : (u 4) = .string s2 := hp 4 (by simp)
      have h15 : Own 1 (EInt .u8) 5 #[] (Array.size H1) Hc (u 5) (En.txt s2) := hp 5 (by simp)
      have h16 : Own 1 (EInt .u8) 5 #[] (Array.size H1) Hc (u 6) (En.txt s1 ++ En.txt s2) := hp 6 (by simp)
      change Ob _ _ (([(16, u 6), (16, u 6), (10, u 0), (11, u 1), (12, u 2), (13, u 3), (14, u 4), (15, u 5), (16, u 6)] : Env) ++ _) _ _ _
      simp only [h10, h11, h13, h14]
      exact .inl ⟨rfl, D1.op (R.assign rfl rfl) ⟨h16, og, fun _ _ h => h⟩⟩
    | i + 8, ho, hp => exact absurd ho (by simp)
  intro u H2 og2 hv
  have h10 : (u 0) = .pointer (some ⟨Array.size H, 0, none⟩) := hv 0 (by decide)
  have h11 : (u 1) = .string s1 := hv 1 (by decide)
  have h12 : Own 1 (EInt .u8) 5 #[] (Array.size H1) H2 (u 2) (En.txt s1) := hv 2 (by decide)
  have h13 : (u 3) = .pointer (some ⟨Array.size H, 1, none⟩) := hv 3 (by decide)
  have h14 : (u 4) = .string s2 := hv 4 (by decide)
  have h15 : Own 1 (EInt .u8) 5 #[] (Array.size H1) H2 (u 5) (En.txt s2) := hv 5 (by decide)
  have h16 : Own 1 (EInt .u8) 5 #[] (Array.size H1) H2 (u 6) (En.txt s1 ++ En.txt s2) := hv 6 (by decide)
  have h4 : Own 1 (EInt .u8) 5 #[] (Array.size H1) H2 (u 7) (En.txt s1 ++ En.txt s2) := hv 7 (by decide)
  change KQ _ _ _ _ (([(10, u 0), (11, u 1), (12, u 2), (13, u 3), (14, u 4), (15, u 5), (16, u 6), (4, u 7)] : Env) ++ _) _
  have o0 := o0.trans og2
  have bx := (og2).blk bx
  have z2 := og2.1
  simp only [h10, h11, h13, h14]
  have wo := h4
  refine KQ.sr (KL.run 2 rfl (KL.ld rfl (cell_of bx rfl) ?_))
  refine KL.m (M.lit rfl Tryd.underlying36 zs5 (by decide) rfl rfl rfl) rfl ?_
  rintro _ H3 ⟨rfl, n3⟩
  have z3 := n3.2.1
  have o0 := o0.trans n3.1
  have bx := (n3.1).blk bx
  have wo := wo.old n3.1
  have b3 := n3.2.2
  have s0 : Sl 1 (EInt .u8) H3 _ [1] := Sl.lits (l := [1]) n3 rfl (by simp) (by intro y hy; simp only [List.mem_cons, List.not_mem_nil, or_false] at hy; subst hy; dsimp only [InR] at *; omega)
  have lt4 := wo.lt
  refine KL.m (M.append rfl Tryd.underlying36 inf5 rfl (by decide) rfl rfl wo s0 (fun _ _ h _ => h) (by omega) (by (simp only [List.length_append, List.length_cons, List.length_nil]; omega)) (by unfold maxLen; ((simp only [List.length_append, List.length_cons, List.length_nil]; omega)))) rfl ?_
  rintro vn H4 ⟨w4, g4⟩
  have ob4 := g4.oldB wo (by omega)
  have o0 := o0.then ob4 (by omega)
  have z4 := ob4.1
  have bx := (g4.2 _ (blk_lt bx) (by exact lt4.imp id (fun h => by omega))).trans bx
  have wo := w4
  refine KL.fin 1 rfl (KQ.seq (KC.seq ?_))
  refine KC.cutD (κ := Unit) [22, 23, 24, 25, 26, 27, 28, 29, 30, 31, 5] (fun _ => [(5, .bool (Utf.valid (ints s1) && Utf.valid (ints s2)))]) (fun _ Hl => Own 1 (EInt .u8) 5 #[] (Array.size H1) Hl vn (En.txt s1 ++ En.txt s2 ++ [1]) ∧ Hl[Array.size H]? = some (.cells [.string s1, .string s2, .int .u8 1, .int .u32 ty, .int .u32 la, .int .i64 lb, .int .u8 gt, .bool gm].toArray 51 (0, 0)) ∧ Old H Hl ∧ Array.size H1 ≤ Array.size Hl) ?_ ?_
  · skip
    refine KC.region (KL.run 1 rfl (KL.ld rfl (cell_of bx rfl) ?_))
    refine KL.m (M.toBytes rfl Tryd.underlying9 Tryd.underlying36 Tryd.underlying5 rfl (by omega)) rfl ?_
    rintro v5 H5 ⟨t5, e5, n5, z5⟩
    have o0 := o0.trans n5
    have bx := (n5).blk bx
    have wo := wo.old n5
    have q1 := t5
    have hvb : vblock vn < Array.size H5 := by
      rcases wo.lt with e | e
      · rw [e]; show 0 < _; omega
      exact e.2
    refine KL.c rfl Tryd.call93 (refValid_any _ _ q1) ?_
    rintro _ _ ⟨rfl, rfl⟩
    refine KL.run 1 rfl ?_
    refine KL.cq 26 rfl ?_ ?_
    · intro hg26
      refine KL.run 1 rfl (KL.ld rfl (cell_of bx rfl) ?_)
      refine KL.m (M.toBytes rfl Tryd.underlying9 Tryd.underlying36 Tryd.underlying5 rfl (by omega)) rfl ?_
      rintro v6 H6 ⟨t6, e6, n6, z6⟩
      have o0 := o0.trans n6
      have bx := (n6).blk bx
      have wo := wo.old n6
      have q1 := q1.old n6
      have q2 := t6
      refine KL.c rfl Tryd.call93 (refValid_any _ _ q2) ?_
      rintro _ _ ⟨rfl, rfl⟩
      refine KL.q ((R.pick rfl rfl rfl).val (congrArg Value.bool (show _ = (Utf.valid (ints s1) && Utf.valid (ints s2)) from by rw [hg26]; rfl))) rfl ?_
      refine KL.fin 1 rfl ?_
      refine KQ.meet () ?_ ?_
      · exact Sub.all rfl
      exact ⟨wo, bx, o0, by omega⟩
    intro hg26
    refine KL.run 4 rfl ?_
    refine KL.q ((R.pick rfl rfl rfl).val (congrArg Value.bool (show _ = (Utf.valid (ints s1) && Utf.valid (ints s2)) from by rw [hg26]; rfl))) rfl ?_
    refine KL.fin 1 rfl ?_
    refine KQ.meet () ?_ ?_
    · exact Sub.all rfl
    exact ⟨wo, bx, o0, by omega⟩
  rintro _ H7 ⟨wo, bx, o0, zz⟩
  have zl := o0.1
  have zb := blk_lt bx
  have hvb : vblock vn < Array.size H7 := by
    rcases wo.lt with e | e
    · rw [e]; show 0 < _; omega
    exact e.2
  refine KQ.sr (KL.b0 bt47 rfl rfl (KL.b0 bt49 rfl rfl ?_))
  refine KL.m (M.alloc rfl zr47 rfl) rfl ?_
  rintro _ H8 ⟨rfl, n8⟩
  have z8 := n8.2.1
  have o0 := o0.trans n8.1
  have wo := wo.old n8.1
  have bx := (n8.1).blk bx
  have b8 := n8.2.2
  have bn := b8
  refine KL.m (M.alloc rfl zr49 rfl) rfl ?_
  rintro _ H9 ⟨rfl, n9⟩
  have z9 := n9.2.1
  have o0 := o0.trans n9.1
  have wo := wo.old n9.1
  have bx := (n9.1).blk bx
  have bn := (n9.1).blk bn
  have b9 := n9.2.2
  have bf := b9
  refine KL.opS (S.storeAgg rfl sz47 rfl rfl (rfl) (by intro z hz; simp only [List.mem_cons, List.not_mem_nil, or_false] at hz; rcases hz with rfl | rfl <;> rfl) bn (by simp)) rfl rfl ?_
  rintro H10 ⟨u10, b10⟩
  have o0 := o0.upd u10 (by omega)
  have zu10 := u10.1
  have wo := wo.upd u10 (by exact .inr (by omega))
  have bx := ((u10).2 _ (by omega)).trans bx
  have bf := ((u10).2 _ (by omega)).trans bf
  have bn := b10
  rw [over_all (by rfl)] at bn
  refine KL.opS (S.storeAgg rfl sz49 rfl rfl (rfl) (by intro z hz; simp only [List.mem_cons, List.not_mem_nil, or_false] at hz; rcases hz with rfl | rfl <;> rfl) bf (by simp)) rfl rfl ?_
  rintro H11 ⟨u11, b11⟩
  have o0 := o0.upd u11 (by omega)
  have zu11 := u11.1
  have wo := wo.upd u11 (by exact .inr (by omega))
  have bx := ((u11).2 _ (by omega)).trans bx
  have bn := ((u11).2 _ (by omega)).trans bn
  have bf := b11
  rw [over_all (by rfl)] at bf
  refine KL.nil (KQ.sr (KL.fin 1 rfl (KQ.sr (KL.fin 1 rfl (KQ.seq (KC.seq (KC.sr (KL.run 1 rfl ?_))))))))
  refine KL.ld rfl (cell_of bx rfl) (KL.nil (KQ.seq (KC.block (KC.sr (KL.e0 rfl (by decide) (KL.fin 1 rfl (KQ.seq (KC.condF rfl (KC.seq (KC.sr (KL.q ((R.eql rfl rfl rfl).val (congrArg Value.bool (decide_eq_true rfl))) rfl ?_)))))))))))
  refine KL.fin 1 rfl (KQ.seq (KC.condT rfl (KC.skip (KQ.seq (KC.condT rfl (KC.sr (KL.run 1 rfl (KL.lda rfl (cells_mid (k := 4) (n := 2) bx) rfl ?_))))))))
  refine KL.c rfl Tryd.call89 (rlimits_any la lb rla rlb) ?_
  rintro _ H12 ⟨⟨vm, lm, rfl, wm, hlm, hmm⟩, ox⟩
  have zc_H12 := (ox).1
  have o0 := o0.trans ox
  have wo := wo.old ox
  have bx := (ox).blk bx
  have bn := (ox).blk bn
  have bf := (ox).blk bf
  have zm := ox.1
  refine KL.fin 5 rfl (KQ.sr (KL.run 2 rfl ?_))
  refine KL.cq 62 rfl ?_ ?_
  · intro hg62
    refine KL.run 1 rfl (KL.ld rfl (cell_of bx rfl) (KL.run 3 rfl ?_))
    refine KL.cq 67 rfl ?_ ?_
    · intro hg67
      refine KL.run 1 rfl (KL.lda rfl (cells_mid (k := 6) (n := 2) bx) rfl (KL.lda rfl (cells_of bf) rfl (KL.q (R.eqlSt rfl Tryd.underlying49 (by kernel_rfl) (by kernel_rfl) rfl rfl (EqFs.int (by decide) Tryd.underlying5 rfl rfl (EqFs.bool (by decide) Tryd.underlying4 rfl rfl EqFs.nil))) rfl (KL.fin 2 rfl (KQ.sr (KL.run 1 rfl (KL.ld rfl (cell_of bx rfl) (KL.q ((R.eql rfl rfl rfl).val (congrArg Value.bool (decide_eq_true rfl))) rfl (KL.nil (KQ.seq (KC.condT rfl ?_)))))))))))
      refine KC.region ?_
      refine KL.m (M.lit rfl Tryd.underlying36 zs5 (by decide) rfl rfl rfl) rfl ?_
      rintro _ H13 ⟨rfl, n13⟩
      have z13 := n13.2.1
      have o0 := o0.trans n13.1
      have wo := wo.old n13.1
      have bx := (n13.1).blk bx
      have bn := (n13.1).blk bn
      have bf := (n13.1).blk bf
      have wm := wm.old n13.1
      have b13 := n13.2.2
      have s9 : Own 1 (EInt .u8) 5 #[] (Array.size H12) H13 (.slice (some ⟨Array.size H12, 0, none⟩) 1 1) [112] := Own.litI (l := [112]) (m := 1) n13 (Nat.le_refl _) rfl (by omega) (by intro y hy; simp only [List.mem_cons, List.not_mem_nil, or_false] at hy; subst hy; dsimp only [InR] at *; omega)
      refine KL.run 1 rfl ?_
      have lt14 := s9.lt
      refine KL.m (M.append rfl Tryd.underlying36 inf5 rfl (by decide) rfl rfl s9 (by exact (wm.sl (emptyOld _) (by decide))) (fun _ _ h _ => h) (by omega) (by (simp only [List.length_append, List.length_cons, List.length_nil]; omega)) (by unfold maxLen; ((simp only [List.length_append, List.length_cons, List.length_nil]; omega)))) rfl ?_
      rintro vq H14 ⟨w14, g14⟩
      have ob14 := g14.oldB s9 (by omega)
      have o0 := o0.then ob14 (by omega)
      have z14 := ob14.1
      have wo := wo.keep (g14.2 _ (by omega) (by exact lt14.imp id (fun h => by omega)))
      have bx := (g14.2 _ (blk_lt bx) (by exact lt14.imp id (fun h => by omega))).trans bx
      have bn := (g14.2 _ (blk_lt bn) (by exact lt14.imp id (fun h => by omega))).trans bn
      have bf := (g14.2 _ (blk_lt bf) (by exact lt14.imp id (fun h => by omega))).trans bf
      have s9 := w14
      refine KL.fin 1 rfl (KQ.normBlock (KQ.sr (KL.run 2 rfl ?_)))
      have lt15 := wo.lt
      refine KL.m (M.append rfl Tryd.underlying36 inf5 rfl (by decide) rfl rfl wo (by exact (s9.sl (emptyOld _) (by decide))) (fun _ _ h _ => h) (by omega) (by (simp only [List.length_append, List.length_cons, List.length_nil]; omega)) (by unfold maxLen; ((simp only [List.length_append, List.length_cons, List.length_nil]; omega)))) rfl ?_
      rintro vz H15 ⟨w15, g15⟩
      have ob15 := g15.oldB wo (by omega)
      have o0 := o0.then ob15 (by omega)
      have z15 := ob15.1
      have bx := (g15.2 _ (blk_lt bx) (by exact lt15.imp id (fun h => by omega))).trans bx
      have bn := (g15.2 _ (blk_lt bn) (by exact .inr (by omega))).trans bn
      have bf := (g15.2 _ (blk_lt bf) (by exact .inr (by omega))).trans bf
      have wo := w15
      refine KL.run 2 rfl ?_
      refine KL.cq 103 rfl ?_ ?_
      · intro hg103
        refine KL.fin 4 rfl (KQ.seq (KC.ret (KQ.ofRet (KQ.fin2 Tryd.results88 rfl rfl ?_))))
        exact ⟨⟨_, _, congrArg (fun b => Value.tuple #[_, Value.bool b]) (by unfold En.impO En.impO2; dsimp only; simp_all), wo.weak (by omega), by simp only [List.length_append, List.length_cons, List.length_nil]; omega, fun h => by rw [hmm (En.impO_2 h)]; unfold En.impB En.impM En.tabB; simp⟩, o0⟩
      intro hg103
      refine KL.fin 4 rfl (KQ.seq (KC.ret (KQ.ofRet (KQ.fin2 Tryd.results88 rfl rfl ?_))))
      exact ⟨⟨_, _, congrArg (fun b => Value.tuple #[_, Value.bool b]) (by unfold En.impO En.impO2; dsimp only; simp_all), wo.weak (by omega), by simp only [List.length_append, List.length_cons, List.length_nil]; omega, fun h => by rw [hmm (En.impO_2 h)]; unfold En.impB En.impM En.tabB; simp⟩, o0⟩
    intro hg67
    refine KL.fin 6 rfl (KQ.sr (KL.run 1 rfl (KL.ld rfl (cell_of bx rfl) (KL.q ((R.eql rfl rfl rfl).val (congrArg Value.bool (decide_eq_true rfl))) rfl (KL.nil (KQ.seq (KC.condT rfl (KC.region ?_))))))))
    refine KL.m (M.lit rfl Tryd.underlying36 zs5 (by decide) rfl rfl rfl) rfl ?_
    rintro _ H16 ⟨rfl, n16⟩
    have z16 := n16.2.1
    have o0 := o0.trans n16.1
    have wo := wo.old n16.1
    have bx := (n16.1).blk bx
    have bn := (n16.1).blk bn
    have bf := (n16.1).blk bf
    have wm := wm.old n16.1
    have b16 := n16.2.2
    have s9 : Own 1 (EInt .u8) 5 #[] (Array.size H12) H16 (.slice (some ⟨Array.size H12, 0, none⟩) 1 1) [112] := Own.litI (l := [112]) (m := 1) n16 (Nat.le_refl _) rfl (by omega) (by intro y hy; simp only [List.mem_cons, List.not_mem_nil, or_false] at hy; subst hy; dsimp only [InR] at *; omega)
    refine KL.run 1 rfl ?_
    have lt17 := s9.lt
    refine KL.m (M.append rfl Tryd.underlying36 inf5 rfl (by decide) rfl rfl s9 (by exact (wm.sl (emptyOld _) (by decide))) (fun _ _ h _ => h) (by omega) (by (simp only [List.length_append, List.length_cons, List.length_nil]; omega)) (by unfold maxLen; ((simp only [List.length_append, List.length_cons, List.length_nil]; omega)))) rfl ?_
    rintro vq H17 ⟨w17, g17⟩
    have ob17 := g17.oldB s9 (by omega)
    have o0 := o0.then ob17 (by omega)
    have z17 := ob17.1
    have wo := wo.keep (g17.2 _ (by omega) (by exact lt17.imp id (fun h => by omega)))
    have bx := (g17.2 _ (blk_lt bx) (by exact lt17.imp id (fun h => by omega))).trans bx
    have bn := (g17.2 _ (blk_lt bn) (by exact lt17.imp id (fun h => by omega))).trans bn
    have bf := (g17.2 _ (blk_lt bf) (by exact lt17.imp id (fun h => by omega))).trans bf
    have s9 := w17
    refine KL.fin 1 rfl (KQ.normBlock (KQ.sr (KL.run 2 rfl ?_)))
    have lt18 := wo.lt
    refine KL.m (M.append rfl Tryd.underlying36 inf5 rfl (by decide) rfl rfl wo (by exact (s9.sl (emptyOld _) (by decide))) (fun _ _ h _ => h) (by omega) (by (simp only [List.length_append, List.length_cons, List.length_nil]; omega)) (by unfold maxLen; ((simp only [List.length_append, List.length_cons, List.length_nil]; omega)))) rfl ?_
    rintro vz H18 ⟨w18, g18⟩
    have ob18 := g18.oldB wo (by omega)
    have o0 := o0.then ob18 (by omega)
    have z18 := ob18.1
    have bx := (g18.2 _ (blk_lt bx) (by exact lt18.imp id (fun h => by omega))).trans bx
    have bn := (g18.2 _ (blk_lt bn) (by exact .inr (by omega))).trans bn
    have bf := (g18.2 _ (blk_lt bf) (by exact .inr (by omega))).trans bf
    have wo := w18
    refine KL.run 2 rfl ?_
    refine KL.cq 103 rfl ?_ ?_
    · intro hg103
      refine KL.fin 4 rfl (KQ.seq (KC.ret (KQ.ofRet (KQ.fin2 Tryd.results88 rfl rfl ?_))))
      exact ⟨⟨_, _, congrArg (fun b => Value.tuple #[_, Value.bool b]) (by unfold En.impO En.impO2; dsimp only; simp_all), wo.weak (by omega), by simp only [List.length_append, List.length_cons, List.length_nil]; omega, fun h => by rw [hmm (En.impO_2 h)]; unfold En.impB En.impM En.tabB; simp⟩, o0⟩
    intro hg103
    refine KL.fin 4 rfl (KQ.seq (KC.ret (KQ.ofRet (KQ.fin2 Tryd.results88 rfl rfl ?_))))
    exact ⟨⟨_, _, congrArg (fun b => Value.tuple #[_, Value.bool b]) (by unfold En.impO En.impO2; dsimp only; simp_all), wo.weak (by omega), by simp only [List.length_append, List.length_cons, List.length_nil]; omega, fun h => by rw [hmm (En.impO_2 h)]; unfold En.impB En.impM En.tabB; simp⟩, o0⟩
  intro hg62
  refine KL.fin 11 rfl (KQ.sr (KL.run 1 rfl (KL.ld rfl (cell_of bx rfl) (KL.q ((R.eql rfl rfl rfl).val (congrArg Value.bool (decide_eq_true rfl))) rfl (KL.nil (KQ.seq (KC.condT rfl (KC.region ?_))))))))
  refine KL.m (M.lit rfl Tryd.underlying36 zs5 (by decide) rfl rfl rfl) rfl ?_
  rintro _ H19 ⟨rfl, n19⟩
  have z19 := n19.2.1
  have o0 := o0.trans n19.1
  have wo := wo.old n19.1
  have bx := (n19.1).blk bx
  have bn := (n19.1).blk bn
  have bf := (n19.1).blk bf
  have wm := wm.old n19.1
  have b19 := n19.2.2
  have s9 : Own 1 (EInt .u8) 5 #[] (Array.size H12) H19 (.slice (some ⟨Array.size H12, 0, none⟩) 1 1) [112] := Own.litI (l := [112]) (m := 1) n19 (Nat.le_refl _) rfl (by omega) (by intro y hy; simp only [List.mem_cons, List.not_mem_nil, or_false] at hy; subst hy; dsimp only [InR] at *; omega)
  refine KL.run 1 rfl ?_
  have lt20 := s9.lt
  refine KL.m (M.append rfl Tryd.underlying36 inf5 rfl (by decide) rfl rfl s9 (by exact (wm.sl (emptyOld _) (by decide))) (fun _ _ h _ => h) (by omega) (by (simp only [List.length_append, List.length_cons, List.length_nil]; omega)) (by unfold maxLen; ((simp only [List.length_append, List.length_cons, List.length_nil]; omega)))) rfl ?_
  rintro vq H20 ⟨w20, g20⟩
  have ob20 := g20.oldB s9 (by omega)
  have o0 := o0.then ob20 (by omega)
  have z20 := ob20.1
  have wo := wo.keep (g20.2 _ (by omega) (by exact lt20.imp id (fun h => by omega)))
  have bx := (g20.2 _ (blk_lt bx) (by exact lt20.imp id (fun h => by omega))).trans bx
  have bn := (g20.2 _ (blk_lt bn) (by exact lt20.imp id (fun h => by omega))).trans bn
  have bf := (g20.2 _ (blk_lt bf) (by exact lt20.imp id (fun h => by omega))).trans bf
  have s9 := w20
  refine KL.fin 1 rfl (KQ.normBlock (KQ.sr (KL.run 2 rfl ?_)))
  have lt21 := wo.lt
  refine KL.m (M.append rfl Tryd.underlying36 inf5 rfl (by decide) rfl rfl wo (by exact (s9.sl (emptyOld _) (by decide))) (fun _ _ h _ => h) (by omega) (by (simp only [List.length_append, List.length_cons, List.length_nil]; omega)) (by unfold maxLen; ((simp only [List.length_append, List.length_cons, List.length_nil]; omega)))) rfl ?_
  rintro vz H21 ⟨w21, g21⟩
  have ob21 := g21.oldB wo (by omega)
  have o0 := o0.then ob21 (by omega)
  have z21 := ob21.1
  have bx := (g21.2 _ (blk_lt bx) (by exact lt21.imp id (fun h => by omega))).trans bx
  have bn := (g21.2 _ (blk_lt bn) (by exact .inr (by omega))).trans bn
  have bf := (g21.2 _ (blk_lt bf) (by exact .inr (by omega))).trans bf
  have wo := w21
  refine KL.run 2 rfl ?_
  refine KL.cq 103 rfl ?_ ?_
  · intro hg103
    refine KL.fin 4 rfl (KQ.seq (KC.ret (KQ.ofRet (KQ.fin2 Tryd.results88 rfl rfl ?_))))
    exact ⟨⟨_, _, congrArg (fun b => Value.tuple #[_, Value.bool b]) (by unfold En.impO En.impO2; dsimp only; simp_all), wo.weak (by omega), by simp only [List.length_append, List.length_cons, List.length_nil]; omega, fun h => by rw [hmm (En.impO_2 h)]; unfold En.impB En.impM En.tabB; simp⟩, o0⟩
  intro hg103
  refine KL.fin 4 rfl (KQ.seq (KC.ret (KQ.ofRet (KQ.fin2 Tryd.results88 rfl rfl ?_))))
  exact ⟨⟨_, _, congrArg (fun b => Value.tuple #[_, Value.bool b]) (by unfold En.impO En.impO2; dsimp only; simp_all), wo.weak (by omega), by simp only [List.length_append, List.length_cons, List.length_nil]; omega, fun h => by rw [hmm (En.impO_2 h)]; unfold En.impB En.impM En.tabB; simp⟩, o0⟩
theorem rimp_2 {H : Heap} (s1 s2 : ByteArray) (ty la lb gt : Int) (gm : Bool) (h1 : s1.size ≤ 4000) (h2 : s2.size ≤ 4000) (rty : InR .u32 ty) (rla : InR .u32 la) (rlb : InR .i64 lb) (rgt : InR .u8 gt) : Ct Tryd.prog 88 [.agg [.string s1, .string s2, .int .u8 2, .int .u32 ty, .int .u32 la, .int .i64 lb, .int .u8 gt, .bool gm].toArray] H (fun u H' => RB H (En.impB ⟨s1, s2, 2, ty, (la, lb), (gt, gm)⟩) (En.impO ⟨s1, s2, 2, ty, (la, lb), (gt, gm)⟩) 10000 u H') := by
  refine Ct.mk Tryd.func88 rfl Tryd.ntmps88 rfl ?_
  intro W0 hW0
  have o0 : Old H H := Old.refl H
  have ht1 := En.txt_le h1
  have ht2 := En.txt_le h2
  have hut := En.u_le ty
  refine KC.sr ?_
  refine KL.m (M.box rfl rfl rfl) rfl ?_
  rintro _ H1 ⟨rfl, n1⟩
  have z1 := n1.2.1
  have o0 := o0.trans n1.1
  have b1 := n1.2.2
  have bx := b1
  refine KL.fin 2 rfl (KQ.seq (KC.seq ?_))
  refine KC.valsL [10, 11, 12, 13, 14, 15, 16, 4] [[], [0], [1], [], [3], [4, 2], [2, 5, 5], [6, 6, 0, 1, 2, 3, 4, 5, 6]] (fun (i : Nat) (u : Value) (Hc : Heap) => match i with | 0 => u = .pointer (some ⟨Array.size H, 0, none⟩) | 1 => u = .string s1 | 2 => Own 1 (EInt .u8) 5 #[] (Array.size H1) Hc u (En.txt s1) | 3 => u = .pointer (some ⟨Array.size H, 1, none⟩) | 4 => u = .string s2 | 5 => Own 1 (EInt .u8) 5 #[] (Array.size H1) Hc u (En.txt s2) | 6 => Own 1 (EInt .u8) 5 #[] (Array.size H1) Hc u (En.txt s1 ++ En.txt s2) | 7 => Own 1 (EInt .u8) 5 #[] (Array.size H1) Hc u (En.txt s1 ++ En.txt s2) | _ => True) (by kernel_rfl) (by kernel_rfl) (by kernel_rfl) (by kernel_rfl) ?_ ?_
  · intro i o ho u Hc og hp
    have hst : ∀ H2, Old Hc H2 → ∀ j x, (fun (i : Nat) (u : Value) (Hc : Heap) => match i with | 0 => u = .pointer (some ⟨Array.size H, 0, none⟩) | 1 => u = .string s1 | 2 => Own 1 (EInt .u8) 5 #[] (Array.size H1) Hc u (En.txt s1) | 3 => u = .pointer (some ⟨Array.size H, 1, none⟩) | 4 => u = .string s2 | 5 => Own 1 (EInt .u8) 5 #[] (Array.size H1) Hc u (En.txt s2) | 6 => Own 1 (EInt .u8) 5 #[] (Array.size H1) Hc u (En.txt s1 ++ En.txt s2) | 7 => Own 1 (EInt .u8) 5 #[] (Array.size H1) Hc u (En.txt s1 ++ En.txt s2) | _ => True) j x Hc → (fun (i : Nat) (u : Value) (Hc : Heap) => match i with | 0 => u = .pointer (some ⟨Array.size H, 0, none⟩) | 1 => u = .string s1 | 2 => Own 1 (EInt .u8) 5 #[] (Array.size H1) Hc u (En.txt s1) | 3 => u = .pointer (some ⟨Array.size H, 1, none⟩) | 4 => u = .string s2 | 5 => Own 1 (EInt .u8) 5 #[] (Array.size H1) Hc u (En.txt s2) | 6 => Own 1 (EInt .u8) 5 #[] (Array.size H1) Hc u (En.txt s1 ++ En.txt s2) | 7 => Own 1 (EInt .u8) 5 #[] (Array.size H1) Hc u (En.txt s1 ++ En.txt s2) | _ => True) j x H2 := by
      intro H2 o2 j x hx
      match j, hx with
      | 0, hx => exact hx
      | 1, hx => exact hx
      | 2, hx => exact hx.old o2
      | 3, hx => exact hx
      | 4, hx => exact hx
      | 5, hx => exact hx.old o2
      | 6, hx => exact hx.old o2
      | 7, hx => exact hx.old o2
      | j + 8, hx => exact hx
    match i, ho, hp with
    | 0, ho, hp =>
      have e := Option.some.inj (ho : some _ = some o)
      subst e
      change ∀ j ∈ ([] : List Nat), _ at hp
      change Ob _ _ (([] : Env) ++ _) _ _ _
      exact .inl ⟨rfl, D1.op (R.fieldAddr rfl Tryd.underlying51 rfl rfl sz9 rfl) ⟨rfl, og, fun _ _ h => h⟩⟩
    | 1, ho, hp =>
      have e := Option.some.inj (ho : some _ = some o)
      subst e
      change ∀ j ∈ ([0] : List Nat), _ at hp
      have h10 : (u 0) = .pointer (some ⟨Array.size H, 0, none⟩) := hp 0 (by simp)
      change Ob _ _ (([(10, u 0)] : Env) ++ _) _ _ _
      simp only [h10]
      exact .inl ⟨rfl, D1.op (R.load rfl Tryd.underlying9 rfl rfl (cell_of (og.blk bx) rfl)) ⟨rfl, og, fun _ _ h => h⟩⟩
    | 2, ho, hp =>
      have e := Option.some.inj (ho : some _ = some o)
      subst e
      change ∀ j ∈ ([1] : List Nat), _ at hp
      have h11 : (u 1) = .string s1 := hp 1 (by simp)
      change Ob _ _ (([(11, u 1)] : Env) ++ _) _ _ _
      simp only [h11]
      exact .inl ⟨rfl, D1.call rfl rfl rfl rfl Tryd.call92 (text_any s1 (by omega)) (by rintro _ H2 ⟨w, ox⟩; exact ⟨w.weak (by have := og.1; omega), og.trans ox, hst _ ox⟩)⟩
    | 3, ho, hp =>
      have e := Option.some.inj (ho : some _ = some o)
      subst e
      change ∀ j ∈ ([] : List Nat), _ at hp
      change Ob _ _ (([] : Env) ++ _) _ _ _
      exact .inl ⟨rfl, D1.op (R.fieldAddr rfl Tryd.underlying51 rfl rfl sz9 rfl) ⟨rfl, og, fun _ _ h => h⟩⟩
    | 4, ho, hp =>
      have e := Option.some.inj (ho : some _ = some o)
      subst e
      change ∀ j ∈ ([3] : List Nat), _ at hp
      have h13 : (u 3) = .pointer (some ⟨Array.size H, 1, none⟩) := hp 3 (by simp)
      change Ob _ _ (([(13, u 3)] : Env) ++ _) _ _ _
      simp only [h13]
      exact .inl ⟨rfl, D1.op (R.load rfl Tryd.underlying9 rfl rfl (cell_of (og.blk bx) rfl)) ⟨rfl, og, fun _ _ h => h⟩⟩
    | 5, ho, hp =>
      have e := Option.some.inj (ho : some _ = some o)
      subst e
      change ∀ j ∈ ([4, 2] : List Nat), _ at hp
      have h12 : Own 1 (EInt .u8) 5 #[] (Array.size H1) Hc (u 2) (En.txt s1) := hp 2 (by simp)
      have h14 : (u 4) = .string s2 := hp 4 (by simp)
      change Ob _ _ (([(14, u 4), (12, u 2)] : Env) ++ _) _ _ _
      simp only [h14]
      exact .inl ⟨rfl, D1.call rfl rfl rfl rfl Tryd.call92 (text_any s2 (by omega)) (by rintro _ H2 ⟨w, ox⟩; exact ⟨w.weak (by have := og.1; omega), og.trans ox, hst _ ox⟩)⟩
    | 6, ho, hp =>
      have e := Option.some.inj (ho : some _ = some o)
      subst e
      change ∀ j ∈ ([2, 5, 5] : List Nat), _ at hp
      have h12 : Own 1 (EInt .u8) 5 #[] (Array.size H1) Hc (u 2) (En.txt s1) := hp 2 (by simp)
      have h15 : Own 1 (EInt .u8) 5 #[] (Array.size H1) Hc (u 5) (En.txt s2) := hp 5 (by simp)
      change Ob _ _ (([(12, u 2), (15, u 5), (15, u 5)] : Env) ++ _) _ _ _
      refine .inl ⟨rfl, D1.mem (M.appendQ (m := En.txt s2) rfl Tryd.underlying36 inf5 rfl rfl rfl h12 (En.txt_pos (by omega)) ((h15.sl (emptyOld _) (by decide))) og.1 (by omega) (by unfold maxLen; omega) (En.txt_pos (by omega))) ?_⟩
      rintro v2 H2 ⟨k1, k2⟩
      rcases k2 with k2 | k2
      · exact ⟨k1, og.trans k2, hst _ k2⟩
      refine ⟨k1, k2.oldFrom og, ?_⟩
      intro j z hz
      match j, hz with
      | 0, hz => exact hz
      | 1, hz => exact hz
      | 2, hz => exact Own.inPlace hz k2 (Nat.le_refl _)
      | 3, hz => exact hz
      | 4, hz => exact hz
      | 5, hz => exact Own.inPlaceP (E := []) hz h12 k2 (fun r h => En.txt_pre (by omega) (by omega) h)
      | 6, hz => exact Own.inPlaceEq hz k2 (by rw [List.length_append]) (by have := En.txt_pos (a := s1) (by omega); omega) k1
      | 7, hz => exact Own.inPlaceEq hz k2 (by rw [List.length_append]) (by have := En.txt_pos (a := s1) (by omega); omega) k1
      | j + 8, hz => exact hz
    | 7, ho, hp =>
      have e := Option.some.inj (ho : some _ = some o)
      subst e
      change ∀ j ∈ ([6, 6, 0, 1, 2, 3, 4, 5, 6] : List Nat), _ at hp
      have h10 : (u 0) = .pointer (some ⟨Array.size H, 0, none⟩) := hp 0 (by simp)
      have h11 : (u 1) = .string s1 := hp 1 (by simp)
      have h12 : Own 1 (EInt .u8) 5 #[] (Array.size H1) Hc (u 2) (En.txt s1) := hp 2 (by simp)
      have h13 : (u 3) = .pointer (some ⟨Array.size H, 1, none⟩) := hp 3 (by simp)
      have h14 : (u 4) = .string s2 := hp 4 (by simp)
      have h15 : Own 1 (EInt .u8) 5 #[] (Array.size H1) Hc (u 5) (En.txt s2) := hp 5 (by simp)
      have h16 : Own 1 (EInt .u8) 5 #[] (Array.size H1) Hc (u 6) (En.txt s1 ++ En.txt s2) := hp 6 (by simp)
      change Ob _ _ (([(16, u 6), (16, u 6), (10, u 0), (11, u 1), (12, u 2), (13, u 3), (14, u 4), (15, u 5), (16, u 6)] : Env) ++ _) _ _ _
      simp only [h10, h11, h13, h14]
      exact .inl ⟨rfl, D1.op (R.assign rfl rfl) ⟨h16, og, fun _ _ h => h⟩⟩
    | i + 8, ho, hp => exact absurd ho (by simp)
  intro u H2 og2 hv
  have h10 : (u 0) = .pointer (some ⟨Array.size H, 0, none⟩) := hv 0 (by decide)
  have h11 : (u 1) = .string s1 := hv 1 (by decide)
  have h12 : Own 1 (EInt .u8) 5 #[] (Array.size H1) H2 (u 2) (En.txt s1) := hv 2 (by decide)
  have h13 : (u 3) = .pointer (some ⟨Array.size H, 1, none⟩) := hv 3 (by decide)
  have h14 : (u 4) = .string s2 := hv 4 (by decide)
  have h15 : Own 1 (EInt .u8) 5 #[] (Array.size H1) H2 (u 5) (En.txt s2) := hv 5 (by decide)
  have h16 : Own 1 (EInt .u8) 5 #[] (Array.size H1) H2 (u 6) (En.txt s1 ++ En.txt s2) := hv 6 (by decide)
  have h4 : Own 1 (EInt .u8) 5 #[] (Array.size H1) H2 (u 7) (En.txt s1 ++ En.txt s2) := hv 7 (by decide)
  change KQ _ _ _ _ (([(10, u 0), (11, u 1), (12, u 2), (13, u 3), (14, u 4), (15, u 5), (16, u 6), (4, u 7)] : Env) ++ _) _
  have o0 := o0.trans og2
  have bx := (og2).blk bx
  have z2 := og2.1
  simp only [h10, h11, h13, h14]
  have wo := h4
  refine KQ.sr (KL.run 2 rfl (KL.ld rfl (cell_of bx rfl) ?_))
  refine KL.m (M.lit rfl Tryd.underlying36 zs5 (by decide) rfl rfl rfl) rfl ?_
  rintro _ H3 ⟨rfl, n3⟩
  have z3 := n3.2.1
  have o0 := o0.trans n3.1
  have bx := (n3.1).blk bx
  have wo := wo.old n3.1
  have b3 := n3.2.2
  have s0 : Sl 1 (EInt .u8) H3 _ [2] := Sl.lits (l := [2]) n3 rfl (by simp) (by intro y hy; simp only [List.mem_cons, List.not_mem_nil, or_false] at hy; subst hy; dsimp only [InR] at *; omega)
  have lt4 := wo.lt
  refine KL.m (M.append rfl Tryd.underlying36 inf5 rfl (by decide) rfl rfl wo s0 (fun _ _ h _ => h) (by omega) (by (simp only [List.length_append, List.length_cons, List.length_nil]; omega)) (by unfold maxLen; ((simp only [List.length_append, List.length_cons, List.length_nil]; omega)))) rfl ?_
  rintro vn H4 ⟨w4, g4⟩
  have ob4 := g4.oldB wo (by omega)
  have o0 := o0.then ob4 (by omega)
  have z4 := ob4.1
  have bx := (g4.2 _ (blk_lt bx) (by exact lt4.imp id (fun h => by omega))).trans bx
  have wo := w4
  refine KL.fin 1 rfl (KQ.seq (KC.seq ?_))
  refine KC.cutD (κ := Unit) [22, 23, 24, 25, 26, 27, 28, 29, 30, 31, 5] (fun _ => [(5, .bool (Utf.valid (ints s1) && Utf.valid (ints s2)))]) (fun _ Hl => Own 1 (EInt .u8) 5 #[] (Array.size H1) Hl vn (En.txt s1 ++ En.txt s2 ++ [2]) ∧ Hl[Array.size H]? = some (.cells [.string s1, .string s2, .int .u8 2, .int .u32 ty, .int .u32 la, .int .i64 lb, .int .u8 gt, .bool gm].toArray 51 (0, 0)) ∧ Old H Hl ∧ Array.size H1 ≤ Array.size Hl) ?_ ?_
  · skip
    refine KC.region (KL.run 1 rfl (KL.ld rfl (cell_of bx rfl) ?_))
    refine KL.m (M.toBytes rfl Tryd.underlying9 Tryd.underlying36 Tryd.underlying5 rfl (by omega)) rfl ?_
    rintro v5 H5 ⟨t5, e5, n5, z5⟩
    have o0 := o0.trans n5
    have bx := (n5).blk bx
    have wo := wo.old n5
    have q1 := t5
    have hvb : vblock vn < Array.size H5 := by
      rcases wo.lt with e | e
      · rw [e]; show 0 < _; omega
      exact e.2
    refine KL.c rfl Tryd.call93 (refValid_any _ _ q1) ?_
    rintro _ _ ⟨rfl, rfl⟩
    refine KL.run 1 rfl ?_
    refine KL.cq 26 rfl ?_ ?_
    · intro hg26
      refine KL.run 1 rfl (KL.ld rfl (cell_of bx rfl) ?_)
      refine KL.m (M.toBytes rfl Tryd.underlying9 Tryd.underlying36 Tryd.underlying5 rfl (by omega)) rfl ?_
      rintro v6 H6 ⟨t6, e6, n6, z6⟩
      have o0 := o0.trans n6
      have bx := (n6).blk bx
      have wo := wo.old n6
      have q1 := q1.old n6
      have q2 := t6
      refine KL.c rfl Tryd.call93 (refValid_any _ _ q2) ?_
      rintro _ _ ⟨rfl, rfl⟩
      refine KL.q ((R.pick rfl rfl rfl).val (congrArg Value.bool (show _ = (Utf.valid (ints s1) && Utf.valid (ints s2)) from by rw [hg26]; rfl))) rfl ?_
      refine KL.fin 1 rfl ?_
      refine KQ.meet () ?_ ?_
      · exact Sub.all rfl
      exact ⟨wo, bx, o0, by omega⟩
    intro hg26
    refine KL.run 4 rfl ?_
    refine KL.q ((R.pick rfl rfl rfl).val (congrArg Value.bool (show _ = (Utf.valid (ints s1) && Utf.valid (ints s2)) from by rw [hg26]; rfl))) rfl ?_
    refine KL.fin 1 rfl ?_
    refine KQ.meet () ?_ ?_
    · exact Sub.all rfl
    exact ⟨wo, bx, o0, by omega⟩
  rintro _ H7 ⟨wo, bx, o0, zz⟩
  have zl := o0.1
  have zb := blk_lt bx
  have hvb : vblock vn < Array.size H7 := by
    rcases wo.lt with e | e
    · rw [e]; show 0 < _; omega
    exact e.2
  refine KQ.sr (KL.b0 bt47 rfl rfl (KL.b0 bt49 rfl rfl ?_))
  refine KL.m (M.alloc rfl zr47 rfl) rfl ?_
  rintro _ H8 ⟨rfl, n8⟩
  have z8 := n8.2.1
  have o0 := o0.trans n8.1
  have wo := wo.old n8.1
  have bx := (n8.1).blk bx
  have b8 := n8.2.2
  have bn := b8
  refine KL.m (M.alloc rfl zr49 rfl) rfl ?_
  rintro _ H9 ⟨rfl, n9⟩
  have z9 := n9.2.1
  have o0 := o0.trans n9.1
  have wo := wo.old n9.1
  have bx := (n9.1).blk bx
  have bn := (n9.1).blk bn
  have b9 := n9.2.2
  have bf := b9
  refine KL.opS (S.storeAgg rfl sz47 rfl rfl (rfl) (by intro z hz; simp only [List.mem_cons, List.not_mem_nil, or_false] at hz; rcases hz with rfl | rfl <;> rfl) bn (by simp)) rfl rfl ?_
  rintro H10 ⟨u10, b10⟩
  have o0 := o0.upd u10 (by omega)
  have zu10 := u10.1
  have wo := wo.upd u10 (by exact .inr (by omega))
  have bx := ((u10).2 _ (by omega)).trans bx
  have bf := ((u10).2 _ (by omega)).trans bf
  have bn := b10
  rw [over_all (by rfl)] at bn
  refine KL.opS (S.storeAgg rfl sz49 rfl rfl (rfl) (by intro z hz; simp only [List.mem_cons, List.not_mem_nil, or_false] at hz; rcases hz with rfl | rfl <;> rfl) bf (by simp)) rfl rfl ?_
  rintro H11 ⟨u11, b11⟩
  have o0 := o0.upd u11 (by omega)
  have zu11 := u11.1
  have wo := wo.upd u11 (by exact .inr (by omega))
  have bx := ((u11).2 _ (by omega)).trans bx
  have bn := ((u11).2 _ (by omega)).trans bn
  have bf := b11
  rw [over_all (by rfl)] at bf
  refine KL.nil (KQ.sr (KL.fin 1 rfl (KQ.sr (KL.fin 1 rfl (KQ.seq (KC.seq (KC.sr (KL.run 1 rfl ?_))))))))
  refine KL.ld rfl (cell_of bx rfl) (KL.nil (KQ.seq (KC.block (KC.sr (KL.e0 rfl (by decide) (KL.fin 1 rfl (KQ.seq (KC.condF rfl (KC.seq (KC.sr (KL.e0 rfl (by decide) ?_)))))))))))
  refine KL.fin 1 rfl (KQ.seq (KC.condF rfl (KC.region (KL.q ((R.eql rfl rfl rfl).val (congrArg Value.bool (decide_eq_true rfl))) rfl (KL.fin 1 rfl (KQ.seq (KC.condT rfl (KC.sr (KL.run 1 rfl (KL.lda rfl (cells_mid (k := 4) (n := 2) bx) rfl ?_))))))))))
  refine KL.c rfl Tryd.call89 (rlimits_any la lb rla rlb) ?_
  rintro _ H12 ⟨⟨vm, lm, rfl, wm, hlm, hmm⟩, ox⟩
  have zc_H12 := (ox).1
  have o0 := o0.trans ox
  have wo := wo.old ox
  have bx := (ox).blk bx
  have bn := (ox).blk bn
  have bf := (ox).blk bf
  have zm := ox.1
  refine KL.fin 5 rfl (KQ.sr (KL.run 2 rfl ?_))
  refine KL.cq 62 rfl ?_ ?_
  · intro hg62
    refine KL.run 1 rfl (KL.ld rfl (cell_of bx rfl) (KL.run 3 rfl ?_))
    refine KL.cq 67 rfl ?_ ?_
    · intro hg67
      refine KL.run 1 rfl (KL.lda rfl (cells_mid (k := 6) (n := 2) bx) rfl (KL.lda rfl (cells_of bf) rfl (KL.q (R.eqlSt rfl Tryd.underlying49 (by kernel_rfl) (by kernel_rfl) rfl rfl (EqFs.int (by decide) Tryd.underlying5 rfl rfl (EqFs.bool (by decide) Tryd.underlying4 rfl rfl EqFs.nil))) rfl (KL.fin 2 rfl (KQ.sr (KL.run 1 rfl (KL.ld rfl (cell_of bx rfl) (KL.e0 rfl (by decide) (KL.nil (KQ.seq (KC.condF rfl ?_)))))))))))
      refine KC.skip (KQ.normBlock (KQ.sr (KL.run 2 rfl ?_)))
      have lt13 := wo.lt
      refine KL.m (M.append rfl Tryd.underlying36 inf5 rfl (by decide) rfl rfl wo (by exact (wm.sl (emptyOld _) (by decide))) (fun _ _ h _ => h) (by omega) (by (simp only [List.length_append, List.length_cons, List.length_nil]; omega)) (by unfold maxLen; ((simp only [List.length_append, List.length_cons, List.length_nil]; omega)))) rfl ?_
      rintro vz H13 ⟨w13, g13⟩
      have ob13 := g13.oldB wo (by omega)
      have o0 := o0.then ob13 (by omega)
      have z13 := ob13.1
      have bx := (g13.2 _ (blk_lt bx) (by exact lt13.imp id (fun h => by omega))).trans bx
      have bn := (g13.2 _ (blk_lt bn) (by exact .inr (by omega))).trans bn
      have bf := (g13.2 _ (blk_lt bf) (by exact .inr (by omega))).trans bf
      have wo := w13
      refine KL.run 2 rfl ?_
      refine KL.cq 103 rfl ?_ ?_
      · intro hg103
        refine KL.fin 4 rfl (KQ.seq (KC.ret (KQ.ofRet (KQ.fin2 Tryd.results88 rfl rfl ?_))))
        exact ⟨⟨_, _, congrArg (fun b => Value.tuple #[_, Value.bool b]) (by unfold En.impO En.impO2; dsimp only; simp_all), wo.weak (by omega), by simp only [List.length_append, List.length_cons, List.length_nil]; omega, fun h => by rw [hmm (En.impO_2 h)]; unfold En.impB En.impM; simp⟩, o0⟩
      intro hg103
      refine KL.fin 4 rfl (KQ.seq (KC.ret (KQ.ofRet (KQ.fin2 Tryd.results88 rfl rfl ?_))))
      exact ⟨⟨_, _, congrArg (fun b => Value.tuple #[_, Value.bool b]) (by unfold En.impO En.impO2; dsimp only; simp_all), wo.weak (by omega), by simp only [List.length_append, List.length_cons, List.length_nil]; omega, fun h => by rw [hmm (En.impO_2 h)]; unfold En.impB En.impM; simp⟩, o0⟩
    intro hg67
    refine KL.fin 6 rfl (KQ.sr (KL.run 1 rfl (KL.ld rfl (cell_of bx rfl) (KL.e0 rfl (by decide) (KL.nil (KQ.seq (KC.condF rfl (KC.skip (KQ.normBlock (KQ.seq (KC.seq ?_)))))))))))
    refine KC.region (KL.run 2 rfl ?_)
    have lt14 := wo.lt
    refine KL.m (M.append rfl Tryd.underlying36 inf5 rfl (by decide) rfl rfl wo (by exact (wm.sl (emptyOld _) (by decide))) (fun _ _ h _ => h) (by omega) (by (simp only [List.length_append, List.length_cons, List.length_nil]; omega)) (by unfold maxLen; ((simp only [List.length_append, List.length_cons, List.length_nil]; omega)))) rfl ?_
    rintro vz H14 ⟨w14, g14⟩
    have ob14 := g14.oldB wo (by omega)
    have o0 := o0.then ob14 (by omega)
    have z14 := ob14.1
    have bx := (g14.2 _ (blk_lt bx) (by exact lt14.imp id (fun h => by omega))).trans bx
    have bn := (g14.2 _ (blk_lt bn) (by exact .inr (by omega))).trans bn
    have bf := (g14.2 _ (blk_lt bf) (by exact .inr (by omega))).trans bf
    have wo := w14
    refine KL.run 2 rfl ?_
    refine KL.cq 103 rfl ?_ ?_
    · intro hg103
      refine KL.fin 4 rfl (KQ.seq (KC.ret (KQ.ofRet (KQ.fin2 Tryd.results88 rfl rfl ?_))))
      exact ⟨⟨_, _, congrArg (fun b => Value.tuple #[_, Value.bool b]) (by unfold En.impO En.impO2; dsimp only; simp_all), wo.weak (by omega), by simp only [List.length_append, List.length_cons, List.length_nil]; omega, fun h => by rw [hmm (En.impO_2 h)]; unfold En.impB En.impM; simp⟩, o0⟩
    intro hg103
    refine KL.fin 4 rfl (KQ.seq (KC.ret (KQ.ofRet (KQ.fin2 Tryd.results88 rfl rfl ?_))))
    exact ⟨⟨_, _, congrArg (fun b => Value.tuple #[_, Value.bool b]) (by unfold En.impO En.impO2; dsimp only; simp_all), wo.weak (by omega), by simp only [List.length_append, List.length_cons, List.length_nil]; omega, fun h => by rw [hmm (En.impO_2 h)]; unfold En.impB En.impM; simp⟩, o0⟩
  intro hg62
  refine KL.fin 11 rfl (KQ.sr (KL.run 1 rfl (KL.ld rfl (cell_of bx rfl) (KL.e0 rfl (by decide) (KL.nil (KQ.seq (KC.condF rfl (KC.skip (KQ.normBlock (KQ.seq (KC.seq ?_)))))))))))
  refine KC.region (KL.run 2 rfl ?_)
  have lt15 := wo.lt
  refine KL.m (M.append rfl Tryd.underlying36 inf5 rfl (by decide) rfl rfl wo (by exact (wm.sl (emptyOld _) (by decide))) (fun _ _ h _ => h) (by omega) (by (simp only [List.length_append, List.length_cons, List.length_nil]; omega)) (by unfold maxLen; ((simp only [List.length_append, List.length_cons, List.length_nil]; omega)))) rfl ?_
  rintro vz H15 ⟨w15, g15⟩
  have ob15 := g15.oldB wo (by omega)
  have o0 := o0.then ob15 (by omega)
  have z15 := ob15.1
  have bx := (g15.2 _ (blk_lt bx) (by exact lt15.imp id (fun h => by omega))).trans bx
  have bn := (g15.2 _ (blk_lt bn) (by exact .inr (by omega))).trans bn
  have bf := (g15.2 _ (blk_lt bf) (by exact .inr (by omega))).trans bf
  have wo := w15
  refine KL.run 2 rfl ?_
  refine KL.cq 103 rfl ?_ ?_
  · intro hg103
    refine KL.fin 4 rfl (KQ.seq (KC.ret (KQ.ofRet (KQ.fin2 Tryd.results88 rfl rfl ?_))))
    exact ⟨⟨_, _, congrArg (fun b => Value.tuple #[_, Value.bool b]) (by unfold En.impO En.impO2; dsimp only; simp_all), wo.weak (by omega), by simp only [List.length_append, List.length_cons, List.length_nil]; omega, fun h => by rw [hmm (En.impO_2 h)]; unfold En.impB En.impM; simp⟩, o0⟩
  intro hg103
  refine KL.fin 4 rfl (KQ.seq (KC.ret (KQ.ofRet (KQ.fin2 Tryd.results88 rfl rfl ?_))))
  exact ⟨⟨_, _, congrArg (fun b => Value.tuple #[_, Value.bool b]) (by unfold En.impO En.impO2; dsimp only; simp_all), wo.weak (by omega), by simp only [List.length_append, List.length_cons, List.length_nil]; omega, fun h => by rw [hmm (En.impO_2 h)]; unfold En.impB En.impM; simp⟩, o0⟩
theorem rimp_3 {H : Heap} (s1 s2 : ByteArray) (ty la lb gt : Int) (gm : Bool) (h1 : s1.size ≤ 4000) (h2 : s2.size ≤ 4000) (rty : InR .u32 ty) (rla : InR .u32 la) (rlb : InR .i64 lb) (rgt : InR .u8 gt) : Ct Tryd.prog 88 [.agg [.string s1, .string s2, .int .u8 3, .int .u32 ty, .int .u32 la, .int .i64 lb, .int .u8 gt, .bool gm].toArray] H (fun u H' => RB H (En.impB ⟨s1, s2, 3, ty, (la, lb), (gt, gm)⟩) (En.impO ⟨s1, s2, 3, ty, (la, lb), (gt, gm)⟩) 10000 u H') := by
  refine Ct.mk Tryd.func88 rfl Tryd.ntmps88 rfl ?_
  intro W0 hW0
  have o0 : Old H H := Old.refl H
  have ht1 := En.txt_le h1
  have ht2 := En.txt_le h2
  have hut := En.u_le ty
  refine KC.sr ?_
  refine KL.m (M.box rfl rfl rfl) rfl ?_
  rintro _ H1 ⟨rfl, n1⟩
  have z1 := n1.2.1
  have o0 := o0.trans n1.1
  have b1 := n1.2.2
  have bx := b1
  refine KL.fin 2 rfl (KQ.seq (KC.seq ?_))
  refine KC.valsL [10, 11, 12, 13, 14, 15, 16, 4] [[], [0], [1], [], [3], [4, 2], [2, 5, 5], [6, 6, 0, 1, 2, 3, 4, 5, 6]] (fun (i : Nat) (u : Value) (Hc : Heap) => match i with | 0 => u = .pointer (some ⟨Array.size H, 0, none⟩) | 1 => u = .string s1 | 2 => Own 1 (EInt .u8) 5 #[] (Array.size H1) Hc u (En.txt s1) | 3 => u = .pointer (some ⟨Array.size H, 1, none⟩) | 4 => u = .string s2 | 5 => Own 1 (EInt .u8) 5 #[] (Array.size H1) Hc u (En.txt s2) | 6 => Own 1 (EInt .u8) 5 #[] (Array.size H1) Hc u (En.txt s1 ++ En.txt s2) | 7 => Own 1 (EInt .u8) 5 #[] (Array.size H1) Hc u (En.txt s1 ++ En.txt s2) | _ => True) (by kernel_rfl) (by kernel_rfl) (by kernel_rfl) (by kernel_rfl) ?_ ?_
  · intro i o ho u Hc og hp
    have hst : ∀ H2, Old Hc H2 → ∀ j x, (fun (i : Nat) (u : Value) (Hc : Heap) => match i with | 0 => u = .pointer (some ⟨Array.size H, 0, none⟩) | 1 => u = .string s1 | 2 => Own 1 (EInt .u8) 5 #[] (Array.size H1) Hc u (En.txt s1) | 3 => u = .pointer (some ⟨Array.size H, 1, none⟩) | 4 => u = .string s2 | 5 => Own 1 (EInt .u8) 5 #[] (Array.size H1) Hc u (En.txt s2) | 6 => Own 1 (EInt .u8) 5 #[] (Array.size H1) Hc u (En.txt s1 ++ En.txt s2) | 7 => Own 1 (EInt .u8) 5 #[] (Array.size H1) Hc u (En.txt s1 ++ En.txt s2) | _ => True) j x Hc → (fun (i : Nat) (u : Value) (Hc : Heap) => match i with | 0 => u = .pointer (some ⟨Array.size H, 0, none⟩) | 1 => u = .string s1 | 2 => Own 1 (EInt .u8) 5 #[] (Array.size H1) Hc u (En.txt s1) | 3 => u = .pointer (some ⟨Array.size H, 1, none⟩) | 4 => u = .string s2 | 5 => Own 1 (EInt .u8) 5 #[] (Array.size H1) Hc u (En.txt s2) | 6 => Own 1 (EInt .u8) 5 #[] (Array.size H1) Hc u (En.txt s1 ++ En.txt s2) | 7 => Own 1 (EInt .u8) 5 #[] (Array.size H1) Hc u (En.txt s1 ++ En.txt s2) | _ => True) j x H2 := by
      intro H2 o2 j x hx
      match j, hx with
      | 0, hx => exact hx
      | 1, hx => exact hx
      | 2, hx => exact hx.old o2
      | 3, hx => exact hx
      | 4, hx => exact hx
      | 5, hx => exact hx.old o2
      | 6, hx => exact hx.old o2
      | 7, hx => exact hx.old o2
      | j + 8, hx => exact hx
    match i, ho, hp with
    | 0, ho, hp =>
      have e := Option.some.inj (ho : some _ = some o)
      subst e
      change ∀ j ∈ ([] : List Nat), _ at hp
      change Ob _ _ (([] : Env) ++ _) _ _ _
      exact .inl ⟨rfl, D1.op (R.fieldAddr rfl Tryd.underlying51 rfl rfl sz9 rfl) ⟨rfl, og, fun _ _ h => h⟩⟩
    | 1, ho, hp =>
      have e := Option.some.inj (ho : some _ = some o)
      subst e
      change ∀ j ∈ ([0] : List Nat), _ at hp
      have h10 : (u 0) = .pointer (some ⟨Array.size H, 0, none⟩) := hp 0 (by simp)
      change Ob _ _ (([(10, u 0)] : Env) ++ _) _ _ _
      simp only [h10]
      exact .inl ⟨rfl, D1.op (R.load rfl Tryd.underlying9 rfl rfl (cell_of (og.blk bx) rfl)) ⟨rfl, og, fun _ _ h => h⟩⟩
    | 2, ho, hp =>
      have e := Option.some.inj (ho : some _ = some o)
      subst e
      change ∀ j ∈ ([1] : List Nat), _ at hp
      have h11 : (u 1) = .string s1 := hp 1 (by simp)
      change Ob _ _ (([(11, u 1)] : Env) ++ _) _ _ _
      simp only [h11]
      exact .inl ⟨rfl, D1.call rfl rfl rfl rfl Tryd.call92 (text_any s1 (by omega)) (by rintro _ H2 ⟨w, ox⟩; exact ⟨w.weak (by have := og.1; omega), og.trans ox, hst _ ox⟩)⟩
    | 3, ho, hp =>
      have e := Option.some.inj (ho : some _ = some o)
      subst e
      change ∀ j ∈ ([] : List Nat), _ at hp
      change Ob _ _ (([] : Env) ++ _) _ _ _
      exact .inl ⟨rfl, D1.op (R.fieldAddr rfl Tryd.underlying51 rfl rfl sz9 rfl) ⟨rfl, og, fun _ _ h => h⟩⟩
    | 4, ho, hp =>
      have e := Option.some.inj (ho : some _ = some o)
      subst e
      change ∀ j ∈ ([3] : List Nat), _ at hp
      have h13 : (u 3) = .pointer (some ⟨Array.size H, 1, none⟩) := hp 3 (by simp)
      change Ob _ _ (([(13, u 3)] : Env) ++ _) _ _ _
      simp only [h13]
      exact .inl ⟨rfl, D1.op (R.load rfl Tryd.underlying9 rfl rfl (cell_of (og.blk bx) rfl)) ⟨rfl, og, fun _ _ h => h⟩⟩
    | 5, ho, hp =>
      have e := Option.some.inj (ho : some _ = some o)
      subst e
      change ∀ j ∈ ([4, 2] : List Nat), _ at hp
      have h12 : Own 1 (EInt .u8) 5 #[] (Array.size H1) Hc (u 2) (En.txt s1) := hp 2 (by simp)
      have h14 : (u 4) = .string s2 := hp 4 (by simp)
      change Ob _ _ (([(14, u 4), (12, u 2)] : Env) ++ _) _ _ _
      simp only [h14]
      exact .inl ⟨rfl, D1.call rfl rfl rfl rfl Tryd.call92 (text_any s2 (by omega)) (by rintro _ H2 ⟨w, ox⟩; exact ⟨w.weak (by have := og.1; omega), og.trans ox, hst _ ox⟩)⟩
    | 6, ho, hp =>
      have e := Option.some.inj (ho : some _ = some o)
      subst e
      change ∀ j ∈ ([2, 5, 5] : List Nat), _ at hp
      have h12 : Own 1 (EInt .u8) 5 #[] (Array.size H1) Hc (u 2) (En.txt s1) := hp 2 (by simp)
      have h15 : Own 1 (EInt .u8) 5 #[] (Array.size H1) Hc (u 5) (En.txt s2) := hp 5 (by simp)
      change Ob _ _ (([(12, u 2), (15, u 5), (15, u 5)] : Env) ++ _) _ _ _
      refine .inl ⟨rfl, D1.mem (M.appendQ (m := En.txt s2) rfl Tryd.underlying36 inf5 rfl rfl rfl h12 (En.txt_pos (by omega)) ((h15.sl (emptyOld _) (by decide))) og.1 (by omega) (by unfold maxLen; omega) (En.txt_pos (by omega))) ?_⟩
      rintro v2 H2 ⟨k1, k2⟩
      rcases k2 with k2 | k2
      · exact ⟨k1, og.trans k2, hst _ k2⟩
      refine ⟨k1, k2.oldFrom og, ?_⟩
      intro j z hz
      match j, hz with
      | 0, hz => exact hz
      | 1, hz => exact hz
      | 2, hz => exact Own.inPlace hz k2 (Nat.le_refl _)
      | 3, hz => exact hz
      | 4, hz => exact hz
      | 5, hz => exact Own.inPlaceP (E := []) hz h12 k2 (fun r h => En.txt_pre (by omega) (by omega) h)
      | 6, hz => exact Own.inPlaceEq hz k2 (by rw [List.length_append]) (by have := En.txt_pos (a := s1) (by omega); omega) k1
      | 7, hz => exact Own.inPlaceEq hz k2 (by rw [List.length_append]) (by have := En.txt_pos (a := s1) (by omega); omega) k1
      | j + 8, hz => exact hz
    | 7, ho, hp =>
      have e := Option.some.inj (ho : some _ = some o)
      subst e
      change ∀ j ∈ ([6, 6, 0, 1, 2, 3, 4, 5, 6] : List Nat), _ at hp
      have h10 : (u 0) = .pointer (some ⟨Array.size H, 0, none⟩) := hp 0 (by simp)
      have h11 : (u 1) = .string s1 := hp 1 (by simp)
      have h12 : Own 1 (EInt .u8) 5 #[] (Array.size H1) Hc (u 2) (En.txt s1) := hp 2 (by simp)
      have h13 : (u 3) = .pointer (some ⟨Array.size H, 1, none⟩) := hp 3 (by simp)
      have h14 : (u 4) = .string s2 := hp 4 (by simp)
      have h15 : Own 1 (EInt .u8) 5 #[] (Array.size H1) Hc (u 5) (En.txt s2) := hp 5 (by simp)
      have h16 : Own 1 (EInt .u8) 5 #[] (Array.size H1) Hc (u 6) (En.txt s1 ++ En.txt s2) := hp 6 (by simp)
      change Ob _ _ (([(16, u 6), (16, u 6), (10, u 0), (11, u 1), (12, u 2), (13, u 3), (14, u 4), (15, u 5), (16, u 6)] : Env) ++ _) _ _ _
      simp only [h10, h11, h13, h14]
      exact .inl ⟨rfl, D1.op (R.assign rfl rfl) ⟨h16, og, fun _ _ h => h⟩⟩
    | i + 8, ho, hp => exact absurd ho (by simp)
  intro u H2 og2 hv
  have h10 : (u 0) = .pointer (some ⟨Array.size H, 0, none⟩) := hv 0 (by decide)
  have h11 : (u 1) = .string s1 := hv 1 (by decide)
  have h12 : Own 1 (EInt .u8) 5 #[] (Array.size H1) H2 (u 2) (En.txt s1) := hv 2 (by decide)
  have h13 : (u 3) = .pointer (some ⟨Array.size H, 1, none⟩) := hv 3 (by decide)
  have h14 : (u 4) = .string s2 := hv 4 (by decide)
  have h15 : Own 1 (EInt .u8) 5 #[] (Array.size H1) H2 (u 5) (En.txt s2) := hv 5 (by decide)
  have h16 : Own 1 (EInt .u8) 5 #[] (Array.size H1) H2 (u 6) (En.txt s1 ++ En.txt s2) := hv 6 (by decide)
  have h4 : Own 1 (EInt .u8) 5 #[] (Array.size H1) H2 (u 7) (En.txt s1 ++ En.txt s2) := hv 7 (by decide)
  change KQ _ _ _ _ (([(10, u 0), (11, u 1), (12, u 2), (13, u 3), (14, u 4), (15, u 5), (16, u 6), (4, u 7)] : Env) ++ _) _
  have o0 := o0.trans og2
  have bx := (og2).blk bx
  have z2 := og2.1
  simp only [h10, h11, h13, h14]
  have wo := h4
  refine KQ.sr (KL.run 2 rfl (KL.ld rfl (cell_of bx rfl) ?_))
  refine KL.m (M.lit rfl Tryd.underlying36 zs5 (by decide) rfl rfl rfl) rfl ?_
  rintro _ H3 ⟨rfl, n3⟩
  have z3 := n3.2.1
  have o0 := o0.trans n3.1
  have bx := (n3.1).blk bx
  have wo := wo.old n3.1
  have b3 := n3.2.2
  have s0 : Sl 1 (EInt .u8) H3 _ [3] := Sl.lits (l := [3]) n3 rfl (by simp) (by intro y hy; simp only [List.mem_cons, List.not_mem_nil, or_false] at hy; subst hy; dsimp only [InR] at *; omega)
  have lt4 := wo.lt
  refine KL.m (M.append rfl Tryd.underlying36 inf5 rfl (by decide) rfl rfl wo s0 (fun _ _ h _ => h) (by omega) (by (simp only [List.length_append, List.length_cons, List.length_nil]; omega)) (by unfold maxLen; ((simp only [List.length_append, List.length_cons, List.length_nil]; omega)))) rfl ?_
  rintro vn H4 ⟨w4, g4⟩
  have ob4 := g4.oldB wo (by omega)
  have o0 := o0.then ob4 (by omega)
  have z4 := ob4.1
  have bx := (g4.2 _ (blk_lt bx) (by exact lt4.imp id (fun h => by omega))).trans bx
  have wo := w4
  refine KL.fin 1 rfl (KQ.seq (KC.seq ?_))
  refine KC.cutD (κ := Unit) [22, 23, 24, 25, 26, 27, 28, 29, 30, 31, 5] (fun _ => [(5, .bool (Utf.valid (ints s1) && Utf.valid (ints s2)))]) (fun _ Hl => Own 1 (EInt .u8) 5 #[] (Array.size H1) Hl vn (En.txt s1 ++ En.txt s2 ++ [3]) ∧ Hl[Array.size H]? = some (.cells [.string s1, .string s2, .int .u8 3, .int .u32 ty, .int .u32 la, .int .i64 lb, .int .u8 gt, .bool gm].toArray 51 (0, 0)) ∧ Old H Hl ∧ Array.size H1 ≤ Array.size Hl) ?_ ?_
  · skip
    refine KC.region (KL.run 1 rfl (KL.ld rfl (cell_of bx rfl) ?_))
    refine KL.m (M.toBytes rfl Tryd.underlying9 Tryd.underlying36 Tryd.underlying5 rfl (by omega)) rfl ?_
    rintro v5 H5 ⟨t5, e5, n5, z5⟩
    have o0 := o0.trans n5
    have bx := (n5).blk bx
    have wo := wo.old n5
    have q1 := t5
    have hvb : vblock vn < Array.size H5 := by
      rcases wo.lt with e | e
      · rw [e]; show 0 < _; omega
      exact e.2
    refine KL.c rfl Tryd.call93 (refValid_any _ _ q1) ?_
    rintro _ _ ⟨rfl, rfl⟩
    refine KL.run 1 rfl ?_
    refine KL.cq 26 rfl ?_ ?_
    · intro hg26
      refine KL.run 1 rfl (KL.ld rfl (cell_of bx rfl) ?_)
      refine KL.m (M.toBytes rfl Tryd.underlying9 Tryd.underlying36 Tryd.underlying5 rfl (by omega)) rfl ?_
      rintro v6 H6 ⟨t6, e6, n6, z6⟩
      have o0 := o0.trans n6
      have bx := (n6).blk bx
      have wo := wo.old n6
      have q1 := q1.old n6
      have q2 := t6
      refine KL.c rfl Tryd.call93 (refValid_any _ _ q2) ?_
      rintro _ _ ⟨rfl, rfl⟩
      refine KL.q ((R.pick rfl rfl rfl).val (congrArg Value.bool (show _ = (Utf.valid (ints s1) && Utf.valid (ints s2)) from by rw [hg26]; rfl))) rfl ?_
      refine KL.fin 1 rfl ?_
      refine KQ.meet () ?_ ?_
      · exact Sub.all rfl
      exact ⟨wo, bx, o0, by omega⟩
    intro hg26
    refine KL.run 4 rfl ?_
    refine KL.q ((R.pick rfl rfl rfl).val (congrArg Value.bool (show _ = (Utf.valid (ints s1) && Utf.valid (ints s2)) from by rw [hg26]; rfl))) rfl ?_
    refine KL.fin 1 rfl ?_
    refine KQ.meet () ?_ ?_
    · exact Sub.all rfl
    exact ⟨wo, bx, o0, by omega⟩
  rintro _ H7 ⟨wo, bx, o0, zz⟩
  have zl := o0.1
  have zb := blk_lt bx
  have hvb : vblock vn < Array.size H7 := by
    rcases wo.lt with e | e
    · rw [e]; show 0 < _; omega
    exact e.2
  refine KQ.sr (KL.b0 bt47 rfl rfl (KL.b0 bt49 rfl rfl ?_))
  refine KL.m (M.alloc rfl zr47 rfl) rfl ?_
  rintro _ H8 ⟨rfl, n8⟩
  have z8 := n8.2.1
  have o0 := o0.trans n8.1
  have wo := wo.old n8.1
  have bx := (n8.1).blk bx
  have b8 := n8.2.2
  have bn := b8
  refine KL.m (M.alloc rfl zr49 rfl) rfl ?_
  rintro _ H9 ⟨rfl, n9⟩
  have z9 := n9.2.1
  have o0 := o0.trans n9.1
  have wo := wo.old n9.1
  have bx := (n9.1).blk bx
  have bn := (n9.1).blk bn
  have b9 := n9.2.2
  have bf := b9
  refine KL.opS (S.storeAgg rfl sz47 rfl rfl (rfl) (by intro z hz; simp only [List.mem_cons, List.not_mem_nil, or_false] at hz; rcases hz with rfl | rfl <;> rfl) bn (by simp)) rfl rfl ?_
  rintro H10 ⟨u10, b10⟩
  have o0 := o0.upd u10 (by omega)
  have zu10 := u10.1
  have wo := wo.upd u10 (by exact .inr (by omega))
  have bx := ((u10).2 _ (by omega)).trans bx
  have bf := ((u10).2 _ (by omega)).trans bf
  have bn := b10
  rw [over_all (by rfl)] at bn
  refine KL.opS (S.storeAgg rfl sz49 rfl rfl (rfl) (by intro z hz; simp only [List.mem_cons, List.not_mem_nil, or_false] at hz; rcases hz with rfl | rfl <;> rfl) bf (by simp)) rfl rfl ?_
  rintro H11 ⟨u11, b11⟩
  have o0 := o0.upd u11 (by omega)
  have zu11 := u11.1
  have wo := wo.upd u11 (by exact .inr (by omega))
  have bx := ((u11).2 _ (by omega)).trans bx
  have bn := ((u11).2 _ (by omega)).trans bn
  have bf := b11
  rw [over_all (by rfl)] at bf
  refine KL.nil (KQ.sr (KL.fin 1 rfl (KQ.sr (KL.fin 1 rfl (KQ.seq (KC.seq (KC.sr (KL.run 1 rfl ?_))))))))
  refine KL.ld rfl (cell_of bx rfl) (KL.nil (KQ.seq (KC.block (KC.sr (KL.e0 rfl (by decide) (KL.fin 1 rfl (KQ.seq (KC.condF rfl (KC.seq (KC.sr (KL.e0 rfl (by decide) ?_)))))))))))
  refine KL.fin 1 rfl (KQ.seq (KC.condF rfl (KC.region (KL.e0 rfl (by decide) (KL.fin 1 rfl (KQ.seq (KC.condF rfl (KC.sr (KL.q ((R.eql rfl rfl rfl).val (congrArg Value.bool (decide_eq_true rfl))) rfl (KL.fin 1 rfl (KQ.seq (KC.condT rfl ?_))))))))))))
  refine KC.sr (KL.run 1 rfl (KL.lda rfl (cells_mid (k := 6) (n := 2) bx) rfl ?_))
  refine KL.c rfl Tryd.call90 (rglob_any gt gm rgt) ?_
  rintro _ H12 ⟨⟨vm, lm, rfl, wm, hlm, hmm⟩, ox⟩
  have zc_H12 := (ox).1
  have o0 := o0.trans ox
  have wo := wo.old ox
  have bx := (ox).blk bx
  have bn := (ox).blk bn
  have bf := (ox).blk bf
  have zm := ox.1
  refine KL.fin 5 rfl (KQ.r (KL.run 2 rfl ?_))
  refine KL.cq 88 rfl ?_ ?_
  · intro hg88
    refine KL.run 1 rfl (KL.ld rfl (cell_of bx rfl) (KL.run 3 rfl ?_))
    refine KL.cq 93 rfl ?_ ?_
    · intro hg93
      refine KL.run 1 rfl (KL.lda rfl (cells_mid (k := 4) (n := 2) bx) rfl (KL.lda rfl (cells_of bn) rfl (KL.q (R.eqlSt rfl Tryd.underlying47 (by kernel_rfl) (by kernel_rfl) rfl rfl (EqFs.int (by decide) Tryd.underlying28 rfl rfl (EqFs.int (by decide) Tryd.underlying2 rfl rfl EqFs.nil))) rfl (KL.fin 2 rfl (KQ.normBlock (KQ.sr (KL.run 2 rfl ?_)))))))
      have lt13 := wo.lt
      refine KL.m (M.append rfl Tryd.underlying36 inf5 rfl (by decide) rfl rfl wo (by exact (wm.sl (emptyOld _) (by decide))) (fun _ _ h _ => h) (by omega) (by (simp only [List.length_append, List.length_cons, List.length_nil]; omega)) (by unfold maxLen; ((simp only [List.length_append, List.length_cons, List.length_nil]; omega)))) rfl ?_
      rintro vz H13 ⟨w13, g13⟩
      have ob13 := g13.oldB wo (by omega)
      have o0 := o0.then ob13 (by omega)
      have z13 := ob13.1
      have bx := (g13.2 _ (blk_lt bx) (by exact lt13.imp id (fun h => by omega))).trans bx
      have bn := (g13.2 _ (blk_lt bn) (by exact .inr (by omega))).trans bn
      have bf := (g13.2 _ (blk_lt bf) (by exact .inr (by omega))).trans bf
      have wo := w13
      refine KL.run 2 rfl ?_
      refine KL.cq 103 rfl ?_ ?_
      · intro hg103
        refine KL.fin 4 rfl (KQ.seq (KC.ret (KQ.ofRet (KQ.fin2 Tryd.results88 rfl rfl ?_))))
        exact ⟨⟨_, _, congrArg (fun b => Value.tuple #[_, Value.bool b]) (by unfold En.impO En.impO2; dsimp only; simp_all), wo.weak (by omega), by simp only [List.length_append, List.length_cons, List.length_nil]; omega, fun h => by rw [hmm (En.impO_2 h)]; unfold En.impB En.impM; simp⟩, o0⟩
      intro hg103
      refine KL.fin 4 rfl (KQ.seq (KC.ret (KQ.ofRet (KQ.fin2 Tryd.results88 rfl rfl ?_))))
      exact ⟨⟨_, _, congrArg (fun b => Value.tuple #[_, Value.bool b]) (by unfold En.impO En.impO2; dsimp only; simp_all), wo.weak (by omega), by simp only [List.length_append, List.length_cons, List.length_nil]; omega, fun h => by rw [hmm (En.impO_2 h)]; unfold En.impB En.impM; simp⟩, o0⟩
    intro hg93
    refine KL.fin 6 rfl (KQ.normBlock (KQ.sr (KL.run 2 rfl ?_)))
    have lt14 := wo.lt
    refine KL.m (M.append rfl Tryd.underlying36 inf5 rfl (by decide) rfl rfl wo (by exact (wm.sl (emptyOld _) (by decide))) (fun _ _ h _ => h) (by omega) (by (simp only [List.length_append, List.length_cons, List.length_nil]; omega)) (by unfold maxLen; ((simp only [List.length_append, List.length_cons, List.length_nil]; omega)))) rfl ?_
    rintro vz H14 ⟨w14, g14⟩
    have ob14 := g14.oldB wo (by omega)
    have o0 := o0.then ob14 (by omega)
    have z14 := ob14.1
    have bx := (g14.2 _ (blk_lt bx) (by exact lt14.imp id (fun h => by omega))).trans bx
    have bn := (g14.2 _ (blk_lt bn) (by exact .inr (by omega))).trans bn
    have bf := (g14.2 _ (blk_lt bf) (by exact .inr (by omega))).trans bf
    have wo := w14
    refine KL.run 2 rfl ?_
    refine KL.cq 103 rfl ?_ ?_
    · intro hg103
      refine KL.fin 4 rfl (KQ.seq (KC.ret (KQ.ofRet (KQ.fin2 Tryd.results88 rfl rfl ?_))))
      exact ⟨⟨_, _, congrArg (fun b => Value.tuple #[_, Value.bool b]) (by unfold En.impO En.impO2; dsimp only; simp_all), wo.weak (by omega), by simp only [List.length_append, List.length_cons, List.length_nil]; omega, fun h => by rw [hmm (En.impO_2 h)]; unfold En.impB En.impM; simp⟩, o0⟩
    intro hg103
    refine KL.fin 4 rfl (KQ.seq (KC.ret (KQ.ofRet (KQ.fin2 Tryd.results88 rfl rfl ?_))))
    exact ⟨⟨_, _, congrArg (fun b => Value.tuple #[_, Value.bool b]) (by unfold En.impO En.impO2; dsimp only; simp_all), wo.weak (by omega), by simp only [List.length_append, List.length_cons, List.length_nil]; omega, fun h => by rw [hmm (En.impO_2 h)]; unfold En.impB En.impM; simp⟩, o0⟩
  intro hg88
  refine KL.fin 11 rfl (KQ.normBlock (KQ.sr (KL.run 2 rfl ?_)))
  have lt15 := wo.lt
  refine KL.m (M.append rfl Tryd.underlying36 inf5 rfl (by decide) rfl rfl wo (by exact (wm.sl (emptyOld _) (by decide))) (fun _ _ h _ => h) (by omega) (by (simp only [List.length_append, List.length_cons, List.length_nil]; omega)) (by unfold maxLen; ((simp only [List.length_append, List.length_cons, List.length_nil]; omega)))) rfl ?_
  rintro vz H15 ⟨w15, g15⟩
  have ob15 := g15.oldB wo (by omega)
  have o0 := o0.then ob15 (by omega)
  have z15 := ob15.1
  have bx := (g15.2 _ (blk_lt bx) (by exact lt15.imp id (fun h => by omega))).trans bx
  have bn := (g15.2 _ (blk_lt bn) (by exact .inr (by omega))).trans bn
  have bf := (g15.2 _ (blk_lt bf) (by exact .inr (by omega))).trans bf
  have wo := w15
  refine KL.run 2 rfl ?_
  refine KL.cq 103 rfl ?_ ?_
  · intro hg103
    refine KL.fin 4 rfl (KQ.seq (KC.ret (KQ.ofRet (KQ.fin2 Tryd.results88 rfl rfl ?_))))
    exact ⟨⟨_, _, congrArg (fun b => Value.tuple #[_, Value.bool b]) (by unfold En.impO En.impO2; dsimp only; simp_all), wo.weak (by omega), by simp only [List.length_append, List.length_cons, List.length_nil]; omega, fun h => by rw [hmm (En.impO_2 h)]; unfold En.impB En.impM; simp⟩, o0⟩
  intro hg103
  refine KL.fin 4 rfl (KQ.seq (KC.ret (KQ.ofRet (KQ.fin2 Tryd.results88 rfl rfl ?_))))
  exact ⟨⟨_, _, congrArg (fun b => Value.tuple #[_, Value.bool b]) (by unfold En.impO En.impO2; dsimp only; simp_all), wo.weak (by omega), by simp only [List.length_append, List.length_cons, List.length_nil]; omega, fun h => by rw [hmm (En.impO_2 h)]; unfold En.impB En.impM; simp⟩, o0⟩
theorem rimp_x {H : Heap} (s1 s2 : ByteArray) (kd : Int) (rkd : InR .u8 kd) (hkd : 3 < kd) (ty la lb gt : Int) (gm : Bool) (h1 : s1.size ≤ 4000) (h2 : s2.size ≤ 4000) (rty : InR .u32 ty) (rla : InR .u32 la) (rlb : InR .i64 lb) (rgt : InR .u8 gt) : Ct Tryd.prog 88 [.agg [.string s1, .string s2, .int .u8 kd, .int .u32 ty, .int .u32 la, .int .i64 lb, .int .u8 gt, .bool gm].toArray] H (fun u H' => RB H (En.impB ⟨s1, s2, kd, ty, (la, lb), (gt, gm)⟩) (En.impO ⟨s1, s2, kd, ty, (la, lb), (gt, gm)⟩) 10000 u H') := by
  refine Ct.mk Tryd.func88 rfl Tryd.ntmps88 rfl ?_
  intro W0 hW0
  have o0 : Old H H := Old.refl H
  have ht1 := En.txt_le h1
  have ht2 := En.txt_le h2
  have hut := En.u_le ty
  have hkr := rkd
  dsimp only [InR] at hkr
  refine KC.sr ?_
  refine KL.m (M.box rfl rfl rfl) rfl ?_
  rintro _ H1 ⟨rfl, n1⟩
  have z1 := n1.2.1
  have o0 := o0.trans n1.1
  have b1 := n1.2.2
  have bx := b1
  refine KL.fin 2 rfl (KQ.seq (KC.seq ?_))
  refine KC.valsL [10, 11, 12, 13, 14, 15, 16, 4] [[], [0], [1], [], [3], [4, 2], [2, 5, 5], [6, 6, 0, 1, 2, 3, 4, 5, 6]] (fun (i : Nat) (u : Value) (Hc : Heap) => match i with | 0 => u = .pointer (some ⟨Array.size H, 0, none⟩) | 1 => u = .string s1 | 2 => Own 1 (EInt .u8) 5 #[] (Array.size H1) Hc u (En.txt s1) | 3 => u = .pointer (some ⟨Array.size H, 1, none⟩) | 4 => u = .string s2 | 5 => Own 1 (EInt .u8) 5 #[] (Array.size H1) Hc u (En.txt s2) | 6 => Own 1 (EInt .u8) 5 #[] (Array.size H1) Hc u (En.txt s1 ++ En.txt s2) | 7 => Own 1 (EInt .u8) 5 #[] (Array.size H1) Hc u (En.txt s1 ++ En.txt s2) | _ => True) (by kernel_rfl) (by kernel_rfl) (by kernel_rfl) (by kernel_rfl) ?_ ?_
  · intro i o ho u Hc og hp
    have hst : ∀ H2, Old Hc H2 → ∀ j x, (fun (i : Nat) (u : Value) (Hc : Heap) => match i with | 0 => u = .pointer (some ⟨Array.size H, 0, none⟩) | 1 => u = .string s1 | 2 => Own 1 (EInt .u8) 5 #[] (Array.size H1) Hc u (En.txt s1) | 3 => u = .pointer (some ⟨Array.size H, 1, none⟩) | 4 => u = .string s2 | 5 => Own 1 (EInt .u8) 5 #[] (Array.size H1) Hc u (En.txt s2) | 6 => Own 1 (EInt .u8) 5 #[] (Array.size H1) Hc u (En.txt s1 ++ En.txt s2) | 7 => Own 1 (EInt .u8) 5 #[] (Array.size H1) Hc u (En.txt s1 ++ En.txt s2) | _ => True) j x Hc → (fun (i : Nat) (u : Value) (Hc : Heap) => match i with | 0 => u = .pointer (some ⟨Array.size H, 0, none⟩) | 1 => u = .string s1 | 2 => Own 1 (EInt .u8) 5 #[] (Array.size H1) Hc u (En.txt s1) | 3 => u = .pointer (some ⟨Array.size H, 1, none⟩) | 4 => u = .string s2 | 5 => Own 1 (EInt .u8) 5 #[] (Array.size H1) Hc u (En.txt s2) | 6 => Own 1 (EInt .u8) 5 #[] (Array.size H1) Hc u (En.txt s1 ++ En.txt s2) | 7 => Own 1 (EInt .u8) 5 #[] (Array.size H1) Hc u (En.txt s1 ++ En.txt s2) | _ => True) j x H2 := by
      intro H2 o2 j x hx
      match j, hx with
      | 0, hx => exact hx
      | 1, hx => exact hx
      | 2, hx => exact hx.old o2
      | 3, hx => exact hx
      | 4, hx => exact hx
      | 5, hx => exact hx.old o2
      | 6, hx => exact hx.old o2
      | 7, hx => exact hx.old o2
      | j + 8, hx => exact hx
    match i, ho, hp with
    | 0, ho, hp =>
      have e := Option.some.inj (ho : some _ = some o)
      subst e
      change ∀ j ∈ ([] : List Nat), _ at hp
      change Ob _ _ (([] : Env) ++ _) _ _ _
      exact .inl ⟨rfl, D1.op (R.fieldAddr rfl Tryd.underlying51 rfl rfl sz9 rfl) ⟨rfl, og, fun _ _ h => h⟩⟩
    | 1, ho, hp =>
      have e := Option.some.inj (ho : some _ = some o)
      subst e
      change ∀ j ∈ ([0] : List Nat), _ at hp
      have h10 : (u 0) = .pointer (some ⟨Array.size H, 0, none⟩) := hp 0 (by simp)
      change Ob _ _ (([(10, u 0)] : Env) ++ _) _ _ _
      simp only [h10]
      exact .inl ⟨rfl, D1.op (R.load rfl Tryd.underlying9 rfl rfl (cell_of (og.blk bx) rfl)) ⟨rfl, og, fun _ _ h => h⟩⟩
    | 2, ho, hp =>
      have e := Option.some.inj (ho : some _ = some o)
      subst e
      change ∀ j ∈ ([1] : List Nat), _ at hp
      have h11 : (u 1) = .string s1 := hp 1 (by simp)
      change Ob _ _ (([(11, u 1)] : Env) ++ _) _ _ _
      simp only [h11]
      exact .inl ⟨rfl, D1.call rfl rfl rfl rfl Tryd.call92 (text_any s1 (by omega)) (by rintro _ H2 ⟨w, ox⟩; exact ⟨w.weak (by have := og.1; omega), og.trans ox, hst _ ox⟩)⟩
    | 3, ho, hp =>
      have e := Option.some.inj (ho : some _ = some o)
      subst e
      change ∀ j ∈ ([] : List Nat), _ at hp
      change Ob _ _ (([] : Env) ++ _) _ _ _
      exact .inl ⟨rfl, D1.op (R.fieldAddr rfl Tryd.underlying51 rfl rfl sz9 rfl) ⟨rfl, og, fun _ _ h => h⟩⟩
    | 4, ho, hp =>
      have e := Option.some.inj (ho : some _ = some o)
      subst e
      change ∀ j ∈ ([3] : List Nat), _ at hp
      have h13 : (u 3) = .pointer (some ⟨Array.size H, 1, none⟩) := hp 3 (by simp)
      change Ob _ _ (([(13, u 3)] : Env) ++ _) _ _ _
      simp only [h13]
      exact .inl ⟨rfl, D1.op (R.load rfl Tryd.underlying9 rfl rfl (cell_of (og.blk bx) rfl)) ⟨rfl, og, fun _ _ h => h⟩⟩
    | 5, ho, hp =>
      have e := Option.some.inj (ho : some _ = some o)
      subst e
      change ∀ j ∈ ([4, 2] : List Nat), _ at hp
      have h12 : Own 1 (EInt .u8) 5 #[] (Array.size H1) Hc (u 2) (En.txt s1) := hp 2 (by simp)
      have h14 : (u 4) = .string s2 := hp 4 (by simp)
      change Ob _ _ (([(14, u 4), (12, u 2)] : Env) ++ _) _ _ _
      simp only [h14]
      exact .inl ⟨rfl, D1.call rfl rfl rfl rfl Tryd.call92 (text_any s2 (by omega)) (by rintro _ H2 ⟨w, ox⟩; exact ⟨w.weak (by have := og.1; omega), og.trans ox, hst _ ox⟩)⟩
    | 6, ho, hp =>
      have e := Option.some.inj (ho : some _ = some o)
      subst e
      change ∀ j ∈ ([2, 5, 5] : List Nat), _ at hp
      have h12 : Own 1 (EInt .u8) 5 #[] (Array.size H1) Hc (u 2) (En.txt s1) := hp 2 (by simp)
      have h15 : Own 1 (EInt .u8) 5 #[] (Array.size H1) Hc (u 5) (En.txt s2) := hp 5 (by simp)
      change Ob _ _ (([(12, u 2), (15, u 5), (15, u 5)] : Env) ++ _) _ _ _
      refine .inl ⟨rfl, D1.mem (M.appendQ (m := En.txt s2) rfl Tryd.underlying36 inf5 rfl rfl rfl h12 (En.txt_pos (by omega)) ((h15.sl (emptyOld _) (by decide))) og.1 (by omega) (by unfold maxLen; omega) (En.txt_pos (by omega))) ?_⟩
      rintro v2 H2 ⟨k1, k2⟩
      rcases k2 with k2 | k2
      · exact ⟨k1, og.trans k2, hst _ k2⟩
      refine ⟨k1, k2.oldFrom og, ?_⟩
      intro j z hz
      match j, hz with
      | 0, hz => exact hz
      | 1, hz => exact hz
      | 2, hz => exact Own.inPlace hz k2 (Nat.le_refl _)
      | 3, hz => exact hz
      | 4, hz => exact hz
      | 5, hz => exact Own.inPlaceP (E := []) hz h12 k2 (fun r h => En.txt_pre (by omega) (by omega) h)
      | 6, hz => exact Own.inPlaceEq hz k2 (by rw [List.length_append]) (by have := En.txt_pos (a := s1) (by omega); omega) k1
      | 7, hz => exact Own.inPlaceEq hz k2 (by rw [List.length_append]) (by have := En.txt_pos (a := s1) (by omega); omega) k1
      | j + 8, hz => exact hz
    | 7, ho, hp =>
      have e := Option.some.inj (ho : some _ = some o)
      subst e
      change ∀ j ∈ ([6, 6, 0, 1, 2, 3, 4, 5, 6] : List Nat), _ at hp
      have h10 : (u 0) = .pointer (some ⟨Array.size H, 0, none⟩) := hp 0 (by simp)
      have h11 : (u 1) = .string s1 := hp 1 (by simp)
      have h12 : Own 1 (EInt .u8) 5 #[] (Array.size H1) Hc (u 2) (En.txt s1) := hp 2 (by simp)
      have h13 : (u 3) = .pointer (some ⟨Array.size H, 1, none⟩) := hp 3 (by simp)
      have h14 : (u 4) = .string s2 := hp 4 (by simp)
      have h15 : Own 1 (EInt .u8) 5 #[] (Array.size H1) Hc (u 5) (En.txt s2) := hp 5 (by simp)
      have h16 : Own 1 (EInt .u8) 5 #[] (Array.size H1) Hc (u 6) (En.txt s1 ++ En.txt s2) := hp 6 (by simp)
      change Ob _ _ (([(16, u 6), (16, u 6), (10, u 0), (11, u 1), (12, u 2), (13, u 3), (14, u 4), (15, u 5), (16, u 6)] : Env) ++ _) _ _ _
      simp only [h10, h11, h13, h14]
      exact .inl ⟨rfl, D1.op (R.assign rfl rfl) ⟨h16, og, fun _ _ h => h⟩⟩
    | i + 8, ho, hp => exact absurd ho (by simp)
  intro u H2 og2 hv
  have h10 : (u 0) = .pointer (some ⟨Array.size H, 0, none⟩) := hv 0 (by decide)
  have h11 : (u 1) = .string s1 := hv 1 (by decide)
  have h12 : Own 1 (EInt .u8) 5 #[] (Array.size H1) H2 (u 2) (En.txt s1) := hv 2 (by decide)
  have h13 : (u 3) = .pointer (some ⟨Array.size H, 1, none⟩) := hv 3 (by decide)
  have h14 : (u 4) = .string s2 := hv 4 (by decide)
  have h15 : Own 1 (EInt .u8) 5 #[] (Array.size H1) H2 (u 5) (En.txt s2) := hv 5 (by decide)
  have h16 : Own 1 (EInt .u8) 5 #[] (Array.size H1) H2 (u 6) (En.txt s1 ++ En.txt s2) := hv 6 (by decide)
  have h4 : Own 1 (EInt .u8) 5 #[] (Array.size H1) H2 (u 7) (En.txt s1 ++ En.txt s2) := hv 7 (by decide)
  change KQ _ _ _ _ (([(10, u 0), (11, u 1), (12, u 2), (13, u 3), (14, u 4), (15, u 5), (16, u 6), (4, u 7)] : Env) ++ _) _
  have o0 := o0.trans og2
  have bx := (og2).blk bx
  have z2 := og2.1
  simp only [h10, h11, h13, h14]
  have wo := h4
  refine KQ.sr (KL.run 2 rfl (KL.ld rfl (cell_of bx rfl) ?_))
  refine KL.m (M.lit rfl Tryd.underlying36 zs5 (by decide) rfl rfl rfl) rfl ?_
  rintro _ H3 ⟨rfl, n3⟩
  have z3 := n3.2.1
  have o0 := o0.trans n3.1
  have bx := (n3.1).blk bx
  have wo := wo.old n3.1
  have b3 := n3.2.2
  have s0 : Sl 1 (EInt .u8) H3 _ [kd] := Sl.lits (l := [kd]) n3 rfl (by simp) (by intro y hy; simp only [List.mem_cons, List.not_mem_nil, or_false] at hy; subst hy; dsimp only [InR] at *; omega)
  have lt4 := wo.lt
  refine KL.m (M.append rfl Tryd.underlying36 inf5 rfl (by decide) rfl rfl wo s0 (fun _ _ h _ => h) (by omega) (by (simp only [List.length_append, List.length_cons, List.length_nil]; omega)) (by unfold maxLen; ((simp only [List.length_append, List.length_cons, List.length_nil]; omega)))) rfl ?_
  rintro vn H4 ⟨w4, g4⟩
  have ob4 := g4.oldB wo (by omega)
  have o0 := o0.then ob4 (by omega)
  have z4 := ob4.1
  have bx := (g4.2 _ (blk_lt bx) (by exact lt4.imp id (fun h => by omega))).trans bx
  have wo := w4
  refine KL.fin 1 rfl (KQ.seq (KC.seq ?_))
  refine KC.cutD (κ := Unit) [22, 23, 24, 25, 26, 27, 28, 29, 30, 31, 5] (fun _ => [(5, .bool (Utf.valid (ints s1) && Utf.valid (ints s2)))]) (fun _ Hl => Own 1 (EInt .u8) 5 #[] (Array.size H1) Hl vn (En.txt s1 ++ En.txt s2 ++ [kd]) ∧ Hl[Array.size H]? = some (.cells [.string s1, .string s2, .int .u8 kd, .int .u32 ty, .int .u32 la, .int .i64 lb, .int .u8 gt, .bool gm].toArray 51 (0, 0)) ∧ Old H Hl ∧ Array.size H1 ≤ Array.size Hl) ?_ ?_
  · skip
    refine KC.region (KL.run 1 rfl (KL.ld rfl (cell_of bx rfl) ?_))
    refine KL.m (M.toBytes rfl Tryd.underlying9 Tryd.underlying36 Tryd.underlying5 rfl (by omega)) rfl ?_
    rintro v5 H5 ⟨t5, e5, n5, z5⟩
    have o0 := o0.trans n5
    have bx := (n5).blk bx
    have wo := wo.old n5
    have q1 := t5
    have hvb : vblock vn < Array.size H5 := by
      rcases wo.lt with e | e
      · rw [e]; show 0 < _; omega
      exact e.2
    refine KL.c rfl Tryd.call93 (refValid_any _ _ q1) ?_
    rintro _ _ ⟨rfl, rfl⟩
    refine KL.run 1 rfl ?_
    refine KL.cq 26 rfl ?_ ?_
    · intro hg26
      refine KL.run 1 rfl (KL.ld rfl (cell_of bx rfl) ?_)
      refine KL.m (M.toBytes rfl Tryd.underlying9 Tryd.underlying36 Tryd.underlying5 rfl (by omega)) rfl ?_
      rintro v6 H6 ⟨t6, e6, n6, z6⟩
      have o0 := o0.trans n6
      have bx := (n6).blk bx
      have wo := wo.old n6
      have q1 := q1.old n6
      have q2 := t6
      refine KL.c rfl Tryd.call93 (refValid_any _ _ q2) ?_
      rintro _ _ ⟨rfl, rfl⟩
      refine KL.q ((R.pick rfl rfl rfl).val (congrArg Value.bool (show _ = (Utf.valid (ints s1) && Utf.valid (ints s2)) from by rw [hg26]; rfl))) rfl ?_
      refine KL.fin 1 rfl ?_
      refine KQ.meet () ?_ ?_
      · exact Sub.all rfl
      exact ⟨wo, bx, o0, by omega⟩
    intro hg26
    refine KL.run 4 rfl ?_
    refine KL.q ((R.pick rfl rfl rfl).val (congrArg Value.bool (show _ = (Utf.valid (ints s1) && Utf.valid (ints s2)) from by rw [hg26]; rfl))) rfl ?_
    refine KL.fin 1 rfl ?_
    refine KQ.meet () ?_ ?_
    · exact Sub.all rfl
    exact ⟨wo, bx, o0, by omega⟩
  rintro _ H7 ⟨wo, bx, o0, zz⟩
  have zl := o0.1
  have zb := blk_lt bx
  have hvb : vblock vn < Array.size H7 := by
    rcases wo.lt with e | e
    · rw [e]; show 0 < _; omega
    exact e.2
  refine KQ.sr (KL.b0 bt47 rfl rfl (KL.b0 bt49 rfl rfl ?_))
  refine KL.m (M.alloc rfl zr47 rfl) rfl ?_
  rintro _ H8 ⟨rfl, n8⟩
  have z8 := n8.2.1
  have o0 := o0.trans n8.1
  have wo := wo.old n8.1
  have bx := (n8.1).blk bx
  have b8 := n8.2.2
  have bn := b8
  refine KL.m (M.alloc rfl zr49 rfl) rfl ?_
  rintro _ H9 ⟨rfl, n9⟩
  have z9 := n9.2.1
  have o0 := o0.trans n9.1
  have wo := wo.old n9.1
  have bx := (n9.1).blk bx
  have bn := (n9.1).blk bn
  have b9 := n9.2.2
  have bf := b9
  refine KL.opS (S.storeAgg rfl sz47 rfl rfl (rfl) (by intro z hz; simp only [List.mem_cons, List.not_mem_nil, or_false] at hz; rcases hz with rfl | rfl <;> rfl) bn (by simp)) rfl rfl ?_
  rintro H10 ⟨u10, b10⟩
  have o0 := o0.upd u10 (by omega)
  have zu10 := u10.1
  have wo := wo.upd u10 (by exact .inr (by omega))
  have bx := ((u10).2 _ (by omega)).trans bx
  have bf := ((u10).2 _ (by omega)).trans bf
  have bn := b10
  rw [over_all (by rfl)] at bn
  refine KL.opS (S.storeAgg rfl sz49 rfl rfl (rfl) (by intro z hz; simp only [List.mem_cons, List.not_mem_nil, or_false] at hz; rcases hz with rfl | rfl <;> rfl) bf (by simp)) rfl rfl ?_
  rintro H11 ⟨u11, b11⟩
  have o0 := o0.upd u11 (by omega)
  have zu11 := u11.1
  have wo := wo.upd u11 (by exact .inr (by omega))
  have bx := ((u11).2 _ (by omega)).trans bx
  have bn := ((u11).2 _ (by omega)).trans bn
  have bf := b11
  rw [over_all (by rfl)] at bf
  refine KL.nil (KQ.sr (KL.fin 1 rfl (KQ.sr (KL.fin 1 rfl (KQ.seq (KC.seq (KC.sr (KL.run 1 rfl ?_))))))))
  refine KL.ld rfl (cell_of bx rfl) (KL.nil (KQ.seq (KC.block (KC.sr ?_))))
  refine KL.e0 rfl (by omega) ?_
  refine KL.fin 1 rfl (KQ.seq (KC.condF rfl (KC.seq (KC.sr ?_))))
  refine KL.e0 rfl (by omega) ?_
  refine KL.fin 1 rfl (KQ.seq (KC.condF rfl (KC.region ?_)))
  refine KL.e0 rfl (by omega) ?_
  refine KL.fin 1 rfl (KQ.seq (KC.condF rfl (KC.sr ?_)))
  refine KL.e0 rfl (by omega) ?_
  refine KL.fin 1 rfl (KQ.seq (KC.condF rfl (KC.skip (KQ.normBlock (KQ.sr (KL.run 2 rfl ?_))))))
  have lt12 := wo.lt
  refine KL.m (M.append rfl Tryd.underlying36 inf5 rfl (by decide) rfl rfl wo (by exact (Sl.nil _ _ _)) (fun _ _ h _ => h) (by omega) (by (simp only [List.length_append, List.length_cons, List.length_nil]; omega)) (by unfold maxLen; ((simp only [List.length_append, List.length_cons, List.length_nil]; omega)))) rfl ?_
  rintro vz H12 ⟨w12, g12⟩
  have ob12 := g12.oldB wo (by omega)
  have o0 := o0.then ob12 (by omega)
  have z12 := ob12.1
  have bx := (g12.2 _ (blk_lt bx) (by exact lt12.imp id (fun h => by omega))).trans bx
  have bn := (g12.2 _ (blk_lt bn) (by exact .inr (by omega))).trans bn
  have bf := (g12.2 _ (blk_lt bf) (by exact .inr (by omega))).trans bf
  have wo := w12
  refine KL.run 2 rfl ?_
  refine KL.cq 103 rfl ?_ ?_
  · intro hg103
    refine KL.fin 4 rfl (KQ.seq (KC.ret (KQ.ofRet (KQ.fin2 Tryd.results88 rfl rfl ?_))))
    exact ⟨⟨_, _, congrArg (fun b => Value.tuple #[_, Value.bool b]) (by unfold En.impO En.impO2; dsimp only; rw [if_neg (by omega), if_neg (by omega), if_neg (by omega), if_neg (by omega)]; simp_all), wo.weak (by omega), by simp only [List.length_append, List.length_cons, List.length_nil]; omega, fun h => by unfold En.impB En.impM; dsimp only; rw [if_neg (by omega), if_neg (by omega), if_neg (by omega), if_neg (by omega)]; simp⟩, o0⟩
  intro hg103
  refine KL.fin 4 rfl (KQ.seq (KC.ret (KQ.ofRet (KQ.fin2 Tryd.results88 rfl rfl ?_))))
  exact ⟨⟨_, _, congrArg (fun b => Value.tuple #[_, Value.bool b]) (by unfold En.impO En.impO2; dsimp only; rw [if_neg (by omega), if_neg (by omega), if_neg (by omega), if_neg (by omega)]; simp_all), wo.weak (by omega), by simp only [List.length_append, List.length_cons, List.length_nil]; omega, fun h => by unfold En.impB En.impM; dsimp only; rw [if_neg (by omega), if_neg (by omega), if_neg (by omega), if_neg (by omega)]; simp⟩, o0⟩
theorem rimported_any {H : Heap} (s1 s2 : ByteArray) (kd ty la lb gt : Int) (gm : Bool) (rkd : InR .u8 kd) (h1 : s1.size ≤ 4000) (h2 : s2.size ≤ 4000) (rty : InR .u32 ty) (rla : InR .u32 la) (rlb : InR .i64 lb) (rgt : InR .u8 gt) :
    Ct Tryd.prog 88 [.agg [.string s1, .string s2, .int .u8 kd, .int .u32 ty, .int .u32 la, .int .i64 lb, .int .u8 gt, .bool gm].toArray] H (fun u H' => RB H (En.impB ⟨s1, s2, kd, ty, (la, lb), (gt, gm)⟩) (En.impO ⟨s1, s2, kd, ty, (la, lb), (gt, gm)⟩) 10000 u H') := by
  have hk := rkd
  dsimp only [InR] at hk
  rcases (by omega : kd = 0 ∨ kd = 1 ∨ kd = 2 ∨ kd = 3 ∨ 3 < kd) with rfl | rfl | rfl | rfl | h
  · exact rimp_0 s1 s2 ty la lb gt gm h1 h2 rty rla rlb rgt
  · exact rimp_1 s1 s2 ty la lb gt gm h1 h2 rty rla rlb rgt
  · exact rimp_2 s1 s2 ty la lb gt gm h1 h2 rty rla rlb rgt
  · exact rimp_3 s1 s2 ty la lb gt gm h1 h2 rty rla rlb rgt
  exact rimp_x s1 s2 kd rkd h ty la lb gt gm h1 h2 rty rla rlb rgt
end Go.Proofs.YtldmfchamcpmmaaDoor
namespace Go.Proofs.YtldmfchamcpmmaaDoor
open Go Go.RowKit
set_option linter.unusedVariables false
set_option linter.unusedSimpArgs false
set_option linter.unnecessarySimpa false
theorem En.all_take {α : Type} [Inhabited α] {p : α → Bool} {l : List α} {k : Nat} (h : k < l.length) : (l.take (k + 1)).all p = ((l.take k).all p && p (l.getD k default)) := by
  rw [En.take_succD h, List.all_append]; simp
theorem En.flat_take {α : Type} [Inhabited α] {f : α → List Int} {l : List α} {k : Nat} (h : k < l.length) : (l.take (k + 1)).flatMap f = (l.take k).flatMap f ++ f (l.getD k default) := by
  rw [En.take_succD h, List.flatMap_append]; simp
theorem En.lst_all {α : Type} (f : α → List Int) (l : List α) : En.u (l.length : Nat) ++ (l.take l.length).flatMap f = En.lst f l := by rw [List.take_length]; rfl
theorem En.codO_l {ls : List (Int × Int)} {xs : List Ins} (h : (ls.take ls.length).all En.locO = false) : false = En.codO (ls, xs) := by rw [List.take_length] at h; unfold En.codO; dsimp only; rw [h]; rfl
theorem En.codO_f {ls : List (Int × Int)} {xs : List Ins} (h : En.has xs = false) : false = En.codO (ls, xs) := by unfold En.codO; dsimp only; rw [h, Bool.and_false]; rfl
theorem En.codO_t {ls : List (Int × Int)} {xs : List Ins} (h : (ls.take ls.length).all En.locO = true) (h2 : En.has xs = true) : decide (En.locS (ls.take ls.length) ≤ 4294967295) = En.codO (ls, xs) := by rw [List.take_length] at *; unfold En.codO; dsimp only; rw [h, h2]; exact decide_eq_decide.2 (by omega)
theorem En.codO_h {c : Cod} (h : En.codO c = true) : En.has c.2 = true := by unfold En.codO at h; simp only [Bool.and_eq_true] at h; exact h.1.2
theorem rcode_any {H : Heap} {u w : Value} {ls : List (Int × Int)} {xs : List Ins} (hL : Sl 2 ELoc H u ls) (hs : Sl 5 EIns H w xs) (h1 : ls.length ≤ 4000) (hb : Isp.bulk xs ≤ 4000) : Ct Tryd.prog 94 [.agg [u, w].toArray] H (fun u H' => RB H (En.codB (ls, xs)) (En.codO (ls, xs)) 1000000 u H') := by
  refine Ct.mk Tryd.func94 rfl Tryd.ntmps94 rfl ?_
  intro W0 hW0
  have o0 : Old H H := Old.refl H
  have q1 := En.lst_le (f := En.locB) (c := 11) (l := ls) (fun y _ => by have := En.u_le y.1; unfold En.locB; simp; omega)
  have hlr : ∀ x ∈ ls, 0 ≤ x.1 ∧ x.1 ≤ 4294967295 := by
    intro x hx
    obtain ⟨j, hj, rfl⟩ := List.getElem_of_mem hx
    have h := (hL.locAt j hj).2.1
    rw [List.getD_eq_getElem?_getD, List.getElem?_eq_getElem hj] at h
    exact h
  refine KC.sr ?_
  refine KL.m (M.box rfl rfl rfl) rfl ?_
  rintro _ H1 ⟨rfl, n1⟩
  have z1 := n1.2.1
  have o0 := o0.trans n1.1
  have b1 := n1.2.2
  have bx := b1
  refine KL.fin 2 rfl (KQ.sr (KL.run 1 rfl (KL.ld rfl (cell_of bx rfl) (KL.q (R.lenS rfl Tryd.underlying56 rfl (hL.old o0)) rfl ?_))))
  refine KL.q (R.convI rfl Tryd.underlying3 Tryd.underlying101 rfl (by dsimp only [InR] at *; omega)) rfl ?_
  refine KL.c rfl Tryd.call50 (U_any ((ls.length : Nat)) (by omega) (by omega)) ?_
  rintro v_wo H2 ⟨wo, ox⟩
  have zc_H2 := (ox).1
  have o0 := o0.trans ox
  have bx := (ox).blk bx
  have zwo := ox.1
  have lwo := wo.lt
  refine KL.fin 1 rfl (KQ.sr (KL.fin 1 rfl (KQ.sr (KL.fin 1 rfl (KQ.seq (KC.seq (KC.sr (KL.fin 1 rfl ?_))))))))
  refine KQ.seq (KC.block ?_)
  refine KC.loopD (κ := Nat × Value) [15, 16, 17, 18, 19, 22, 23, 24, 25, 26, 27, 28, 29, 30, 31, 4, 32, 33, 34, 35, 36, 37, 38, 39, 40, 41, 42, 43, 44, 45, 46, 47, 48, 49, 50, 6, 51, 52, 53, 54, 55, 56, 57, 58, 59, 5, 20, 21, 7] (fun k => [(7, .int .i64 (k.1 : Nat)), (4, k.2), (5, .int .u64 (En.locS (ls.take k.1))), (6, .bool ((ls.take k.1).all En.locO))]) (fun k Hl => k.1 ≤ ls.length ∧ Own 1 (EInt .u8) 5 #[] (Array.size H + 1) Hl k.2 (En.u (ls.length : Nat) ++ (ls.take k.1).flatMap En.locB) ∧ Hl[Array.size H]? = some (.cells [u, w].toArray 58 (0, 0)) ∧ Old H Hl) (fun k => ls.length - k.1) (0, v_wo) ?_ ?_ ?_
  · exact Sub.all rfl
  · exact ⟨Nat.zero_le _, by simpa using wo.weak (by omega), bx, o0⟩
  rintro ⟨k, vo⟩ H3 ⟨hk, wo, bx, o0⟩
  have zl_H3 := o0.1
  dsimp only at hk wo
  have zl := o0.1
  have zb := blk_lt bx
  have hvo := wo.lt
  have hul := En.u_le (ls.length : Nat)
  have hfl := En.flatMap_le (f := En.locB) (c := 11) (l := ls.take k) (fun y _ => by have := En.u_le y.1; unfold En.locB; simp; omega)
  rw [List.length_take] at hfl
  refine KC.seq (KC.sr (KL.run 2 rfl (KL.ld rfl (cell_of bx rfl) (KL.q (R.lenS rfl Tryd.underlying56 rfl (hL.old o0)) rfl (KL.fin 1 rfl (KQ.seq ?_))))))
  refine KC.iq rfl ?_ ?_
  · intro hc19
    try dsimp only at hc19
    have hk2 : k < ls.length := by omega
    obtain ⟨hcx, hx1, hx2⟩ := hL.locAt k hk2
    have hls := En.locS_rng (l := ls.take k) (fun x hx => hlr x (List.mem_of_mem_take hx))
    rw [List.length_take] at hls
    dsimp only [InR] at hx1
    have hux := En.u_le (ls.getD k default).1
    refine KC.skip (KQ.seq (KC.seq (KC.block (KC.sr (KL.run 2 rfl (KL.ld rfl (cell_of bx rfl) (KL.run 1 rfl ?_)))))))
    refine KL.q (R.index (j := k) rfl Tryd.underlying56 sz60 rfl rfl (hL.old o0) rfl (by omega)) rfl ?_
    refine KL.q (R.fieldAddrP rfl Tryd.underlying60 rfl rfl sz28 rfl) rfl (KL.ld rfl ((o0.cells hcx) 0 _ rfl) ?_)
    refine KL.q (R.convI rfl Tryd.underlying28 Tryd.underlying101 rfl (by dsimp only [InR]; omega)) rfl ?_
    refine KL.c rfl Tryd.call50 (U_any ((ls.getD k default).1) (by omega) (by omega)) ?_
    rintro v_wn H4 ⟨wn, ox⟩
    have zc_H4 := (ox).1
    have o0 := o0.trans ox
    have wo := wo.old ox
    have bx := (ox).blk bx
    have zwn := ox.1
    have lwn := wn.lt
    have lt5 := wo.lt
    refine KL.m (M.append rfl Tryd.underlying36 inf5 rfl (by decide) rfl rfl wo (by exact (wn.sl (emptyOld _) (by decide))) (fun _ _ h _ => h) (by omega) (by (simp only [List.length_append, List.length_cons, List.length_nil]; omega)) (by unfold maxLen; ((simp only [List.length_append, List.length_cons, List.length_nil]; omega)))) rfl ?_
    rintro vn H5 ⟨w5, g5⟩
    try dsimp only at g5
    have ob5 := g5.oldB wo (by omega)
    have o0 := o0.then ob5 (by omega)
    have z5 := ob5.1
    have bx := (g5.2 _ (blk_lt bx) (by exact lt5.imp id (fun h => by omega))).trans bx
    have wo := w5
    refine KL.fin 1 rfl (KQ.sr (KL.run 2 rfl (KL.ld rfl (cell_of bx rfl) (KL.run 1 rfl ?_))))
    refine KL.q (R.index (j := k) rfl Tryd.underlying56 sz60 rfl rfl (hL.old o0) rfl (by omega)) rfl ?_
    refine KL.q (R.fieldAddrP rfl Tryd.underlying60 rfl rfl sz5 rfl) rfl (KL.ld rfl ((o0.cells hcx) 1 _ rfl) ?_)
    refine KL.m (M.lit rfl Tryd.underlying36 zs5 (by decide) rfl rfl rfl) rfl ?_
    rintro _ H6 ⟨rfl, n6⟩
    have z6 := n6.2.1
    have o0 := o0.trans n6.1
    have wo := wo.old n6.1
    have bx := (n6.1).blk bx
    have b6 := n6.2.2
    have s1 : Sl 1 (EInt .u8) H6 _ [(ls.getD k default).2] := Sl.lits (l := [(ls.getD k default).2]) n6 rfl (by simp) (by intro y hy; simp only [List.mem_cons, List.not_mem_nil, or_false] at hy; subst hy; dsimp only [InR] at *; omega)
    have lt7 := wo.lt
    refine KL.m (M.append rfl Tryd.underlying36 inf5 rfl (by decide) rfl rfl wo s1 (fun _ _ h _ => h) (by omega) (by (simp only [List.length_append, List.length_cons, List.length_nil]; omega)) (by unfold maxLen; ((simp only [List.length_append, List.length_cons, List.length_nil]; omega)))) rfl ?_
    rintro vp H7 ⟨w7, g7⟩
    have ob7 := g7.oldB wo (by omega)
    have o0 := o0.then ob7 (by omega)
    have z7 := ob7.1
    have bx := (g7.2 _ (blk_lt bx) (by exact lt7.imp id (fun h => by omega))).trans bx
    have wo := w7
    refine KL.fin 1 rfl (KQ.sr (KL.run 2 rfl ?_))
    refine KL.cq 42 rfl ?_ ?_
    · intro hg42
      try dsimp only at hg42
      refine KL.run 1 rfl (KL.ld rfl (cell_of bx rfl) (KL.run 1 rfl ?_))
      refine KL.q (R.index (j := k) rfl Tryd.underlying56 sz60 rfl rfl (hL.old o0) rfl (by omega)) rfl ?_
      refine KL.q (R.fieldAddrP rfl Tryd.underlying60 rfl rfl sz5 rfl) rfl (KL.ld rfl ((o0.cells hcx) 1 _ rfl) ?_)
      refine KL.c rfl Tryd.call126 (rvalue_any _) ?_
      rintro _ _ ⟨rfl, rfl⟩
      refine KL.q ((R.pick rfl rfl rfl).val (congrArg Value.bool (show _ = (ls.take (k + 1)).all En.locO from by rw [En.all_take hk2, hg42]; rfl))) rfl ?_
      refine KL.fin 1 rfl (KQ.r (KL.run 2 rfl (KL.ld rfl (cell_of bx rfl) (KL.run 1 rfl ?_))))
      refine KL.q (R.index (j := k) rfl Tryd.underlying56 sz60 rfl rfl (hL.old o0) rfl (by omega)) rfl ?_
      refine KL.q (R.fieldAddrP rfl Tryd.underlying60 rfl rfl sz28 rfl) rfl (KL.ld rfl ((o0.cells hcx) 0 _ rfl) ?_)
      refine KL.q (R.convI rfl Tryd.underlying28 Tryd.underlying101 rfl (by dsimp only [InR]; omega)) rfl ?_
      refine KL.q ((R.add rfl rfl rfl (by dsimp only [InR]; omega)).val (congrArg (Value.int .u64) (En.locS_step hk2).symm)) rfl ?_
      refine KL.fin 1 rfl (KQ.normBlock (KQ.r (KL.run 1 rfl ?_)))
      refine KL.q ((R.add rfl rfl rfl (by dsimp only [InR]; omega)).val (congrArg (Value.int .i64) (show (k : Int) + 1 = ((k + 1 : Nat) : Int) by omega))) rfl ?_
      refine KL.fin 1 rfl ?_
      refine KQ.again ((k + 1, vp)) ?_ ?_ ?_
      · exact Sub.all rfl
      · show ls.length - (k + 1) < ls.length - k; omega
      exact ⟨by show k + 1 ≤ _; omega, by show Own _ _ _ _ _ _ _ (_ ++ (ls.take (k + 1)).flatMap En.locB); rw [En.flat_take hk2]; unfold En.locB at wo ⊢; simpa only [List.append_assoc] using wo, bx, o0⟩
    intro hg42
    try dsimp only at hg42
    refine KL.run 7 rfl ?_
    refine KL.q ((R.pick rfl rfl rfl).val (congrArg Value.bool (show _ = (ls.take (k + 1)).all En.locO from by rw [En.all_take hk2, hg42]; rfl))) rfl ?_
    refine KL.fin 1 rfl (KQ.r (KL.run 2 rfl (KL.ld rfl (cell_of bx rfl) (KL.run 1 rfl ?_))))
    refine KL.q (R.index (j := k) rfl Tryd.underlying56 sz60 rfl rfl (hL.old o0) rfl (by omega)) rfl ?_
    refine KL.q (R.fieldAddrP rfl Tryd.underlying60 rfl rfl sz28 rfl) rfl (KL.ld rfl ((o0.cells hcx) 0 _ rfl) ?_)
    refine KL.q (R.convI rfl Tryd.underlying28 Tryd.underlying101 rfl (by dsimp only [InR]; omega)) rfl ?_
    refine KL.q ((R.add rfl rfl rfl (by dsimp only [InR]; omega)).val (congrArg (Value.int .u64) (En.locS_step hk2).symm)) rfl ?_
    refine KL.fin 1 rfl (KQ.normBlock (KQ.r (KL.run 1 rfl ?_)))
    refine KL.q ((R.add rfl rfl rfl (by dsimp only [InR]; omega)).val (congrArg (Value.int .i64) (show (k : Int) + 1 = ((k + 1 : Nat) : Int) by omega))) rfl ?_
    refine KL.fin 1 rfl ?_
    refine KQ.again ((k + 1, vp)) ?_ ?_ ?_
    · exact Sub.all rfl
    · show ls.length - (k + 1) < ls.length - k; omega
    exact ⟨by show k + 1 ≤ _; omega, by show Own _ _ _ _ _ _ _ (_ ++ (ls.take (k + 1)).flatMap En.locB); rw [En.flat_take hk2]; unfold En.locB at wo ⊢; simpa only [List.append_assoc] using wo, bx, o0⟩
  intro hc19
  try dsimp only at hc19
  have hkl : k = ls.length := by omega
  subst hkl
  rw [En.lst_all] at wo
  refine KC.exit (KQ.exitThen (KQ.exitThen (KQ.hit (KQ.sr (KL.run 1 rfl (KL.ld rfl (cell_of bx rfl) ?_))))))
  refine KL.c rfl Tryd.call91 (RExprX_any (hs.old o0) (by omega)) ?_
  rintro _ H8 ⟨⟨vx, lx, rfl, wx, hlx, hmx⟩, ox⟩
  have zc_H8 := (ox).1
  have o0 := o0.trans ox
  have wo := wo.old ox
  have bx := (ox).blk bx
  have zx := ox.1
  refine KL.fin 5 rfl (KQ.sr (KL.run 2 rfl ?_))
  have lt9 := wo.lt
  refine KL.m (M.append rfl Tryd.underlying36 inf5 rfl (by decide) rfl rfl wo (by exact (wx.sl (emptyOld _) (by decide))) (fun _ _ h _ => h) (by omega) (by omega) (by unfold maxLen; omega)) rfl ?_
  rintro vq H9 ⟨w9, g9⟩
  try dsimp only at g9
  have ob9 := g9.oldB wo (by omega)
  have o0 := o0.then ob9 (by omega)
  have z9 := ob9.1
  have bx := (g9.2 _ (blk_lt bx) (by exact lt9.imp id (fun h => by omega))).trans bx
  have wo := w9
  refine KL.fin 1 rfl (KQ.sr (KL.run 1 rfl (KL.q (R.lenO rfl Tryd.underlying36 rfl wo) rfl ?_)))
  refine KL.q (R.convI rfl Tryd.underlying3 Tryd.underlying101 rfl (by dsimp only [InR]; simp only [List.length_append]; omega)) rfl ?_
  refine KL.c rfl Tryd.call50 (U_any (((En.lst En.locB ls ++ lx).length : Nat)) (by omega) (by simp only [List.length_append]; omega)) ?_
  rintro v_wz H10 ⟨wz, ox⟩
  have zc_H10 := (ox).1
  have o0 := o0.trans ox
  have wo := wo.old ox
  have bx := (ox).blk bx
  have zwz := ox.1
  have lwz := wz.lt
  have hapl := @List.length_append _ (En.lst En.locB ls) lx
  have huz := En.u_le ((En.lst En.locB ls ++ lx).length : Nat)
  have swo := (wo.sl (emptyOld _) (by decide))
  refine KL.run 1 rfl ?_
  have lt11 := wz.lt
  refine KL.m (M.append rfl Tryd.underlying36 inf5 rfl (by decide) rfl rfl wz swo (fun _ _ h _ => h) (by omega) (by omega) (by unfold maxLen; omega)) rfl ?_
  rintro vr H11 ⟨w11, g11⟩
  have ob11 := g11.oldB wz (by omega)
  have o0 := o0.then ob11 (by omega)
  have z11 := ob11.1
  have bx := (g11.2 _ (blk_lt bx) (by exact lt11.imp id (fun h => by omega))).trans bx
  have wz := w11
  refine KL.run 2 rfl ?_
  refine KL.cq 76 rfl ?_ ?_
  · intro hg76
    try dsimp only at hg76
    refine KL.run 3 rfl ?_
    refine KL.cq 79 rfl ?_ ?_
    · intro hg79
      refine KL.fin 5 rfl (KQ.seq (KC.ret (KQ.ofRet (KQ.fin2 Tryd.results94 rfl rfl ?_))))
      exact ⟨⟨_, _, congrArg (fun b => Value.tuple #[_, Value.bool b]) (by exact En.codO_t (by assumption) (by assumption)), wz.weak (by omega), by rw [List.length_append]; omega, fun h => by rw [hmx (En.codO_h h)]; unfold En.codB En.codI; rfl⟩, o0⟩
    intro hg79
    refine KL.fin 5 rfl (KQ.seq (KC.ret (KQ.ofRet (KQ.fin2 Tryd.results94 rfl rfl ?_))))
    exact ⟨⟨_, _, congrArg (fun b => Value.tuple #[_, Value.bool b]) (by exact En.codO_f (by assumption)), wz.weak (by omega), by rw [List.length_append]; omega, fun h => by rw [hmx (En.codO_h h)]; unfold En.codB En.codI; rfl⟩, o0⟩
  intro hg76
  try dsimp only at hg76
  refine KL.fin 8 rfl (KQ.seq (KC.ret (KQ.ofRet (KQ.fin2 Tryd.results94 rfl rfl ?_))))
  exact ⟨⟨_, _, congrArg (fun b => Value.tuple #[_, Value.bool b]) (by exact En.codO_l (by assumption)), wz.weak (by omega), by rw [List.length_append]; omega, fun h => by rw [hmx (En.codO_h h)]; unfold En.codB En.codI; rfl⟩, o0⟩
def En.cnt (m : Mo) (i : Nat) : Nat := [0, m.types.length, m.imports.length, m.funcs.length, m.tables.length, m.mems.length, m.globs.length, m.exports.length, 0, m.elems.length, m.codes.length, m.datas.length].getD i 0
theorem En.cnt_is {m : Mo} {k : Nat} (hk : k < 12) : [(0 : Int), (m.types.length : Nat), (m.imports.length : Nat), (m.funcs.length : Nat), (m.tables.length : Nat), (m.mems.length : Nat), (m.globs.length : Nat), (m.exports.length : Nat), 0, (m.elems.length : Nat), (m.codes.length : Nat), (m.datas.length : Nat)].getD k default = (En.cnt m k : Nat) := by
  match k, hk with
  | 0, _ => rfl
  | 1, _ => rfl
  | 2, _ => rfl
  | 3, _ => rfl
  | 4, _ => rfl
  | 5, _ => rfl
  | 6, _ => rfl
  | 7, _ => rfl
  | 8, _ => rfl
  | 9, _ => rfl
  | 10, _ => rfl
  | 11, _ => rfl
theorem count_any {H : Heap} {t i f tb me g e el c d : Value} {m : Mo} (mv : MoV H t i f tb me g e el c d m) (k : Nat) (hk : k < 12) : Ct Tryd.prog 49 [.agg [t, i, f, tb, me, g, e, .bool m.hasStart, .int .u32 m.start, el, c, d].toArray, .int .u8 (k : Nat)] H (fun u H' => u = .int .i64 (En.cnt m k : Nat) ∧ Old H H') := by
  refine Ct.mk Tryd.func49 rfl Tryd.ntmps49 rfl ?_
  intro W0 hW0
  have o0 : Old H H := Old.refl H
  have qt := mv.t.len
  have qi := mv.i.len
  have qf := mv.f.len
  have qtb := mv.tb.len
  have qme := mv.me.len
  have qg := mv.g.len
  have qe := mv.e.len
  have qel := mv.el.len
  have qc := mv.c.len
  have qd := mv.d.len
  refine KC.sr ?_
  refine KL.m (M.box rfl rfl rfl) rfl ?_
  rintro _ H1 ⟨rfl, n1⟩
  have z1 := n1.2.1
  have o0 := o0.trans n1.1
  have b1 := n1.2.2
  have bx := b1
  refine KL.fin 1 rfl (KQ.sr (KL.run 1 rfl (KL.ld rfl (cell_of bx rfl) (KL.q (R.lenS rfl Tryd.underlying22 rfl (mv.t.old o0)) rfl (KL.run 1 rfl (KL.ld rfl (cell_of bx rfl) (KL.q (R.lenS rfl Tryd.underlying23 rfl (mv.i.old o0)) rfl (KL.run 1 rfl (KL.ld rfl (cell_of bx rfl) (KL.q (R.lenS rfl Tryd.underlying24 rfl (mv.f.old o0)) rfl (KL.run 1 rfl ?_)))))))))))
  refine KL.ld rfl (cell_of bx rfl) (KL.q (R.lenS rfl Tryd.underlying25 rfl (mv.tb.old o0)) rfl (KL.run 1 rfl (KL.ld rfl (cell_of bx rfl) (KL.q (R.lenS rfl Tryd.underlying25 rfl (mv.me.old o0)) rfl (KL.run 1 rfl (KL.ld rfl (cell_of bx rfl) (KL.q (R.lenS rfl Tryd.underlying26 rfl (mv.g.old o0)) rfl (KL.run 1 rfl (KL.ld rfl (cell_of bx rfl) (KL.q (R.lenS rfl Tryd.underlying27 rfl (mv.e.old o0)) rfl (KL.run 1 rfl (KL.ld rfl (cell_of bx rfl) (KL.q (R.lenS rfl Tryd.underlying29 rfl (mv.el.old o0)) rfl ?_)))))))))))))
  refine KL.run 1 rfl (KL.ld rfl (cell_of bx rfl) (KL.q (R.lenS rfl Tryd.underlying30 rfl (mv.c.old o0)) rfl (KL.run 1 rfl (KL.ld rfl (cell_of bx rfl) (KL.q (R.lenS rfl Tryd.underlying31 rfl (mv.d.old o0)) rfl ?_)))))
  refine KL.m (M.lit rfl Tryd.underlying157 zs3 (by decide) rfl rfl rfl) rfl ?_
  rintro _ H2 ⟨rfl, n2⟩
  have z2 := n2.2.1
  have o0 := o0.trans n2.1
  have bx := (n2.1).blk bx
  have b2 := n2.2.2
  have sc : Sl 1 (EInt .i64) H2 _ [(0 : Int), (m.types.length : Nat), (m.imports.length : Nat), (m.funcs.length : Nat), (m.tables.length : Nat), (m.mems.length : Nat), (m.globs.length : Nat), (m.exports.length : Nat), 0, (m.elems.length : Nat), (m.codes.length : Nat), (m.datas.length : Nat)] := Sl.lits (l := [(0 : Int), (m.types.length : Nat), (m.imports.length : Nat), (m.funcs.length : Nat), (m.tables.length : Nat), (m.mems.length : Nat), (m.globs.length : Nat), (m.exports.length : Nat), 0, (m.elems.length : Nat), (m.codes.length : Nat), (m.datas.length : Nat)]) n2 rfl (by simp) (by intro y hy; simp only [List.mem_cons, List.not_mem_nil, or_false] at hy; rcases hy with rfl | rfl | rfl | rfl | rfl | rfl | rfl | rfl | rfl | rfl | rfl | rfl <;> dsimp only [InR] <;> omega)
  obtain ⟨hcx, hcr⟩ := sc.int k (by simp; omega)
  refine KL.fin 1 rfl (KQ.sr (KL.run 2 rfl ?_))
  refine KL.q (R.index1 (j := k) rfl Tryd.underlying157 sz3 rfl rfl sc rfl (by simp; omega)) rfl ?_
  refine KL.q ((R.load rfl Tryd.underlying3 rfl rfl hcx).val (congrArg (Value.int .i64) (En.cnt_is hk))) rfl (KL.fin 1 rfl (KQ.seq (KC.ret (KQ.ofRet (KQ.fin1 Tryd.results49 rfl ?_)))))
  exact ⟨rfl, o0⟩
end Go.Proofs.YtldmfchamcpmmaaDoor
namespace Go.Proofs.YtldmfchamcpmmaaDoor
open Go Go.RowKit
set_option linter.unusedVariables false
set_option linter.unusedSimpArgs false
set_option linter.unnecessarySimpa false
theorem En.and_t {a b : Bool} (h : a = true) : b = (a && b) := by rw [h]; rfl
theorem En.and_f {a b : Bool} (h : a = false) : false = (a && b) := by rw [h]; rfl
theorem cells_sub {H : Heap} {a : Addr} {cs : List Value} {n : Nat} (h : CellsH H a cs) : CellsH H a (cs.take n) := by
  intro i v hv
  rw [nth_eq] at hv
  have hi := (List.getElem?_eq_some_iff.1 hv).1
  rw [List.length_take] at hi
  rw [List.getElem?_take_of_lt (by omega)] at hv
  exact h i v (by rw [nth_eq]; exact hv)
theorem entry_1 {H : Heap} {t i f tb me g e el c d : Value} {m : Mo} (mv : MoV H t i f tb me g e el c d m) (hS : En.Small m) (k : Nat) (hk : k < m.types.length) : Ct Tryd.prog 51 [.agg [t, i, f, tb, me, g, e, .bool m.hasStart, .int .u32 m.start, el, c, d].toArray, .int .u8 1, .int .i64 (k : Nat)] H (fun u H' => RB H (En.typB (m.types.getD k default)) (En.typO (m.types.getD k default)) 1000000 u H') := by
  refine Ct.mk Tryd.func51 rfl Tryd.ntmps51 rfl ?_
  intro W0 hW0
  have o0 : Old H H := Old.refl H
  have hsm := hS.t _ (En.getD_memD hk)
  obtain ⟨cs, hcl, hcx, a, b, rfl, ha, hb⟩ := mv.t.at k hk
  refine KC.sr ?_
  refine KL.m (M.box rfl rfl rfl) rfl ?_
  rintro _ H1 ⟨rfl, n1⟩
  have z1 := n1.2.1
  have o0 := o0.trans n1.1
  have b1 := n1.2.2
  have bx := b1
  refine KL.fin 2 rfl (KQ.seq (KC.seq (KC.sr (KL.fin 1 rfl (KQ.seq (KC.block (KC.sr (KL.q ((R.eql rfl rfl rfl).val (congrArg Value.bool (decide_eq_true rfl))) rfl (KL.fin 1 rfl (KQ.seq (KC.condT rfl ?_)))))))))))
  refine KC.sr (KL.run 1 rfl (KL.ld rfl (cell_of bx rfl) (KL.run 1 rfl ?_)))
  refine KL.q (R.index (j := k) rfl Tryd.underlying22 sz44 rfl rfl (mv.t.old o0) rfl (by omega)) rfl ?_
  refine KL.q (R.fieldAddrP rfl Tryd.underlying44 rfl rfl sz36 rfl) rfl (KL.ld rfl ((o0.cells hcx) 0 _ rfl) ?_)
  refine KL.c rfl Tryd.call87 (values_any (ha.old o0) hsm.1) ?_
  rintro _ H2 ⟨⟨va, la, rfl, wa, hla, hma⟩, ox⟩
  have zc_H2 := (ox).1
  have o0 := o0.trans ox
  have bx := (ox).blk bx
  have zwa := ox.1
  have hbwa : vblock va < Array.size H2 := by
    rcases wa.lt with e9 | e9
    · rw [e9]; show 0 < _; omega
    exact e9.2
  refine KL.fin 5 rfl (KQ.sr (KL.run 1 rfl (KL.ld rfl (cell_of bx rfl) (KL.run 1 rfl ?_))))
  refine KL.q (R.index (j := k) rfl Tryd.underlying22 sz44 rfl rfl (mv.t.old o0) rfl (by omega)) rfl ?_
  refine KL.q (R.fieldAddrP rfl Tryd.underlying44 rfl rfl sz36 rfl) rfl (KL.ld rfl ((o0.cells hcx) 1 _ rfl) ?_)
  refine KL.c rfl Tryd.call87 (values_any (hb.old o0) hsm.2) ?_
  rintro _ H3 ⟨⟨vb, lb, rfl, wb, hlb, hmb⟩, ox⟩
  have zc_H3 := (ox).1
  have o0 := o0.trans ox
  have bx := (ox).blk bx
  have wa := wa.old ox
  have zwb := ox.1
  have hbwb : vblock vb < Array.size H3 := by
    rcases wb.lt with e9 | e9
    · rw [e9]; show 0 < _; omega
    exact e9.2
  refine KL.fin 5 rfl (KQ.sr ?_)
  refine KL.m (M.lit rfl Tryd.underlying36 zs5 (by decide) rfl rfl rfl) rfl ?_
  rintro _ H4 ⟨rfl, n4⟩
  have z4 := n4.2.1
  have o0 := o0.trans n4.1
  have bx := (n4.1).blk bx
  have wa := wa.old n4.1
  have wb := wb.old n4.1
  have b4 := n4.2.2
  have s0 : Own 1 (EInt .u8) 5 #[] (Array.size H3) H4 (.slice (some ⟨Array.size H3, 0, none⟩) 1 1) [96] := Own.litI (l := [96]) (m := 1) n4 (Nat.le_refl _) rfl (by omega) (by intro y hy; simp only [List.mem_cons, List.not_mem_nil, or_false] at hy; subst hy; dsimp only [InR] at *; omega)
  refine KL.run 1 rfl ?_
  have lt5 := s0.lt
  refine KL.m (M.append rfl Tryd.underlying36 inf5 rfl (by decide) rfl rfl s0 (by exact (wa.sl (emptyOld _) (by decide))) (fun _ _ h _ => h) (by omega) (by (simp only [List.length_append, List.length_cons, List.length_nil]; omega)) (by unfold maxLen; ((simp only [List.length_append, List.length_cons, List.length_nil]; omega)))) rfl ?_
  rintro v1 H5 ⟨w5, g5⟩
  have ob5 := g5.oldB s0 (by omega)
  have o0 := o0.then ob5 (by omega)
  have z5 := ob5.1
  have bx := (g5.2 _ (blk_lt bx) (by exact lt5.imp id (fun h => by omega))).trans bx
  have wb := wb.keep (g5.2 _ (by omega) (by exact lt5.imp id (fun h => by omega)))
  have s0 := w5
  refine KL.run 1 rfl ?_
  have lt6 := s0.lt
  refine KL.m (M.append rfl Tryd.underlying36 inf5 rfl (by decide) rfl rfl s0 (by exact (wb.sl (emptyOld _) (by decide))) (fun _ _ h _ => h) (by omega) (by (simp only [List.length_append, List.length_cons, List.length_nil]; omega)) (by unfold maxLen; ((simp only [List.length_append, List.length_cons, List.length_nil]; omega)))) rfl ?_
  rintro v2 H6 ⟨w6, g6⟩
  have ob6 := g6.oldB s0 (by omega)
  have o0 := o0.then ob6 (by omega)
  have z6 := ob6.1
  have bx := (g6.2 _ (blk_lt bx) (by exact lt6.imp id (fun h => by omega))).trans bx
  have s0 := w6
  refine KL.run 2 rfl ?_
  refine KL.cq 56 rfl ?_ ?_
  · intro hg56
    refine KL.fin 4 rfl (KQ.seq (KC.ret (KQ.retBlock (KQ.retThen (KQ.ofRet (KQ.fin2 Tryd.results51 rfl rfl ?_))))))
    exact ⟨⟨_, _, congrArg (fun b => Value.tuple #[_, Value.bool b]) (by exact En.and_t hg56), s0.weak (by omega), by simp only [List.length_append, List.length_cons, List.length_nil]; omega, fun h => by have h2 := h; unfold En.typO at h2; rw [Bool.and_eq_true] at h2; rw [hma h2.1, hmb h2.2]; unfold En.typB; simp⟩, o0⟩
  intro hg56
  refine KL.fin 4 rfl (KQ.seq (KC.ret (KQ.retBlock (KQ.retThen (KQ.ofRet (KQ.fin2 Tryd.results51 rfl rfl ?_))))))
  exact ⟨⟨_, _, congrArg (fun b => Value.tuple #[_, Value.bool b]) (by exact En.and_f hg56), s0.weak (by omega), by simp only [List.length_append, List.length_cons, List.length_nil]; omega, fun h => by have h2 := h; unfold En.typO at h2; rw [Bool.and_eq_true] at h2; rw [hma h2.1, hmb h2.2]; unfold En.typB; simp⟩, o0⟩
theorem entry_2 {H : Heap} {t i f tb me g e el c d : Value} {m : Mo} (mv : MoV H t i f tb me g e el c d m) (hS : En.Small m) (k : Nat) (hk : k < m.imports.length) : Ct Tryd.prog 51 [.agg [t, i, f, tb, me, g, e, .bool m.hasStart, .int .u32 m.start, el, c, d].toArray, .int .u8 2, .int .i64 (k : Nat)] H (fun u H' => RB H (En.impB (m.imports.getD k default)) (En.impO (m.imports.getD k default)) 1000000 u H') := by
  refine Ct.mk Tryd.func51 rfl Tryd.ntmps51 rfl ?_
  intro W0 hW0
  have o0 : Old H H := Old.refl H
  have hsm := hS.i _ (En.getD_memD hk)
  obtain ⟨cs, hcl, hcx, rfl, r1, r2, r3, r4, r5⟩ := mv.i.at k hk
  refine KC.sr ?_
  refine KL.m (M.box rfl rfl rfl) rfl ?_
  rintro _ H1 ⟨rfl, n1⟩
  have z1 := n1.2.1
  have o0 := o0.trans n1.1
  have b1 := n1.2.2
  have bx := b1
  refine KL.fin 2 rfl (KQ.seq (KC.seq (KC.sr (KL.fin 1 rfl (KQ.seq (KC.block (KC.sr (KL.e0 rfl (by decide) (KL.fin 1 rfl (KQ.seq (KC.condF rfl ?_)))))))))))
  refine KC.sr (KL.q ((R.eql rfl rfl rfl).val (congrArg Value.bool (decide_eq_true rfl))) rfl (KL.fin 1 rfl (KQ.seq (KC.condT rfl (KC.sr (KL.run 1 rfl (KL.ld rfl (cell_of bx rfl) (KL.run 1 rfl ?_))))))))
  refine KL.q (R.index (j := k) rfl Tryd.underlying23 sz51 rfl rfl (mv.i.old o0) rfl (by omega)) rfl ?_
  refine KL.lda rfl (o0.cells hcx) rfl ?_
  refine KL.c rfl Tryd.call88 (rimported_any _ _ _ _ _ _ _ _ r1 hsm.1 hsm.2 r2 r3 r4 r5) ?_
  rintro _ H2 ⟨⟨va, la, rfl, wa, hla, hma⟩, ox⟩
  have zc_H2 := (ox).1
  have o0 := o0.trans ox
  have bx := (ox).blk bx
  have zwa := ox.1
  have hbwa : vblock va < Array.size H2 := by
    rcases wa.lt with e9 | e9
    · rw [e9]; show 0 < _; omega
    exact e9.2
  refine KL.fin 4 rfl (KQ.seq (KC.ret (KQ.retBlock (KQ.retThen (KQ.ofRet (KQ.fin2 Tryd.results51 rfl rfl ?_))))))
  exact ⟨⟨_, _, rfl, wa.weak (by omega), by omega, hma⟩, o0⟩
theorem entry_3 {H : Heap} {t i f tb me g e el c d : Value} {m : Mo} (mv : MoV H t i f tb me g e el c d m) (hS : En.Small m) (k : Nat) (hk : k < m.funcs.length) : Ct Tryd.prog 51 [.agg [t, i, f, tb, me, g, e, .bool m.hasStart, .int .u32 m.start, el, c, d].toArray, .int .u8 3, .int .i64 (k : Nat)] H (fun u H' => RB H (En.u (m.funcs.getD k default)) (En.tru (m.funcs.getD k default)) 1000000 u H') := by
  refine Ct.mk Tryd.func51 rfl Tryd.ntmps51 rfl ?_
  intro W0 hW0
  have o0 : Old H H := Old.refl H
  obtain ⟨hcx, hxr⟩ := mv.f.int k hk
  dsimp only [InR] at hxr
  have hul := En.u_le (m.funcs.getD k default)
  refine KC.sr ?_
  refine KL.m (M.box rfl rfl rfl) rfl ?_
  rintro _ H1 ⟨rfl, n1⟩
  have z1 := n1.2.1
  have o0 := o0.trans n1.1
  have b1 := n1.2.2
  have bx := b1
  refine KL.fin 2 rfl (KQ.seq (KC.seq (KC.sr (KL.fin 1 rfl (KQ.seq (KC.block (KC.sr (KL.e0 rfl (by decide) (KL.fin 1 rfl (KQ.seq (KC.condF rfl ?_)))))))))))
  refine KC.sr (KL.e0 rfl (by decide) (KL.fin 1 rfl (KQ.seq (KC.condF rfl (KC.sr (KL.q ((R.eql rfl rfl rfl).val (congrArg Value.bool (decide_eq_true rfl))) rfl (KL.fin 1 rfl (KQ.seq (KC.condT rfl (KC.sr ?_))))))))))
  refine KL.run 1 rfl (KL.ld rfl (cell_of bx rfl) (KL.run 1 rfl ?_))
  refine KL.q (R.index1 (j := k) rfl Tryd.underlying24 sz28 rfl rfl (mv.f.old o0) rfl (by omega)) rfl ?_
  refine KL.ld rfl (o0.cell hcx) ?_
  refine KL.q (R.convI rfl Tryd.underlying28 Tryd.underlying101 rfl (by dsimp only [InR]; omega)) rfl ?_
  refine KL.c rfl Tryd.call50 (U_any ((m.funcs.getD k default)) (by omega) (by omega)) ?_
  rintro v_wa H2 ⟨wa, ox⟩
  have zc_H2 := (ox).1
  have o0 := o0.trans ox
  have bx := (ox).blk bx
  have zwa := ox.1
  have lwa := wa.lt
  refine KL.fin 2 rfl (KQ.seq (KC.ret (KQ.retBlock (KQ.retThen (KQ.ofRet (KQ.fin2 Tryd.results51 rfl rfl ?_))))))
  exact ⟨⟨_, _, rfl, wa.weak (by omega), by omega, fun _ => rfl⟩, o0⟩
theorem entry_4 {H : Heap} {t i f tb me g e el c d : Value} {m : Mo} (mv : MoV H t i f tb me g e el c d m) (hS : En.Small m) (k : Nat) (hk : k < m.tables.length) : Ct Tryd.prog 51 [.agg [t, i, f, tb, me, g, e, .bool m.hasStart, .int .u32 m.start, el, c, d].toArray, .int .u8 4, .int .i64 (k : Nat)] H (fun u H' => RB H (En.tabB (m.tables.getD k default)) (En.limO (m.tables.getD k default)) 1000000 u H') := by
  refine Ct.mk Tryd.func51 rfl Tryd.ntmps51 rfl ?_
  intro W0 hW0
  have o0 : Old H H := Old.refl H
  obtain ⟨hcx, hx1, hx2⟩ := mv.tb.limAt k hk
  refine KC.sr ?_
  refine KL.m (M.box rfl rfl rfl) rfl ?_
  rintro _ H1 ⟨rfl, n1⟩
  have z1 := n1.2.1
  have o0 := o0.trans n1.1
  have b1 := n1.2.2
  have bx := b1
  refine KL.fin 2 rfl (KQ.seq (KC.seq (KC.sr (KL.fin 1 rfl (KQ.seq (KC.block (KC.sr (KL.e0 rfl (by decide) (KL.fin 1 rfl (KQ.seq (KC.condF rfl ?_)))))))))))
  refine KC.sr (KL.e0 rfl (by decide) (KL.fin 1 rfl (KQ.seq (KC.condF rfl (KC.sr (KL.e0 rfl (by decide) (KL.fin 1 rfl (KQ.seq (KC.condF rfl (KC.sr ?_))))))))))
  refine KL.q ((R.eql rfl rfl rfl).val (congrArg Value.bool (decide_eq_true rfl))) rfl (KL.fin 1 rfl (KQ.seq (KC.condT rfl (KC.sr (KL.run 1 rfl (KL.ld rfl (cell_of bx rfl) (KL.run 1 rfl ?_)))))))
  refine KL.q (R.index (j := k) rfl Tryd.underlying25 sz47 rfl rfl (mv.tb.old o0) rfl (by omega)) rfl ?_
  refine KL.lda rfl (o0.cells hcx) rfl ?_
  refine KL.c rfl Tryd.call89 (rlimits_any _ _ hx1 hx2) ?_
  rintro _ H2 ⟨⟨va, la, rfl, wa, hla, hma⟩, ox⟩
  have zc_H2 := (ox).1
  have o0 := o0.trans ox
  have bx := (ox).blk bx
  have zwa := ox.1
  have hbwa : vblock va < Array.size H2 := by
    rcases wa.lt with e9 | e9
    · rw [e9]; show 0 < _; omega
    exact e9.2
  refine KL.fin 5 rfl (KQ.sr ?_)
  refine KL.m (M.lit rfl Tryd.underlying36 zs5 (by decide) rfl rfl rfl) rfl ?_
  rintro _ H3 ⟨rfl, n3⟩
  have z3 := n3.2.1
  have o0 := o0.trans n3.1
  have bx := (n3.1).blk bx
  have wa := wa.old n3.1
  have b3 := n3.2.2
  have s0 : Own 1 (EInt .u8) 5 #[] (Array.size H2) H3 (.slice (some ⟨Array.size H2, 0, none⟩) 1 1) [112] := Own.litI (l := [112]) (m := 1) n3 (Nat.le_refl _) rfl (by omega) (by intro y hy; simp only [List.mem_cons, List.not_mem_nil, or_false] at hy; subst hy; dsimp only [InR] at *; omega)
  refine KL.run 1 rfl ?_
  have lt4 := s0.lt
  refine KL.m (M.append rfl Tryd.underlying36 inf5 rfl (by decide) rfl rfl s0 (by exact (wa.sl (emptyOld _) (by decide))) (fun _ _ h _ => h) (by omega) (by (simp only [List.length_append, List.length_cons, List.length_nil]; omega)) (by unfold maxLen; ((simp only [List.length_append, List.length_cons, List.length_nil]; omega)))) rfl ?_
  rintro v1 H4 ⟨w4, g4⟩
  have ob4 := g4.oldB s0 (by omega)
  have o0 := o0.then ob4 (by omega)
  have z4 := ob4.1
  have bx := (g4.2 _ (blk_lt bx) (by exact lt4.imp id (fun h => by omega))).trans bx
  have s0 := w4
  refine KL.fin 3 rfl (KQ.seq (KC.ret (KQ.retBlock (KQ.retThen (KQ.ofRet (KQ.fin2 Tryd.results51 rfl rfl ?_))))))
  exact ⟨⟨_, _, rfl, s0.weak (by omega), by simp only [List.length_append, List.length_cons, List.length_nil]; omega, fun h => by rw [hma h]; rfl⟩, o0⟩
theorem entry_5 {H : Heap} {t i f tb me g e el c d : Value} {m : Mo} (mv : MoV H t i f tb me g e el c d m) (hS : En.Small m) (k : Nat) (hk : k < m.mems.length) : Ct Tryd.prog 51 [.agg [t, i, f, tb, me, g, e, .bool m.hasStart, .int .u32 m.start, el, c, d].toArray, .int .u8 5, .int .i64 (k : Nat)] H (fun u H' => RB H (En.limB (m.mems.getD k default)) (En.limO (m.mems.getD k default)) 1000000 u H') := by
  refine Ct.mk Tryd.func51 rfl Tryd.ntmps51 rfl ?_
  intro W0 hW0
  have o0 : Old H H := Old.refl H
  obtain ⟨hcx, hx1, hx2⟩ := mv.me.limAt k hk
  refine KC.sr ?_
  refine KL.m (M.box rfl rfl rfl) rfl ?_
  rintro _ H1 ⟨rfl, n1⟩
  have z1 := n1.2.1
  have o0 := o0.trans n1.1
  have b1 := n1.2.2
  have bx := b1
  refine KL.fin 2 rfl (KQ.seq (KC.seq (KC.sr (KL.fin 1 rfl (KQ.seq (KC.block (KC.sr (KL.e0 rfl (by decide) (KL.fin 1 rfl (KQ.seq (KC.condF rfl ?_)))))))))))
  refine KC.sr (KL.e0 rfl (by decide) (KL.fin 1 rfl (KQ.seq (KC.condF rfl (KC.sr (KL.e0 rfl (by decide) (KL.fin 1 rfl (KQ.seq (KC.condF rfl (KC.sr ?_))))))))))
  refine KL.e0 rfl (by decide) (KL.fin 1 rfl (KQ.seq (KC.condF rfl (KC.sr (KL.q ((R.eql rfl rfl rfl).val (congrArg Value.bool (decide_eq_true rfl))) rfl (KL.fin 1 rfl (KQ.seq (KC.condT rfl (KC.sr (KL.run 1 rfl (KL.ld rfl (cell_of bx rfl) ?_)))))))))))
  refine KL.run 1 rfl ?_
  refine KL.q (R.index (j := k) rfl Tryd.underlying25 sz47 rfl rfl (mv.me.old o0) rfl (by omega)) rfl ?_
  refine KL.lda rfl (o0.cells hcx) rfl ?_
  refine KL.c rfl Tryd.call89 (rlimits_any _ _ hx1 hx2) ?_
  rintro _ H2 ⟨⟨va, la, rfl, wa, hla, hma⟩, ox⟩
  have zc_H2 := (ox).1
  have o0 := o0.trans ox
  have bx := (ox).blk bx
  have zwa := ox.1
  have hbwa : vblock va < Array.size H2 := by
    rcases wa.lt with e9 | e9
    · rw [e9]; show 0 < _; omega
    exact e9.2
  refine KL.fin 4 rfl (KQ.seq (KC.ret (KQ.retBlock (KQ.retThen (KQ.ofRet (KQ.fin2 Tryd.results51 rfl rfl ?_))))))
  exact ⟨⟨_, _, rfl, wa.weak (by omega), by omega, hma⟩, o0⟩
theorem entry_6 {H : Heap} {t i f tb me g e el c d : Value} {m : Mo} (mv : MoV H t i f tb me g e el c d m) (hS : En.Small m) (k : Nat) (hk : k < m.globs.length) : Ct Tryd.prog 51 [.agg [t, i, f, tb, me, g, e, .bool m.hasStart, .int .u32 m.start, el, c, d].toArray, .int .u8 6, .int .i64 (k : Nat)] H (fun u H' => RB H (En.gloB (m.globs.getD k default)) (En.gloO (m.globs.getD k default)) 1000000 u H') := by
  refine Ct.mk Tryd.func51 rfl Tryd.ntmps51 rfl ?_
  intro W0 hW0
  have o0 : Old H H := Old.refl H
  have hsm := hS.g _ (En.getD_memD hk)
  obtain ⟨cs, hcl, hcx, a, rfl, ha, r1⟩ := mv.g.at k hk
  refine KC.sr ?_
  refine KL.m (M.box rfl rfl rfl) rfl ?_
  rintro _ H1 ⟨rfl, n1⟩
  have z1 := n1.2.1
  have o0 := o0.trans n1.1
  have b1 := n1.2.2
  have bx := b1
  refine KL.fin 2 rfl (KQ.seq (KC.seq (KC.sr (KL.fin 1 rfl (KQ.seq (KC.block (KC.sr (KL.e0 rfl (by decide) (KL.fin 1 rfl (KQ.seq (KC.condF rfl ?_)))))))))))
  refine KC.sr (KL.e0 rfl (by decide) (KL.fin 1 rfl (KQ.seq (KC.condF rfl (KC.sr (KL.e0 rfl (by decide) (KL.fin 1 rfl (KQ.seq (KC.condF rfl (KC.sr ?_))))))))))
  refine KL.e0 rfl (by decide) (KL.fin 1 rfl (KQ.seq (KC.condF rfl (KC.sr (KL.e0 rfl (by decide) (KL.fin 1 rfl (KQ.seq (KC.condF rfl (KC.sr (KL.q ((R.eql rfl rfl rfl).val (congrArg Value.bool (decide_eq_true rfl))) rfl (KL.fin 1 rfl ?_)))))))))))
  refine KQ.seq (KC.condT rfl (KC.sr (KL.run 1 rfl (KL.ld rfl (cell_of bx rfl) (KL.run 1 rfl ?_)))))
  refine KL.q (R.index (j := k) rfl Tryd.underlying26 sz54 rfl rfl (mv.g.old o0) rfl (by omega)) rfl ?_
  refine KL.q (R.fieldAddrP rfl Tryd.underlying54 rfl rfl sz49 rfl) rfl (KL.lda rfl (cells_sub (n := 2) (o0.cells hcx)) rfl ?_)
  refine KL.c rfl Tryd.call90 (rglob_any _ _ r1) ?_
  rintro _ H2 ⟨⟨va, la, rfl, wa, hla, hma⟩, ox⟩
  have zc_H2 := (ox).1
  have o0 := o0.trans ox
  have bx := (ox).blk bx
  have zwa := ox.1
  have hbwa : vblock va < Array.size H2 := by
    rcases wa.lt with e9 | e9
    · rw [e9]; show 0 < _; omega
    exact e9.2
  refine KL.fin 5 rfl (KQ.sr (KL.run 1 rfl (KL.ld rfl (cell_of bx rfl) (KL.run 1 rfl ?_))))
  refine KL.q (R.index (j := k) rfl Tryd.underlying26 sz54 rfl rfl (mv.g.old o0) rfl (by omega)) rfl ?_
  refine KL.q (R.fieldAddrP rfl Tryd.underlying54 rfl rfl sz52 rfl) rfl (KL.ld rfl ((o0.cells hcx) 2 _ rfl) ?_)
  refine KL.c rfl Tryd.call91 (RExprX_any (ha.old o0) (by omega)) ?_
  rintro _ H3 ⟨⟨vb, lb, rfl, wb, hlb, hmb⟩, ox⟩
  have zc_H3 := (ox).1
  have o0 := o0.trans ox
  have bx := (ox).blk bx
  have wa := wa.old ox
  have zwb := ox.1
  have hbwb : vblock vb < Array.size H3 := by
    rcases wb.lt with e9 | e9
    · rw [e9]; show 0 < _; omega
    exact e9.2
  refine KL.fin 5 rfl (KQ.sr (KL.run 2 rfl ?_))
  have lt4 := wa.lt
  refine KL.m (M.append rfl Tryd.underlying36 inf5 rfl (by decide) rfl rfl wa (by exact (wb.sl (emptyOld _) (by decide))) (fun _ _ h _ => h) (by omega) (by omega) (by unfold maxLen; omega)) rfl ?_
  rintro v1 H4 ⟨w4, g4⟩
  have ob4 := g4.oldB wa (by omega)
  have o0 := o0.then ob4 (by omega)
  have z4 := ob4.1
  have bx := (g4.2 _ (blk_lt bx) (by exact lt4.imp id (fun h => by omega))).trans bx
  have wa := w4
  refine KL.run 2 rfl ?_
  refine KL.cq 129 rfl ?_ ?_
  · intro hg129
    refine KL.fin 4 rfl (KQ.seq (KC.ret (KQ.retBlock (KQ.retThen (KQ.ofRet (KQ.fin2 Tryd.results51 rfl rfl ?_))))))
    exact ⟨⟨_, _, congrArg (fun b => Value.tuple #[_, Value.bool b]) (by unfold En.gloO; simp_all), wa.weak (by omega), by simp only [List.length_append, List.length_cons, List.length_nil]; omega, fun h => by have h2 := h; unfold En.gloO at h2; rw [Bool.and_eq_true] at h2; rw [hma h2.1, hmb h2.2]; rfl⟩, o0⟩
  intro hg129
  refine KL.fin 4 rfl (KQ.seq (KC.ret (KQ.retBlock (KQ.retThen (KQ.ofRet (KQ.fin2 Tryd.results51 rfl rfl ?_))))))
  exact ⟨⟨_, _, congrArg (fun b => Value.tuple #[_, Value.bool b]) (by unfold En.gloO; simp_all), wa.weak (by omega), by simp only [List.length_append, List.length_cons, List.length_nil]; omega, fun h => by have h2 := h; unfold En.gloO at h2; rw [Bool.and_eq_true] at h2; rw [hma h2.1, hmb h2.2]; rfl⟩, o0⟩
theorem entry_7 {H : Heap} {t i f tb me g e el c d : Value} {m : Mo} (mv : MoV H t i f tb me g e el c d m) (hS : En.Small m) (k : Nat) (hk : k < m.exports.length) : Ct Tryd.prog 51 [.agg [t, i, f, tb, me, g, e, .bool m.hasStart, .int .u32 m.start, el, c, d].toArray, .int .u8 7, .int .i64 (k : Nat)] H (fun u H' => RB H (En.expB (m.exports.getD k default)) (En.expO (m.exports.getD k default)) 1000000 u H') := by
  refine Ct.mk Tryd.func51 rfl Tryd.ntmps51 rfl ?_
  intro W0 hW0
  have o0 : Old H H := Old.refl H
  have hsm := hS.e _ (En.getD_memD hk)
  obtain ⟨cs, hcl, hcx, rfl, r1, r2⟩ := mv.e.at k hk
  have huz := r2
  dsimp only [InR] at huz
  have huz : 0 ≤ (m.exports.getD k default).idx ∧ (m.exports.getD k default).idx < 4294967296 := by omega
  have htl := En.txt_le hsm
  have hul := En.u_le (m.exports.getD k default).idx
  have hkr := r1
  dsimp only [InR] at hkr
  refine KC.sr ?_
  refine KL.m (M.box rfl rfl rfl) rfl ?_
  rintro _ H1 ⟨rfl, n1⟩
  have z1 := n1.2.1
  have o0 := o0.trans n1.1
  have b1 := n1.2.2
  have bx := b1
  refine KL.fin 2 rfl (KQ.seq (KC.seq (KC.sr (KL.fin 1 rfl (KQ.seq (KC.block (KC.sr (KL.e0 rfl (by decide) (KL.fin 1 rfl (KQ.seq (KC.condF rfl ?_)))))))))))
  refine KC.sr (KL.e0 rfl (by decide) (KL.fin 1 rfl (KQ.seq (KC.condF rfl (KC.sr (KL.e0 rfl (by decide) (KL.fin 1 rfl (KQ.seq (KC.condF rfl (KC.sr ?_))))))))))
  refine KL.e0 rfl (by decide) (KL.fin 1 rfl (KQ.seq (KC.condF rfl (KC.sr (KL.e0 rfl (by decide) (KL.fin 1 rfl (KQ.seq (KC.condF rfl (KC.sr (KL.e0 rfl (by decide) (KL.fin 1 rfl ?_)))))))))))
  refine KQ.seq (KC.condF rfl (KC.sr (KL.q ((R.eql rfl rfl rfl).val (congrArg Value.bool (decide_eq_true rfl))) rfl (KL.fin 1 rfl (KQ.seq (KC.condT rfl (KC.sr (KL.run 1 rfl (KL.ld rfl (cell_of bx rfl) (KL.run 1 rfl ?_))))))))))
  refine KL.q (R.index (j := k) rfl Tryd.underlying27 sz76 rfl rfl (mv.e.old o0) rfl (by omega)) rfl ?_
  refine KL.lda rfl (o0.cells hcx) rfl ?_
  refine KL.m (M.alloc rfl zr76 rfl) rfl ?_
  rintro _ H2 ⟨rfl, n2⟩
  have z2 := n2.2.1
  have o0 := o0.trans n2.1
  have bx := (n2.1).blk bx
  have b2 := n2.2.2
  have bv := b2
  refine KL.opS (S.storeAgg rfl sz76 rfl rfl (rfl) (by intro z hz; simp only [List.mem_cons, List.not_mem_nil, or_false] at hz; rcases hz with rfl | rfl | rfl <;> rfl) bv (by simp)) rfl rfl ?_
  rintro H3 ⟨u3, b3⟩
  have o0 := o0.upd u3 (by omega)
  have zu3 := u3.1
  have bx := ((u3).2 _ (by omega)).trans bx
  have bv := b3
  rw [over_all (by rfl)] at bv
  refine KL.nil (KQ.seq (KC.seq ?_))
  refine KC.valsL [139, 140, 141, 142, 143, 144, 145, 146, 147, 148, 149, 150, 19] [[], [0], [1], [], [3], [4], [2, 5, 2], [], [7], [8], [9, 6], [6, 10, 10], [11, 11, 0, 1, 2, 3, 4, 5, 6, 7, 8, 9, 10, 11]] (fun (i : Nat) (u : Value) (Hc : Heap) => match i with | 0 => u = .pointer (some ⟨Array.size H1, 0, none⟩) | 1 => u = .string (m.exports.getD k default).nam | 2 => Own 1 (EInt .u8) 5 #[] (Array.size H3) Hc u (En.txt (m.exports.getD k default).nam) | 3 => u = .pointer (some ⟨Array.size H1, 1, none⟩) | 4 => u = .int .u8 (m.exports.getD k default).kind | 5 => ∃ g9, (Array.size H3) ≤ g9 ∧ u = .slice (some ⟨g9, 0, none⟩) 1 1 ∧ Hc[g9]? = some (.cells #[.int .u8 (m.exports.getD k default).kind] 5 (0, 0)) | 6 => Own 1 (EInt .u8) 5 #[] (Array.size H3) Hc u (En.txt (m.exports.getD k default).nam ++ [(m.exports.getD k default).kind]) | 7 => u = .pointer (some ⟨Array.size H1, 2, none⟩) | 8 => u = .int .u32 (m.exports.getD k default).idx | 9 => u = .int .u64 (m.exports.getD k default).idx | 10 => Own 1 (EInt .u8) 5 #[] (Array.size H3) Hc u (En.u (m.exports.getD k default).idx) | 11 => Own 1 (EInt .u8) 5 #[] (Array.size H3) Hc u (En.txt (m.exports.getD k default).nam ++ [(m.exports.getD k default).kind] ++ En.u (m.exports.getD k default).idx) | 12 => Own 1 (EInt .u8) 5 #[] (Array.size H3) Hc u (En.txt (m.exports.getD k default).nam ++ [(m.exports.getD k default).kind] ++ En.u (m.exports.getD k default).idx) | _ => True) (by kernel_rfl) (by kernel_rfl) (by kernel_rfl) (by kernel_rfl) ?_ ?_
  · intro i o ho u Hc og hp
    have hst : ∀ H2, Old Hc H2 → ∀ j x, (fun (i : Nat) (u : Value) (Hc : Heap) => match i with | 0 => u = .pointer (some ⟨Array.size H1, 0, none⟩) | 1 => u = .string (m.exports.getD k default).nam | 2 => Own 1 (EInt .u8) 5 #[] (Array.size H3) Hc u (En.txt (m.exports.getD k default).nam) | 3 => u = .pointer (some ⟨Array.size H1, 1, none⟩) | 4 => u = .int .u8 (m.exports.getD k default).kind | 5 => ∃ g9, (Array.size H3) ≤ g9 ∧ u = .slice (some ⟨g9, 0, none⟩) 1 1 ∧ Hc[g9]? = some (.cells #[.int .u8 (m.exports.getD k default).kind] 5 (0, 0)) | 6 => Own 1 (EInt .u8) 5 #[] (Array.size H3) Hc u (En.txt (m.exports.getD k default).nam ++ [(m.exports.getD k default).kind]) | 7 => u = .pointer (some ⟨Array.size H1, 2, none⟩) | 8 => u = .int .u32 (m.exports.getD k default).idx | 9 => u = .int .u64 (m.exports.getD k default).idx | 10 => Own 1 (EInt .u8) 5 #[] (Array.size H3) Hc u (En.u (m.exports.getD k default).idx) | 11 => Own 1 (EInt .u8) 5 #[] (Array.size H3) Hc u (En.txt (m.exports.getD k default).nam ++ [(m.exports.getD k default).kind] ++ En.u (m.exports.getD k default).idx) | 12 => Own 1 (EInt .u8) 5 #[] (Array.size H3) Hc u (En.txt (m.exports.getD k default).nam ++ [(m.exports.getD k default).kind] ++ En.u (m.exports.getD k default).idx) | _ => True) j x Hc → (fun (i : Nat) (u : Value) (Hc : Heap) => match i with | 0 => u = .pointer (some ⟨Array.size H1, 0, none⟩) | 1 => u = .string (m.exports.getD k default).nam | 2 => Own 1 (EInt .u8) 5 #[] (Array.size H3) Hc u (En.txt (m.exports.getD k default).nam) | 3 => u = .pointer (some ⟨Array.size H1, 1, none⟩) | 4 => u = .int .u8 (m.exports.getD k default).kind | 5 => ∃ g9, (Array.size H3) ≤ g9 ∧ u = .slice (some ⟨g9, 0, none⟩) 1 1 ∧ Hc[g9]? = some (.cells #[.int .u8 (m.exports.getD k default).kind] 5 (0, 0)) | 6 => Own 1 (EInt .u8) 5 #[] (Array.size H3) Hc u (En.txt (m.exports.getD k default).nam ++ [(m.exports.getD k default).kind]) | 7 => u = .pointer (some ⟨Array.size H1, 2, none⟩) | 8 => u = .int .u32 (m.exports.getD k default).idx | 9 => u = .int .u64 (m.exports.getD k default).idx | 10 => Own 1 (EInt .u8) 5 #[] (Array.size H3) Hc u (En.u (m.exports.getD k default).idx) | 11 => Own 1 (EInt .u8) 5 #[] (Array.size H3) Hc u (En.txt (m.exports.getD k default).nam ++ [(m.exports.getD k default).kind] ++ En.u (m.exports.getD k default).idx) | 12 => Own 1 (EInt .u8) 5 #[] (Array.size H3) Hc u (En.txt (m.exports.getD k default).nam ++ [(m.exports.getD k default).kind] ++ En.u (m.exports.getD k default).idx) | _ => True) j x H2 := by
      intro H2 o2 j x hx
      match j, hx with
      | 0, hx => exact hx
      | 1, hx => exact hx
      | 2, hx => exact hx.old o2
      | 3, hx => exact hx
      | 4, hx => exact hx
      | 5, hx => exact by obtain ⟨g9, g1, g2, g3⟩ := hx; exact ⟨g9, g1, g2, o2.blk g3⟩
      | 6, hx => exact hx.old o2
      | 7, hx => exact hx
      | 8, hx => exact hx
      | 9, hx => exact hx
      | 10, hx => exact hx.old o2
      | 11, hx => exact hx.old o2
      | 12, hx => exact hx.old o2
      | j + 13, hx => exact hx
    match i, ho, hp with
    | 0, ho, hp =>
      have e := Option.some.inj (ho : some _ = some o)
      subst e
      change ∀ j ∈ ([] : List Nat), _ at hp
      change Ob _ _ (([] : Env) ++ _) _ _ _
      exact .inl ⟨rfl, D1.op (R.fieldAddr rfl Tryd.underlying76 rfl rfl sz9 rfl) ⟨rfl, og, fun _ _ h => h⟩⟩
    | 1, ho, hp =>
      have e := Option.some.inj (ho : some _ = some o)
      subst e
      change ∀ j ∈ ([0] : List Nat), _ at hp
      have h139 : (u 0) = .pointer (some ⟨Array.size H1, 0, none⟩) := hp 0 (by simp)
      change Ob _ _ (([(139, u 0)] : Env) ++ _) _ _ _
      simp only [h139]
      exact .inl ⟨rfl, D1.op (R.load rfl Tryd.underlying9 rfl rfl (cell_of (og.blk bv) rfl)) ⟨rfl, og, fun _ _ h => h⟩⟩
    | 2, ho, hp =>
      have e := Option.some.inj (ho : some _ = some o)
      subst e
      change ∀ j ∈ ([1] : List Nat), _ at hp
      have h140 : (u 1) = .string (m.exports.getD k default).nam := hp 1 (by simp)
      change Ob _ _ (([(140, u 1)] : Env) ++ _) _ _ _
      simp only [h140]
      exact .inl ⟨rfl, D1.call rfl rfl rfl rfl Tryd.call92 (text_any (m.exports.getD k default).nam (by omega)) (by rintro _ H2 ⟨w, ox⟩; exact ⟨w.weak og.1, og.trans ox, hst _ ox⟩)⟩
    | 3, ho, hp =>
      have e := Option.some.inj (ho : some _ = some o)
      subst e
      change ∀ j ∈ ([] : List Nat), _ at hp
      change Ob _ _ (([] : Env) ++ _) _ _ _
      exact .inl ⟨rfl, D1.op (R.fieldAddr rfl Tryd.underlying76 rfl rfl sz5 rfl) ⟨rfl, og, fun _ _ h => h⟩⟩
    | 4, ho, hp =>
      have e := Option.some.inj (ho : some _ = some o)
      subst e
      change ∀ j ∈ ([3] : List Nat), _ at hp
      have h142 : (u 3) = .pointer (some ⟨Array.size H1, 1, none⟩) := hp 3 (by simp)
      change Ob _ _ (([(142, u 3)] : Env) ++ _) _ _ _
      simp only [h142]
      exact .inl ⟨rfl, D1.op (R.load rfl Tryd.underlying5 rfl rfl (cell_of (og.blk bv) rfl)) ⟨rfl, og, fun _ _ h => h⟩⟩
    | 5, ho, hp =>
      have e := Option.some.inj (ho : some _ = some o)
      subst e
      change ∀ j ∈ ([4] : List Nat), _ at hp
      have h143 : (u 4) = .int .u8 (m.exports.getD k default).kind := hp 4 (by simp)
      change Ob _ _ (([(143, u 4)] : Env) ++ _) _ _ _
      simp only [h143]
      refine .inl ⟨rfl, D1.mem (M.lit rfl Tryd.underlying36 zs5 (by decide) rfl rfl rfl) ?_⟩
      rintro _ H2 ⟨rfl, nn⟩
      exact ⟨⟨_, og.1, rfl, nn.2.2⟩, og.trans nn.1, hst _ nn.1⟩
    | 6, ho, hp =>
      have e := Option.some.inj (ho : some _ = some o)
      subst e
      change ∀ j ∈ ([2, 5, 2] : List Nat), _ at hp
      have h141 : Own 1 (EInt .u8) 5 #[] (Array.size H3) Hc (u 2) (En.txt (m.exports.getD k default).nam) := hp 2 (by simp)
      have h144 : ∃ g9, (Array.size H3) ≤ g9 ∧ (u 5) = .slice (some ⟨g9, 0, none⟩) 1 1 ∧ Hc[g9]? = some (.cells #[.int .u8 (m.exports.getD k default).kind] 5 (0, 0)) := hp 5 (by simp)
      change Ob _ _ (([(141, u 2), (144, u 5), (141, u 2)] : Env) ++ _) _ _ _
      refine .inl ⟨rfl, D1.mem (M.appendQ (m := [(m.exports.getD k default).kind]) rfl Tryd.underlying36 inf5 rfl rfl rfl h141 (En.txt_pos (a := (m.exports.getD k default).nam) (by omega)) ((by obtain ⟨g9, g1, g2, g3⟩ := h144; rw [g2]; exact Sl.ofCells (l := [(m.exports.getD k default).kind]) g3 (by simp) (by intro y hy; simp only [List.mem_cons, List.not_mem_nil, or_false] at hy; subst hy; exact r1))) og.1 (by (simp only [List.length_cons, List.length_nil]; omega)) (by unfold maxLen; ((simp only [List.length_cons, List.length_nil]; omega))) (by simp)) ?_⟩
      rintro v2 H2 ⟨k1, k2⟩
      rcases k2 with k2 | k2
      · exact ⟨k1, og.trans k2, hst _ k2⟩
      refine ⟨k1, k2.oldFrom og, ?_⟩
      intro j z hz
      match j, hz with
      | 0, hz => exact hz
      | 1, hz => exact hz
      | 2, hz => exact Own.inPlace hz k2 (Nat.le_refl _)
      | 3, hz => exact hz
      | 4, hz => exact hz
      | 5, hz => obtain ⟨g9, g1, g2, g3⟩ := hz; exact ⟨g9, g1, g2, k2.other g3 (.inr (by have := En.txt_pos (a := (m.exports.getD k default).nam) (by omega); show 1 < _; ((simp only [List.length_cons, List.length_nil]; omega))))⟩
      | 6, hz => exact Own.inPlaceEq hz k2 (by rw [List.length_append]) (by have := En.txt_pos (a := (m.exports.getD k default).nam) (by omega); omega) k1
      | 7, hz => exact hz
      | 8, hz => exact hz
      | 9, hz => exact hz
      | 10, hz => exact Own.inPlaceP (E := []) hz h141 k2 (fun r h => En.u_ptxt (by omega) huz h)
      | 11, hz => exact Own.inPlaceX (r := En.u (m.exports.getD k default).idx) hz k1 k2 rfl
      | 12, hz => exact Own.inPlaceX (r := En.u (m.exports.getD k default).idx) hz k1 k2 rfl
      | j + 13, hz => exact hz
    | 7, ho, hp =>
      have e := Option.some.inj (ho : some _ = some o)
      subst e
      change ∀ j ∈ ([] : List Nat), _ at hp
      change Ob _ _ (([] : Env) ++ _) _ _ _
      exact .inl ⟨rfl, D1.op (R.fieldAddr rfl Tryd.underlying76 rfl rfl sz28 rfl) ⟨rfl, og, fun _ _ h => h⟩⟩
    | 8, ho, hp =>
      have e := Option.some.inj (ho : some _ = some o)
      subst e
      change ∀ j ∈ ([7] : List Nat), _ at hp
      have h146 : (u 7) = .pointer (some ⟨Array.size H1, 2, none⟩) := hp 7 (by simp)
      change Ob _ _ (([(146, u 7)] : Env) ++ _) _ _ _
      simp only [h146]
      exact .inl ⟨rfl, D1.op (R.load rfl Tryd.underlying28 rfl rfl (cell_of (og.blk bv) rfl)) ⟨rfl, og, fun _ _ h => h⟩⟩
    | 9, ho, hp =>
      have e := Option.some.inj (ho : some _ = some o)
      subst e
      change ∀ j ∈ ([8] : List Nat), _ at hp
      have h147 : (u 8) = .int .u32 (m.exports.getD k default).idx := hp 8 (by simp)
      change Ob _ _ (([(147, u 8)] : Env) ++ _) _ _ _
      simp only [h147]
      exact .inl ⟨rfl, D1.op (R.convI rfl Tryd.underlying28 Tryd.underlying101 rfl (by dsimp only [InR]; omega)) ⟨rfl, og, fun _ _ h => h⟩⟩
    | 10, ho, hp =>
      have e := Option.some.inj (ho : some _ = some o)
      subst e
      change ∀ j ∈ ([9, 6] : List Nat), _ at hp
      have h145 : Own 1 (EInt .u8) 5 #[] (Array.size H3) Hc (u 6) (En.txt (m.exports.getD k default).nam ++ [(m.exports.getD k default).kind]) := hp 6 (by simp)
      have h148 : (u 9) = .int .u64 (m.exports.getD k default).idx := hp 9 (by simp)
      change Ob _ _ (([(148, u 9), (145, u 6)] : Env) ++ _) _ _ _
      simp only [h148]
      exact .inl ⟨rfl, D1.call rfl rfl rfl rfl Tryd.call50 (U_any (m.exports.getD k default).idx (by omega) (by omega)) (by rintro _ H2 ⟨w, ox⟩; exact ⟨w.weak og.1, og.trans ox, hst _ ox⟩)⟩
    | 11, ho, hp =>
      have e := Option.some.inj (ho : some _ = some o)
      subst e
      change ∀ j ∈ ([6, 10, 10] : List Nat), _ at hp
      have h145 : Own 1 (EInt .u8) 5 #[] (Array.size H3) Hc (u 6) (En.txt (m.exports.getD k default).nam ++ [(m.exports.getD k default).kind]) := hp 6 (by simp)
      have h149 : Own 1 (EInt .u8) 5 #[] (Array.size H3) Hc (u 10) (En.u (m.exports.getD k default).idx) := hp 10 (by simp)
      change Ob _ _ (([(145, u 6), (149, u 10), (149, u 10)] : Env) ++ _) _ _ _
      refine .inl ⟨rfl, D1.mem (M.appendQ (m := En.u (m.exports.getD k default).idx) rfl Tryd.underlying36 inf5 rfl rfl rfl h145 (by rw [List.length_append]; have := En.txt_pos (a := (m.exports.getD k default).nam) (by omega); omega) ((h149.sl (emptyOld _) (by decide))) og.1 (by simp only [List.length_append, List.length_cons, List.length_nil]; omega) (by unfold maxLen; simp only [List.length_append, List.length_cons, List.length_nil]; omega) (En.u_pos huz)) ?_⟩
      rintro v2 H2 ⟨k1, k2⟩
      rcases k2 with k2 | k2
      · exact ⟨k1, og.trans k2, hst _ k2⟩
      refine ⟨k1, k2.oldFrom og, ?_⟩
      intro j z hz
      match j, hz with
      | 0, hz => exact hz
      | 1, hz => exact hz
      | 2, hz => exact Own.inPlace hz k2 (by rw [List.length_append]; omega)
      | 3, hz => exact hz
      | 4, hz => exact hz
      | 5, hz => obtain ⟨g9, g1, g2, g3⟩ := hz; exact ⟨g9, g1, g2, k2.other g3 (.inr (by have := En.txt_pos (a := (m.exports.getD k default).nam) (by omega); show 1 < _; ((rw [List.length_append]; simp only [List.length_cons, List.length_nil]; omega))))⟩
      | 6, hz => exact Own.inPlace hz k2 (Nat.le_refl _)
      | 7, hz => exact hz
      | 8, hz => exact hz
      | 9, hz => exact hz
      | 10, hz => exact Own.inPlaceP (E := []) hz h145 k2 (fun r h => by rw [List.append_assoc] at h; have := En.u_ptxt (by omega) huz h; simp at this)
      | 11, hz => exact Own.inPlaceEq hz k2 (by rw [List.length_append]) (by rw [List.length_append]; have := En.txt_pos (a := (m.exports.getD k default).nam) (by omega); omega) k1
      | 12, hz => exact Own.inPlaceEq hz k2 (by rw [List.length_append]) (by rw [List.length_append]; have := En.txt_pos (a := (m.exports.getD k default).nam) (by omega); omega) k1
      | j + 13, hz => exact hz
    | 12, ho, hp =>
      have e := Option.some.inj (ho : some _ = some o)
      subst e
      change ∀ j ∈ ([11, 11, 0, 1, 2, 3, 4, 5, 6, 7, 8, 9, 10, 11] : List Nat), _ at hp
      have h139 : (u 0) = .pointer (some ⟨Array.size H1, 0, none⟩) := hp 0 (by simp)
      have h140 : (u 1) = .string (m.exports.getD k default).nam := hp 1 (by simp)
      have h141 : Own 1 (EInt .u8) 5 #[] (Array.size H3) Hc (u 2) (En.txt (m.exports.getD k default).nam) := hp 2 (by simp)
      have h142 : (u 3) = .pointer (some ⟨Array.size H1, 1, none⟩) := hp 3 (by simp)
      have h143 : (u 4) = .int .u8 (m.exports.getD k default).kind := hp 4 (by simp)
      have h144 : ∃ g9, (Array.size H3) ≤ g9 ∧ (u 5) = .slice (some ⟨g9, 0, none⟩) 1 1 ∧ Hc[g9]? = some (.cells #[.int .u8 (m.exports.getD k default).kind] 5 (0, 0)) := hp 5 (by simp)
      have h145 : Own 1 (EInt .u8) 5 #[] (Array.size H3) Hc (u 6) (En.txt (m.exports.getD k default).nam ++ [(m.exports.getD k default).kind]) := hp 6 (by simp)
      have h146 : (u 7) = .pointer (some ⟨Array.size H1, 2, none⟩) := hp 7 (by simp)
      have h147 : (u 8) = .int .u32 (m.exports.getD k default).idx := hp 8 (by simp)
      have h148 : (u 9) = .int .u64 (m.exports.getD k default).idx := hp 9 (by simp)
      have h149 : Own 1 (EInt .u8) 5 #[] (Array.size H3) Hc (u 10) (En.u (m.exports.getD k default).idx) := hp 10 (by simp)
      have h150 : Own 1 (EInt .u8) 5 #[] (Array.size H3) Hc (u 11) (En.txt (m.exports.getD k default).nam ++ [(m.exports.getD k default).kind] ++ En.u (m.exports.getD k default).idx) := hp 11 (by simp)
      change Ob _ _ (([(150, u 11), (150, u 11), (139, u 0), (140, u 1), (141, u 2), (142, u 3), (143, u 4), (144, u 5), (145, u 6), (146, u 7), (147, u 8), (148, u 9), (149, u 10), (150, u 11)] : Env) ++ _) _ _ _
      simp only [h139, h140, h142, h143, h146, h147, h148]
      exact .inl ⟨rfl, D1.op (R.assign rfl rfl) ⟨h150, og, fun _ _ h => h⟩⟩
    | i + 13, ho, hp => exact absurd ho (by simp)
  intro u H4 og4 hv
  have h139 : (u 0) = .pointer (some ⟨Array.size H1, 0, none⟩) := hv 0 (by decide)
  have h140 : (u 1) = .string (m.exports.getD k default).nam := hv 1 (by decide)
  have h141 : Own 1 (EInt .u8) 5 #[] (Array.size H3) H4 (u 2) (En.txt (m.exports.getD k default).nam) := hv 2 (by decide)
  have h142 : (u 3) = .pointer (some ⟨Array.size H1, 1, none⟩) := hv 3 (by decide)
  have h143 : (u 4) = .int .u8 (m.exports.getD k default).kind := hv 4 (by decide)
  have h144 : ∃ g9, (Array.size H3) ≤ g9 ∧ (u 5) = .slice (some ⟨g9, 0, none⟩) 1 1 ∧ H4[g9]? = some (.cells #[.int .u8 (m.exports.getD k default).kind] 5 (0, 0)) := hv 5 (by decide)
  have h145 : Own 1 (EInt .u8) 5 #[] (Array.size H3) H4 (u 6) (En.txt (m.exports.getD k default).nam ++ [(m.exports.getD k default).kind]) := hv 6 (by decide)
  have h146 : (u 7) = .pointer (some ⟨Array.size H1, 2, none⟩) := hv 7 (by decide)
  have h147 : (u 8) = .int .u32 (m.exports.getD k default).idx := hv 8 (by decide)
  have h148 : (u 9) = .int .u64 (m.exports.getD k default).idx := hv 9 (by decide)
  have h149 : Own 1 (EInt .u8) 5 #[] (Array.size H3) H4 (u 10) (En.u (m.exports.getD k default).idx) := hv 10 (by decide)
  have h150 : Own 1 (EInt .u8) 5 #[] (Array.size H3) H4 (u 11) (En.txt (m.exports.getD k default).nam ++ [(m.exports.getD k default).kind] ++ En.u (m.exports.getD k default).idx) := hv 11 (by decide)
  have h19 : Own 1 (EInt .u8) 5 #[] (Array.size H3) H4 (u 12) (En.txt (m.exports.getD k default).nam ++ [(m.exports.getD k default).kind] ++ En.u (m.exports.getD k default).idx) := hv 12 (by decide)
  change KQ _ _ _ _ (([(139, u 0), (140, u 1), (141, u 2), (142, u 3), (143, u 4), (144, u 5), (145, u 6), (146, u 7), (147, u 8), (148, u 9), (149, u 10), (150, u 11), (19, u 12)] : Env) ++ _) _
  have o0 := o0.trans og4
  have bx := (og4).blk bx
  have bv := (og4).blk bv
  have z4 := og4.1
  simp only [h139, h140, h142, h143, h146, h147, h148]
  have wo := h19
  refine KQ.sr (KL.run 2 rfl (KL.ld rfl (cell_of bv rfl) (KL.run 2 rfl ?_)))
  refine KL.cq 155 rfl ?_ ?_
  · intro hg155
    refine KL.run 1 rfl (KL.ld rfl (cell_of bv rfl) ?_)
    refine KL.m (M.toBytes rfl Tryd.underlying9 Tryd.underlying36 Tryd.underlying5 rfl (by omega)) rfl ?_
    rintro v5 H5 ⟨t5, e5, n5, z5⟩
    have o0 := o0.trans n5
    have bx := (n5).blk bx
    have bv := (n5).blk bv
    have wo := wo.old n5
    have q1 := t5
    refine KL.c rfl Tryd.call93 (refValid_any _ _ q1) ?_
    rintro _ _ ⟨rfl, rfl⟩
    refine KL.fin 3 rfl (KQ.seq (KC.ret (KQ.retBlock (KQ.retThen (KQ.ofRet (KQ.fin2 Tryd.results51 rfl rfl ?_))))))
    (exact ⟨⟨_, _, congrArg (fun b => Value.tuple #[_, Value.bool b]) (show Utf.valid (ints (m.exports.getD k default).nam) = _ from by unfold En.expO; rw [decide_eq_true (by omega), Bool.and_true]), wo.weak (by omega), by simp only [List.length_append, List.length_cons, List.length_nil]; omega, fun _ => by unfold En.expB; simp⟩, o0⟩)
  intro hg155
  refine KL.fin 7 rfl (KQ.seq (KC.ret (KQ.retBlock (KQ.retThen (KQ.ofRet (KQ.fin2 Tryd.results51 rfl rfl ?_))))))
  (exact ⟨⟨_, _, congrArg (fun b => Value.tuple #[_, Value.bool b]) (show false = _ from by unfold En.expO; rw [decide_eq_false (by omega), Bool.and_false]), wo.weak (by omega), by simp only [List.length_append, List.length_cons, List.length_nil]; omega, fun _ => by unfold En.expB; simp⟩, o0⟩)
theorem entry_9 {H : Heap} {t i f tb me g e el c d : Value} {m : Mo} (mv : MoV H t i f tb me g e el c d m) (hS : En.Small m) (k : Nat) (hk : k < m.elems.length) : Ct Tryd.prog 51 [.agg [t, i, f, tb, me, g, e, .bool m.hasStart, .int .u32 m.start, el, c, d].toArray, .int .u8 9, .int .i64 (k : Nat)] H (fun u H' => RB H (En.elmB (m.elems.getD k default)) (En.elmO (m.elems.getD k default)) 1000000 u H') := by
  refine Ct.mk Tryd.func51 rfl Tryd.ntmps51 rfl ?_
  intro W0 hW0
  have o0 : Old H H := Old.refl H
  have hsm := hS.el _ (En.getD_memD hk)
  obtain ⟨cs, hcl, hcx, a, b, rfl, ha, hb, r1⟩ := mv.el.at k hk
  obtain ⟨x9, hx9⟩ : ∃ x, x = m.elems.getD k default := ⟨_, rfl⟩
  rw [← hx9] at ha hb r1 hsm hcx
  dsimp only [InR] at r1
  have hu1 := En.u_le x9.1
  have hu2 := En.u_le (x9.2.2.length : Nat)
  refine KC.sr ?_
  refine KL.m (M.box rfl rfl rfl) rfl ?_
  rintro _ H1 ⟨rfl, n1⟩
  have z1 := n1.2.1
  have o0 := o0.trans n1.1
  have b1 := n1.2.2
  have bx := b1
  refine KL.fin 2 rfl (KQ.seq (KC.seq (KC.sr (KL.fin 1 rfl (KQ.seq (KC.block (KC.sr (KL.e0 rfl (by decide) (KL.fin 1 rfl (KQ.seq (KC.condF rfl ?_)))))))))))
  refine KC.sr (KL.e0 rfl (by decide) (KL.fin 1 rfl (KQ.seq (KC.condF rfl (KC.sr (KL.e0 rfl (by decide) (KL.fin 1 rfl (KQ.seq (KC.condF rfl (KC.sr ?_))))))))))
  refine KL.e0 rfl (by decide) (KL.fin 1 rfl (KQ.seq (KC.condF rfl (KC.sr (KL.e0 rfl (by decide) (KL.fin 1 rfl (KQ.seq (KC.condF rfl (KC.sr (KL.e0 rfl (by decide) (KL.fin 1 rfl ?_)))))))))))
  refine KQ.seq (KC.condF rfl (KC.sr (KL.e0 rfl (by decide) (KL.fin 1 rfl (KQ.seq (KC.condF rfl (KC.sr (KL.q ((R.eql rfl rfl rfl).val (congrArg Value.bool (decide_eq_true rfl))) rfl (KL.fin 1 rfl (KQ.seq (KC.condT rfl ?_)))))))))))
  refine KC.sr (KL.run 1 rfl (KL.ld rfl (cell_of bx rfl) (KL.run 1 rfl ?_)))
  refine KL.q (R.index (j := k) rfl Tryd.underlying29 sz62 rfl rfl (mv.el.old o0) rfl (by omega)) rfl ?_
  refine KL.q (R.fieldAddrP rfl Tryd.underlying62 rfl rfl sz52 rfl) rfl (KL.ld rfl ((o0.cells hcx) 1 _ rfl) ?_)
  refine KL.c rfl Tryd.call91 (RExprX_any (ha.old o0) (by omega)) ?_
  rintro _ H2 ⟨⟨vb, lb, rfl, wb, hlb, hmb⟩, ox⟩
  have zc_H2 := (ox).1
  have o0 := o0.trans ox
  have bx := (ox).blk bx
  have zwb := ox.1
  have hbwb : vblock vb < Array.size H2 := by
    rcases wb.lt with e9 | e9
    · rw [e9]; show 0 < _; omega
    exact e9.2
  refine KL.fin 5 rfl (KQ.sr (KL.run 1 rfl (KL.ld rfl (cell_of bx rfl) (KL.run 1 rfl ?_))))
  refine KL.q (R.index (j := k) rfl Tryd.underlying29 sz62 rfl rfl (mv.el.old o0) rfl (by omega)) rfl ?_
  refine KL.q (R.fieldAddrP rfl Tryd.underlying62 rfl rfl sz28 rfl) rfl (KL.ld rfl ((o0.cells hcx) 0 _ rfl) ?_)
  refine KL.q (R.convI rfl Tryd.underlying28 Tryd.underlying101 rfl (by dsimp only [InR]; omega)) rfl ?_
  refine KL.c rfl Tryd.call50 (U_any (x9.1) (by omega) (by omega)) ?_
  rintro v_wo H3 ⟨wo, ox⟩
  have zc_H3 := (ox).1
  have o0 := o0.trans ox
  have bx := (ox).blk bx
  have wb := wb.old ox
  have zwo := ox.1
  have lwo := wo.lt
  refine KL.run 1 rfl ?_
  have lt4 := wo.lt
  refine KL.m (M.append rfl Tryd.underlying36 inf5 rfl (by decide) rfl rfl wo (by exact (wb.sl (emptyOld _) (by decide))) (fun _ _ h _ => h) (by omega) (by omega) (by unfold maxLen; omega)) rfl ?_
  rintro v1 H4 ⟨w4, g4⟩
  have ob4 := g4.oldB wo (by omega)
  have o0 := o0.then ob4 (by omega)
  have z4 := ob4.1
  have bx := (g4.2 _ (blk_lt bx) (by exact lt4.imp id (fun h => by omega))).trans bx
  have wo := w4
  have hvo := wo.lt
  refine KL.fin 1 rfl (KQ.sr (KL.run 2 rfl (KL.ld rfl (cell_of bx rfl) (KL.run 1 rfl ?_))))
  refine KL.q (R.index (j := k) rfl Tryd.underlying29 sz62 rfl rfl (mv.el.old o0) rfl (by omega)) rfl ?_
  refine KL.q (R.fieldAddrP rfl Tryd.underlying62 rfl rfl sz24 rfl) rfl (KL.ld rfl ((o0.cells hcx) 2 _ rfl) (KL.q (R.lenS rfl Tryd.underlying24 rfl (hb.old o0)) rfl ?_))
  refine KL.q (R.convI rfl Tryd.underlying3 Tryd.underlying101 rfl (by dsimp only [InR] at *; omega)) rfl ?_
  refine KL.c rfl Tryd.call50 (U_any ((x9.2.2.length : Nat)) (by omega) (by omega)) ?_
  rintro v_wn H5 ⟨wn, ox⟩
  have zc_H5 := (ox).1
  have o0 := o0.trans ox
  have bx := (ox).blk bx
  have wo := wo.old ox
  have zwn := ox.1
  have lwn := wn.lt
  have lt6 := wo.lt
  refine KL.m (M.append rfl Tryd.underlying36 inf5 rfl (by decide) rfl rfl wo (by exact (wn.sl (emptyOld _) (by decide))) (fun _ _ h _ => h) (by omega) (by (simp only [List.length_append, List.length_cons, List.length_nil]; omega)) (by unfold maxLen; ((simp only [List.length_append, List.length_cons, List.length_nil]; omega)))) rfl ?_
  rintro v2 H6 ⟨w6, g6⟩
  have ob6 := g6.oldB wo (by omega)
  have o0 := o0.then ob6 (by omega)
  have z6 := ob6.1
  have bx := (g6.2 _ (blk_lt bx) (by exact lt6.imp id (fun h => by omega))).trans bx
  have wo := w6
  refine KL.fin 1 rfl (KQ.seq (KC.seq (KC.sr (KL.fin 1 rfl (KQ.seq (KC.block ?_))))))
  refine KC.loopD (κ := Nat × Value) [194, 195, 196, 197, 198, 199, 200, 201, 202, 205, 206, 207, 208, 209, 210, 211, 212, 213, 214, 215, 216, 217, 22, 203, 204, 23] (fun k => [(23, .int .i64 (k.1 : Nat)), (22, k.2)]) (fun k Hl => k.1 ≤ x9.2.2.length ∧ Own 1 (EInt .u8) 5 #[] (Array.size H + 1) Hl k.2 (En.u x9.1 ++ lb ++ (En.u (x9.2.2.length : Nat) ++ (x9.2.2.take k.1).flatMap En.u)) ∧ Hl[Array.size H]? = some (.cells [t, i, f, tb, me, g, e, .bool m.hasStart, .int .u32 m.start, el, c, d].toArray 33 (0, 0)) ∧ Old H Hl) (fun k => x9.2.2.length - k.1) (0, v2) ?_ ?_ ?_
  · exact Sub.all rfl
  · exact ⟨Nat.zero_le _, by simpa [List.append_assoc] using wo.weak (by omega), bx, o0⟩
  rintro ⟨j, vo⟩ H7 ⟨hj, wo, bx, o0⟩
  have zl_H7 := o0.1
  dsimp only at hj wo
  have zl := o0.1
  have zb := blk_lt bx
  have hvo := wo.lt
  have hfl := En.flatMap_le (f := En.u) (c := 10) (l := x9.2.2.take j) (fun y _ => En.u_le y)
  rw [List.length_take] at hfl
  refine KC.seq (KC.sr (KL.run 2 rfl (KL.ld rfl (cell_of bx rfl) (KL.run 1 rfl ?_))))
  refine KL.q (R.index (j := k) rfl Tryd.underlying29 sz62 rfl rfl (mv.el.old o0) rfl (by omega)) rfl ?_
  refine KL.q (R.fieldAddrP rfl Tryd.underlying62 rfl rfl sz24 rfl) rfl (KL.ld rfl ((o0.cells hcx) 2 _ rfl) (KL.q (R.lenS rfl Tryd.underlying24 rfl (hb.old o0)) rfl (KL.fin 1 rfl (KQ.seq ?_))))
  refine KC.iq rfl ?_ ?_
  · intro hc202
    try dsimp only at hc202
    have hj2 : j < x9.2.2.length := by omega
    obtain ⟨hcy, hyr⟩ := hb.int j hj2
    dsimp only [InR] at hyr
    have huy := En.u_le (x9.2.2.getD j default)
    refine KC.skip (KQ.seq (KC.seq (KC.block (KC.region (KL.run 2 rfl (KL.ld rfl (cell_of bx rfl) (KL.run 1 rfl ?_)))))))
    refine KL.q (R.index (j := k) rfl Tryd.underlying29 sz62 rfl rfl (mv.el.old o0) rfl (by omega)) rfl ?_
    refine KL.q (R.fieldAddrP rfl Tryd.underlying62 rfl rfl sz24 rfl) rfl (KL.ld rfl ((o0.cells hcx) 2 _ rfl) (KL.run 1 rfl ?_))
    refine KL.q (R.index1 (j := j) rfl Tryd.underlying24 sz28 rfl rfl (hb.old o0) rfl (by omega)) rfl ?_
    refine KL.ld rfl (o0.cell hcy) ?_
    refine KL.q (R.convI rfl Tryd.underlying28 Tryd.underlying101 rfl (by dsimp only [InR]; omega)) rfl ?_
    refine KL.c rfl Tryd.call50 (U_any ((x9.2.2.getD j default)) (by omega) (by omega)) ?_
    rintro v_wq H8 ⟨wq, ox⟩
    have zc_H8 := (ox).1
    have o0 := o0.trans ox
    have wo := wo.old ox
    have bx := (ox).blk bx
    have zwq := ox.1
    have lwq := wq.lt
    have lt9 := wo.lt
    refine KL.m (M.append rfl Tryd.underlying36 inf5 rfl (by decide) rfl rfl wo (by exact (wq.sl (emptyOld _) (by decide))) (fun _ _ h _ => h) (by omega) (by (simp only [List.length_append, List.length_cons, List.length_nil]; omega)) (by unfold maxLen; ((simp only [List.length_append, List.length_cons, List.length_nil]; omega)))) rfl ?_
    rintro v3 H9 ⟨w9, g9⟩
    try dsimp only at g9
    have ob9 := g9.oldB wo (by omega)
    have o0 := o0.then ob9 (by omega)
    have z9 := ob9.1
    have bx := (g9.2 _ (blk_lt bx) (by exact lt9.imp id (fun h => by omega))).trans bx
    have wo := w9
    refine KL.fin 1 rfl (KQ.normBlock (KQ.r (KL.run 1 rfl ?_)))
    refine KL.q ((R.add rfl rfl rfl (by dsimp only [InR]; omega)).val (congrArg (Value.int .i64) (show (j : Int) + 1 = ((j + 1 : Nat) : Int) by omega))) rfl ?_
    refine KL.fin 1 rfl ?_
    refine KQ.again ((j + 1, v3)) ?_ ?_ ?_
    · exact Sub.all rfl
    · show x9.2.2.length - (j + 1) < x9.2.2.length - j; omega
    exact ⟨by show j + 1 ≤ _; omega, by show Own _ _ _ _ _ _ _ (_ ++ (_ ++ (x9.2.2.take (j + 1)).flatMap En.u)); rw [En.flat_take hj2]; simpa only [List.append_assoc] using wo, bx, o0⟩
  intro hc202
  try dsimp only at hc202
  have hjl : j = x9.2.2.length := by omega
  subst hjl
  rw [En.lst_all] at wo
  have hll := En.lst_le (f := En.u) (c := 10) (l := x9.2.2) (fun y _ => En.u_le y)
  refine KC.exit (KQ.exitThen (KQ.exitThen (KQ.hit (KQ.sr (KL.fin 4 rfl (KQ.seq (KC.ret (KQ.retBlock (KQ.retThen (KQ.ofRet (KQ.fin2 Tryd.results51 rfl rfl ?_)))))))))))
  subst hx9
  exact ⟨⟨_, _, rfl, wo.weak (by omega), by simp only [List.length_append, List.length_cons, List.length_nil]; omega, fun h => by rw [hmb h]; unfold En.elmB; simp⟩, o0⟩
theorem entry_10 {H : Heap} {t i f tb me g e el c d : Value} {m : Mo} (mv : MoV H t i f tb me g e el c d m) (hS : En.Small m) (k : Nat) (hk : k < m.codes.length) : Ct Tryd.prog 51 [.agg [t, i, f, tb, me, g, e, .bool m.hasStart, .int .u32 m.start, el, c, d].toArray, .int .u8 10, .int .i64 (k : Nat)] H (fun u H' => RB H (En.codB (m.codes.getD k default)) (En.codO (m.codes.getD k default)) 1000000 u H') := by
  refine Ct.mk Tryd.func51 rfl Tryd.ntmps51 rfl ?_
  intro W0 hW0
  have o0 : Old H H := Old.refl H
  have hsm := hS.c _ (En.getD_memD hk)
  obtain ⟨cs, hcl, hcx, a, b, rfl, ha, hb⟩ := mv.c.at k hk
  refine KC.sr ?_
  refine KL.m (M.box rfl rfl rfl) rfl ?_
  rintro _ H1 ⟨rfl, n1⟩
  have z1 := n1.2.1
  have o0 := o0.trans n1.1
  have b1 := n1.2.2
  have bx := b1
  refine KL.fin 2 rfl (KQ.seq (KC.seq (KC.sr (KL.fin 1 rfl (KQ.seq (KC.block (KC.sr (KL.e0 rfl (by decide) (KL.fin 1 rfl (KQ.seq (KC.condF rfl ?_)))))))))))
  refine KC.sr (KL.e0 rfl (by decide) (KL.fin 1 rfl (KQ.seq (KC.condF rfl (KC.sr (KL.e0 rfl (by decide) (KL.fin 1 rfl (KQ.seq (KC.condF rfl (KC.sr ?_))))))))))
  refine KL.e0 rfl (by decide) (KL.fin 1 rfl (KQ.seq (KC.condF rfl (KC.sr (KL.e0 rfl (by decide) (KL.fin 1 rfl (KQ.seq (KC.condF rfl (KC.sr (KL.e0 rfl (by decide) (KL.fin 1 rfl ?_)))))))))))
  refine KQ.seq (KC.condF rfl (KC.sr (KL.e0 rfl (by decide) (KL.fin 1 rfl (KQ.seq (KC.condF rfl (KC.sr (KL.e0 rfl (by decide) (KL.fin 1 rfl (KQ.seq (KC.condF rfl ?_)))))))))))
  refine KC.sr (KL.q ((R.eql rfl rfl rfl).val (congrArg Value.bool (decide_eq_true rfl))) rfl (KL.fin 1 rfl (KQ.seq (KC.condT rfl (KC.sr (KL.run 1 rfl (KL.ld rfl (cell_of bx rfl) (KL.run 1 rfl ?_))))))))
  refine KL.q (R.index (j := k) rfl Tryd.underlying30 sz58 rfl rfl (mv.c.old o0) rfl (by omega)) rfl ?_
  refine KL.lda rfl (o0.cells hcx) rfl ?_
  refine KL.c rfl Tryd.call94 (rcode_any (ha.old o0) (hb.old o0) hsm.2 hsm.1) ?_
  rintro _ H2 ⟨⟨va, la, rfl, wa, hla, hma⟩, ox⟩
  have zc_H2 := (ox).1
  have o0 := o0.trans ox
  have bx := (ox).blk bx
  have zwa := ox.1
  have hbwa : vblock va < Array.size H2 := by
    rcases wa.lt with e9 | e9
    · rw [e9]; show 0 < _; omega
    exact e9.2
  refine KL.fin 4 rfl (KQ.seq (KC.ret (KQ.retBlock (KQ.retThen (KQ.ofRet (KQ.fin2 Tryd.results51 rfl rfl ?_))))))
  exact ⟨⟨_, _, rfl, wa.weak (by omega), by omega, hma⟩, o0⟩
theorem entry_11 {H : Heap} {t i f tb me g e el c d : Value} {m : Mo} (mv : MoV H t i f tb me g e el c d m) (hS : En.Small m) (k : Nat) (hk : k < m.datas.length) : Ct Tryd.prog 51 [.agg [t, i, f, tb, me, g, e, .bool m.hasStart, .int .u32 m.start, el, c, d].toArray, .int .u8 11, .int .i64 (k : Nat)] H (fun u H' => RB H (En.datB (m.datas.getD k default)) (En.datO (m.datas.getD k default)) 1000000 u H') := by
  refine Ct.mk Tryd.func51 rfl Tryd.ntmps51 rfl ?_
  intro W0 hW0
  have o0 : Old H H := Old.refl H
  have hsm := hS.d _ (En.getD_memD hk)
  obtain ⟨cs, hcl, hcx, a, b, rfl, ha, hb, r1⟩ := mv.d.at k hk
  dsimp only [InR] at r1
  have hu1 := En.u_le (m.datas.getD k default).1
  have hu2 := En.u_le ((m.datas.getD k default).2.2.length : Nat)
  refine KC.sr ?_
  refine KL.m (M.box rfl rfl rfl) rfl ?_
  rintro _ H1 ⟨rfl, n1⟩
  have z1 := n1.2.1
  have o0 := o0.trans n1.1
  have b1 := n1.2.2
  have bx := b1
  refine KL.fin 2 rfl (KQ.seq (KC.seq (KC.sr (KL.fin 1 rfl (KQ.seq (KC.block (KC.sr (KL.e0 rfl (by decide) (KL.fin 1 rfl (KQ.seq (KC.condF rfl ?_)))))))))))
  refine KC.sr (KL.e0 rfl (by decide) (KL.fin 1 rfl (KQ.seq (KC.condF rfl (KC.sr (KL.e0 rfl (by decide) (KL.fin 1 rfl (KQ.seq (KC.condF rfl (KC.sr ?_))))))))))
  refine KL.e0 rfl (by decide) (KL.fin 1 rfl (KQ.seq (KC.condF rfl (KC.sr (KL.e0 rfl (by decide) (KL.fin 1 rfl (KQ.seq (KC.condF rfl (KC.sr (KL.e0 rfl (by decide) (KL.fin 1 rfl ?_)))))))))))
  refine KQ.seq (KC.condF rfl (KC.sr (KL.e0 rfl (by decide) (KL.fin 1 rfl (KQ.seq (KC.condF rfl (KC.sr (KL.e0 rfl (by decide) (KL.fin 1 rfl (KQ.seq (KC.condF rfl ?_)))))))))))
  refine KC.sr (KL.e0 rfl (by decide) (KL.fin 1 rfl (KQ.seq (KC.condF rfl (KC.skip (KQ.normBlock (KQ.sr (KL.run 1 rfl (KL.ld rfl (cell_of bx rfl) (KL.run 1 rfl ?_))))))))))
  refine KL.q (R.index (j := k) rfl Tryd.underlying31 sz64 rfl rfl (mv.d.old o0) rfl (by omega)) rfl ?_
  refine KL.q (R.fieldAddrP rfl Tryd.underlying64 rfl rfl sz52 rfl) rfl (KL.ld rfl ((o0.cells hcx) 1 _ rfl) ?_)
  refine KL.c rfl Tryd.call91 (RExprX_any (ha.old o0) (by omega)) ?_
  rintro _ H2 ⟨⟨vb, lb, rfl, wb, hlb, hmb⟩, ox⟩
  have zc_H2 := (ox).1
  have o0 := o0.trans ox
  have bx := (ox).blk bx
  have zwb := ox.1
  have hbwb : vblock vb < Array.size H2 := by
    rcases wb.lt with e9 | e9
    · rw [e9]; show 0 < _; omega
    exact e9.2
  refine KL.fin 5 rfl (KQ.sr (KL.run 1 rfl (KL.ld rfl (cell_of bx rfl) (KL.run 1 rfl ?_))))
  refine KL.q (R.index (j := k) rfl Tryd.underlying31 sz64 rfl rfl (mv.d.old o0) rfl (by omega)) rfl ?_
  refine KL.q (R.fieldAddrP rfl Tryd.underlying64 rfl rfl sz28 rfl) rfl (KL.ld rfl ((o0.cells hcx) 0 _ rfl) ?_)
  refine KL.q (R.convI rfl Tryd.underlying28 Tryd.underlying101 rfl (by dsimp only [InR]; omega)) rfl ?_
  refine KL.c rfl Tryd.call50 (U_any ((m.datas.getD k default).1) (by omega) (by omega)) ?_
  rintro v_wo H3 ⟨wo, ox⟩
  have zc_H3 := (ox).1
  have o0 := o0.trans ox
  have bx := (ox).blk bx
  have wb := wb.old ox
  have zwo := ox.1
  have lwo := wo.lt
  refine KL.run 1 rfl ?_
  have lt4 := wo.lt
  refine KL.m (M.append rfl Tryd.underlying36 inf5 rfl (by decide) rfl rfl wo (by exact (wb.sl (emptyOld _) (by decide))) (fun _ _ h _ => h) (by omega) (by omega) (by unfold maxLen; omega)) rfl ?_
  rintro v1 H4 ⟨w4, g4⟩
  have ob4 := g4.oldB wo (by omega)
  have o0 := o0.then ob4 (by omega)
  have z4 := ob4.1
  have bx := (g4.2 _ (blk_lt bx) (by exact lt4.imp id (fun h => by omega))).trans bx
  have wo := w4
  refine KL.fin 1 rfl (KQ.sr (KL.run 2 rfl (KL.ld rfl (cell_of bx rfl) (KL.run 1 rfl ?_))))
  refine KL.q (R.index (j := k) rfl Tryd.underlying31 sz64 rfl rfl (mv.d.old o0) rfl (by omega)) rfl ?_
  refine KL.q (R.fieldAddrP rfl Tryd.underlying64 rfl rfl sz36 rfl) rfl (KL.ld rfl ((o0.cells hcx) 2 _ rfl) (KL.q (R.lenS rfl Tryd.underlying36 rfl (hb.old o0)) rfl ?_))
  refine KL.q (R.convI rfl Tryd.underlying3 Tryd.underlying101 rfl (by dsimp only [InR] at *; omega)) rfl ?_
  refine KL.c rfl Tryd.call50 (U_any (((m.datas.getD k default).2.2.length : Nat)) (by omega) (by omega)) ?_
  rintro v_wn H5 ⟨wn, ox⟩
  have zc_H5 := (ox).1
  have o0 := o0.trans ox
  have bx := (ox).blk bx
  have wo := wo.old ox
  have zwn := ox.1
  have lwn := wn.lt
  have lt6 := wo.lt
  refine KL.m (M.append rfl Tryd.underlying36 inf5 rfl (by decide) rfl rfl wo (by exact (wn.sl (emptyOld _) (by decide))) (fun _ _ h _ => h) (by omega) (by (simp only [List.length_append, List.length_cons, List.length_nil]; omega)) (by unfold maxLen; ((simp only [List.length_append, List.length_cons, List.length_nil]; omega)))) rfl ?_
  rintro v2 H6 ⟨w6, g6⟩
  have ob6 := g6.oldB wo (by omega)
  have o0 := o0.then ob6 (by omega)
  have z6 := ob6.1
  have bx := (g6.2 _ (blk_lt bx) (by exact lt6.imp id (fun h => by omega))).trans bx
  have wo := w6
  refine KL.fin 1 rfl (KQ.sr (KL.run 2 rfl (KL.ld rfl (cell_of bx rfl) (KL.run 1 rfl ?_))))
  refine KL.q (R.index (j := k) rfl Tryd.underlying31 sz64 rfl rfl (mv.d.old o0) rfl (by omega)) rfl ?_
  refine KL.q (R.fieldAddrP rfl Tryd.underlying64 rfl rfl sz36 rfl) rfl (KL.ld rfl ((o0.cells hcx) 2 _ rfl) ?_)
  have lt7 := wo.lt
  refine KL.m (M.append rfl Tryd.underlying36 inf5 rfl (by decide) rfl rfl wo (by exact (hb.old o0)) (fun _ _ h _ => h) (by omega) (by (simp only [List.length_append, List.length_cons, List.length_nil]; omega)) (by unfold maxLen; ((simp only [List.length_append, List.length_cons, List.length_nil]; omega)))) rfl ?_
  rintro v3 H7 ⟨w7, g7⟩
  have ob7 := g7.oldB wo (by omega)
  have o0 := o0.then ob7 (by omega)
  have z7 := ob7.1
  have bx := (g7.2 _ (blk_lt bx) (by exact lt7.imp id (fun h => by omega))).trans bx
  have wo := w7
  refine KL.fin 3 rfl (KQ.seq (KC.ret (KQ.ofRet (KQ.fin2 Tryd.results51 rfl rfl ?_))))
  exact ⟨⟨_, _, rfl, wo.weak (by omega), by simp only [List.length_append, List.length_cons, List.length_nil]; omega, fun h => by rw [hmb h]; unfold En.datB; simp⟩, o0⟩
end Go.Proofs.YtldmfchamcpmmaaDoor
namespace Go.Proofs.YtldmfchamcpmmaaDoor
open Go Go.RowKit
set_option linter.unusedVariables false
set_option linter.unusedSimpArgs false
namespace En
noncomputable def ent (m : Mo) (i k : Nat) : List Int := match i with
  | 1 => typB (m.types.getD k default) | 2 => impB (m.imports.getD k default) | 3 => u (m.funcs.getD k default) | 4 => tabB (m.tables.getD k default) | 5 => limB (m.mems.getD k default)
  | 6 => gloB (m.globs.getD k default) | 7 => expB (m.exports.getD k default) | 9 => elmB (m.elems.getD k default) | 10 => codB (m.codes.getD k default) | 11 => datB (m.datas.getD k default) | _ => []
noncomputable def entO (m : Mo) (i k : Nat) : Bool := match i with
  | 1 => typO (m.types.getD k default) | 2 => impO (m.imports.getD k default) | 3 => tru (m.funcs.getD k default) | 4 => limO (m.tables.getD k default) | 5 => limO (m.mems.getD k default)
  | 6 => gloO (m.globs.getD k default) | 7 => expO (m.exports.getD k default) | 9 => elmO (m.elems.getD k default) | 10 => codO (m.codes.getD k default) | 11 => datO (m.datas.getD k default) | _ => true
noncomputable def scN (m : Mo) (i : Nat) : List Sec := match i with
  | 1 => sec 1 typB m.types | 2 => sec 2 impB m.imports | 3 => sec 3 u m.funcs | 4 => sec 4 tabB m.tables | 5 => sec 5 limB m.mems | 6 => sec 6 gloB m.globs | 7 => sec 7 expB m.exports
  | 8 => if m.hasStart = true then [(8, u m.start)] else [] | 9 => sec 9 elmB m.elems | 10 => sec 10 codB m.codes | 11 => sec 11 datB m.datas | _ => []
noncomputable def acc (m : Mo) : Nat → List Sec
  | 0 => []
  | n + 1 => acc m n ++ scN m (n + 1)
theorem acc_all (m : Mo) : acc m 11 = secs m := by simp [acc, scN, secs]
theorem range_flat {α : Type} [Inhabited α] (f : α → List Int) : ∀ (l : List α), (List.range l.length).flatMap (fun k => f (l.getD k default)) = l.flatMap f := by
  intro l
  have h : ∀ k, k ≤ l.length → (List.range k).flatMap (fun k => f (l.getD k default)) = (l.take k).flatMap f := by
    intro k
    induction k with
    | zero => intro _; rfl
    | succ k ih => intro hk; rw [List.range_succ, List.flatMap_append, ih (by omega), flat_take (by omega)]; simp
  rw [h _ (Nat.le_refl _), List.take_length]
theorem sec_put {α : Type} [Inhabited α] {id : Int} {f : α → List Int} {l : List α} (h : 0 < l.length) : sec id f l = [(id, u (l.length : Nat) ++ (List.range l.length).flatMap (fun k => f (l.getD k default)))] := by
  unfold sec; rw [if_neg (by omega), range_flat]; rfl
theorem sec_none {α : Type} {id : Int} {f : α → List Int} {l : List α} (h : l.length = 0) : sec id f l = [] := by unfold sec; rw [if_pos h]
theorem scN_put {m : Mo} {i : Nat} (hi : i ≤ 11) (h : 0 < cnt m i) : scN m i = [(((i : Nat) : Int), u (cnt m i : Nat) ++ (List.range (cnt m i)).flatMap (ent m i))] := by
  match i, hi, h with
  | 0, _, h => exact absurd h (Nat.lt_irrefl 0)
  | 1, _, h => exact sec_put h
  | 2, _, h => exact sec_put h
  | 3, _, h => exact sec_put h
  | 4, _, h => exact sec_put h
  | 5, _, h => exact sec_put h
  | 6, _, h => exact sec_put h
  | 7, _, h => exact sec_put h
  | 8, _, h => exact absurd h (Nat.lt_irrefl 0)
  | 9, _, h => exact sec_put h
  | 10, _, h => exact sec_put h
  | 11, _, h => exact sec_put h
theorem scN_none {m : Mo} {i : Nat} (hi : i ≤ 11) (h : cnt m i = 0) (h8 : i = 8 → m.hasStart = false) : scN m i = [] := by
  match i, hi, h with
  | 0, _, h => rfl
  | 1, _, h => exact sec_none h
  | 2, _, h => exact sec_none h
  | 3, _, h => exact sec_none h
  | 4, _, h => exact sec_none h
  | 5, _, h => exact sec_none h
  | 6, _, h => exact sec_none h
  | 7, _, h => exact sec_none h
  | 8, _, h => show (if m.hasStart = true then [((8 : Int), u m.start)] else []) = []; rw [h8 rfl]; rfl
  | 9, _, h => exact sec_none h
  | 10, _, h => exact sec_none h
  | 11, _, h => exact sec_none h
theorem scN_start {m : Mo} (h : m.hasStart = true) : scN m 8 = [(8, u m.start)] := by show (if m.hasStart = true then [((8 : Int), u m.start)] else []) = _; rw [if_pos h]
theorem sec_form {α : Type} {id : Int} {f : α → List Int} {l : List α} (h : (lst f l).length ≤ 4500000000) : sec id f l = [] ∨ ∃ b, sec id f l = [(id, b)] ∧ b.length ≤ 4500000000 := by
  unfold sec; split
  · exact .inl rfl
  exact .inr ⟨_, rfl, h⟩
theorem scN_form {m : Mo} (h : Small m) {i : Nat} (hi : i ≤ 11) : scN m i = [] ∨ ∃ b, scN m i = [(((i : Nat) : Int), b)] ∧ b.length ≤ 4500000000 := by
  match i, hi with
  | 0, _ => exact .inl rfl
  | 1, _ => exact sec_form (b_typ h)
  | 2, _ => exact sec_form (b_imp h)
  | 3, _ => exact sec_form (b_fun h)
  | 4, _ => exact sec_form (b_tab h)
  | 5, _ => exact sec_form (b_mem h)
  | 6, _ => exact sec_form (b_glo h)
  | 7, _ => exact sec_form (b_exp h)
  | 8, _ =>
    cases hst : m.hasStart with
    | true => exact .inr ⟨_, scN_start hst, by have := u_le m.start; omega⟩
    | false => exact .inl (scN_none (by omega) rfl (fun _ => hst))
  | 9, _ => exact sec_form (b_elm h)
  | 10, _ => exact sec_form (b_cod h)
  | 11, _ => exact sec_form (b_dat h)
theorem up_acc {m : Mo} (h : Small m) : ∀ n : Nat, n ≤ 11 → Up (acc m n) (n : Nat)
  | 0, _ => up_nil
  | n + 1, hn => by
    have ih := up_acc h n (by omega)
    rcases scN_form h hn with e | ⟨b, e, hb⟩
    · show Up (acc m n ++ scN m (n + 1)) _
      rw [e, List.append_nil]; exact up_le ih (by omega)
    show Up (acc m n ++ scN m (n + 1)) _
    rw [e]; exact up_one ih (by omega) (by omega) hb
theorem body_acc {m : Mo} (h : Small m) {n : Nat} (hn : n ≤ 11) : (Sc.body (acc m n)).length ≤ 55000000000 := by
  have := (up_acc h n hn).2.2.1; omega
theorem body_put {m : Mo} {n : Nat} (hn : n + 1 ≤ 11) (h : 0 < cnt m (n + 1)) : Sc.body (acc m (n + 1)) = Sc.body (acc m n) ++ ([((n + 1 : Nat) : Int)] ++ u ((u (cnt m (n + 1) : Nat) ++ (List.range (cnt m (n + 1))).flatMap (ent m (n + 1))).length : Nat) ++ (u (cnt m (n + 1) : Nat) ++ (List.range (cnt m (n + 1))).flatMap (ent m (n + 1)))) := by
  show Sc.body (acc m n ++ scN m (n + 1)) = _
  rw [scN_put hn h, Sc.body_app]; simp [Sc.body, u]
theorem body_none {m : Mo} {n : Nat} (hn : n + 1 ≤ 11) (h : cnt m (n + 1) = 0) (h8 : n + 1 = 8 → m.hasStart = false) : Sc.body (acc m (n + 1)) = Sc.body (acc m n) := by
  show Sc.body (acc m n ++ scN m (n + 1)) = _
  rw [scN_none hn h h8, List.append_nil]
theorem body_start {m : Mo} {n : Nat} (hn : n + 1 = 8) (h : m.hasStart = true) : Sc.body (acc m (n + 1)) = Sc.body (acc m n) ++ ([((n + 1 : Nat) : Int)] ++ u ((u m.start).length : Nat) ++ u m.start) := by
  obtain rfl : n = 7 := by omega
  show Sc.body (acc m 7 ++ scN m 8) = _
  rw [scN_start h, Sc.body_app]; simp [Sc.body, u]
theorem cnt_le {m : Mo} (h : Small m) {i : Nat} (hi : i ≤ 11) : cnt m i ≤ 4000 := by
  obtain ⟨n1, n2, n3, n4, n5, n6, n7, n8, n9, n10⟩ := h.n
  match i, hi with
  | 0, _ => exact Nat.zero_le _
  | 1, _ => exact n1
  | 2, _ => exact n2
  | 3, _ => exact n3
  | 4, _ => exact n4
  | 5, _ => exact n5
  | 6, _ => exact n6
  | 7, _ => exact n7
  | 8, _ => exact Nat.zero_le _
  | 9, _ => exact n8
  | 10, _ => exact n9
  | 11, _ => exact n10
theorem ent_le {m : Mo} (h : Small m) {i k : Nat} (hi : i ≤ 11) (hk : k < cnt m i) : (ent m i k).length ≤ 1000000 := by
  match i, hi, hk with
  | 0, _, _ => simp [ent]
  | 1, _, hk => exact typ_le (h.t _ (getD_memD hk))
  | 2, _, hk => exact imp_le (h.i _ (getD_memD hk))
  | 3, _, hk => exact Nat.le_trans (u_le _) (by omega)
  | 4, _, hk => exact Nat.le_trans (tab_le _) (by omega)
  | 5, _, hk => exact Nat.le_trans (lim_le _) (by omega)
  | 6, _, hk => exact glo_le (h.g _ (getD_memD hk))
  | 7, _, hk => exact exp_le (h.e _ (getD_memD hk))
  | 8, _, _ => simp [ent]
  | 9, _, hk => exact elm_le (h.el _ (getD_memD hk))
  | 10, _, hk => exact cod_le (h.c _ (getD_memD hk))
  | 11, _, hk => exact dat_le (h.d _ (getD_memD hk))
theorem row_le {m : Mo} (h : Small m) {i k : Nat} (hi : i ≤ 11) (hk : k ≤ cnt m i) : ((List.range k).flatMap (ent m i)).length ≤ 4000000000 := by
  have := flatMap_le (f := ent m i) (c := 1000000) (l := List.range k) (fun x hx => ent_le h hi (by have := List.mem_range.1 hx; omega))
  have h2 := cnt_le h hi
  rw [List.length_range] at this; omega
theorem ok_len {m : Mo} (h : ¬ m.codes.length = m.funcs.length) : ok m = false := by unfold ok; rw [decide_eq_false h]; rfl
theorem ok_start {m : Mo} (h : m.hasStart = false) (h2 : ¬ m.start = 0) : ok m = false := by unfold ok; rw [h, decide_eq_false h2]; simp
theorem all_bad {α : Type} [Inhabited α] {p : α → Bool} {l : List α} {k : Nat} (hk : k < l.length) (h : p (l.getD k default) = false) : l.all p = false := all_not (getD_memD hk) h
theorem ok_ent {m : Mo} {i k : Nat} (hi : i ≤ 11) (hk : k < cnt m i) (h : entO m i k = false) : ok m = false := by
  unfold ok
  match i, hi, hk, h with
  | 0, _, hk, h => exact absurd hk (Nat.not_lt_zero _)
  | 1, _, hk, h => rw [all_bad (l := m.types) hk h]; simp
  | 2, _, hk, h => rw [all_bad (l := m.imports) hk h]; simp
  | 3, _, hk, h => cases h
  | 4, _, hk, h => rw [all_bad (l := m.tables) hk h]; simp
  | 5, _, hk, h => rw [all_bad (l := m.mems) hk h]; simp
  | 6, _, hk, h => rw [all_bad (l := m.globs) hk h]; simp
  | 7, _, hk, h => rw [all_bad (l := m.exports) hk h]; simp
  | 8, _, hk, h => exact absurd hk (Nat.not_lt_zero _)
  | 9, _, hk, h => rw [all_bad (l := m.elems) hk h]; simp
  | 10, _, hk, h => rw [all_bad (l := m.codes) hk h]; simp
  | 11, _, hk, h => rw [all_bad (l := m.datas) hk h]; simp
theorem all_good {α : Type} [Inhabited α] {p : α → Bool} {l : List α} (h : ∀ k, k < l.length → p (l.getD k default) = true) : l.all p = true := by
  refine List.all_eq_true.2 fun x hx => ?_
  obtain ⟨j, hj, rfl⟩ := List.getElem_of_mem hx
  have := h j hj
  rwa [List.getD_eq_getElem?_getD, List.getElem?_eq_getElem hj] at this
theorem ok_all {m : Mo} (h1 : m.codes.length = m.funcs.length) (h2 : m.hasStart = true ∨ m.start = 0) (h : ∀ i, i ≤ 11 → ∀ k, k < cnt m i → entO m i k = true) : ok m = true := by
  unfold ok
  rw [decide_eq_true h1, all_good (fun k hk => h 1 (by omega) k hk), all_good (l := m.imports) (fun k hk => h 2 (by omega) k hk), all_good (l := m.tables) (fun k hk => h 4 (by omega) k hk), all_good (l := m.mems) (fun k hk => h 5 (by omega) k hk), all_good (l := m.globs) (fun k hk => h 6 (by omega) k hk), all_good (l := m.exports) (fun k hk => h 7 (by omega) k hk), all_good (l := m.elems) (fun k hk => h 9 (by omega) k hk), all_good (l := m.codes) (fun k hk => h 10 (by omega) k hk), all_good (l := m.datas) (fun k hk => h 11 (by omega) k hk)]
  rcases h2 with h2 | h2
  · rw [h2]; rfl
  rw [h2]; simp
end En
end Go.Proofs.YtldmfchamcpmmaaDoor
namespace Go.Proofs.YtldmfchamcpmmaaDoor
open Go Go.RowKit
set_option linter.unusedVariables false
set_option linter.unusedSimpArgs false
set_option linter.unnecessarySimpa false
theorem entry_any {H : Heap} {t i f tb me g e el c d : Value} {m : Mo} (mv : MoV H t i f tb me g e el c d m) (hS : En.Small m) (a9 k : Nat) (hi : a9 ≤ 11) (hk : k < En.cnt m a9) : Ct Tryd.prog 51 [.agg [t, i, f, tb, me, g, e, .bool m.hasStart, .int .u32 m.start, el, c, d].toArray, .int .u8 (a9 : Nat), .int .i64 (k : Nat)] H (fun u H' => RB H (En.ent m a9 k) (En.entO m a9 k) 1000000 u H') := by
  match a9, hi, hk with
  | 0, _, hk => exact absurd hk (Nat.not_lt_zero _)
  | 1, _, hk => exact entry_1 mv hS k hk
  | 2, _, hk => exact entry_2 mv hS k hk
  | 3, _, hk => exact entry_3 mv hS k hk
  | 4, _, hk => exact entry_4 mv hS k hk
  | 5, _, hk => exact entry_5 mv hS k hk
  | 6, _, hk => exact entry_6 mv hS k hk
  | 7, _, hk => exact entry_7 mv hS k hk
  | 9, _, hk => exact entry_9 mv hS k hk
  | 10, _, hk => exact entry_10 mv hS k hk
  | 11, _, hk => exact entry_11 mv hS k hk
  | 8, _, hk => exact absurd hk (Nat.not_lt_zero _)
theorem En.okP_step {m : Mo} {n : Nat} (h : ∀ i, i ≤ n → ∀ k, k < En.cnt m i → En.entO m i k = true) (hr : ∀ q, q < En.cnt m (n + 1) → En.entO m (n + 1) q = true) : ∀ i, i ≤ n + 1 → ∀ k, k < En.cnt m i → En.entO m i k = true := by
  intro i hi k hk
  rcases (by omega : i ≤ n ∨ i = n + 1) with h9 | rfl
  · exact h i h9 k hk
  exact hr k hk
theorem En.put_of {m : Mo} {n : Nat} (hn : n + 1 ≤ 11) (h : ¬ (n + 1 = 8 ∧ m.hasStart = true)) (hc : 0 < En.cnt m (n + 1) ∨ (n + 1 = 8 ∧ m.hasStart = true)) : Sc.body (En.acc m (n + 1)) = Sc.body (En.acc m n) ++ ([((n + 1 : Nat) : Int)] ++ En.u ((En.u (En.cnt m (n + 1) : Nat) ++ (List.range (En.cnt m (n + 1))).flatMap (En.ent m (n + 1))).length : Nat) ++ (En.u (En.cnt m (n + 1) : Nat) ++ (List.range (En.cnt m (n + 1))).flatMap (En.ent m (n + 1)))) := En.body_put hn (hc.resolve_right h)
theorem Own.pos {α : Type} {n : Nat} {E : El α} {e : TypeId} {H0 H : Heap} {B : Nat} {v : Value} {l : List α} (h : Own n E e H0 B H v l) (hl : 0 < l.length) : B ≤ vblock v ∧ vblock v < H.size := by
  rcases h.lt with e | e
  · subst e
    obtain ⟨flat, ⟨_, hc⟩, _⟩ := h
    rcases hc with ⟨_, hc⟩ | ⟨g, cap, cur, hv, _⟩
    · omega
    cases hv
  exact e
theorem En.okP_zero {m : Mo} : ∀ i, i ≤ 0 → ∀ k, k < En.cnt m i → En.entO m i k = true := fun i hi k hk => by
  obtain rfl : i = 0 := by omega
  exact absurd hk (Nat.not_lt_zero _)
theorem REncode_any {H : Heap} {t i f tb me g e el c d : Value} {m : Mo} (mv : MoV H t i f tb me g e el c d m) (hS : En.Small m) : Ct Tryd.prog 9 [.agg [t, i, f, tb, me, g, e, .bool m.hasStart, .int .u32 m.start, el, c, d].toArray] H (fun u H' => En.ERes m u H' ∧ Old H H') := by
  refine Ct.mk Tryd.func9 rfl Tryd.ntmps9 rfl ?_
  intro W0 hW0
  have o0 : Old H H := Old.refl H
  have hms := mv.s
  dsimp only [InR] at hms
  have hus := En.u_le m.start
  refine KC.sr ?_
  refine KL.m (M.box rfl rfl rfl) rfl ?_
  rintro _ H1 ⟨rfl, n1⟩
  have z1 := n1.2.1
  have o0 := o0.trans n1.1
  have b1 := n1.2.2
  have bx := b1
  refine KL.fin 2 rfl (KQ.seq (KC.seq ?_))
  refine KC.cutD (κ := Unit) [11, 12, 13, 14, 15, 16, 17, 18, 19, 20, 21, 22, 23, 24, 25, 26, 27, 2, 3] (fun _ => []) (fun _ Hl => H1 = Hl ∧ m.codes.length = m.funcs.length ∧ (m.hasStart = true ∨ m.start = 0)) ?_ ?_
  · skip
    refine KC.sr (KL.run 1 rfl (KL.ld rfl (cell_of bx rfl) (KL.q (R.lenS rfl Tryd.underlying30 rfl (mv.c.old o0)) rfl (KL.run 1 rfl (KL.ld rfl (cell_of bx rfl) (KL.q (R.lenS rfl Tryd.underlying24 rfl (mv.f.old o0)) rfl (KL.run 2 rfl ?_)))))))
    refine KL.cq 18 rfl ?_ ?_
    · intro hg18
      refine KL.fin 9 rfl (KQ.seq (KC.condT rfl (KC.sr (KL.fin 2 rfl (KQ.seq (KC.ret (KQ.retThen (KQ.retThen (KQ.ofRet (KQ.fin2 Tryd.results9 rfl rfl ?_))))))))))
      exact ⟨.inl ⟨En.ok_len (by omega), rfl⟩, o0⟩
    intro hg18
    refine KL.run 1 rfl (KL.ld rfl (cell_of bx rfl) (KL.run 2 rfl ?_))
    refine KL.cq 22 rfl ?_ ?_
    · intro hg22
      refine KL.run 1 rfl (KL.ld rfl (cell_of bx rfl) (KL.fin 3 rfl (KQ.seq ?_)))
      refine KC.iq rfl ?_ ?_
      · intro hc27
        refine KC.sr (KL.fin 2 rfl (KQ.seq (KC.ret (KQ.retThen (KQ.retThen (KQ.ofRet (KQ.fin2 Tryd.results9 rfl rfl ?_)))))))
        exact ⟨.inl ⟨En.ok_start (by assumption) (by omega), rfl⟩, o0⟩
      intro hc27
      refine KC.skip ?_
      refine KQ.meet () ?_ ?_
      · exact Sub.all rfl
      exact ⟨rfl, by omega, by exact .inr (by omega)⟩
    intro hg22
    refine KL.fin 5 rfl (KQ.seq (KC.condF rfl (KC.skip ?_)))
    refine KQ.meet () ?_ ?_
    · exact Sub.all rfl
    exact ⟨rfl, by omega, by exact .inl (by assumption)⟩
  rintro _ _ ⟨rfl, hcf, hst⟩
  refine KQ.sr ?_
  refine KL.c rfl Tryd.call17 (Begin_any) ?_
  rintro v_wo H2 ⟨wo, ox⟩
  have zc_H2 := (ox).1
  have o0 := o0.trans ox
  have bx := (ox).blk bx
  have zwo := ox.1
  refine KL.fin 1 rfl (KQ.seq (KC.seq (KC.sr (KL.fin 1 rfl (KQ.seq (KC.block ?_))))))
  refine KC.loopD (κ := Nat × Value) [29, 30, 33, 34, 35, 6, 36, 37, 38, 7, 8, 39, 40, 41, 45, 46, 47, 48, 44, 49, 50, 9, 10, 51, 52, 2, 3, 53, 54, 55, 42, 43, 56, 57, 58, 59, 60, 61, 62, 63, 64, 65, 66, 67, 68, 69, 70, 71, 72, 73, 74, 75, 76, 77, 78, 79, 4, 80, 81, 82, 83, 84, 85, 86, 87, 88, 31, 32, 5] (fun k => [(5, .int .u8 ((k.1 + 1 : Nat) : Int)), (4, k.2)]) (fun k Hl => k.1 ≤ 11 ∧ Own 1 (EInt .u8) 5 #[] (Array.size H + 1) Hl k.2 (Sc.beg ++ Sc.body (En.acc m k.1)) ∧ (∀ i, i ≤ k.1 → ∀ k, k < En.cnt m i → En.entO m i k = true) ∧ Hl[Array.size H]? = some (.cells [t, i, f, tb, me, g, e, .bool m.hasStart, .int .u32 m.start, el, c, d].toArray 33 (0, 0)) ∧ Old H Hl) (fun k => 11 - k.1) (0, v_wo) ?_ ?_ ?_
  · exact Sub.all rfl
  · exact ⟨Nat.zero_le _, by simpa [En.acc, Sc.body] using wo.weak (by omega), En.okP_zero, bx, o0⟩
  rintro ⟨n, vo⟩ H3 ⟨hn, wo, hok, bx, o0⟩
  have zl_H3 := o0.1
  dsimp only at hn wo hok
  have zl := o0.1
  have zb := blk_lt bx
  have hbl := En.body_acc hS hn
  have hbeg : Sc.beg.length = 8 := rfl
  have hvo : vblock vo < Array.size H3 := by
    rcases wo.lt with e9 | e9
    · rw [e9]; show 0 < _; omega
    exact e9.2
  refine KC.seq (KC.sr (KL.fin 2 rfl (KQ.seq ?_)))
  refine KC.iq rfl ?_ ?_
  · intro hc30
    try dsimp only at hc30
    refine KC.skip (KQ.seq (KC.seq (KC.block (KC.sr (KL.lda rfl (cells_of bx) rfl (KL.run 1 rfl ?_))))))
    refine KL.c rfl Tryd.call49 (count_any (mv.old o0) (n + 1) (by omega)) ?_
    rintro _ H4 ⟨rfl, ox⟩
    have zc_H4 := (ox).1
    have o0 := o0.trans ox
    have wo := wo.old ox
    have bx := (ox).blk bx
    have zc := ox.1
    have hcl := En.cnt_le hS (i := n + 1) (by omega)
    have hrl := En.row_le hS (i := n + 1) (k := (En.cnt m (n + 1))) (by omega) (Nat.le_refl _)
    have hul := En.u_le ((En.cnt m (n + 1)) : Nat)
    refine KL.fin 1 rfl (KQ.sr (KL.run 1 rfl ?_))
    refine KL.q (R.convI rfl Tryd.underlying3 Tryd.underlying101 rfl (by dsimp only [InR] at *; omega)) rfl ?_
    refine KL.c rfl Tryd.call50 (U_any (((En.cnt m (n + 1)) : Nat)) (by omega) (by omega)) ?_
    rintro v_wb H5 ⟨wb, ox⟩
    have zc_H5 := (ox).1
    have o0 := o0.trans ox
    have wo := wo.old ox
    have bx := (ox).blk bx
    have zwb := ox.1
    have lwb := wb.lt
    refine KL.fin 1 rfl (KQ.seq (KC.seq (KC.sr (KL.fin 1 rfl (KQ.seq (KC.block ?_))))))
    refine KC.loopD (κ := Nat × Value) [39, 40, 41, 45, 46, 47, 48, 44, 49, 50, 9, 10, 51, 52, 2, 3, 53, 54, 55, 7, 42, 43, 8] (fun k => [(8, .int .i64 (k.1 : Nat)), (7, k.2)]) (fun k Hl => k.1 ≤ (En.cnt m (n + 1)) ∧ Own 1 (EInt .u8) 5 #[] (Array.size H4) Hl k.2 (En.u ((En.cnt m (n + 1)) : Nat) ++ (List.range k.1).flatMap (En.ent m (n + 1))) ∧ (∀ q, q < k.1 → En.entO m (n + 1) q = true) ∧ Own 1 (EInt .u8) 5 #[] (Array.size H + 1) Hl vo (Sc.beg ++ Sc.body (En.acc m n)) ∧ Hl[Array.size H]? = some (.cells [t, i, f, tb, me, g, e, .bool m.hasStart, .int .u32 m.start, el, c, d].toArray 33 (0, 0)) ∧ Old H Hl ∧ (Array.size H4) ≤ Array.size Hl) (fun k => (En.cnt m (n + 1)) - k.1) (0, v_wb) ?_ ?_ ?_
    · exact Sub.all rfl
    · exact ⟨Nat.zero_le _, by simpa using wb, fun q hq => absurd hq (Nat.not_lt_zero _), wo, bx, o0, by omega⟩
    rintro ⟨j, vb⟩ H6 ⟨hj, wb, hrow, wo, bx, o0, zX⟩
    have zl_H6 := o0.1
    dsimp only at hj wb hrow
    have zl := o0.1
    have zb := blk_lt bx
    have hvb := wb.lt
    have hrl := En.row_le hS (i := n + 1) (by omega) hj
    have hul := En.u_le ((En.cnt m (n + 1)) : Nat)
    refine KC.seq (KC.sr (KL.fin 3 rfl (KQ.seq ?_)))
    refine KC.iq rfl ?_ ?_
    · intro hc41
      try dsimp only at hc41
      have hj2 : j < (En.cnt m (n + 1)) := by omega
      refine KC.skip (KQ.seq (KC.seq (KC.block (KC.sr (KL.lda rfl (cells_of bx) rfl (KL.run 2 rfl ?_))))))
      refine KL.c rfl Tryd.call51 (entry_any (mv.old o0) hS (n + 1) j (by omega) hj2) ?_
      rintro _ H7 ⟨⟨va, la, rfl, wa, hla, hma⟩, ox⟩
      have zc_H7 := (ox).1
      have o0 := o0.trans ox
      have wb := wb.old ox
      have wo := wo.old ox
      have bx := (ox).blk bx
      have za := ox.1
      refine KL.fin 5 rfl (KQ.seq (KC.seq (KC.sr (KL.fin 2 rfl (KQ.seq ?_)))))
      refine KC.iq rfl ?_ ?_
      · intro hok1
        try dsimp only at hok1
        refine KC.sr (KL.fin 2 rfl (KQ.seq (KC.ret (KQ.retThen (KQ.retBlock (KQ.retThen (KQ.retThen (KQ.retBlock (KQ.retThen (KQ.retBlock (KQ.retThen (KQ.retThen ?_))))))))))))
        refine KQ.retBlock (KQ.retThen (KQ.ofRet (KQ.fin2 Tryd.results9 rfl rfl ?_)))
        exact ⟨.inl ⟨En.ok_ent (i := n + 1) (by omega) hj2 (by simpa using hok1), rfl⟩, o0⟩
      intro hok1
      try dsimp only at hok1
      refine KC.skip (KQ.r (KL.run 2 rfl ?_))
      have lt8 := wb.lt
      refine KL.m (M.append rfl Tryd.underlying36 inf5 rfl (by decide) rfl rfl wb (by exact (wa.sl (emptyOld _) (by decide))) (fun _ _ h _ => h) (by omega) (by (simp only [List.length_append, List.length_cons, List.length_nil]; omega)) (by unfold maxLen; ((simp only [List.length_append, List.length_cons, List.length_nil]; omega)))) rfl ?_
      rintro v9 H8 ⟨w8, g8⟩
      try dsimp only at g8
      have ob8 := g8.oldB wb (by omega)
      have o0 := o0.then ob8 (by omega)
      have z8 := ob8.1
      have wo := wo.keep (g8.2 _ (by omega) (by exact lt8.imp id (fun h => by omega)))
      have bx := (g8.2 _ (blk_lt bx) (by exact lt8.imp id (fun h => by omega))).trans bx
      have wb := w8
      refine KL.fin 1 rfl (KQ.normBlock (KQ.r (KL.run 1 rfl ?_)))
      refine KL.q ((R.add rfl rfl rfl (by dsimp only [InR]; omega)).val (congrArg (Value.int .i64) (show (j : Int) + 1 = ((j + 1 : Nat) : Int) by omega))) rfl ?_
      refine KL.fin 1 rfl ?_
      refine KQ.again ((j + 1, v9)) ?_ ?_ ?_
      · exact Sub.all rfl
      · show (En.cnt m (n + 1)) - (j + 1) < (En.cnt m (n + 1)) - j; omega
      exact ⟨by show j + 1 ≤ _; omega, by show Own _ _ _ _ _ _ _ (_ ++ (List.range (j + 1)).flatMap _); rw [List.range_succ, List.flatMap_append, ← List.append_assoc]; rw [hma (by simpa using hok1)] at wb; simpa using wb, fun q hq => by rcases (by omega : q < j ∨ q = j) with h9 | rfl; exact hrow q h9; simpa using hok1, wo, bx, o0, by omega⟩
    intro hc41
    try dsimp only at hc41
    have hjl : j = (En.cnt m (n + 1)) := by omega
    subst hjl
    refine KC.exit (KQ.exitThen (KQ.exitThen (KQ.hit (KQ.seq (KC.seq ?_)))))
    refine KC.cutD (κ := Value × List Int) [56, 57, 58, 59, 60, 61, 62, 63, 64, 65, 7] (fun k => [(7, k.1)]) (fun k Hl => Own 1 (EInt .u8) 5 #[] (Array.size H4) Hl k.1 k.2 ∧ (0 < k.2.length ∧ k.2.length ≤ 4000000010) ∧ (0 < (En.cnt m (n + 1)) ∨ (n + 1 = 8 ∧ m.hasStart = true) → Sc.body (En.acc m (n + 1)) = Sc.body (En.acc m n) ++ ([((n + 1 : Nat) : Int)] ++ En.u (k.2.length : Nat) ++ k.2)) ∧ Own 1 (EInt .u8) 5 #[] (Array.size H + 1) Hl vo (Sc.beg ++ Sc.body (En.acc m n)) ∧ Hl[Array.size H]? = some (.cells [t, i, f, tb, me, g, e, .bool m.hasStart, .int .u32 m.start, el, c, d].toArray 33 (0, 0)) ∧ Old H Hl ∧ (Array.size H4) ≤ Array.size Hl) ?_ ?_
    · skip
      refine KC.sr (KL.run 3 rfl ?_)
      refine KL.cq 58 rfl ?_ ?_
      · intro hg58
        try dsimp only at hg58
        refine KL.run 1 rfl (KL.ld rfl (cell_of bx rfl) (KL.fin 1 rfl (KQ.seq ?_)))
        refine KC.iq rfl ?_ ?_
        · intro hc61
          refine KC.region (KL.run 1 rfl (KL.ld rfl (cell_of bx rfl) ?_))
          refine KL.q (R.convI rfl Tryd.underlying28 Tryd.underlying101 rfl (by have := mv.s; dsimp only [InR] at *; omega)) rfl ?_
          refine KL.c rfl Tryd.call50 (U_any (m.start) (by omega) (by omega)) ?_
          rintro v_wb H9 ⟨wb, ox⟩
          have zc_H9 := (ox).1
          have o0 := o0.trans ox
          have wo := wo.old ox
          have bx := (ox).blk bx
          have zwb := ox.1
          have lwb := wb.lt
          refine KL.fin 1 rfl ?_
          refine KQ.meet (v_wb, En.u m.start) ?_ ?_
          · exact Sub.all rfl
          exact (by exact ⟨wb.weak (by omega), by dsimp only; have := En.u_pos (z := m.start) (by omega); omega, by dsimp only; exact fun _ => En.body_start (by omega) (by assumption), wo, bx, o0, by omega⟩)
        intro hc61
        refine KC.skip ?_
        refine KQ.meet (vb, En.u ((En.cnt m (n + 1)) : Nat) ++ (List.range (En.cnt m (n + 1))).flatMap (En.ent m (n + 1))) ?_ ?_
        · exact Sub.all rfl
        exact (by exact ⟨wb, by dsimp only; rw [List.length_append]; have := En.u_pos (z := ((En.cnt m (n + 1)) : Nat)) (by omega); omega, by dsimp only; exact En.put_of (by omega) (by (intro h9; rw [h9.2] at hc61; cases hc61)), wo, bx, o0, by omega⟩)
      intro hg58
      try dsimp only at hg58
      refine KL.fin 3 rfl (KQ.seq (KC.condF rfl (KC.skip ?_)))
      refine KQ.meet (vb, En.u ((En.cnt m (n + 1)) : Nat) ++ (List.range (En.cnt m (n + 1))).flatMap (En.ent m (n + 1))) ?_ ?_
      · exact Sub.all rfl
      exact (by exact ⟨wb, by dsimp only; rw [List.length_append]; have := En.u_pos (z := ((En.cnt m (n + 1)) : Nat)) (by omega); omega, by dsimp only; exact En.put_of (by omega) (by (intro h9; exact absurd h9.1 (by omega))), wo, bx, o0, by omega⟩)
    rintro ⟨vb, B⟩ H10 ⟨wb, hBl, hput, wo, bx, o0, zX⟩
    dsimp only at wb hBl hput
    obtain ⟨hB0, hBl⟩ := hBl
    obtain ⟨hbX, hbb⟩ := wb.pos hB0
    have zl := o0.1
    have zb := blk_lt bx
    have hvb := wb.lt
    have hul := En.u_le (B.length : Nat)
    refine KQ.sr (KL.run 3 rfl ?_)
    refine KL.cq 68 rfl ?_ ?_
    · intro hg68
      try dsimp only at hg68
      refine KL.fin 7 rfl (KQ.seq (KC.condT rfl (KC.sr (KL.run 2 rfl ?_))))
      refine KL.m (M.lit rfl Tryd.underlying36 zs5 (by decide) rfl rfl rfl) rfl ?_
      rintro _ H11 ⟨rfl, n11⟩
      have z11 := n11.2.1
      have o0 := o0.trans n11.1
      have wb := wb.old n11.1
      have wo := wo.old n11.1
      have bx := (n11.1).blk bx
      have b11 := n11.2.2
      have s1 : Sl 1 (EInt .u8) H11 _ [((n + 1 : Nat) : Int)] := Sl.lits (l := [((n + 1 : Nat) : Int)]) n11 rfl (by simp) (by intro y hy; simp only [List.mem_cons, List.not_mem_nil, or_false] at hy; subst hy; dsimp only [InR] at *; omega)
      have lt12 := wo.lt
      refine KL.m (M.appendN rfl Tryd.underlying36 inf5 rfl (by decide) rfl rfl wo s1 (fun _ _ h _ => h) (by omega) (by (simp only [List.length_append, List.length_cons, List.length_nil]; omega)) (by unfold maxLen; ((simp only [List.length_append, List.length_cons, List.length_nil]; omega)))) rfl ?_
      rintro v7 H12 ⟨w12, g12, nx12⟩
      try dsimp only at g12 nx12
      have ob12 := g12.oldB wo (by omega)
      have o0 := o0.then ob12 (by omega)
      have z12 := ob12.1
      have wb := wb.keep (g12.2 _ (by omega) (by exact .inr (by omega)))
      have bx := (g12.2 _ (blk_lt bx) (by exact lt12.imp id (fun h => by omega))).trans bx
      have wo := w12
      have hv7 : vblock v7 ≠ vblock vb := by
        rcases nx12 with e9 | ⟨e8, e9⟩ | e9
        · rw [e9]; show 0 ≠ _; omega
        · rw [e9]; omega
        omega
      refine KL.fin 1 rfl (KQ.sr (KL.run 2 rfl (KL.q (R.lenO rfl Tryd.underlying36 rfl wb) rfl ?_)))
      refine KL.q (R.convI rfl Tryd.underlying3 Tryd.underlying101 rfl (by dsimp only [InR]; omega)) rfl ?_
      refine KL.c rfl Tryd.call50 (U_any ((B.length : Nat)) (by omega) (by omega)) ?_
      rintro v_wl H13 ⟨wl, ox⟩
      have zc_H13 := (ox).1
      have o0 := o0.trans ox
      have wb := wb.old ox
      have wo := wo.old ox
      have bx := (ox).blk bx
      have zwl := ox.1
      have lwl := wl.lt
      have lt14 := wo.lt
      refine KL.m (M.append rfl Tryd.underlying36 inf5 rfl (by decide) rfl rfl wo (by exact (wl.sl (emptyOld _) (by decide))) (fun _ _ h _ => h) (by omega) (by (simp only [List.length_append, List.length_cons, List.length_nil]; omega)) (by unfold maxLen; ((simp only [List.length_append, List.length_cons, List.length_nil]; omega)))) rfl ?_
      rintro v8 H14 ⟨w14, g14⟩
      have ob14 := g14.oldB wo (by omega)
      have o0 := o0.then ob14 (by omega)
      have z14 := ob14.1
      have wb := wb.keep (g14.2 _ (by omega) (by exact .inr (by omega)))
      have bx := (g14.2 _ (blk_lt bx) (by exact lt14.imp id (fun h => by omega))).trans bx
      have wo := w14
      refine KL.fin 1 rfl (KQ.r (KL.run 2 rfl ?_))
      have lt15 := wo.lt
      refine KL.m (M.append rfl Tryd.underlying36 inf5 rfl (by decide) rfl rfl wo (by exact (wb.sl (emptyOld _) (by decide))) (fun _ _ h _ => h) (by omega) (by (simp only [List.length_append, List.length_cons, List.length_nil]; omega)) (by unfold maxLen; ((simp only [List.length_append, List.length_cons, List.length_nil]; omega)))) rfl ?_
      rintro v6 H15 ⟨w15, g15⟩
      have ob15 := g15.oldB wo (by omega)
      have o0 := o0.then ob15 (by omega)
      have z15 := ob15.1
      have bx := (g15.2 _ (blk_lt bx) (by exact lt15.imp id (fun h => by omega))).trans bx
      have wo := w15
      refine KL.fin 1 rfl (KQ.normBlock (KQ.r (KL.run 1 rfl ?_)))
      refine KL.q ((R.add rfl rfl rfl (by dsimp only [InR]; omega)).val (congrArg (Value.int .u8) (show ((n + 1 : Nat) : Int) + 1 = ((n + 1 + 1 : Nat) : Int) by omega))) rfl ?_
      refine KL.fin 1 rfl ?_
      refine KQ.again ((n + 1, v6)) ?_ ?_ ?_
      · exact Sub.all rfl
      · show 11 - (n + 1) < 11 - n; omega
      exact (by exact ⟨by show n + 1 ≤ _; omega, by rw [hput (by exact .inl (by omega))]; simpa only [List.append_assoc] using wo, En.okP_step hok hrow, bx, o0⟩)
    intro hg68
    try dsimp only at hg68
    refine KL.run 3 rfl ?_
    refine KL.cq 71 rfl ?_ ?_
    · intro hg71
      try dsimp only at hg71
      refine KL.run 1 rfl (KL.ld rfl (cell_of bx rfl) (KL.fin 2 rfl (KQ.seq ?_)))
      refine KC.iq rfl ?_ ?_
      · intro hc75
        refine KC.sr (KL.run 2 rfl ?_)
        refine KL.m (M.lit rfl Tryd.underlying36 zs5 (by decide) rfl rfl rfl) rfl ?_
        rintro _ H16 ⟨rfl, n16⟩
        have z16 := n16.2.1
        have o0 := o0.trans n16.1
        have wb := wb.old n16.1
        have wo := wo.old n16.1
        have bx := (n16.1).blk bx
        have b16 := n16.2.2
        have s1 : Sl 1 (EInt .u8) H16 _ [((n + 1 : Nat) : Int)] := Sl.lits (l := [((n + 1 : Nat) : Int)]) n16 rfl (by simp) (by intro y hy; simp only [List.mem_cons, List.not_mem_nil, or_false] at hy; subst hy; dsimp only [InR] at *; omega)
        have lt17 := wo.lt
        refine KL.m (M.appendN rfl Tryd.underlying36 inf5 rfl (by decide) rfl rfl wo s1 (fun _ _ h _ => h) (by omega) (by (simp only [List.length_append, List.length_cons, List.length_nil]; omega)) (by unfold maxLen; ((simp only [List.length_append, List.length_cons, List.length_nil]; omega)))) rfl ?_
        rintro v7 H17 ⟨w17, g17, nx17⟩
        try dsimp only at g17 nx17
        have ob17 := g17.oldB wo (by omega)
        have o0 := o0.then ob17 (by omega)
        have z17 := ob17.1
        have wb := wb.keep (g17.2 _ (by omega) (by exact .inr (by omega)))
        have bx := (g17.2 _ (blk_lt bx) (by exact lt17.imp id (fun h => by omega))).trans bx
        have wo := w17
        have hv7 : vblock v7 ≠ vblock vb := by
          rcases nx17 with e9 | ⟨e8, e9⟩ | e9
          · rw [e9]; show 0 ≠ _; omega
          · rw [e9]; omega
          omega
        refine KL.fin 1 rfl (KQ.sr (KL.run 2 rfl (KL.q (R.lenO rfl Tryd.underlying36 rfl wb) rfl ?_)))
        refine KL.q (R.convI rfl Tryd.underlying3 Tryd.underlying101 rfl (by dsimp only [InR]; omega)) rfl ?_
        refine KL.c rfl Tryd.call50 (U_any ((B.length : Nat)) (by omega) (by omega)) ?_
        rintro v_wl H18 ⟨wl, ox⟩
        have zc_H18 := (ox).1
        have o0 := o0.trans ox
        have wb := wb.old ox
        have wo := wo.old ox
        have bx := (ox).blk bx
        have zwl := ox.1
        have lwl := wl.lt
        have lt19 := wo.lt
        refine KL.m (M.append rfl Tryd.underlying36 inf5 rfl (by decide) rfl rfl wo (by exact (wl.sl (emptyOld _) (by decide))) (fun _ _ h _ => h) (by omega) (by (simp only [List.length_append, List.length_cons, List.length_nil]; omega)) (by unfold maxLen; ((simp only [List.length_append, List.length_cons, List.length_nil]; omega)))) rfl ?_
        rintro v8 H19 ⟨w19, g19⟩
        have ob19 := g19.oldB wo (by omega)
        have o0 := o0.then ob19 (by omega)
        have z19 := ob19.1
        have wb := wb.keep (g19.2 _ (by omega) (by exact .inr (by omega)))
        have bx := (g19.2 _ (blk_lt bx) (by exact lt19.imp id (fun h => by omega))).trans bx
        have wo := w19
        refine KL.fin 1 rfl (KQ.r (KL.run 2 rfl ?_))
        have lt20 := wo.lt
        refine KL.m (M.append rfl Tryd.underlying36 inf5 rfl (by decide) rfl rfl wo (by exact (wb.sl (emptyOld _) (by decide))) (fun _ _ h _ => h) (by omega) (by (simp only [List.length_append, List.length_cons, List.length_nil]; omega)) (by unfold maxLen; ((simp only [List.length_append, List.length_cons, List.length_nil]; omega)))) rfl ?_
        rintro v6 H20 ⟨w20, g20⟩
        have ob20 := g20.oldB wo (by omega)
        have o0 := o0.then ob20 (by omega)
        have z20 := ob20.1
        have bx := (g20.2 _ (blk_lt bx) (by exact lt20.imp id (fun h => by omega))).trans bx
        have wo := w20
        refine KL.fin 1 rfl (KQ.normBlock (KQ.r (KL.run 1 rfl ?_)))
        refine KL.q ((R.add rfl rfl rfl (by dsimp only [InR]; omega)).val (congrArg (Value.int .u8) (show ((n + 1 : Nat) : Int) + 1 = ((n + 1 + 1 : Nat) : Int) by omega))) rfl ?_
        refine KL.fin 1 rfl ?_
        refine KQ.again ((n + 1, v6)) ?_ ?_ ?_
        · exact Sub.all rfl
        · show 11 - (n + 1) < 11 - n; omega
        exact (by exact ⟨by show n + 1 ≤ _; omega, by rw [hput (by exact .inr ⟨by omega, by assumption⟩)]; simpa only [List.append_assoc] using wo, En.okP_step hok hrow, bx, o0⟩)
      intro hc75
      refine KC.skip (KQ.normBlock (KQ.r (KL.run 1 rfl ?_)))
      refine KL.q ((R.add rfl rfl rfl (by dsimp only [InR]; omega)).val (congrArg (Value.int .u8) (show ((n + 1 : Nat) : Int) + 1 = ((n + 1 + 1 : Nat) : Int) by omega))) rfl ?_
      refine KL.fin 1 rfl ?_
      refine KQ.again ((n + 1, vo)) ?_ ?_ ?_
      · exact Sub.all rfl
      · show 11 - (n + 1) < 11 - n; omega
      exact (by exact ⟨by show n + 1 ≤ _; omega, by rw [En.body_none (by omega) (by omega) (fun h9 => by simp_all)]; exact wo, En.okP_step hok hrow, bx, o0⟩)
    intro hg71
    try dsimp only at hg71
    refine KL.fin 4 rfl (KQ.seq (KC.condF rfl (KC.skip (KQ.normBlock (KQ.r (KL.run 1 rfl ?_))))))
    refine KL.q ((R.add rfl rfl rfl (by dsimp only [InR]; omega)).val (congrArg (Value.int .u8) (show ((n + 1 : Nat) : Int) + 1 = ((n + 1 + 1 : Nat) : Int) by omega))) rfl ?_
    refine KL.fin 1 rfl ?_
    refine KQ.again ((n + 1, vo)) ?_ ?_ ?_
    · exact Sub.all rfl
    · show 11 - (n + 1) < 11 - n; omega
    exact (by exact ⟨by show n + 1 ≤ _; omega, by rw [En.body_none (by omega) (by omega) (fun h9 => by exact absurd h9 (by omega))]; exact wo, En.okP_step hok hrow, bx, o0⟩)
  intro hc30
  try dsimp only at hc30
  have hn11 : n = 11 := by omega
  subst hn11
  rw [En.acc_all] at wo
  refine KC.exit (KQ.exitThen (KQ.exitThen (KQ.hit (KQ.seq (KC.seq (KC.sr (KL.run 1 rfl (KL.q (R.lenO rfl Tryd.underlying36 rfl wo) rfl (KL.fin 1 rfl (KQ.seq ?_))))))))))
  refine KC.iq rfl ?_ ?_
  · intro hc91
    try dsimp only at hc91
    refine KC.sr (KL.fin 2 rfl (KQ.seq (KC.ret (KQ.retThen (KQ.ofRet (KQ.fin2 Tryd.results9 rfl rfl ?_))))))
    (exact ⟨.inr (.inl ⟨En.ok_all hcf hst hok, by have h9 := hc91; rw [List.length_append] at h9; unfold En.bin; rw [List.length_append]; omega, rfl⟩), o0⟩)
  intro hc91
  try dsimp only at hc91
  refine KC.skip (KQ.sr (KL.fin 3 rfl (KQ.seq (KC.ret (KQ.ofRet (KQ.fin2 Tryd.results9 rfl rfl ?_))))))
  (exact ⟨.inr (.inr ⟨En.ok_all hcf hst hok, by have h9 := hc91; rw [List.length_append] at h9; unfold En.bin; rw [List.length_append]; omega, _, rfl, wo.sl (emptyOld _) (by decide)⟩), o0⟩)
end Go.Proofs.YtldmfchamcpmmaaDoor
