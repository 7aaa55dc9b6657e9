/- What the proof of EncBack leans on, part 4. No condition but those that each law states. -/
import Derived.Test.YtldmfchamcpmmaaGreatDoorRows
import Derived.WalkKit
import Derived.Deep.Quiet
import Derived.Below
import Derived.WalkLawsBesides
import Derived.Lib.Hide
import Derived.Laws.AppendOwnNone
import Derived.Laws.CopyRow
import Derived.Laws.Tables
import Derived.Orders
import Derived.Deep.Slices
import Derived.Deep.Fields
import Derived.OpenShut
import Derived.ProofKit
import Derived.Lib.AppendZerosOnto
import Derived.Laws.BytesString
import Derived.Lib.SlBytesConst
import Derived.Laws.IdiomStrings
import Derived.Lib.AppendStr
import Derived.Lib.EndianZ
import Derived.Lib.DecodeN
import Derived.Lib.ValidLaws
import Derived.Lib.EndianBits
import Derived.Maps.AppendAt
import Derived.ChangeKeysEq
import Derived.Lib.LaidTab
import Derived.Lib.LaidU8
import Derived.LaidMore
import Derived.ChangeSame
import Derived.SizedLaws
import Derived.WalkSpells
import Derived.Lib.ItoaNum
import Derived.Defers
import Derived.Recover
import Derived.Scope
import Derived.Laws.StructEq
import Derived.ArgAppend
import Derived.Test.YtldmfchamcpmmaaGreatDoorEncBackPC
set_option maxHeartbeats 10000000
set_option maxRecDepth 100000
set_option linter.unusedVariables false
set_option linter.unusedSimpArgs false
set_option linter.unnecessarySimpa false
namespace Go.Proofs.YtldmfchamcpmmaaGreatDoor
open Go Go.RowKit
theorem lt2 {g1 g2 B : Nat} (h1 : g1 < B) (h2 : g2 < B) : ∀ g ∈ [g1, g2], g < B := by
  intro g hg
  simp only [List.mem_cons, List.not_mem_nil, or_false] at hg
  rcases hg with rfl | rfl <;> assumption
theorem rk1 {a b : Int} (h : a < b) : decide (b ≤ 11) = decide (a < b ∧ b ≤ 11) := by simp [h]
theorem rk0 {a b : Int} (h : ¬ a < b) : false = decide (a < b ∧ b ≤ 11) := (decide_eq_false (fun k => h k.1)).symm
theorem rising1_any {H : Heap} (x last : Int) (b : Nat) (bl : H[b]? = some (.cells [.int .u8 last].toArray 5 (0, 0))) : Ct Tryz.prog 96 [.int .u8 x, .pointer (some ⟨b, 0, none⟩)] H (fun u H' => u = .bool (decide (last < x ∧ x ≤ 11)) ∧ Upd b H H' ∧ H'[b]? = some (.cells [.int .u8 x].toArray 5 (0, 0))) := by
  refine Ct.mk Tryz.func96 rfl Tryz.ntmps96 rfl ?_
  intro W0 hW0
  have o0 : OldB 0 H H := OldB.refl _ H
  refine KC.sr (KL.fin 1 rfl (KQ.sr (KL.run 1 rfl (KL.ld rfl (cell_of bl rfl) (KL.run 2 rfl ?_)))))
  refine KL.cq 8 rfl ?_ ?_
  · intro hg8
    refine KL.fin 4 rfl (KQ.sr (KL.run 1 rfl ?_))
    refine KL.opS (S.store rfl sz5 rfl rfl rfl rfl bl (by simp)) rfl rfl ?_
    rintro H1 ⟨u1, b1⟩
    have o0 := o0.trans (OldB.upd u1 (by omega))
    have zu1 := u1.1
    have bl := b1
    have uu := u1
    refine KL.nil (KQ.sr (KL.fin 2 rfl (KQ.seq (KC.ret (KQ.ofRet (KQ.fin1 Tryz.results96 rfl ?_))))))
    exact ⟨congrArg Value.bool (rk1 (by assumption)), uu, bl⟩
  intro hg8
  refine KL.fin 4 rfl (KQ.sr (KL.run 1 rfl ?_))
  refine KL.opS (S.store rfl sz5 rfl rfl rfl rfl bl (by simp)) rfl rfl ?_
  rintro H2 ⟨u2, b2⟩
  have o0 := o0.trans (OldB.upd u2 (by omega))
  have zu2 := u2.1
  have bl := b2
  have uu := u2
  refine KL.nil (KQ.sr (KL.fin 2 rfl (KQ.seq (KC.ret (KQ.ofRet (KQ.fin1 Tryz.results96 rfl ?_))))))
  exact ⟨congrArg Value.bool (rk0 (by assumption)), uu, bl⟩
theorem rising_any {H : Heap} : Ct Tryz.prog 52 [] H (fun u H' => u = .func (.func 96) #[] #[.pointer (some ⟨H.size, 0, none⟩)] ∧ Old H H' ∧ H'[H.size]? = some (.cells [.int .u8 0].toArray 5 (0, 0)) ∧ H'.size = H.size + 1) := by
  refine Ct.mk Tryz.func52 rfl Tryz.ntmps52 rfl ?_
  intro W0 hW0
  have o0 : Old H H := Old.refl H
  refine KC.sr (KL.fin 1 rfl (KQ.sr ?_))
  refine KL.m (M.alloc (cs := [.int .u8 0]) rfl zr5 rfl) rfl ?_
  rintro _ H1 ⟨rfl, n1⟩
  have z1 := n1.2.1
  have o0 := o0.trans n1.1
  have b1 := n1.2.2
  have bl := b1
  refine KL.opS (S.store rfl sz5 rfl rfl rfl rfl bl (by simp)) rfl rfl ?_
  rintro H2 ⟨u2, b2⟩
  have o0 := o0.upd u2 (by omega)
  have zu2 := u2.1
  have bl := b2
  refine KL.nil (KQ.sr (KL.fin 2 rfl (KQ.seq (KC.ret (KQ.ofRet (KQ.fin1 Tryz.results52 rfl ?_))))))
  exact ⟨rfl, o0, bl, by omega⟩
theorem Begin_any {H : Heap} : Ct Tryz.prog 11 [] H (fun u H' => Own 1 (EInt .u8) 5 #[] H.size H' u Sc.beg ∧ Old H H') := by
  refine Ct.mk Tryz.func11 rfl Tryz.ntmps11 rfl ?_
  intro W0 hW0
  have o0 : Old H H := Old.refl H
  refine KC.sr (KL.fin 1 rfl (KQ.sr ?_))
  refine KL.m (M.lit rfl U34 zs5 (by decide) rfl rfl rfl) rfl ?_
  rintro _ H1 ⟨rfl, n1⟩
  have z1 := n1.2.1
  have o0 := o0.trans n1.1
  have b1 := n1.2.2
  have wa : Own 1 (EInt .u8) 5 #[] H.size H1 _ Sc.beg := Own.litI (l := Sc.beg) n1 (Nat.le_refl _) rfl (by decide) (by decide)
  refine KL.fin 1 rfl (KQ.seq (KC.ret (KQ.ofRet (KQ.fin1 Tryz.results11 rfl ?_))))
  exact ⟨wa, o0⟩
theorem Join_any {H : Heap} (v : Value) (l : List Sec) (hs : Sl 2 ESec H v l) (hz : (Sc.body l).length ≤ 140737488351232) : Ct Tryz.prog 43 [v] H (fun u H' => Old H H' ∧ Sc.JRes (Sc.join l) (.int .i64 2) (.int .i64 0) u H') := by
  refine Ct.mk Tryz.func43 rfl Tryz.ntmps43 rfl ?_
  intro W0 hW0
  have o0 : Old H H := Old.refl H
  have hll := hs.len
  refine KC.sr (KL.fin 2 rfl (KQ.sr ?_))
  refine KL.m (M.lit rfl U34 zs5 (by decide) rfl rfl rfl) rfl ?_
  rintro _ H1 ⟨rfl, n1⟩
  have z1 := n1.2.1
  have o0 := o0.trans n1.1
  have b1 := n1.2.2
  have bm := b1
  refine KL.m (M.mark rfl U34 U5 rfl bm) rfl ?_
  rintro _ H2 ⟨rfl, um, bmk⟩
  have zum := um.1
  have o0 := o0.upd um (by omega)
  have sm : Full H.size H2 (.slice (some ⟨_, 0, none⟩) 8 8) Sc.beg := ⟨Sl.ofCells (l := Sc.beg) bmk (by decide) (by decide), by decide, _, rfl, Nat.le_refl _, blk_lt bmk⟩
  refine KL.fin 1 rfl (KQ.sr ?_)
  refine KL.c rfl Tryz.call52 (rising_any) ?_
  rintro _ H3 ⟨rfl, ox, bl, zr⟩
  have zc_H3 := (ox).1
  have o0 := o0.trans ox
  have wo : Out 5 H.size H3 _ Sc.beg := .inr (sm.sl.old ox |> fun s => ⟨s, sm.pos, sm.at_.imp fun g h => ⟨h.1, h.2.1, by omega⟩⟩)
  refine KL.fin 1 rfl (KQ.seq (KC.seq (KC.sr (KL.run 1 rfl (KL.q (R.lenS rfl U44 rfl hs) rfl (KL.fin 1 rfl (KQ.seq (KC.block ?_))))))))
  refine KC.loopD (κ := Nat × Value) [14, 15, 16, 7, 17, 18, 19, 20, 21, 2, 3, 22, 23, 24, 25, 26, 27, 28, 29, 30, 31, 32, 33, 34, 4, 35, 13] (fun k => [(13, .int .i64 (k.1 : Nat)), (4, k.2)]) (fun k Hl => k.1 ≤ l.length ∧ Out 5 H.size Hl k.2 (Sc.beg ++ Sc.body (l.take k.1)) ∧ vblock k.2 ≠ (Array.size H2) ∧ Hl[(Array.size H2)]? = some (.cells [.int .u8 (Sc.lst 0 (l.take k.1))].toArray 5 (0, 0)) ∧ Sc.rise 0 (l.take k.1) = true ∧ Old H Hl) (fun k => l.length - k.1) (0, (Value.slice (some ⟨Array.size H, 0, none⟩) 8 8)) ?_ ?_ ?_
  · exact Sub.all rfl
  · exact ⟨Nat.zero_le _, by simpa [Sc.body] using wo, by show Array.size H ≠ _; omega, bl, rfl, o0⟩
  rintro ⟨k, vo⟩ H4 ⟨hk, wo, hne, bl, hr, o0⟩
  have zl_H4 := o0.1
  dsimp only at hk wo hne bl hr
  have zl := o0.1
  have hg := blk_lt bl
  have hvo := wo.lt
  refine KC.sr (KL.fin 1 rfl (KQ.seq (KC.seq ?_)))
  refine KC.iq rfl ?_ ?_
  · intro hc14
    try dsimp only at hc14
    obtain ⟨u, hcx, hu, q0⟩ := hs.secAt k (by omega)
    have q1 := q0
    dsimp only [InR] at q1
    have hbs := Sc.body_bytes (l := l) (k := k) (by omega)
    have hbl := Sc.body_le l (k + 1)
    have hbk := Sc.body_le l k
    have hul := hu.len
    have hal := (Lb.ap_length (z := ((l.getD k default).2.length : Int)) (by omega) (by omega)).2
    refine KC.skip (KQ.seq (KC.seq (KC.block (KC.sr ?_))))
    refine KL.q (R.index (j := k) rfl U44 sz48 rfl rfl (hs.old o0) rfl (by omega)) rfl ?_
    refine KL.lda rfl (o0.cells hcx) rfl ?_
    refine KL.m (M.alloc rfl zr48 rfl) rfl ?_
    rintro _ H5 ⟨rfl, n5⟩
    have z5 := n5.2.1
    have o0 := o0.trans n5.1
    have bl := (n5.1).blk bl
    have b5 := n5.2.2
    have bx := b5
    have wo := wo.old n5.1
    have gx := n5.2.1
    refine KL.opS (S.storeAgg rfl sz48 rfl rfl (rfl) (by intro q hq; simp only [List.mem_cons, List.not_mem_nil, or_false] at hq; rcases hq with rfl | rfl <;> first | rfl | exact hu.one) bx (by simp)) rfl rfl ?_
    rintro H6 ⟨u6, b6⟩
    have o0 := o0.upd u6 (by omega)
    have zu6 := u6.1
    have bl := ((u6).2 _ (by omega)).trans bl
    have bx := b6
    have wo := wo.upd u6 (hvo.imp id (fun h => by omega))
    refine KL.nil (KQ.seq (KC.seq (KC.sr (KL.run 2 rfl (KL.ld rfl (cell_of bx rfl) ?_)))))
    refine KL.c rfl Tryz.call96 (rising1_any _ _ _ bl) ?_
    rintro _ H7 ⟨rfl, uu, bl⟩
    have o0 := o0.upd uu (by omega)
    have zuu := uu.1
    have bx := ((uu).2 _ (by omega)).trans bx
    have wo := wo.upd uu (.inr hne)
    refine KL.fin 1 rfl (KQ.seq ?_)
    refine KC.iq rfl ?_ ?_
    · intro hc21
      try dsimp only at hc21
      refine KC.sr (KL.fin 2 rfl (KQ.seq (KC.ret (KQ.retThen (KQ.retBlock (KQ.retThen (KQ.retThen (KQ.retBlock (KQ.retThen (KQ.ofRet (KQ.fin2 Tryz.results43 rfl rfl ?_)))))))))))
      (exact ⟨o0, by rw [Sc.join_no (l := l) (k := k) (by omega) hc21]; rfl⟩)
    intro hc21
    try dsimp only at hc21
    refine KC.skip (KQ.seq ?_)
    refine KC.text (clOf [(3, 2), (4, 2), (9, 2), (12, 2)]) (fun _ Hc => Hc[_]? = some _) (by kernel_rfl) (by kernel_rfl) (fun _ => bx) ?_
    refine KP.run 2 rfl rfl ?_
    refine KP.op rfl (fun Hg hg => R.load rfl U5 rfl rfl (cell_of hg rfl)) rfl rfl rfl ?_
    refine KP.opM rfl (M.lit rfl U34 zs5 (by decide) rfl rfl rfl) rfl rfl rfl (fun _ _ h _ _ _ => h.2.1.blk bx) ?_
    rintro _ H8 ⟨rfl, n8⟩
    have z8 := n8.2.1
    have o0 := o0.trans n8.1
    have bl := (n8.1).blk bl
    have bx := (n8.1).blk bx
    have b8 := n8.2.2
    have s1 : Sl 1 (EInt .u8) H8 _ [(l.getD k default).1] := Sl.lits (l := [(l.getD k default).1]) n8 rfl (by simp) (by intro x hx; simp only [List.mem_singleton] at hx; subst hx; exact q0)
    have wo := wo.old n8.1
    have ltv := wo.lt
    have zo := o0.1
    have hnx : vblock vo ≠ Array.size H4 := by
      rcases hvo with h | h
      · rw [h]; show (0 : Nat) ≠ _; omega
      omega
    refine KP.opM rfl (M.appendOut (m := [(l.getD k default).1]) rfl U34 inf5 rfl rfl rfl wo s1 (by simp) (by omega) (by rw [List.length_append]; simp only [List.length_singleton, show Sc.beg.length = 8 from rfl, List.length_append]; omega) (by unfold maxLen; rw [List.length_append]; simp only [List.length_singleton, show Sc.beg.length = 8 from rfl]; omega)) rfl rfl rfl (fun _ _ h _ _ _ => (h.2.1.2 _ (blk_lt bx) (.inr hnx.symm)).trans bx) ?_
    rintro v1 H10 ⟨w1, g1, nx1⟩
    dsimp only at g1 nx1
    have ob1 := OldB.trans (OldB.refl H.size _) ((⟨g1.1, fun i hi => g1.2 i (by omega) (ltv.imp id (fun h => by omega))⟩ : OldB H.size H8 H10))
    have o0 := o0.then ob1 (by omega)
    have bx := (g1.2 _ (blk_lt bx) (.inr hnx.symm)).trans bx
    have bl := (g1.2 _ (blk_lt bl) (.inr (Ne.symm hne))).trans bl
    have zg1 := g1.1
    have sw := w1.sl (emptyOld _) (by omega)
    refine KP.run 1 rfl rfl ?_
    refine KP.op rfl (fun Hg hg => R.load rfl U34 rfl rfl (cell_of hg rfl)) rfl rfl rfl ?_
    refine KP.op rfl (fun Hg hg => R.lenS rfl U34 rfl hu) rfl rfl rfl ?_
    refine KP.op rfl (fun Hg hg => R.convI rfl U3 U95 rfl (by dsimp only [InR]; omega)) rfl rfl rfl ?_
    refine KP.call rfl rfl rfl rfl rfl Tryz.call33 rfl rfl rfl (AppendU_big _ _ _ sw (by rw [List.length_append, List.length_append]; simp only [List.length_singleton, show Sc.beg.length = 8 from rfl]; omega) (by omega) (by omega)) (fun _ _ h _ _ _ => h.2.blk bx) ?_
    rintro va H11 ⟨wa, ox⟩
    have zc_H11 := (ox).1
    have o0 := o0.trans ox
    have bl := (ox).blk bl
    have bx := (ox).blk bx
    have hva := wa.lt
    refine KP.run 1 rfl rfl ?_
    refine KP.op rfl (fun Hg hg => R.load rfl U34 rfl rfl (cell_of hg rfl)) rfl rfl rfl ?_
    have lt12 := wa.lt
    refine KP.opM rfl (M.appendN rfl U34 inf5 rfl (by decide) rfl rfl wa (by exact (hu.old o0)) (fun _ _ h _ => h) (by omega) (by simp only [List.length_append, List.length_singleton, show Sc.beg.length = 8 from rfl]; omega) (by unfold maxLen; simp only [List.length_append, List.length_singleton, show Sc.beg.length = 8 from rfl]; omega)) rfl rfl rfl (fun _ _ h _ _ _ => (h.2.1.2 _ (blk_lt bx) (wa.lt.imp id (fun h => by omega))).trans bx) ?_
    rintro v12 H12 ⟨w12, g12, nx12⟩
    try dsimp only at g12 nx12
    have ob12 := g12.oldB wa (by omega)
    have o0 := o0.then ob12 (by omega)
    have z12 := ob12.1
    have bl := (g12.2 _ (blk_lt bl) (by exact lt12.imp id (fun h => by omega))).trans bl
    have bx := (g12.2 _ (blk_lt bx) (by exact lt12.imp id (fun h => by omega))).trans bx
    have wa := w12
    have hne2 : vblock v12 ≠ (Array.size H2) := by
      rcases wa.lt with h | h
      · exact absurd (congrArg (fun v => match v with | Value.slice _ n _ => n | _ => 0) h) (by obtain ⟨a, c, hv, _⟩ := wa.val; rw [hv]; simp only [List.length_append, List.length_singleton, show Sc.beg.length = 8 from rfl]; omega)
      omega
    refine KP.fin 1 rfl rfl (KQ.normBlock (KQ.r ?_))
    refine KL.q ((R.add rfl rfl rfl (by dsimp only [InR]; omega)).val (congrArg (Value.int .i64) (show (k : Int) + 1 = ((k + 1 : Nat) : Int) by omega))) rfl ?_
    refine KL.fin 1 rfl ?_
    refine KQ.again ((k + 1, v12)) ?_ ?_ ?_
    · exact Sub.all rfl
    · show l.length - (k + 1) < l.length - k; omega
    exact ⟨by show k + 1 ≤ _; omega, .inl (by have h9 := wa.weak (B' := H.size) (by omega); rw [Sc.body_step (by omega)]; simpa only [List.append_assoc] using h9), hne2, by rw [Sc.lst_step (by omega)]; exact bl, Sc.rise_yes (by omega) hr hc21, o0⟩
  intro hc14
  try dsimp only at hc14
  refine KC.exit (KQ.exitThen (KQ.exitThen (KQ.hit (KQ.sr (KL.fin 3 rfl (KQ.seq (KC.ret (KQ.ofRet (KQ.fin2 Tryz.results43 rfl rfl ?_)))))))))
  (exact ⟨o0, by rw [Sc.join_yes (l := l) (k := k) (by omega) hr]; exact ⟨vo, rfl, wo.sl⟩⟩)
/-- a maker of sections: its row, and whether something has no bytes -/
structure MK (H : Heap) (g : Nat) (v : Value) (l : List Sec) (bad : Bool) : Prop where
  b : H[g]? = some (.cells [v, .bool bad].toArray 74 (0, 0))
  w : OwnE 2 ESec 48 (g + 1) H v [g] l
theorem MK.cast {H : Heap} {g : Nat} {v : Value} {l l' : List Sec} {bad bad' : Bool} (h : MK H g v l bad) (e1 : l = l') (e2 : bad = bad') : MK H g v l' bad' := by subst e1 e2; exact h
theorem MK.old {H H' : Heap} {g : Nat} {v : Value} {l : List Sec} {bad : Bool} (h : MK H g v l bad) (o : Old H H') : MK H' g v l bad := ⟨o.blk h.b, h.w.old o⟩
theorem MK.lt {H : Heap} {g : Nat} {v : Value} {l : List Sec} {bad : Bool} (h : MK H g v l bad) : g < H.size := blk_lt h.b
theorem En.sec_nil {α : Type} {id : Int} {f : α → List Int} {l : List α} (h : (l.length : Int) = 0) : En.sec id f l = [] := by unfold En.sec; rw [if_pos (by omega)]
theorem En.sec_cons {α : Type} {id : Int} {f : α → List Int} {l : List α} (h : ¬ (l.length : Int) = 0) : En.sec id f l = [(id, En.lst f l)] := by unfold En.sec; rw [if_neg (by omega)]
theorem En.all_nil {α : Type} {f : α → Bool} {l : List α} (h : (l.length : Int) = 0) : l.all f = true := by rw [List.eq_nil_of_length_eq_zero (by omega : l.length = 0)]; rfl
theorem typed_of {H : Heap} {p : Value} : Ct Tryz.prog 14 [p] H (fun u H' => u = .func (.func 15) #[p] #[] ∧ H = H') := by
  refine Ct.mk Tryz.func14 rfl Tryz.ntmps14 rfl ?_
  intro W0 hW0
  have o0 : Old H H := Old.refl H
  refine KC.sr (KL.fin 1 rfl (KQ.sr (KL.fin 3 rfl (KQ.seq (KC.ret (KQ.ofRet (KQ.fin1 Tryz.results14 rfl ?_)))))))
  exact ⟨rfl, rfl⟩
theorem typed_sec {H : Heap} {gm : Nat} {vm : Value} {acc : List Sec} {bad : Bool} (mk : MK H gm vm acc bad) {Hb : Heap} (oB : Old Hb H) (hgB : Hb.size ≤ gm) {u : Value} {xs : List FTy} (hs : Sl 2 EFTy Hb u xs) (hm : xs.length ≤ 4000) (hz : ∀ x ∈ xs, x.1.length ≤ 4000 ∧ x.2.length ≤ 4000) (ix : Int) (rid : InR .u8 ix) (hac : acc.length ≤ 1000) (hN : (En.lst En.typB xs).length + 100000000 ≤ 1099511627776) : Ct Tryz.prog 13 [.pointer (some ⟨gm, 0, none⟩), .int .u8 ix, u, .func (.func 14) #[] #[]] H (fun _ H' => ∃ vm', MK H' gm vm' (acc ++ En.sec ix En.typB xs) (bad || !xs.all En.typO) ∧ Old Hb H') := by
  refine Ct.mk Tryz.func13 rfl Tryz.ntmps13 rfl ?_
  intro W0 hW0
  have o0 : OldB 0 H H := OldB.refl _ H
  obtain ⟨bm, wo⟩ := mk
  have zm := blk_lt bm
  have bm0 := bm
  have wo0 := wo
  have oB0 := oB
  have hvm2 : vm = .slice none 0 0 ∨ vblock vm < Array.size H := wo.lt.imp id And.right
  have oP : Old H H := Old.refl _
  have hvl : vblock vm < Array.size H + 1 := by
    rcases wo.lt with e | e
    · rw [e]; show 0 < _; omega
    omega
  refine KC.seq (KC.sr (KL.run 1 rfl (KL.q (R.lenS rfl U22 rfl hs) rfl (KL.fin 1 rfl (KQ.seq ?_)))))
  refine KC.iq rfl ?_ ?_
  · intro hx0
    refine KC.ret (KQ.retThen (KQ.ofRet (KQ.fin0 Tryz.results13 ?_)))
    (exact ⟨_, (MK.mk bm0 wo0).cast (by rw [En.sec_nil hx0]; simp) (by rw [En.all_nil hx0]; simp), oB0⟩)
  intro hx0
  refine KC.skip (KQ.sr (KL.b0 bt128 rfl rfl ?_))
  refine KL.m (M.box rfl rfl rfl) rfl ?_
  rintro _ H1 ⟨rfl, n1⟩
  have z1 := n1.2.1
  have o0 := o0.trans ((n1.1).b (by omega))
  have oP := oP.trans n1.1
  have b1 := n1.2.2
  have wb := b1
  have wi : WA H1 (Array.size H) (.slice none 0 0) [] false := ⟨wb, Own.nil _ _ _ _ _ _⟩
  have wiP := wi
  have oPP := oP
  refine KL.fin 1 rfl (KQ.sr (KL.run 4 rfl ?_))
  refine KL.c rfl Tryz.call14 (typed_of) ?_
  rintro _ _ ⟨rfl, rfl⟩
  refine KL.c rfl Tryz.call56 (wlist_typed wi (oB.trans oP) (by omega) hs (by omega) hz (by simp only [List.length_nil]; omega)) ?_
  rintro _ H2 ⟨vw, wi, tW⟩
  have zt := tW.sz
  have oP : Old H H2 := tW.om wiP oPP (Nat.le_refl _)
  have bm := oP.blk bm0
  have wo := wo0.old oP
  have oB := oB0.trans oP
  have o0 : OldB 0 H H2 := ⟨oP.1, fun k hk => absurd hk (by omega)⟩
  have wb := wi.b
  have ww := wi.w
  have zm := blk_lt wb
  refine KL.nil (KQ.seq (KC.seq ?_))
  refine KC.cutD (κ := Unit) [20, 21, 22, 23, 24, 25, 26, 27, 28, 29, 30, 31, 32] (fun _ => []) (fun _ Hl => Hl[gm]? = some (.cells [vm, .bool (bad || !xs.all En.typO)].toArray 74 (0, 0)) ∧ OwnE 2 ESec 48 (gm + 1) Hl vm [gm] acc ∧ Hl[Array.size H]? = some (.cells [vw, .bool (false || !xs.all En.typO)].toArray 128 (0, 0)) ∧ Own 1 (EInt .u8) 5 #[] (Array.size H + 1) Hl vw (([] : List Int) ++ (En.lst En.typB xs)) ∧ Old Hb Hl) ?_ ?_
  · skip
    refine KC.region (KL.run 4 rfl (KL.ld rfl (cell_of bm rfl) (KL.run 1 rfl ?_)))
    refine KL.cq 25 rfl ?_ ?_
    · intro hg25
      refine KL.run 7 rfl ?_
      refine KL.opS (S.store rfl sz4 rfl rfl rfl rfl bm (by simp)) rfl rfl ?_
      rintro H3 ⟨u3, b3⟩
      have o0 := o0.trans (OldB.upd u3 (by omega))
      have zu3 := u3.1
      have wo := wo.upd u3 (by simp) (by exact wo.lt.imp id (fun h => by omega))
      have oB := oB.upd u3 (by omega)
      have wb := ((u3).2 _ (by omega)).trans wb
      have ww := ww.upd u3 (by exact ww.lt.imp id (fun h => by omega))
      have bm := b3
      refine KL.nil ?_
      refine KQ.meet () ?_ ?_
      · exact Sub.all rfl
      exact ⟨by rw [hg25]; exact bm, wo, wb, ww, oB⟩
    intro hg25
    refine KL.run 3 rfl (KL.ld rfl (cell_of wb rfl) (KL.run 3 rfl ?_))
    refine KL.opS (S.store rfl sz4 rfl rfl rfl rfl bm (by simp)) rfl rfl ?_
    rintro H4 ⟨u4, b4⟩
    have o0 := o0.trans (OldB.upd u4 (by omega))
    have zu4 := u4.1
    have wo := wo.upd u4 (by simp) (by exact wo.lt.imp id (fun h => by omega))
    have oB := oB.upd u4 (by omega)
    have wb := ((u4).2 _ (by omega)).trans wb
    have ww := ww.upd u4 (by exact ww.lt.imp id (fun h => by omega))
    have bm := b4
    refine KL.nil ?_
    refine KQ.meet () ?_ ?_
    · exact Sub.all rfl
    exact ⟨by rw [hg25]; exact bm, wo, wb, ww, oB⟩
  rintro _ H5 ⟨bm, wo, wb, ww, oB⟩
  have zm := blk_lt wb
  have o0 : OldB 0 H H5 := ⟨by omega, fun k hk => absurd hk (by omega)⟩
  refine KQ.seq ?_
  refine KC.text (clOf [(11, 2), (12, 2), (15, 2)]) (fun i Hc => (i = 4 → Hc[gm]? = some _) ∧ (i = 9 → Hc[Array.size H]? = some _)) (by kernel_rfl) (by kernel_rfl) (fun _ => ⟨fun _ => bm, fun _ => wb⟩) ?_
  refine KP.run 4 rfl rfl ?_
  refine KP.op rfl (fun Hg hg => R.load rfl U44 rfl rfl (cell_of (hg.1 rfl) rfl)) rfl rfl rfl ?_
  refine KP.run 4 rfl rfl ?_
  refine KP.op rfl (fun Hg hg => R.load rfl U34 rfl rfl (cell_of (hg.2 rfl) rfl)) rfl rfl rfl ?_
  refine KP.op rfl (fun Hg hg => R.buildL rfl U48 zr48 [(0, 1), (1, 1)] (fun w => by kernel_rfl) rfl ⟨⟨_, rfl, rfl⟩, ⟨_, rfl, rfl⟩, trivial⟩ rfl rfl ⟨⟨_, rfl, by rfl⟩, ⟨_, rfl, by exact ww.cells1⟩, trivial⟩ rfl) rfl rfl rfl ?_
  refine KP.opM rfl (M.lit rfl U44 zs48 (by decide) rfl rfl rfl) rfl rfl rfl (fun _ _ hR j _ _ => ⟨fun _ => hR.2.1.blk bm, fun _ => hR.2.1.blk wb⟩) ?_
  rintro _ H6 ⟨rfl, n6⟩
  have z6 := n6.2.1
  have o0 := o0.trans ((n6.1).b (by omega))
  have bm := (n6.1).blk bm
  have wo := wo.old n6.1
  have oB := oB.trans n6.1
  have wb := (n6.1).blk wb
  have ww := ww.old n6.1
  have b6 := n6.2.2
  have se : Sl 2 (FK ESec H6 (vblock vm :: [gm])) H6 _ [(ix, ([] : List Int) ++ (En.lst En.typB xs))] := Sl.lit1N n6 rfl (by decide) (fun H2 kx => ⟨_, rfl, fk_own ww (lt2 hvl (by omega)) H2 kx, rid⟩)
  have hvm := wo.lt
  have lt7 := wo.lt
  refine KP.opM rfl (M.appendE rfl U44 inf48 rfl (by decide) rfl rfl wo (se) (by omega) (by simp only [List.length_singleton]; omega) (by unfold maxLen; simp only [List.length_singleton]; omega)) rfl rfl rfl (fun _ _ hR j _ _ => ⟨fun _ => (hR.2.1.2 _ (blk_lt bm) (hvm.imp id (fun e => by omega))).trans bm, fun _ => (hR.2.1.2 _ (blk_lt wb) (hvm2.imp id (fun e => by omega))).trans wb⟩) ?_
  rintro vn H7 ⟨w7, g7, nx7⟩
  try dsimp only at g7 nx7
  have ob7 := g7.oldBE wo (by omega)
  have o0 := o0.trans (ob7.mono (by omega))
  have z7 := ob7.1
  have bm := (g7.2 _ (blk_lt bm) (by exact lt7.imp id (fun h => by omega))).trans bm
  have oB := oB.then ob7 (by omega)
  have wb := (g7.2 _ (blk_lt wb) (by exact hvm2.imp id (fun e => by omega))).trans wb
  have wo := w7
  refine KP.run 2 rfl rfl ?_
  refine KP.opS rfl (S.store rfl sz44 rfl rfl (OwnE.own wo).cells1 (OwnE.own wo).one bm (by simp)) rfl rfl (fun _ h j hj1 hj2 => ⟨fun hj => by subst hj; exact absurd (by decide +kernel) hj2, fun hj => by subst hj; exact absurd (by decide +kernel) hj2⟩) ?_
  rintro H8 ⟨u8, b8⟩
  have o0 := o0.trans (OldB.upd u8 (by omega))
  have zu8 := u8.1
  have wo := wo.upd u8 (by simp) (by exact wo.lt.imp id (fun h => by omega))
  have oB := oB.upd u8 (by omega)
  have wb := ((u8).2 _ (by omega)).trans wb
  have bm := b8
  refine KP.nil (KQ.fin0 Tryz.results13 ?_)
  (exact ⟨_, (MK.mk bm wo).cast (by rw [En.sec_cons hx0]; simp) rfl, oB⟩)
theorem imported_of {H : Heap} {p : Value} : Ct Tryz.prog 17 [p] H (fun u H' => u = .func (.func 18) #[p] #[] ∧ H = H') := by
  refine Ct.mk Tryz.func17 rfl Tryz.ntmps17 rfl ?_
  intro W0 hW0
  have o0 : Old H H := Old.refl H
  refine KC.sr (KL.fin 1 rfl (KQ.sr (KL.fin 3 rfl (KQ.seq (KC.ret (KQ.ofRet (KQ.fin1 Tryz.results17 rfl ?_)))))))
  exact ⟨rfl, rfl⟩
theorem imported_sec {H : Heap} {gm : Nat} {vm : Value} {acc : List Sec} {bad : Bool} (mk : MK H gm vm acc bad) {Hb : Heap} (oB : Old Hb H) (hgB : Hb.size ≤ gm) (hT : TabU Hb) {u : Value} {xs : List Imp} (hs : Sl 8 EImp Hb u xs) (hm : xs.length ≤ 4000) (hz : ∀ x ∈ xs, x.mod.size ≤ 4000 ∧ x.nam.size ≤ 4000) (ix : Int) (rid : InR .u8 ix) (hac : acc.length ≤ 1000) (hN : (En.lst En.impB xs).length + 100000000 ≤ 1099511627776) : Ct Tryz.prog 16 [.pointer (some ⟨gm, 0, none⟩), .int .u8 ix, u, .func (.func 17) #[] #[]] H (fun _ H' => ∃ vm', MK H' gm vm' (acc ++ En.sec ix En.impB xs) (bad || !xs.all En.impO) ∧ Old Hb H') := by
  refine Ct.mk Tryz.func16 rfl Tryz.ntmps16 rfl ?_
  intro W0 hW0
  have o0 : OldB 0 H H := OldB.refl _ H
  obtain ⟨bm, wo⟩ := mk
  have zm := blk_lt bm
  have bm0 := bm
  have wo0 := wo
  have oB0 := oB
  have hvm2 : vm = .slice none 0 0 ∨ vblock vm < Array.size H := wo.lt.imp id And.right
  have oP : Old H H := Old.refl _
  have hvl : vblock vm < Array.size H + 1 := by
    rcases wo.lt with e | e
    · rw [e]; show 0 < _; omega
    omega
  refine KC.seq (KC.sr (KL.run 1 rfl (KL.q (R.lenS rfl U23 rfl hs) rfl (KL.fin 1 rfl (KQ.seq ?_)))))
  refine KC.iq rfl ?_ ?_
  · intro hx0
    refine KC.ret (KQ.retThen (KQ.ofRet (KQ.fin0 Tryz.results16 ?_)))
    (exact ⟨_, (MK.mk bm0 wo0).cast (by rw [En.sec_nil hx0]; simp) (by rw [En.all_nil hx0]; simp), oB0⟩)
  intro hx0
  refine KC.skip (KQ.sr (KL.b0 bt128 rfl rfl ?_))
  refine KL.m (M.box rfl rfl rfl) rfl ?_
  rintro _ H1 ⟨rfl, n1⟩
  have z1 := n1.2.1
  have o0 := o0.trans ((n1.1).b (by omega))
  have oP := oP.trans n1.1
  have b1 := n1.2.2
  have wb := b1
  have wi : WA H1 (Array.size H) (.slice none 0 0) [] false := ⟨wb, Own.nil _ _ _ _ _ _⟩
  have wiP := wi
  have oPP := oP
  refine KL.fin 1 rfl (KQ.sr (KL.run 4 rfl ?_))
  refine KL.c rfl Tryz.call17 (imported_of) ?_
  rintro _ _ ⟨rfl, rfl⟩
  refine KL.c rfl Tryz.call60 (wlist_imported wi (oB.trans oP) (by omega) hT hs (by omega) hz (by simp only [List.length_nil]; omega)) ?_
  rintro _ H2 ⟨vw, wi, tW⟩
  have zt := tW.sz
  have oP : Old H H2 := tW.om wiP oPP (Nat.le_refl _)
  have bm := oP.blk bm0
  have wo := wo0.old oP
  have oB := oB0.trans oP
  have o0 : OldB 0 H H2 := ⟨oP.1, fun k hk => absurd hk (by omega)⟩
  have wb := wi.b
  have ww := wi.w
  have zm := blk_lt wb
  refine KL.nil (KQ.seq (KC.seq ?_))
  refine KC.cutD (κ := Unit) [20, 21, 22, 23, 24, 25, 26, 27, 28, 29, 30, 31, 32] (fun _ => []) (fun _ Hl => Hl[gm]? = some (.cells [vm, .bool (bad || !xs.all En.impO)].toArray 74 (0, 0)) ∧ OwnE 2 ESec 48 (gm + 1) Hl vm [gm] acc ∧ Hl[Array.size H]? = some (.cells [vw, .bool (false || !xs.all En.impO)].toArray 128 (0, 0)) ∧ Own 1 (EInt .u8) 5 #[] (Array.size H + 1) Hl vw (([] : List Int) ++ (En.lst En.impB xs)) ∧ Old Hb Hl) ?_ ?_
  · skip
    refine KC.region (KL.run 4 rfl (KL.ld rfl (cell_of bm rfl) (KL.run 1 rfl ?_)))
    refine KL.cq 25 rfl ?_ ?_
    · intro hg25
      refine KL.run 7 rfl ?_
      refine KL.opS (S.store rfl sz4 rfl rfl rfl rfl bm (by simp)) rfl rfl ?_
      rintro H3 ⟨u3, b3⟩
      have o0 := o0.trans (OldB.upd u3 (by omega))
      have zu3 := u3.1
      have wo := wo.upd u3 (by simp) (by exact wo.lt.imp id (fun h => by omega))
      have oB := oB.upd u3 (by omega)
      have wb := ((u3).2 _ (by omega)).trans wb
      have ww := ww.upd u3 (by exact ww.lt.imp id (fun h => by omega))
      have bm := b3
      refine KL.nil ?_
      refine KQ.meet () ?_ ?_
      · exact Sub.all rfl
      exact ⟨by rw [hg25]; exact bm, wo, wb, ww, oB⟩
    intro hg25
    refine KL.run 3 rfl (KL.ld rfl (cell_of wb rfl) (KL.run 3 rfl ?_))
    refine KL.opS (S.store rfl sz4 rfl rfl rfl rfl bm (by simp)) rfl rfl ?_
    rintro H4 ⟨u4, b4⟩
    have o0 := o0.trans (OldB.upd u4 (by omega))
    have zu4 := u4.1
    have wo := wo.upd u4 (by simp) (by exact wo.lt.imp id (fun h => by omega))
    have oB := oB.upd u4 (by omega)
    have wb := ((u4).2 _ (by omega)).trans wb
    have ww := ww.upd u4 (by exact ww.lt.imp id (fun h => by omega))
    have bm := b4
    refine KL.nil ?_
    refine KQ.meet () ?_ ?_
    · exact Sub.all rfl
    exact ⟨by rw [hg25]; exact bm, wo, wb, ww, oB⟩
  rintro _ H5 ⟨bm, wo, wb, ww, oB⟩
  have zm := blk_lt wb
  have o0 : OldB 0 H H5 := ⟨by omega, fun k hk => absurd hk (by omega)⟩
  refine KQ.seq ?_
  refine KC.text (clOf [(11, 2), (12, 2), (15, 2)]) (fun i Hc => (i = 4 → Hc[gm]? = some _) ∧ (i = 9 → Hc[Array.size H]? = some _)) (by kernel_rfl) (by kernel_rfl) (fun _ => ⟨fun _ => bm, fun _ => wb⟩) ?_
  refine KP.run 4 rfl rfl ?_
  refine KP.op rfl (fun Hg hg => R.load rfl U44 rfl rfl (cell_of (hg.1 rfl) rfl)) rfl rfl rfl ?_
  refine KP.run 4 rfl rfl ?_
  refine KP.op rfl (fun Hg hg => R.load rfl U34 rfl rfl (cell_of (hg.2 rfl) rfl)) rfl rfl rfl ?_
  refine KP.op rfl (fun Hg hg => R.buildL rfl U48 zr48 [(0, 1), (1, 1)] (fun w => by kernel_rfl) rfl ⟨⟨_, rfl, rfl⟩, ⟨_, rfl, rfl⟩, trivial⟩ rfl rfl ⟨⟨_, rfl, by rfl⟩, ⟨_, rfl, by exact ww.cells1⟩, trivial⟩ rfl) rfl rfl rfl ?_
  refine KP.opM rfl (M.lit rfl U44 zs48 (by decide) rfl rfl rfl) rfl rfl rfl (fun _ _ hR j _ _ => ⟨fun _ => hR.2.1.blk bm, fun _ => hR.2.1.blk wb⟩) ?_
  rintro _ H6 ⟨rfl, n6⟩
  have z6 := n6.2.1
  have o0 := o0.trans ((n6.1).b (by omega))
  have bm := (n6.1).blk bm
  have wo := wo.old n6.1
  have oB := oB.trans n6.1
  have wb := (n6.1).blk wb
  have ww := ww.old n6.1
  have b6 := n6.2.2
  have se : Sl 2 (FK ESec H6 (vblock vm :: [gm])) H6 _ [(ix, ([] : List Int) ++ (En.lst En.impB xs))] := Sl.lit1N n6 rfl (by decide) (fun H2 kx => ⟨_, rfl, fk_own ww (lt2 hvl (by omega)) H2 kx, rid⟩)
  have hvm := wo.lt
  have lt7 := wo.lt
  refine KP.opM rfl (M.appendE rfl U44 inf48 rfl (by decide) rfl rfl wo (se) (by omega) (by simp only [List.length_singleton]; omega) (by unfold maxLen; simp only [List.length_singleton]; omega)) rfl rfl rfl (fun _ _ hR j _ _ => ⟨fun _ => (hR.2.1.2 _ (blk_lt bm) (hvm.imp id (fun e => by omega))).trans bm, fun _ => (hR.2.1.2 _ (blk_lt wb) (hvm2.imp id (fun e => by omega))).trans wb⟩) ?_
  rintro vn H7 ⟨w7, g7, nx7⟩
  try dsimp only at g7 nx7
  have ob7 := g7.oldBE wo (by omega)
  have o0 := o0.trans (ob7.mono (by omega))
  have z7 := ob7.1
  have bm := (g7.2 _ (blk_lt bm) (by exact lt7.imp id (fun h => by omega))).trans bm
  have oB := oB.then ob7 (by omega)
  have wb := (g7.2 _ (blk_lt wb) (by exact hvm2.imp id (fun e => by omega))).trans wb
  have wo := w7
  refine KP.run 2 rfl rfl ?_
  refine KP.opS rfl (S.store rfl sz44 rfl rfl (OwnE.own wo).cells1 (OwnE.own wo).one bm (by simp)) rfl rfl (fun _ h j hj1 hj2 => ⟨fun hj => by subst hj; exact absurd (by decide +kernel) hj2, fun hj => by subst hj; exact absurd (by decide +kernel) hj2⟩) ?_
  rintro H8 ⟨u8, b8⟩
  have o0 := o0.trans (OldB.upd u8 (by omega))
  have zu8 := u8.1
  have wo := wo.upd u8 (by simp) (by exact wo.lt.imp id (fun h => by omega))
  have oB := oB.upd u8 (by omega)
  have wb := ((u8).2 _ (by omega)).trans wb
  have bm := b8
  refine KP.nil (KQ.fin0 Tryz.results16 ?_)
  (exact ⟨_, (MK.mk bm wo).cast (by rw [En.sec_cons hx0]; simp) rfl, oB⟩)
theorem u32_of {H : Heap} {p : Value} : Ct Tryz.prog 20 [p] H (fun u H' => u = .func (.func 21) #[p] #[] ∧ H = H') := by
  refine Ct.mk Tryz.func20 rfl Tryz.ntmps20 rfl ?_
  intro W0 hW0
  have o0 : Old H H := Old.refl H
  refine KC.sr (KL.fin 1 rfl (KQ.sr (KL.fin 3 rfl (KQ.seq (KC.ret (KQ.ofRet (KQ.fin1 Tryz.results20 rfl ?_)))))))
  exact ⟨rfl, rfl⟩
theorem u32_sec {H : Heap} {gm : Nat} {vm : Value} {acc : List Sec} {bad : Bool} (mk : MK H gm vm acc bad) {Hb : Heap} (oB : Old Hb H) (hgB : Hb.size ≤ gm) {u : Value} {xs : List Int} (hs : Sl 1 (EInt .u32) Hb u xs) (hm : xs.length ≤ 4000) (ix : Int) (rid : InR .u8 ix) (hac : acc.length ≤ 1000) (hN : (En.lst En.u xs).length + 100000000 ≤ 1099511627776) : Ct Tryz.prog 19 [.pointer (some ⟨gm, 0, none⟩), .int .u8 ix, u, .func (.func 20) #[] #[]] H (fun _ H' => ∃ vm', MK H' gm vm' (acc ++ En.sec ix En.u xs) (bad || !xs.all En.tru) ∧ Old Hb H') := by
  refine Ct.mk Tryz.func19 rfl Tryz.ntmps19 rfl ?_
  intro W0 hW0
  have o0 : OldB 0 H H := OldB.refl _ H
  obtain ⟨bm, wo⟩ := mk
  have zm := blk_lt bm
  have bm0 := bm
  have wo0 := wo
  have oB0 := oB
  have hvm2 : vm = .slice none 0 0 ∨ vblock vm < Array.size H := wo.lt.imp id And.right
  have oP : Old H H := Old.refl _
  have hvl : vblock vm < Array.size H + 1 := by
    rcases wo.lt with e | e
    · rw [e]; show 0 < _; omega
    omega
  refine KC.seq (KC.sr (KL.run 1 rfl (KL.q (R.lenS rfl U24 rfl hs) rfl (KL.fin 1 rfl (KQ.seq ?_)))))
  refine KC.iq rfl ?_ ?_
  · intro hx0
    refine KC.ret (KQ.retThen (KQ.ofRet (KQ.fin0 Tryz.results19 ?_)))
    (exact ⟨_, (MK.mk bm0 wo0).cast (by rw [En.sec_nil hx0]; simp) (by rw [En.all_nil hx0]; simp), oB0⟩)
  intro hx0
  refine KC.skip (KQ.sr (KL.b0 bt128 rfl rfl ?_))
  refine KL.m (M.box rfl rfl rfl) rfl ?_
  rintro _ H1 ⟨rfl, n1⟩
  have z1 := n1.2.1
  have o0 := o0.trans ((n1.1).b (by omega))
  have oP := oP.trans n1.1
  have b1 := n1.2.2
  have wb := b1
  have wi : WA H1 (Array.size H) (.slice none 0 0) [] false := ⟨wb, Own.nil _ _ _ _ _ _⟩
  have wiP := wi
  have oPP := oP
  refine KL.fin 1 rfl (KQ.sr (KL.run 4 rfl ?_))
  refine KL.c rfl Tryz.call20 (u32_of) ?_
  rintro _ _ ⟨rfl, rfl⟩
  refine KL.c rfl Tryz.call64 (wlist_u32 wi (oB.trans oP) (by omega) hs (by omega) (by simp only [List.length_nil]; omega)) ?_
  rintro _ H2 ⟨vw, wi, tW⟩
  have zt := tW.sz
  have oP : Old H H2 := tW.om wiP oPP (Nat.le_refl _)
  have bm := oP.blk bm0
  have wo := wo0.old oP
  have oB := oB0.trans oP
  have o0 : OldB 0 H H2 := ⟨oP.1, fun k hk => absurd hk (by omega)⟩
  have wb := wi.b
  have ww := wi.w
  have zm := blk_lt wb
  refine KL.nil (KQ.seq (KC.seq ?_))
  refine KC.cutD (κ := Unit) [20, 21, 22, 23, 24, 25, 26, 27, 28, 29, 30, 31, 32] (fun _ => []) (fun _ Hl => Hl[gm]? = some (.cells [vm, .bool (bad || !xs.all En.tru)].toArray 74 (0, 0)) ∧ OwnE 2 ESec 48 (gm + 1) Hl vm [gm] acc ∧ Hl[Array.size H]? = some (.cells [vw, .bool (false || !xs.all En.tru)].toArray 128 (0, 0)) ∧ Own 1 (EInt .u8) 5 #[] (Array.size H + 1) Hl vw (([] : List Int) ++ (En.lst En.u xs)) ∧ Old Hb Hl) ?_ ?_
  · skip
    refine KC.region (KL.run 4 rfl (KL.ld rfl (cell_of bm rfl) (KL.run 1 rfl ?_)))
    refine KL.cq 25 rfl ?_ ?_
    · intro hg25
      refine KL.run 7 rfl ?_
      refine KL.opS (S.store rfl sz4 rfl rfl rfl rfl bm (by simp)) rfl rfl ?_
      rintro H3 ⟨u3, b3⟩
      have o0 := o0.trans (OldB.upd u3 (by omega))
      have zu3 := u3.1
      have wo := wo.upd u3 (by simp) (by exact wo.lt.imp id (fun h => by omega))
      have oB := oB.upd u3 (by omega)
      have wb := ((u3).2 _ (by omega)).trans wb
      have ww := ww.upd u3 (by exact ww.lt.imp id (fun h => by omega))
      have bm := b3
      refine KL.nil ?_
      refine KQ.meet () ?_ ?_
      · exact Sub.all rfl
      exact ⟨by rw [hg25]; exact bm, wo, wb, ww, oB⟩
    intro hg25
    refine KL.run 3 rfl (KL.ld rfl (cell_of wb rfl) (KL.run 3 rfl ?_))
    refine KL.opS (S.store rfl sz4 rfl rfl rfl rfl bm (by simp)) rfl rfl ?_
    rintro H4 ⟨u4, b4⟩
    have o0 := o0.trans (OldB.upd u4 (by omega))
    have zu4 := u4.1
    have wo := wo.upd u4 (by simp) (by exact wo.lt.imp id (fun h => by omega))
    have oB := oB.upd u4 (by omega)
    have wb := ((u4).2 _ (by omega)).trans wb
    have ww := ww.upd u4 (by exact ww.lt.imp id (fun h => by omega))
    have bm := b4
    refine KL.nil ?_
    refine KQ.meet () ?_ ?_
    · exact Sub.all rfl
    exact ⟨by rw [hg25]; exact bm, wo, wb, ww, oB⟩
  rintro _ H5 ⟨bm, wo, wb, ww, oB⟩
  have zm := blk_lt wb
  have o0 : OldB 0 H H5 := ⟨by omega, fun k hk => absurd hk (by omega)⟩
  refine KQ.seq ?_
  refine KC.text (clOf [(11, 2), (12, 2), (15, 2)]) (fun i Hc => (i = 4 → Hc[gm]? = some _) ∧ (i = 9 → Hc[Array.size H]? = some _)) (by kernel_rfl) (by kernel_rfl) (fun _ => ⟨fun _ => bm, fun _ => wb⟩) ?_
  refine KP.run 4 rfl rfl ?_
  refine KP.op rfl (fun Hg hg => R.load rfl U44 rfl rfl (cell_of (hg.1 rfl) rfl)) rfl rfl rfl ?_
  refine KP.run 4 rfl rfl ?_
  refine KP.op rfl (fun Hg hg => R.load rfl U34 rfl rfl (cell_of (hg.2 rfl) rfl)) rfl rfl rfl ?_
  refine KP.op rfl (fun Hg hg => R.buildL rfl U48 zr48 [(0, 1), (1, 1)] (fun w => by kernel_rfl) rfl ⟨⟨_, rfl, rfl⟩, ⟨_, rfl, rfl⟩, trivial⟩ rfl rfl ⟨⟨_, rfl, by rfl⟩, ⟨_, rfl, by exact ww.cells1⟩, trivial⟩ rfl) rfl rfl rfl ?_
  refine KP.opM rfl (M.lit rfl U44 zs48 (by decide) rfl rfl rfl) rfl rfl rfl (fun _ _ hR j _ _ => ⟨fun _ => hR.2.1.blk bm, fun _ => hR.2.1.blk wb⟩) ?_
  rintro _ H6 ⟨rfl, n6⟩
  have z6 := n6.2.1
  have o0 := o0.trans ((n6.1).b (by omega))
  have bm := (n6.1).blk bm
  have wo := wo.old n6.1
  have oB := oB.trans n6.1
  have wb := (n6.1).blk wb
  have ww := ww.old n6.1
  have b6 := n6.2.2
  have se : Sl 2 (FK ESec H6 (vblock vm :: [gm])) H6 _ [(ix, ([] : List Int) ++ (En.lst En.u xs))] := Sl.lit1N n6 rfl (by decide) (fun H2 kx => ⟨_, rfl, fk_own ww (lt2 hvl (by omega)) H2 kx, rid⟩)
  have hvm := wo.lt
  have lt7 := wo.lt
  refine KP.opM rfl (M.appendE rfl U44 inf48 rfl (by decide) rfl rfl wo (se) (by omega) (by simp only [List.length_singleton]; omega) (by unfold maxLen; simp only [List.length_singleton]; omega)) rfl rfl rfl (fun _ _ hR j _ _ => ⟨fun _ => (hR.2.1.2 _ (blk_lt bm) (hvm.imp id (fun e => by omega))).trans bm, fun _ => (hR.2.1.2 _ (blk_lt wb) (hvm2.imp id (fun e => by omega))).trans wb⟩) ?_
  rintro vn H7 ⟨w7, g7, nx7⟩
  try dsimp only at g7 nx7
  have ob7 := g7.oldBE wo (by omega)
  have o0 := o0.trans (ob7.mono (by omega))
  have z7 := ob7.1
  have bm := (g7.2 _ (blk_lt bm) (by exact lt7.imp id (fun h => by omega))).trans bm
  have oB := oB.then ob7 (by omega)
  have wb := (g7.2 _ (blk_lt wb) (by exact hvm2.imp id (fun e => by omega))).trans wb
  have wo := w7
  refine KP.run 2 rfl rfl ?_
  refine KP.opS rfl (S.store rfl sz44 rfl rfl (OwnE.own wo).cells1 (OwnE.own wo).one bm (by simp)) rfl rfl (fun _ h j hj1 hj2 => ⟨fun hj => by subst hj; exact absurd (by decide +kernel) hj2, fun hj => by subst hj; exact absurd (by decide +kernel) hj2⟩) ?_
  rintro H8 ⟨u8, b8⟩
  have o0 := o0.trans (OldB.upd u8 (by omega))
  have zu8 := u8.1
  have wo := wo.upd u8 (by simp) (by exact wo.lt.imp id (fun h => by omega))
  have oB := oB.upd u8 (by omega)
  have wb := ((u8).2 _ (by omega)).trans wb
  have bm := b8
  refine KP.nil (KQ.fin0 Tryz.results19 ?_)
  (exact ⟨_, (MK.mk bm wo).cast (by rw [En.sec_cons hx0]; simp) rfl, oB⟩)
theorem table_of {H : Heap} {p : Value} : Ct Tryz.prog 23 [p] H (fun u H' => u = .func (.func 24) #[p] #[] ∧ H = H') := by
  refine Ct.mk Tryz.func23 rfl Tryz.ntmps23 rfl ?_
  intro W0 hW0
  have o0 : Old H H := Old.refl H
  refine KC.sr (KL.fin 1 rfl (KQ.sr (KL.fin 3 rfl (KQ.seq (KC.ret (KQ.ofRet (KQ.fin1 Tryz.results23 rfl ?_)))))))
  exact ⟨rfl, rfl⟩
theorem table_sec {H : Heap} {gm : Nat} {vm : Value} {acc : List Sec} {bad : Bool} (mk : MK H gm vm acc bad) {Hb : Heap} (oB : Old Hb H) (hgB : Hb.size ≤ gm) {u : Value} {xs : List (Int × Int)} (hs : Sl 2 ELim Hb u xs) (hm : xs.length ≤ 4000) (ix : Int) (rid : InR .u8 ix) (hac : acc.length ≤ 1000) (hN : (En.lst En.tabB xs).length + 100000000 ≤ 1099511627776) : Ct Tryz.prog 22 [.pointer (some ⟨gm, 0, none⟩), .int .u8 ix, u, .func (.func 23) #[] #[]] H (fun _ H' => ∃ vm', MK H' gm vm' (acc ++ En.sec ix En.tabB xs) (bad || !xs.all En.limO) ∧ Old Hb H') := by
  refine Ct.mk Tryz.func22 rfl Tryz.ntmps22 rfl ?_
  intro W0 hW0
  have o0 : OldB 0 H H := OldB.refl _ H
  obtain ⟨bm, wo⟩ := mk
  have zm := blk_lt bm
  have bm0 := bm
  have wo0 := wo
  have oB0 := oB
  have hvm2 : vm = .slice none 0 0 ∨ vblock vm < Array.size H := wo.lt.imp id And.right
  have oP : Old H H := Old.refl _
  have hvl : vblock vm < Array.size H + 1 := by
    rcases wo.lt with e | e
    · rw [e]; show 0 < _; omega
    omega
  refine KC.seq (KC.sr (KL.run 1 rfl (KL.q (R.lenS rfl U25 rfl hs) rfl (KL.fin 1 rfl (KQ.seq ?_)))))
  refine KC.iq rfl ?_ ?_
  · intro hx0
    refine KC.ret (KQ.retThen (KQ.ofRet (KQ.fin0 Tryz.results22 ?_)))
    (exact ⟨_, (MK.mk bm0 wo0).cast (by rw [En.sec_nil hx0]; simp) (by rw [En.all_nil hx0]; simp), oB0⟩)
  intro hx0
  refine KC.skip (KQ.sr (KL.b0 bt128 rfl rfl ?_))
  refine KL.m (M.box rfl rfl rfl) rfl ?_
  rintro _ H1 ⟨rfl, n1⟩
  have z1 := n1.2.1
  have o0 := o0.trans ((n1.1).b (by omega))
  have oP := oP.trans n1.1
  have b1 := n1.2.2
  have wb := b1
  have wi : WA H1 (Array.size H) (.slice none 0 0) [] false := ⟨wb, Own.nil _ _ _ _ _ _⟩
  have wiP := wi
  have oPP := oP
  refine KL.fin 1 rfl (KQ.sr (KL.run 4 rfl ?_))
  refine KL.c rfl Tryz.call23 (table_of) ?_
  rintro _ _ ⟨rfl, rfl⟩
  refine KL.c rfl Tryz.call65 (wlist_table wi (oB.trans oP) (by omega) hs (by omega) (by simp only [List.length_nil]; omega)) ?_
  rintro _ H2 ⟨vw, wi, tW⟩
  have zt := tW.sz
  have oP : Old H H2 := tW.om wiP oPP (Nat.le_refl _)
  have bm := oP.blk bm0
  have wo := wo0.old oP
  have oB := oB0.trans oP
  have o0 : OldB 0 H H2 := ⟨oP.1, fun k hk => absurd hk (by omega)⟩
  have wb := wi.b
  have ww := wi.w
  have zm := blk_lt wb
  refine KL.nil (KQ.seq (KC.seq ?_))
  refine KC.cutD (κ := Unit) [20, 21, 22, 23, 24, 25, 26, 27, 28, 29, 30, 31, 32] (fun _ => []) (fun _ Hl => Hl[gm]? = some (.cells [vm, .bool (bad || !xs.all En.limO)].toArray 74 (0, 0)) ∧ OwnE 2 ESec 48 (gm + 1) Hl vm [gm] acc ∧ Hl[Array.size H]? = some (.cells [vw, .bool (false || !xs.all En.limO)].toArray 128 (0, 0)) ∧ Own 1 (EInt .u8) 5 #[] (Array.size H + 1) Hl vw (([] : List Int) ++ (En.lst En.tabB xs)) ∧ Old Hb Hl) ?_ ?_
  · skip
    refine KC.region (KL.run 4 rfl (KL.ld rfl (cell_of bm rfl) (KL.run 1 rfl ?_)))
    refine KL.cq 25 rfl ?_ ?_
    · intro hg25
      refine KL.run 7 rfl ?_
      refine KL.opS (S.store rfl sz4 rfl rfl rfl rfl bm (by simp)) rfl rfl ?_
      rintro H3 ⟨u3, b3⟩
      have o0 := o0.trans (OldB.upd u3 (by omega))
      have zu3 := u3.1
      have wo := wo.upd u3 (by simp) (by exact wo.lt.imp id (fun h => by omega))
      have oB := oB.upd u3 (by omega)
      have wb := ((u3).2 _ (by omega)).trans wb
      have ww := ww.upd u3 (by exact ww.lt.imp id (fun h => by omega))
      have bm := b3
      refine KL.nil ?_
      refine KQ.meet () ?_ ?_
      · exact Sub.all rfl
      exact ⟨by rw [hg25]; exact bm, wo, wb, ww, oB⟩
    intro hg25
    refine KL.run 3 rfl (KL.ld rfl (cell_of wb rfl) (KL.run 3 rfl ?_))
    refine KL.opS (S.store rfl sz4 rfl rfl rfl rfl bm (by simp)) rfl rfl ?_
    rintro H4 ⟨u4, b4⟩
    have o0 := o0.trans (OldB.upd u4 (by omega))
    have zu4 := u4.1
    have wo := wo.upd u4 (by simp) (by exact wo.lt.imp id (fun h => by omega))
    have oB := oB.upd u4 (by omega)
    have wb := ((u4).2 _ (by omega)).trans wb
    have ww := ww.upd u4 (by exact ww.lt.imp id (fun h => by omega))
    have bm := b4
    refine KL.nil ?_
    refine KQ.meet () ?_ ?_
    · exact Sub.all rfl
    exact ⟨by rw [hg25]; exact bm, wo, wb, ww, oB⟩
  rintro _ H5 ⟨bm, wo, wb, ww, oB⟩
  have zm := blk_lt wb
  have o0 : OldB 0 H H5 := ⟨by omega, fun k hk => absurd hk (by omega)⟩
  refine KQ.seq ?_
  refine KC.text (clOf [(11, 2), (12, 2), (15, 2)]) (fun i Hc => (i = 4 → Hc[gm]? = some _) ∧ (i = 9 → Hc[Array.size H]? = some _)) (by kernel_rfl) (by kernel_rfl) (fun _ => ⟨fun _ => bm, fun _ => wb⟩) ?_
  refine KP.run 4 rfl rfl ?_
  refine KP.op rfl (fun Hg hg => R.load rfl U44 rfl rfl (cell_of (hg.1 rfl) rfl)) rfl rfl rfl ?_
  refine KP.run 4 rfl rfl ?_
  refine KP.op rfl (fun Hg hg => R.load rfl U34 rfl rfl (cell_of (hg.2 rfl) rfl)) rfl rfl rfl ?_
  refine KP.op rfl (fun Hg hg => R.buildL rfl U48 zr48 [(0, 1), (1, 1)] (fun w => by kernel_rfl) rfl ⟨⟨_, rfl, rfl⟩, ⟨_, rfl, rfl⟩, trivial⟩ rfl rfl ⟨⟨_, rfl, by rfl⟩, ⟨_, rfl, by exact ww.cells1⟩, trivial⟩ rfl) rfl rfl rfl ?_
  refine KP.opM rfl (M.lit rfl U44 zs48 (by decide) rfl rfl rfl) rfl rfl rfl (fun _ _ hR j _ _ => ⟨fun _ => hR.2.1.blk bm, fun _ => hR.2.1.blk wb⟩) ?_
  rintro _ H6 ⟨rfl, n6⟩
  have z6 := n6.2.1
  have o0 := o0.trans ((n6.1).b (by omega))
  have bm := (n6.1).blk bm
  have wo := wo.old n6.1
  have oB := oB.trans n6.1
  have wb := (n6.1).blk wb
  have ww := ww.old n6.1
  have b6 := n6.2.2
  have se : Sl 2 (FK ESec H6 (vblock vm :: [gm])) H6 _ [(ix, ([] : List Int) ++ (En.lst En.tabB xs))] := Sl.lit1N n6 rfl (by decide) (fun H2 kx => ⟨_, rfl, fk_own ww (lt2 hvl (by omega)) H2 kx, rid⟩)
  have hvm := wo.lt
  have lt7 := wo.lt
  refine KP.opM rfl (M.appendE rfl U44 inf48 rfl (by decide) rfl rfl wo (se) (by omega) (by simp only [List.length_singleton]; omega) (by unfold maxLen; simp only [List.length_singleton]; omega)) rfl rfl rfl (fun _ _ hR j _ _ => ⟨fun _ => (hR.2.1.2 _ (blk_lt bm) (hvm.imp id (fun e => by omega))).trans bm, fun _ => (hR.2.1.2 _ (blk_lt wb) (hvm2.imp id (fun e => by omega))).trans wb⟩) ?_
  rintro vn H7 ⟨w7, g7, nx7⟩
  try dsimp only at g7 nx7
  have ob7 := g7.oldBE wo (by omega)
  have o0 := o0.trans (ob7.mono (by omega))
  have z7 := ob7.1
  have bm := (g7.2 _ (blk_lt bm) (by exact lt7.imp id (fun h => by omega))).trans bm
  have oB := oB.then ob7 (by omega)
  have wb := (g7.2 _ (blk_lt wb) (by exact hvm2.imp id (fun e => by omega))).trans wb
  have wo := w7
  refine KP.run 2 rfl rfl ?_
  refine KP.opS rfl (S.store rfl sz44 rfl rfl (OwnE.own wo).cells1 (OwnE.own wo).one bm (by simp)) rfl rfl (fun _ h j hj1 hj2 => ⟨fun hj => by subst hj; exact absurd (by decide +kernel) hj2, fun hj => by subst hj; exact absurd (by decide +kernel) hj2⟩) ?_
  rintro H8 ⟨u8, b8⟩
  have o0 := o0.trans (OldB.upd u8 (by omega))
  have zu8 := u8.1
  have wo := wo.upd u8 (by simp) (by exact wo.lt.imp id (fun h => by omega))
  have oB := oB.upd u8 (by omega)
  have wb := ((u8).2 _ (by omega)).trans wb
  have bm := b8
  refine KP.nil (KQ.fin0 Tryz.results22 ?_)
  (exact ⟨_, (MK.mk bm wo).cast (by rw [En.sec_cons hx0]; simp) rfl, oB⟩)
theorem limits_of {H : Heap} {p : Value} : Ct Tryz.prog 25 [p] H (fun u H' => u = .func (.func 26) #[p] #[] ∧ H = H') := by
  refine Ct.mk Tryz.func25 rfl Tryz.ntmps25 rfl ?_
  intro W0 hW0
  have o0 : Old H H := Old.refl H
  refine KC.sr (KL.fin 1 rfl (KQ.sr (KL.fin 3 rfl (KQ.seq (KC.ret (KQ.ofRet (KQ.fin1 Tryz.results25 rfl ?_)))))))
  exact ⟨rfl, rfl⟩
theorem limits_sec {H : Heap} {gm : Nat} {vm : Value} {acc : List Sec} {bad : Bool} (mk : MK H gm vm acc bad) {Hb : Heap} (oB : Old Hb H) (hgB : Hb.size ≤ gm) {u : Value} {xs : List (Int × Int)} (hs : Sl 2 ELim Hb u xs) (hm : xs.length ≤ 4000) (ix : Int) (rid : InR .u8 ix) (hac : acc.length ≤ 1000) (hN : (En.lst En.limB xs).length + 100000000 ≤ 1099511627776) : Ct Tryz.prog 22 [.pointer (some ⟨gm, 0, none⟩), .int .u8 ix, u, .func (.func 25) #[] #[]] H (fun _ H' => ∃ vm', MK H' gm vm' (acc ++ En.sec ix En.limB xs) (bad || !xs.all En.limO) ∧ Old Hb H') := by
  refine Ct.mk Tryz.func22 rfl Tryz.ntmps22 rfl ?_
  intro W0 hW0
  have o0 : OldB 0 H H := OldB.refl _ H
  obtain ⟨bm, wo⟩ := mk
  have zm := blk_lt bm
  have bm0 := bm
  have wo0 := wo
  have oB0 := oB
  have hvm2 : vm = .slice none 0 0 ∨ vblock vm < Array.size H := wo.lt.imp id And.right
  have oP : Old H H := Old.refl _
  have hvl : vblock vm < Array.size H + 1 := by
    rcases wo.lt with e | e
    · rw [e]; show 0 < _; omega
    omega
  refine KC.seq (KC.sr (KL.run 1 rfl (KL.q (R.lenS rfl U25 rfl hs) rfl (KL.fin 1 rfl (KQ.seq ?_)))))
  refine KC.iq rfl ?_ ?_
  · intro hx0
    refine KC.ret (KQ.retThen (KQ.ofRet (KQ.fin0 Tryz.results22 ?_)))
    (exact ⟨_, (MK.mk bm0 wo0).cast (by rw [En.sec_nil hx0]; simp) (by rw [En.all_nil hx0]; simp), oB0⟩)
  intro hx0
  refine KC.skip (KQ.sr (KL.b0 bt128 rfl rfl ?_))
  refine KL.m (M.box rfl rfl rfl) rfl ?_
  rintro _ H1 ⟨rfl, n1⟩
  have z1 := n1.2.1
  have o0 := o0.trans ((n1.1).b (by omega))
  have oP := oP.trans n1.1
  have b1 := n1.2.2
  have wb := b1
  have wi : WA H1 (Array.size H) (.slice none 0 0) [] false := ⟨wb, Own.nil _ _ _ _ _ _⟩
  have wiP := wi
  have oPP := oP
  refine KL.fin 1 rfl (KQ.sr (KL.run 4 rfl ?_))
  refine KL.c rfl Tryz.call25 (limits_of) ?_
  rintro _ _ ⟨rfl, rfl⟩
  refine KL.c rfl Tryz.call65 (wlist_limits wi (oB.trans oP) (by omega) hs (by omega) (by simp only [List.length_nil]; omega)) ?_
  rintro _ H2 ⟨vw, wi, tW⟩
  have zt := tW.sz
  have oP : Old H H2 := tW.om wiP oPP (Nat.le_refl _)
  have bm := oP.blk bm0
  have wo := wo0.old oP
  have oB := oB0.trans oP
  have o0 : OldB 0 H H2 := ⟨oP.1, fun k hk => absurd hk (by omega)⟩
  have wb := wi.b
  have ww := wi.w
  have zm := blk_lt wb
  refine KL.nil (KQ.seq (KC.seq ?_))
  refine KC.cutD (κ := Unit) [20, 21, 22, 23, 24, 25, 26, 27, 28, 29, 30, 31, 32] (fun _ => []) (fun _ Hl => Hl[gm]? = some (.cells [vm, .bool (bad || !xs.all En.limO)].toArray 74 (0, 0)) ∧ OwnE 2 ESec 48 (gm + 1) Hl vm [gm] acc ∧ Hl[Array.size H]? = some (.cells [vw, .bool (false || !xs.all En.limO)].toArray 128 (0, 0)) ∧ Own 1 (EInt .u8) 5 #[] (Array.size H + 1) Hl vw (([] : List Int) ++ (En.lst En.limB xs)) ∧ Old Hb Hl) ?_ ?_
  · skip
    refine KC.region (KL.run 4 rfl (KL.ld rfl (cell_of bm rfl) (KL.run 1 rfl ?_)))
    refine KL.cq 25 rfl ?_ ?_
    · intro hg25
      refine KL.run 7 rfl ?_
      refine KL.opS (S.store rfl sz4 rfl rfl rfl rfl bm (by simp)) rfl rfl ?_
      rintro H3 ⟨u3, b3⟩
      have o0 := o0.trans (OldB.upd u3 (by omega))
      have zu3 := u3.1
      have wo := wo.upd u3 (by simp) (by exact wo.lt.imp id (fun h => by omega))
      have oB := oB.upd u3 (by omega)
      have wb := ((u3).2 _ (by omega)).trans wb
      have ww := ww.upd u3 (by exact ww.lt.imp id (fun h => by omega))
      have bm := b3
      refine KL.nil ?_
      refine KQ.meet () ?_ ?_
      · exact Sub.all rfl
      exact ⟨by rw [hg25]; exact bm, wo, wb, ww, oB⟩
    intro hg25
    refine KL.run 3 rfl (KL.ld rfl (cell_of wb rfl) (KL.run 3 rfl ?_))
    refine KL.opS (S.store rfl sz4 rfl rfl rfl rfl bm (by simp)) rfl rfl ?_
    rintro H4 ⟨u4, b4⟩
    have o0 := o0.trans (OldB.upd u4 (by omega))
    have zu4 := u4.1
    have wo := wo.upd u4 (by simp) (by exact wo.lt.imp id (fun h => by omega))
    have oB := oB.upd u4 (by omega)
    have wb := ((u4).2 _ (by omega)).trans wb
    have ww := ww.upd u4 (by exact ww.lt.imp id (fun h => by omega))
    have bm := b4
    refine KL.nil ?_
    refine KQ.meet () ?_ ?_
    · exact Sub.all rfl
    exact ⟨by rw [hg25]; exact bm, wo, wb, ww, oB⟩
  rintro _ H5 ⟨bm, wo, wb, ww, oB⟩
  have zm := blk_lt wb
  have o0 : OldB 0 H H5 := ⟨by omega, fun k hk => absurd hk (by omega)⟩
  refine KQ.seq ?_
  refine KC.text (clOf [(11, 2), (12, 2), (15, 2)]) (fun i Hc => (i = 4 → Hc[gm]? = some _) ∧ (i = 9 → Hc[Array.size H]? = some _)) (by kernel_rfl) (by kernel_rfl) (fun _ => ⟨fun _ => bm, fun _ => wb⟩) ?_
  refine KP.run 4 rfl rfl ?_
  refine KP.op rfl (fun Hg hg => R.load rfl U44 rfl rfl (cell_of (hg.1 rfl) rfl)) rfl rfl rfl ?_
  refine KP.run 4 rfl rfl ?_
  refine KP.op rfl (fun Hg hg => R.load rfl U34 rfl rfl (cell_of (hg.2 rfl) rfl)) rfl rfl rfl ?_
  refine KP.op rfl (fun Hg hg => R.buildL rfl U48 zr48 [(0, 1), (1, 1)] (fun w => by kernel_rfl) rfl ⟨⟨_, rfl, rfl⟩, ⟨_, rfl, rfl⟩, trivial⟩ rfl rfl ⟨⟨_, rfl, by rfl⟩, ⟨_, rfl, by exact ww.cells1⟩, trivial⟩ rfl) rfl rfl rfl ?_
  refine KP.opM rfl (M.lit rfl U44 zs48 (by decide) rfl rfl rfl) rfl rfl rfl (fun _ _ hR j _ _ => ⟨fun _ => hR.2.1.blk bm, fun _ => hR.2.1.blk wb⟩) ?_
  rintro _ H6 ⟨rfl, n6⟩
  have z6 := n6.2.1
  have o0 := o0.trans ((n6.1).b (by omega))
  have bm := (n6.1).blk bm
  have wo := wo.old n6.1
  have oB := oB.trans n6.1
  have wb := (n6.1).blk wb
  have ww := ww.old n6.1
  have b6 := n6.2.2
  have se : Sl 2 (FK ESec H6 (vblock vm :: [gm])) H6 _ [(ix, ([] : List Int) ++ (En.lst En.limB xs))] := Sl.lit1N n6 rfl (by decide) (fun H2 kx => ⟨_, rfl, fk_own ww (lt2 hvl (by omega)) H2 kx, rid⟩)
  have hvm := wo.lt
  have lt7 := wo.lt
  refine KP.opM rfl (M.appendE rfl U44 inf48 rfl (by decide) rfl rfl wo (se) (by omega) (by simp only [List.length_singleton]; omega) (by unfold maxLen; simp only [List.length_singleton]; omega)) rfl rfl rfl (fun _ _ hR j _ _ => ⟨fun _ => (hR.2.1.2 _ (blk_lt bm) (hvm.imp id (fun e => by omega))).trans bm, fun _ => (hR.2.1.2 _ (blk_lt wb) (hvm2.imp id (fun e => by omega))).trans wb⟩) ?_
  rintro vn H7 ⟨w7, g7, nx7⟩
  try dsimp only at g7 nx7
  have ob7 := g7.oldBE wo (by omega)
  have o0 := o0.trans (ob7.mono (by omega))
  have z7 := ob7.1
  have bm := (g7.2 _ (blk_lt bm) (by exact lt7.imp id (fun h => by omega))).trans bm
  have oB := oB.then ob7 (by omega)
  have wb := (g7.2 _ (blk_lt wb) (by exact hvm2.imp id (fun e => by omega))).trans wb
  have wo := w7
  refine KP.run 2 rfl rfl ?_
  refine KP.opS rfl (S.store rfl sz44 rfl rfl (OwnE.own wo).cells1 (OwnE.own wo).one bm (by simp)) rfl rfl (fun _ h j hj1 hj2 => ⟨fun hj => by subst hj; exact absurd (by decide +kernel) hj2, fun hj => by subst hj; exact absurd (by decide +kernel) hj2⟩) ?_
  rintro H8 ⟨u8, b8⟩
  have o0 := o0.trans (OldB.upd u8 (by omega))
  have zu8 := u8.1
  have wo := wo.upd u8 (by simp) (by exact wo.lt.imp id (fun h => by omega))
  have oB := oB.upd u8 (by omega)
  have wb := ((u8).2 _ (by omega)).trans wb
  have bm := b8
  refine KP.nil (KQ.fin0 Tryz.results22 ?_)
  (exact ⟨_, (MK.mk bm wo).cast (by rw [En.sec_cons hx0]; simp) rfl, oB⟩)
theorem global_of {H : Heap} {p : Value} : Ct Tryz.prog 28 [p] H (fun u H' => u = .func (.func 29) #[p] #[] ∧ H = H') := by
  refine Ct.mk Tryz.func28 rfl Tryz.ntmps28 rfl ?_
  intro W0 hW0
  have o0 : Old H H := Old.refl H
  refine KC.sr (KL.fin 1 rfl (KQ.sr (KL.fin 3 rfl (KQ.seq (KC.ret (KQ.ofRet (KQ.fin1 Tryz.results28 rfl ?_)))))))
  exact ⟨rfl, rfl⟩
theorem global_sec {H : Heap} {gm : Nat} {vm : Value} {acc : List Sec} {bad : Bool} (mk : MK H gm vm acc bad) {Hb : Heap} (oB : Old Hb H) (hgB : Hb.size ≤ gm) {u : Value} {xs : List Glo} (hs : Sl 3 EGlo Hb u xs) (hm : xs.length ≤ 4000) (hz : ∀ x ∈ xs, Isp.bulk x.2 ≤ 4000) (ix : Int) (rid : InR .u8 ix) (hac : acc.length ≤ 1000) (hN : (En.lst En.gloB xs).length + 100000000 ≤ 1099511627776) : Ct Tryz.prog 27 [.pointer (some ⟨gm, 0, none⟩), .int .u8 ix, u, .func (.func 28) #[] #[]] H (fun _ H' => ∃ vm', MK H' gm vm' (acc ++ En.sec ix En.gloB xs) (bad || !xs.all En.gloO) ∧ Old Hb H') := by
  refine Ct.mk Tryz.func27 rfl Tryz.ntmps27 rfl ?_
  intro W0 hW0
  have o0 : OldB 0 H H := OldB.refl _ H
  obtain ⟨bm, wo⟩ := mk
  have zm := blk_lt bm
  have bm0 := bm
  have wo0 := wo
  have oB0 := oB
  have hvm2 : vm = .slice none 0 0 ∨ vblock vm < Array.size H := wo.lt.imp id And.right
  have oP : Old H H := Old.refl _
  have hvl : vblock vm < Array.size H + 1 := by
    rcases wo.lt with e | e
    · rw [e]; show 0 < _; omega
    omega
  refine KC.seq (KC.sr (KL.run 1 rfl (KL.q (R.lenS rfl U26 rfl hs) rfl (KL.fin 1 rfl (KQ.seq ?_)))))
  refine KC.iq rfl ?_ ?_
  · intro hx0
    refine KC.ret (KQ.retThen (KQ.ofRet (KQ.fin0 Tryz.results27 ?_)))
    (exact ⟨_, (MK.mk bm0 wo0).cast (by rw [En.sec_nil hx0]; simp) (by rw [En.all_nil hx0]; simp), oB0⟩)
  intro hx0
  refine KC.skip (KQ.sr (KL.b0 bt128 rfl rfl ?_))
  refine KL.m (M.box rfl rfl rfl) rfl ?_
  rintro _ H1 ⟨rfl, n1⟩
  have z1 := n1.2.1
  have o0 := o0.trans ((n1.1).b (by omega))
  have oP := oP.trans n1.1
  have b1 := n1.2.2
  have wb := b1
  have wi : WA H1 (Array.size H) (.slice none 0 0) [] false := ⟨wb, Own.nil _ _ _ _ _ _⟩
  have wiP := wi
  have oPP := oP
  refine KL.fin 1 rfl (KQ.sr (KL.run 4 rfl ?_))
  refine KL.c rfl Tryz.call28 (global_of) ?_
  rintro _ _ ⟨rfl, rfl⟩
  refine KL.c rfl Tryz.call66 (wlist_global wi (oB.trans oP) (by omega) hs (by omega) hz (by simp only [List.length_nil]; omega)) ?_
  rintro _ H2 ⟨vw, wi, tW⟩
  have zt := tW.sz
  have oP : Old H H2 := tW.om wiP oPP (Nat.le_refl _)
  have bm := oP.blk bm0
  have wo := wo0.old oP
  have oB := oB0.trans oP
  have o0 : OldB 0 H H2 := ⟨oP.1, fun k hk => absurd hk (by omega)⟩
  have wb := wi.b
  have ww := wi.w
  have zm := blk_lt wb
  refine KL.nil (KQ.seq (KC.seq ?_))
  refine KC.cutD (κ := Unit) [20, 21, 22, 23, 24, 25, 26, 27, 28, 29, 30, 31, 32] (fun _ => []) (fun _ Hl => Hl[gm]? = some (.cells [vm, .bool (bad || !xs.all En.gloO)].toArray 74 (0, 0)) ∧ OwnE 2 ESec 48 (gm + 1) Hl vm [gm] acc ∧ Hl[Array.size H]? = some (.cells [vw, .bool (false || !xs.all En.gloO)].toArray 128 (0, 0)) ∧ Own 1 (EInt .u8) 5 #[] (Array.size H + 1) Hl vw (([] : List Int) ++ (En.lst En.gloB xs)) ∧ Old Hb Hl) ?_ ?_
  · skip
    refine KC.region (KL.run 4 rfl (KL.ld rfl (cell_of bm rfl) (KL.run 1 rfl ?_)))
    refine KL.cq 25 rfl ?_ ?_
    · intro hg25
      refine KL.run 7 rfl ?_
      refine KL.opS (S.store rfl sz4 rfl rfl rfl rfl bm (by simp)) rfl rfl ?_
      rintro H3 ⟨u3, b3⟩
      have o0 := o0.trans (OldB.upd u3 (by omega))
      have zu3 := u3.1
      have wo := wo.upd u3 (by simp) (by exact wo.lt.imp id (fun h => by omega))
      have oB := oB.upd u3 (by omega)
      have wb := ((u3).2 _ (by omega)).trans wb
      have ww := ww.upd u3 (by exact ww.lt.imp id (fun h => by omega))
      have bm := b3
      refine KL.nil ?_
      refine KQ.meet () ?_ ?_
      · exact Sub.all rfl
      exact ⟨by rw [hg25]; exact bm, wo, wb, ww, oB⟩
    intro hg25
    refine KL.run 3 rfl (KL.ld rfl (cell_of wb rfl) (KL.run 3 rfl ?_))
    refine KL.opS (S.store rfl sz4 rfl rfl rfl rfl bm (by simp)) rfl rfl ?_
    rintro H4 ⟨u4, b4⟩
    have o0 := o0.trans (OldB.upd u4 (by omega))
    have zu4 := u4.1
    have wo := wo.upd u4 (by simp) (by exact wo.lt.imp id (fun h => by omega))
    have oB := oB.upd u4 (by omega)
    have wb := ((u4).2 _ (by omega)).trans wb
    have ww := ww.upd u4 (by exact ww.lt.imp id (fun h => by omega))
    have bm := b4
    refine KL.nil ?_
    refine KQ.meet () ?_ ?_
    · exact Sub.all rfl
    exact ⟨by rw [hg25]; exact bm, wo, wb, ww, oB⟩
  rintro _ H5 ⟨bm, wo, wb, ww, oB⟩
  have zm := blk_lt wb
  have o0 : OldB 0 H H5 := ⟨by omega, fun k hk => absurd hk (by omega)⟩
  refine KQ.seq ?_
  refine KC.text (clOf [(11, 2), (12, 2), (15, 2)]) (fun i Hc => (i = 4 → Hc[gm]? = some _) ∧ (i = 9 → Hc[Array.size H]? = some _)) (by kernel_rfl) (by kernel_rfl) (fun _ => ⟨fun _ => bm, fun _ => wb⟩) ?_
  refine KP.run 4 rfl rfl ?_
  refine KP.op rfl (fun Hg hg => R.load rfl U44 rfl rfl (cell_of (hg.1 rfl) rfl)) rfl rfl rfl ?_
  refine KP.run 4 rfl rfl ?_
  refine KP.op rfl (fun Hg hg => R.load rfl U34 rfl rfl (cell_of (hg.2 rfl) rfl)) rfl rfl rfl ?_
  refine KP.op rfl (fun Hg hg => R.buildL rfl U48 zr48 [(0, 1), (1, 1)] (fun w => by kernel_rfl) rfl ⟨⟨_, rfl, rfl⟩, ⟨_, rfl, rfl⟩, trivial⟩ rfl rfl ⟨⟨_, rfl, by rfl⟩, ⟨_, rfl, by exact ww.cells1⟩, trivial⟩ rfl) rfl rfl rfl ?_
  refine KP.opM rfl (M.lit rfl U44 zs48 (by decide) rfl rfl rfl) rfl rfl rfl (fun _ _ hR j _ _ => ⟨fun _ => hR.2.1.blk bm, fun _ => hR.2.1.blk wb⟩) ?_
  rintro _ H6 ⟨rfl, n6⟩
  have z6 := n6.2.1
  have o0 := o0.trans ((n6.1).b (by omega))
  have bm := (n6.1).blk bm
  have wo := wo.old n6.1
  have oB := oB.trans n6.1
  have wb := (n6.1).blk wb
  have ww := ww.old n6.1
  have b6 := n6.2.2
  have se : Sl 2 (FK ESec H6 (vblock vm :: [gm])) H6 _ [(ix, ([] : List Int) ++ (En.lst En.gloB xs))] := Sl.lit1N n6 rfl (by decide) (fun H2 kx => ⟨_, rfl, fk_own ww (lt2 hvl (by omega)) H2 kx, rid⟩)
  have hvm := wo.lt
  have lt7 := wo.lt
  refine KP.opM rfl (M.appendE rfl U44 inf48 rfl (by decide) rfl rfl wo (se) (by omega) (by simp only [List.length_singleton]; omega) (by unfold maxLen; simp only [List.length_singleton]; omega)) rfl rfl rfl (fun _ _ hR j _ _ => ⟨fun _ => (hR.2.1.2 _ (blk_lt bm) (hvm.imp id (fun e => by omega))).trans bm, fun _ => (hR.2.1.2 _ (blk_lt wb) (hvm2.imp id (fun e => by omega))).trans wb⟩) ?_
  rintro vn H7 ⟨w7, g7, nx7⟩
  try dsimp only at g7 nx7
  have ob7 := g7.oldBE wo (by omega)
  have o0 := o0.trans (ob7.mono (by omega))
  have z7 := ob7.1
  have bm := (g7.2 _ (blk_lt bm) (by exact lt7.imp id (fun h => by omega))).trans bm
  have oB := oB.then ob7 (by omega)
  have wb := (g7.2 _ (blk_lt wb) (by exact hvm2.imp id (fun e => by omega))).trans wb
  have wo := w7
  refine KP.run 2 rfl rfl ?_
  refine KP.opS rfl (S.store rfl sz44 rfl rfl (OwnE.own wo).cells1 (OwnE.own wo).one bm (by simp)) rfl rfl (fun _ h j hj1 hj2 => ⟨fun hj => by subst hj; exact absurd (by decide +kernel) hj2, fun hj => by subst hj; exact absurd (by decide +kernel) hj2⟩) ?_
  rintro H8 ⟨u8, b8⟩
  have o0 := o0.trans (OldB.upd u8 (by omega))
  have zu8 := u8.1
  have wo := wo.upd u8 (by simp) (by exact wo.lt.imp id (fun h => by omega))
  have oB := oB.upd u8 (by omega)
  have wb := ((u8).2 _ (by omega)).trans wb
  have bm := b8
  refine KP.nil (KQ.fin0 Tryz.results27 ?_)
  (exact ⟨_, (MK.mk bm wo).cast (by rw [En.sec_cons hx0]; simp) rfl, oB⟩)
theorem export_of {H : Heap} {p : Value} : Ct Tryz.prog 31 [p] H (fun u H' => u = .func (.func 32) #[p] #[] ∧ H = H') := by
  refine Ct.mk Tryz.func31 rfl Tryz.ntmps31 rfl ?_
  intro W0 hW0
  have o0 : Old H H := Old.refl H
  refine KC.sr (KL.fin 1 rfl (KQ.sr (KL.fin 3 rfl (KQ.seq (KC.ret (KQ.ofRet (KQ.fin1 Tryz.results31 rfl ?_)))))))
  exact ⟨rfl, rfl⟩
theorem export_sec {H : Heap} {gm : Nat} {vm : Value} {acc : List Sec} {bad : Bool} (mk : MK H gm vm acc bad) {Hb : Heap} (oB : Old Hb H) (hgB : Hb.size ≤ gm) (hT : TabU Hb) {u : Value} {xs : List Exp} (hs : Sl 3 EExp Hb u xs) (hm : xs.length ≤ 4000) (hz : ∀ x ∈ xs, x.nam.size ≤ 4000) (ix : Int) (rid : InR .u8 ix) (hac : acc.length ≤ 1000) (hN : (En.lst En.expB xs).length + 100000000 ≤ 1099511627776) : Ct Tryz.prog 30 [.pointer (some ⟨gm, 0, none⟩), .int .u8 ix, u, .func (.func 31) #[] #[]] H (fun _ H' => ∃ vm', MK H' gm vm' (acc ++ En.sec ix En.expB xs) (bad || !xs.all En.expO) ∧ Old Hb H') := by
  refine Ct.mk Tryz.func30 rfl Tryz.ntmps30 rfl ?_
  intro W0 hW0
  have o0 : OldB 0 H H := OldB.refl _ H
  obtain ⟨bm, wo⟩ := mk
  have zm := blk_lt bm
  have bm0 := bm
  have wo0 := wo
  have oB0 := oB
  have hvm2 : vm = .slice none 0 0 ∨ vblock vm < Array.size H := wo.lt.imp id And.right
  have oP : Old H H := Old.refl _
  have hvl : vblock vm < Array.size H + 1 := by
    rcases wo.lt with e | e
    · rw [e]; show 0 < _; omega
    omega
  refine KC.seq (KC.sr (KL.run 1 rfl (KL.q (R.lenS rfl U27 rfl hs) rfl (KL.fin 1 rfl (KQ.seq ?_)))))
  refine KC.iq rfl ?_ ?_
  · intro hx0
    refine KC.ret (KQ.retThen (KQ.ofRet (KQ.fin0 Tryz.results30 ?_)))
    (exact ⟨_, (MK.mk bm0 wo0).cast (by rw [En.sec_nil hx0]; simp) (by rw [En.all_nil hx0]; simp), oB0⟩)
  intro hx0
  refine KC.skip (KQ.sr (KL.b0 bt128 rfl rfl ?_))
  refine KL.m (M.box rfl rfl rfl) rfl ?_
  rintro _ H1 ⟨rfl, n1⟩
  have z1 := n1.2.1
  have o0 := o0.trans ((n1.1).b (by omega))
  have oP := oP.trans n1.1
  have b1 := n1.2.2
  have wb := b1
  have wi : WA H1 (Array.size H) (.slice none 0 0) [] false := ⟨wb, Own.nil _ _ _ _ _ _⟩
  have wiP := wi
  have oPP := oP
  refine KL.fin 1 rfl (KQ.sr (KL.run 4 rfl ?_))
  refine KL.c rfl Tryz.call31 (export_of) ?_
  rintro _ _ ⟨rfl, rfl⟩
  refine KL.c rfl Tryz.call68 (wlist_export wi (oB.trans oP) (by omega) hT hs (by omega) hz (by simp only [List.length_nil]; omega)) ?_
  rintro _ H2 ⟨vw, wi, tW⟩
  have zt := tW.sz
  have oP : Old H H2 := tW.om wiP oPP (Nat.le_refl _)
  have bm := oP.blk bm0
  have wo := wo0.old oP
  have oB := oB0.trans oP
  have o0 : OldB 0 H H2 := ⟨oP.1, fun k hk => absurd hk (by omega)⟩
  have wb := wi.b
  have ww := wi.w
  have zm := blk_lt wb
  refine KL.nil (KQ.seq (KC.seq ?_))
  refine KC.cutD (κ := Unit) [20, 21, 22, 23, 24, 25, 26, 27, 28, 29, 30, 31, 32] (fun _ => []) (fun _ Hl => Hl[gm]? = some (.cells [vm, .bool (bad || !xs.all En.expO)].toArray 74 (0, 0)) ∧ OwnE 2 ESec 48 (gm + 1) Hl vm [gm] acc ∧ Hl[Array.size H]? = some (.cells [vw, .bool (false || !xs.all En.expO)].toArray 128 (0, 0)) ∧ Own 1 (EInt .u8) 5 #[] (Array.size H + 1) Hl vw (([] : List Int) ++ (En.lst En.expB xs)) ∧ Old Hb Hl) ?_ ?_
  · skip
    refine KC.region (KL.run 4 rfl (KL.ld rfl (cell_of bm rfl) (KL.run 1 rfl ?_)))
    refine KL.cq 25 rfl ?_ ?_
    · intro hg25
      refine KL.run 7 rfl ?_
      refine KL.opS (S.store rfl sz4 rfl rfl rfl rfl bm (by simp)) rfl rfl ?_
      rintro H3 ⟨u3, b3⟩
      have o0 := o0.trans (OldB.upd u3 (by omega))
      have zu3 := u3.1
      have wo := wo.upd u3 (by simp) (by exact wo.lt.imp id (fun h => by omega))
      have oB := oB.upd u3 (by omega)
      have wb := ((u3).2 _ (by omega)).trans wb
      have ww := ww.upd u3 (by exact ww.lt.imp id (fun h => by omega))
      have bm := b3
      refine KL.nil ?_
      refine KQ.meet () ?_ ?_
      · exact Sub.all rfl
      exact ⟨by rw [hg25]; exact bm, wo, wb, ww, oB⟩
    intro hg25
    refine KL.run 3 rfl (KL.ld rfl (cell_of wb rfl) (KL.run 3 rfl ?_))
    refine KL.opS (S.store rfl sz4 rfl rfl rfl rfl bm (by simp)) rfl rfl ?_
    rintro H4 ⟨u4, b4⟩
    have o0 := o0.trans (OldB.upd u4 (by omega))
    have zu4 := u4.1
    have wo := wo.upd u4 (by simp) (by exact wo.lt.imp id (fun h => by omega))
    have oB := oB.upd u4 (by omega)
    have wb := ((u4).2 _ (by omega)).trans wb
    have ww := ww.upd u4 (by exact ww.lt.imp id (fun h => by omega))
    have bm := b4
    refine KL.nil ?_
    refine KQ.meet () ?_ ?_
    · exact Sub.all rfl
    exact ⟨by rw [hg25]; exact bm, wo, wb, ww, oB⟩
  rintro _ H5 ⟨bm, wo, wb, ww, oB⟩
  have zm := blk_lt wb
  have o0 : OldB 0 H H5 := ⟨by omega, fun k hk => absurd hk (by omega)⟩
  refine KQ.seq ?_
  refine KC.text (clOf [(11, 2), (12, 2), (15, 2)]) (fun i Hc => (i = 4 → Hc[gm]? = some _) ∧ (i = 9 → Hc[Array.size H]? = some _)) (by kernel_rfl) (by kernel_rfl) (fun _ => ⟨fun _ => bm, fun _ => wb⟩) ?_
  refine KP.run 4 rfl rfl ?_
  refine KP.op rfl (fun Hg hg => R.load rfl U44 rfl rfl (cell_of (hg.1 rfl) rfl)) rfl rfl rfl ?_
  refine KP.run 4 rfl rfl ?_
  refine KP.op rfl (fun Hg hg => R.load rfl U34 rfl rfl (cell_of (hg.2 rfl) rfl)) rfl rfl rfl ?_
  refine KP.op rfl (fun Hg hg => R.buildL rfl U48 zr48 [(0, 1), (1, 1)] (fun w => by kernel_rfl) rfl ⟨⟨_, rfl, rfl⟩, ⟨_, rfl, rfl⟩, trivial⟩ rfl rfl ⟨⟨_, rfl, by rfl⟩, ⟨_, rfl, by exact ww.cells1⟩, trivial⟩ rfl) rfl rfl rfl ?_
  refine KP.opM rfl (M.lit rfl U44 zs48 (by decide) rfl rfl rfl) rfl rfl rfl (fun _ _ hR j _ _ => ⟨fun _ => hR.2.1.blk bm, fun _ => hR.2.1.blk wb⟩) ?_
  rintro _ H6 ⟨rfl, n6⟩
  have z6 := n6.2.1
  have o0 := o0.trans ((n6.1).b (by omega))
  have bm := (n6.1).blk bm
  have wo := wo.old n6.1
  have oB := oB.trans n6.1
  have wb := (n6.1).blk wb
  have ww := ww.old n6.1
  have b6 := n6.2.2
  have se : Sl 2 (FK ESec H6 (vblock vm :: [gm])) H6 _ [(ix, ([] : List Int) ++ (En.lst En.expB xs))] := Sl.lit1N n6 rfl (by decide) (fun H2 kx => ⟨_, rfl, fk_own ww (lt2 hvl (by omega)) H2 kx, rid⟩)
  have hvm := wo.lt
  have lt7 := wo.lt
  refine KP.opM rfl (M.appendE rfl U44 inf48 rfl (by decide) rfl rfl wo (se) (by omega) (by simp only [List.length_singleton]; omega) (by unfold maxLen; simp only [List.length_singleton]; omega)) rfl rfl rfl (fun _ _ hR j _ _ => ⟨fun _ => (hR.2.1.2 _ (blk_lt bm) (hvm.imp id (fun e => by omega))).trans bm, fun _ => (hR.2.1.2 _ (blk_lt wb) (hvm2.imp id (fun e => by omega))).trans wb⟩) ?_
  rintro vn H7 ⟨w7, g7, nx7⟩
  try dsimp only at g7 nx7
  have ob7 := g7.oldBE wo (by omega)
  have o0 := o0.trans (ob7.mono (by omega))
  have z7 := ob7.1
  have bm := (g7.2 _ (blk_lt bm) (by exact lt7.imp id (fun h => by omega))).trans bm
  have oB := oB.then ob7 (by omega)
  have wb := (g7.2 _ (blk_lt wb) (by exact hvm2.imp id (fun e => by omega))).trans wb
  have wo := w7
  refine KP.run 2 rfl rfl ?_
  refine KP.opS rfl (S.store rfl sz44 rfl rfl (OwnE.own wo).cells1 (OwnE.own wo).one bm (by simp)) rfl rfl (fun _ h j hj1 hj2 => ⟨fun hj => by subst hj; exact absurd (by decide +kernel) hj2, fun hj => by subst hj; exact absurd (by decide +kernel) hj2⟩) ?_
  rintro H8 ⟨u8, b8⟩
  have o0 := o0.trans (OldB.upd u8 (by omega))
  have zu8 := u8.1
  have wo := wo.upd u8 (by simp) (by exact wo.lt.imp id (fun h => by omega))
  have oB := oB.upd u8 (by omega)
  have wb := ((u8).2 _ (by omega)).trans wb
  have bm := b8
  refine KP.nil (KQ.fin0 Tryz.results30 ?_)
  (exact ⟨_, (MK.mk bm wo).cast (by rw [En.sec_cons hx0]; simp) rfl, oB⟩)
theorem elem_of {H : Heap} {p : Value} : Ct Tryz.prog 35 [p] H (fun u H' => u = .func (.func 36) #[p] #[] ∧ H = H') := by
  refine Ct.mk Tryz.func35 rfl Tryz.ntmps35 rfl ?_
  intro W0 hW0
  have o0 : Old H H := Old.refl H
  refine KC.sr (KL.fin 1 rfl (KQ.sr (KL.fin 3 rfl (KQ.seq (KC.ret (KQ.ofRet (KQ.fin1 Tryz.results35 rfl ?_)))))))
  exact ⟨rfl, rfl⟩
theorem elem_sec {H : Heap} {gm : Nat} {vm : Value} {acc : List Sec} {bad : Bool} (mk : MK H gm vm acc bad) {Hb : Heap} (oB : Old Hb H) (hgB : Hb.size ≤ gm) {u : Value} {xs : List Elm} (hs : Sl 3 EElm Hb u xs) (hm : xs.length ≤ 4000) (hz : ∀ x ∈ xs, Isp.bulk x.2.1 ≤ 4000 ∧ x.2.2.length ≤ 4000) (ix : Int) (rid : InR .u8 ix) (hac : acc.length ≤ 1000) (hN : (En.lst En.elmB xs).length + 100000000 ≤ 1099511627776) : Ct Tryz.prog 34 [.pointer (some ⟨gm, 0, none⟩), .int .u8 ix, u, .func (.func 35) #[] #[]] H (fun _ H' => ∃ vm', MK H' gm vm' (acc ++ En.sec ix En.elmB xs) (bad || !xs.all En.elmO) ∧ Old Hb H') := by
  refine Ct.mk Tryz.func34 rfl Tryz.ntmps34 rfl ?_
  intro W0 hW0
  have o0 : OldB 0 H H := OldB.refl _ H
  obtain ⟨bm, wo⟩ := mk
  have zm := blk_lt bm
  have bm0 := bm
  have wo0 := wo
  have oB0 := oB
  have hvm2 : vm = .slice none 0 0 ∨ vblock vm < Array.size H := wo.lt.imp id And.right
  have oP : Old H H := Old.refl _
  have hvl : vblock vm < Array.size H + 1 := by
    rcases wo.lt with e | e
    · rw [e]; show 0 < _; omega
    omega
  refine KC.seq (KC.sr (KL.run 1 rfl (KL.q (R.lenS rfl U29 rfl hs) rfl (KL.fin 1 rfl (KQ.seq ?_)))))
  refine KC.iq rfl ?_ ?_
  · intro hx0
    refine KC.ret (KQ.retThen (KQ.ofRet (KQ.fin0 Tryz.results34 ?_)))
    (exact ⟨_, (MK.mk bm0 wo0).cast (by rw [En.sec_nil hx0]; simp) (by rw [En.all_nil hx0]; simp), oB0⟩)
  intro hx0
  refine KC.skip (KQ.sr (KL.b0 bt128 rfl rfl ?_))
  refine KL.m (M.box rfl rfl rfl) rfl ?_
  rintro _ H1 ⟨rfl, n1⟩
  have z1 := n1.2.1
  have o0 := o0.trans ((n1.1).b (by omega))
  have oP := oP.trans n1.1
  have b1 := n1.2.2
  have wb := b1
  have wi : WA H1 (Array.size H) (.slice none 0 0) [] false := ⟨wb, Own.nil _ _ _ _ _ _⟩
  have wiP := wi
  have oPP := oP
  refine KL.fin 1 rfl (KQ.sr (KL.run 4 rfl ?_))
  refine KL.c rfl Tryz.call35 (elem_of) ?_
  rintro _ _ ⟨rfl, rfl⟩
  refine KL.c rfl Tryz.call69 (wlist_elem wi (oB.trans oP) (by omega) hs (by omega) hz (by simp only [List.length_nil]; omega)) ?_
  rintro _ H2 ⟨vw, wi, tW⟩
  have zt := tW.sz
  have oP : Old H H2 := tW.om wiP oPP (Nat.le_refl _)
  have bm := oP.blk bm0
  have wo := wo0.old oP
  have oB := oB0.trans oP
  have o0 : OldB 0 H H2 := ⟨oP.1, fun k hk => absurd hk (by omega)⟩
  have wb := wi.b
  have ww := wi.w
  have zm := blk_lt wb
  refine KL.nil (KQ.seq (KC.seq ?_))
  refine KC.cutD (κ := Unit) [20, 21, 22, 23, 24, 25, 26, 27, 28, 29, 30, 31, 32] (fun _ => []) (fun _ Hl => Hl[gm]? = some (.cells [vm, .bool (bad || !xs.all En.elmO)].toArray 74 (0, 0)) ∧ OwnE 2 ESec 48 (gm + 1) Hl vm [gm] acc ∧ Hl[Array.size H]? = some (.cells [vw, .bool (false || !xs.all En.elmO)].toArray 128 (0, 0)) ∧ Own 1 (EInt .u8) 5 #[] (Array.size H + 1) Hl vw (([] : List Int) ++ (En.lst En.elmB xs)) ∧ Old Hb Hl) ?_ ?_
  · skip
    refine KC.region (KL.run 4 rfl (KL.ld rfl (cell_of bm rfl) (KL.run 1 rfl ?_)))
    refine KL.cq 25 rfl ?_ ?_
    · intro hg25
      refine KL.run 7 rfl ?_
      refine KL.opS (S.store rfl sz4 rfl rfl rfl rfl bm (by simp)) rfl rfl ?_
      rintro H3 ⟨u3, b3⟩
      have o0 := o0.trans (OldB.upd u3 (by omega))
      have zu3 := u3.1
      have wo := wo.upd u3 (by simp) (by exact wo.lt.imp id (fun h => by omega))
      have oB := oB.upd u3 (by omega)
      have wb := ((u3).2 _ (by omega)).trans wb
      have ww := ww.upd u3 (by exact ww.lt.imp id (fun h => by omega))
      have bm := b3
      refine KL.nil ?_
      refine KQ.meet () ?_ ?_
      · exact Sub.all rfl
      exact ⟨by rw [hg25]; exact bm, wo, wb, ww, oB⟩
    intro hg25
    refine KL.run 3 rfl (KL.ld rfl (cell_of wb rfl) (KL.run 3 rfl ?_))
    refine KL.opS (S.store rfl sz4 rfl rfl rfl rfl bm (by simp)) rfl rfl ?_
    rintro H4 ⟨u4, b4⟩
    have o0 := o0.trans (OldB.upd u4 (by omega))
    have zu4 := u4.1
    have wo := wo.upd u4 (by simp) (by exact wo.lt.imp id (fun h => by omega))
    have oB := oB.upd u4 (by omega)
    have wb := ((u4).2 _ (by omega)).trans wb
    have ww := ww.upd u4 (by exact ww.lt.imp id (fun h => by omega))
    have bm := b4
    refine KL.nil ?_
    refine KQ.meet () ?_ ?_
    · exact Sub.all rfl
    exact ⟨by rw [hg25]; exact bm, wo, wb, ww, oB⟩
  rintro _ H5 ⟨bm, wo, wb, ww, oB⟩
  have zm := blk_lt wb
  have o0 : OldB 0 H H5 := ⟨by omega, fun k hk => absurd hk (by omega)⟩
  refine KQ.seq ?_
  refine KC.text (clOf [(11, 2), (12, 2), (15, 2)]) (fun i Hc => (i = 4 → Hc[gm]? = some _) ∧ (i = 9 → Hc[Array.size H]? = some _)) (by kernel_rfl) (by kernel_rfl) (fun _ => ⟨fun _ => bm, fun _ => wb⟩) ?_
  refine KP.run 4 rfl rfl ?_
  refine KP.op rfl (fun Hg hg => R.load rfl U44 rfl rfl (cell_of (hg.1 rfl) rfl)) rfl rfl rfl ?_
  refine KP.run 4 rfl rfl ?_
  refine KP.op rfl (fun Hg hg => R.load rfl U34 rfl rfl (cell_of (hg.2 rfl) rfl)) rfl rfl rfl ?_
  refine KP.op rfl (fun Hg hg => R.buildL rfl U48 zr48 [(0, 1), (1, 1)] (fun w => by kernel_rfl) rfl ⟨⟨_, rfl, rfl⟩, ⟨_, rfl, rfl⟩, trivial⟩ rfl rfl ⟨⟨_, rfl, by rfl⟩, ⟨_, rfl, by exact ww.cells1⟩, trivial⟩ rfl) rfl rfl rfl ?_
  refine KP.opM rfl (M.lit rfl U44 zs48 (by decide) rfl rfl rfl) rfl rfl rfl (fun _ _ hR j _ _ => ⟨fun _ => hR.2.1.blk bm, fun _ => hR.2.1.blk wb⟩) ?_
  rintro _ H6 ⟨rfl, n6⟩
  have z6 := n6.2.1
  have o0 := o0.trans ((n6.1).b (by omega))
  have bm := (n6.1).blk bm
  have wo := wo.old n6.1
  have oB := oB.trans n6.1
  have wb := (n6.1).blk wb
  have ww := ww.old n6.1
  have b6 := n6.2.2
  have se : Sl 2 (FK ESec H6 (vblock vm :: [gm])) H6 _ [(ix, ([] : List Int) ++ (En.lst En.elmB xs))] := Sl.lit1N n6 rfl (by decide) (fun H2 kx => ⟨_, rfl, fk_own ww (lt2 hvl (by omega)) H2 kx, rid⟩)
  have hvm := wo.lt
  have lt7 := wo.lt
  refine KP.opM rfl (M.appendE rfl U44 inf48 rfl (by decide) rfl rfl wo (se) (by omega) (by simp only [List.length_singleton]; omega) (by unfold maxLen; simp only [List.length_singleton]; omega)) rfl rfl rfl (fun _ _ hR j _ _ => ⟨fun _ => (hR.2.1.2 _ (blk_lt bm) (hvm.imp id (fun e => by omega))).trans bm, fun _ => (hR.2.1.2 _ (blk_lt wb) (hvm2.imp id (fun e => by omega))).trans wb⟩) ?_
  rintro vn H7 ⟨w7, g7, nx7⟩
  try dsimp only at g7 nx7
  have ob7 := g7.oldBE wo (by omega)
  have o0 := o0.trans (ob7.mono (by omega))
  have z7 := ob7.1
  have bm := (g7.2 _ (blk_lt bm) (by exact lt7.imp id (fun h => by omega))).trans bm
  have oB := oB.then ob7 (by omega)
  have wb := (g7.2 _ (blk_lt wb) (by exact hvm2.imp id (fun e => by omega))).trans wb
  have wo := w7
  refine KP.run 2 rfl rfl ?_
  refine KP.opS rfl (S.store rfl sz44 rfl rfl (OwnE.own wo).cells1 (OwnE.own wo).one bm (by simp)) rfl rfl (fun _ h j hj1 hj2 => ⟨fun hj => by subst hj; exact absurd (by decide +kernel) hj2, fun hj => by subst hj; exact absurd (by decide +kernel) hj2⟩) ?_
  rintro H8 ⟨u8, b8⟩
  have o0 := o0.trans (OldB.upd u8 (by omega))
  have zu8 := u8.1
  have wo := wo.upd u8 (by simp) (by exact wo.lt.imp id (fun h => by omega))
  have oB := oB.upd u8 (by omega)
  have wb := ((u8).2 _ (by omega)).trans wb
  have bm := b8
  refine KP.nil (KQ.fin0 Tryz.results34 ?_)
  (exact ⟨_, (MK.mk bm wo).cast (by rw [En.sec_cons hx0]; simp) rfl, oB⟩)
theorem code_of {H : Heap} {p : Value} : Ct Tryz.prog 38 [p] H (fun u H' => u = .func (.func 39) #[p] #[] ∧ H = H') := by
  refine Ct.mk Tryz.func38 rfl Tryz.ntmps38 rfl ?_
  intro W0 hW0
  have o0 : Old H H := Old.refl H
  refine KC.sr (KL.fin 1 rfl (KQ.sr (KL.fin 3 rfl (KQ.seq (KC.ret (KQ.ofRet (KQ.fin1 Tryz.results38 rfl ?_)))))))
  exact ⟨rfl, rfl⟩
theorem code_sec {H : Heap} {gm : Nat} {vm : Value} {acc : List Sec} {bad : Bool} (mk : MK H gm vm acc bad) {Hb : Heap} (oB : Old Hb H) (hgB : Hb.size ≤ gm) {u : Value} {xs : List Cod} (hs : Sl 2 ECod Hb u xs) (hm : xs.length ≤ 4000) (hz : ∀ x ∈ xs, Isp.bulk x.2 ≤ 4000 ∧ x.1.length ≤ 4000) (ix : Int) (rid : InR .u8 ix) (hac : acc.length ≤ 1000) (hN : (En.lst En.codB xs).length + 100000000 ≤ 1099511627776) : Ct Tryz.prog 37 [.pointer (some ⟨gm, 0, none⟩), .int .u8 ix, u, .func (.func 38) #[] #[]] H (fun _ H' => ∃ vm', MK H' gm vm' (acc ++ En.sec ix En.codB xs) (bad || !xs.all En.codO) ∧ Old Hb H') := by
  refine Ct.mk Tryz.func37 rfl Tryz.ntmps37 rfl ?_
  intro W0 hW0
  have o0 : OldB 0 H H := OldB.refl _ H
  obtain ⟨bm, wo⟩ := mk
  have zm := blk_lt bm
  have bm0 := bm
  have wo0 := wo
  have oB0 := oB
  have hvm2 : vm = .slice none 0 0 ∨ vblock vm < Array.size H := wo.lt.imp id And.right
  have oP : Old H H := Old.refl _
  have hvl : vblock vm < Array.size H + 1 := by
    rcases wo.lt with e | e
    · rw [e]; show 0 < _; omega
    omega
  refine KC.seq (KC.sr (KL.run 1 rfl (KL.q (R.lenS rfl U30 rfl hs) rfl (KL.fin 1 rfl (KQ.seq ?_)))))
  refine KC.iq rfl ?_ ?_
  · intro hx0
    refine KC.ret (KQ.retThen (KQ.ofRet (KQ.fin0 Tryz.results37 ?_)))
    (exact ⟨_, (MK.mk bm0 wo0).cast (by rw [En.sec_nil hx0]; simp) (by rw [En.all_nil hx0]; simp), oB0⟩)
  intro hx0
  refine KC.skip (KQ.sr (KL.b0 bt128 rfl rfl ?_))
  refine KL.m (M.box rfl rfl rfl) rfl ?_
  rintro _ H1 ⟨rfl, n1⟩
  have z1 := n1.2.1
  have o0 := o0.trans ((n1.1).b (by omega))
  have oP := oP.trans n1.1
  have b1 := n1.2.2
  have wb := b1
  have wi : WA H1 (Array.size H) (.slice none 0 0) [] false := ⟨wb, Own.nil _ _ _ _ _ _⟩
  have wiP := wi
  have oPP := oP
  refine KL.fin 1 rfl (KQ.sr (KL.run 4 rfl ?_))
  refine KL.c rfl Tryz.call38 (code_of) ?_
  rintro _ _ ⟨rfl, rfl⟩
  refine KL.c rfl Tryz.call70 (wlist_code wi (oB.trans oP) (by omega) hs (by omega) hz (by simp only [List.length_nil]; omega)) ?_
  rintro _ H2 ⟨vw, wi, tW⟩
  have zt := tW.sz
  have oP : Old H H2 := tW.om wiP oPP (Nat.le_refl _)
  have bm := oP.blk bm0
  have wo := wo0.old oP
  have oB := oB0.trans oP
  have o0 : OldB 0 H H2 := ⟨oP.1, fun k hk => absurd hk (by omega)⟩
  have wb := wi.b
  have ww := wi.w
  have zm := blk_lt wb
  refine KL.nil (KQ.seq (KC.seq ?_))
  refine KC.cutD (κ := Unit) [20, 21, 22, 23, 24, 25, 26, 27, 28, 29, 30, 31, 32] (fun _ => []) (fun _ Hl => Hl[gm]? = some (.cells [vm, .bool (bad || !xs.all En.codO)].toArray 74 (0, 0)) ∧ OwnE 2 ESec 48 (gm + 1) Hl vm [gm] acc ∧ Hl[Array.size H]? = some (.cells [vw, .bool (false || !xs.all En.codO)].toArray 128 (0, 0)) ∧ Own 1 (EInt .u8) 5 #[] (Array.size H + 1) Hl vw (([] : List Int) ++ (En.lst En.codB xs)) ∧ Old Hb Hl) ?_ ?_
  · skip
    refine KC.region (KL.run 4 rfl (KL.ld rfl (cell_of bm rfl) (KL.run 1 rfl ?_)))
    refine KL.cq 25 rfl ?_ ?_
    · intro hg25
      refine KL.run 7 rfl ?_
      refine KL.opS (S.store rfl sz4 rfl rfl rfl rfl bm (by simp)) rfl rfl ?_
      rintro H3 ⟨u3, b3⟩
      have o0 := o0.trans (OldB.upd u3 (by omega))
      have zu3 := u3.1
      have wo := wo.upd u3 (by simp) (by exact wo.lt.imp id (fun h => by omega))
      have oB := oB.upd u3 (by omega)
      have wb := ((u3).2 _ (by omega)).trans wb
      have ww := ww.upd u3 (by exact ww.lt.imp id (fun h => by omega))
      have bm := b3
      refine KL.nil ?_
      refine KQ.meet () ?_ ?_
      · exact Sub.all rfl
      exact ⟨by rw [hg25]; exact bm, wo, wb, ww, oB⟩
    intro hg25
    refine KL.run 3 rfl (KL.ld rfl (cell_of wb rfl) (KL.run 3 rfl ?_))
    refine KL.opS (S.store rfl sz4 rfl rfl rfl rfl bm (by simp)) rfl rfl ?_
    rintro H4 ⟨u4, b4⟩
    have o0 := o0.trans (OldB.upd u4 (by omega))
    have zu4 := u4.1
    have wo := wo.upd u4 (by simp) (by exact wo.lt.imp id (fun h => by omega))
    have oB := oB.upd u4 (by omega)
    have wb := ((u4).2 _ (by omega)).trans wb
    have ww := ww.upd u4 (by exact ww.lt.imp id (fun h => by omega))
    have bm := b4
    refine KL.nil ?_
    refine KQ.meet () ?_ ?_
    · exact Sub.all rfl
    exact ⟨by rw [hg25]; exact bm, wo, wb, ww, oB⟩
  rintro _ H5 ⟨bm, wo, wb, ww, oB⟩
  have zm := blk_lt wb
  have o0 : OldB 0 H H5 := ⟨by omega, fun k hk => absurd hk (by omega)⟩
  refine KQ.seq ?_
  refine KC.text (clOf [(11, 2), (12, 2), (15, 2)]) (fun i Hc => (i = 4 → Hc[gm]? = some _) ∧ (i = 9 → Hc[Array.size H]? = some _)) (by kernel_rfl) (by kernel_rfl) (fun _ => ⟨fun _ => bm, fun _ => wb⟩) ?_
  refine KP.run 4 rfl rfl ?_
  refine KP.op rfl (fun Hg hg => R.load rfl U44 rfl rfl (cell_of (hg.1 rfl) rfl)) rfl rfl rfl ?_
  refine KP.run 4 rfl rfl ?_
  refine KP.op rfl (fun Hg hg => R.load rfl U34 rfl rfl (cell_of (hg.2 rfl) rfl)) rfl rfl rfl ?_
  refine KP.op rfl (fun Hg hg => R.buildL rfl U48 zr48 [(0, 1), (1, 1)] (fun w => by kernel_rfl) rfl ⟨⟨_, rfl, rfl⟩, ⟨_, rfl, rfl⟩, trivial⟩ rfl rfl ⟨⟨_, rfl, by rfl⟩, ⟨_, rfl, by exact ww.cells1⟩, trivial⟩ rfl) rfl rfl rfl ?_
  refine KP.opM rfl (M.lit rfl U44 zs48 (by decide) rfl rfl rfl) rfl rfl rfl (fun _ _ hR j _ _ => ⟨fun _ => hR.2.1.blk bm, fun _ => hR.2.1.blk wb⟩) ?_
  rintro _ H6 ⟨rfl, n6⟩
  have z6 := n6.2.1
  have o0 := o0.trans ((n6.1).b (by omega))
  have bm := (n6.1).blk bm
  have wo := wo.old n6.1
  have oB := oB.trans n6.1
  have wb := (n6.1).blk wb
  have ww := ww.old n6.1
  have b6 := n6.2.2
  have se : Sl 2 (FK ESec H6 (vblock vm :: [gm])) H6 _ [(ix, ([] : List Int) ++ (En.lst En.codB xs))] := Sl.lit1N n6 rfl (by decide) (fun H2 kx => ⟨_, rfl, fk_own ww (lt2 hvl (by omega)) H2 kx, rid⟩)
  have hvm := wo.lt
  have lt7 := wo.lt
  refine KP.opM rfl (M.appendE rfl U44 inf48 rfl (by decide) rfl rfl wo (se) (by omega) (by simp only [List.length_singleton]; omega) (by unfold maxLen; simp only [List.length_singleton]; omega)) rfl rfl rfl (fun _ _ hR j _ _ => ⟨fun _ => (hR.2.1.2 _ (blk_lt bm) (hvm.imp id (fun e => by omega))).trans bm, fun _ => (hR.2.1.2 _ (blk_lt wb) (hvm2.imp id (fun e => by omega))).trans wb⟩) ?_
  rintro vn H7 ⟨w7, g7, nx7⟩
  try dsimp only at g7 nx7
  have ob7 := g7.oldBE wo (by omega)
  have o0 := o0.trans (ob7.mono (by omega))
  have z7 := ob7.1
  have bm := (g7.2 _ (blk_lt bm) (by exact lt7.imp id (fun h => by omega))).trans bm
  have oB := oB.then ob7 (by omega)
  have wb := (g7.2 _ (blk_lt wb) (by exact hvm2.imp id (fun e => by omega))).trans wb
  have wo := w7
  refine KP.run 2 rfl rfl ?_
  refine KP.opS rfl (S.store rfl sz44 rfl rfl (OwnE.own wo).cells1 (OwnE.own wo).one bm (by simp)) rfl rfl (fun _ h j hj1 hj2 => ⟨fun hj => by subst hj; exact absurd (by decide +kernel) hj2, fun hj => by subst hj; exact absurd (by decide +kernel) hj2⟩) ?_
  rintro H8 ⟨u8, b8⟩
  have o0 := o0.trans (OldB.upd u8 (by omega))
  have zu8 := u8.1
  have wo := wo.upd u8 (by simp) (by exact wo.lt.imp id (fun h => by omega))
  have oB := oB.upd u8 (by omega)
  have wb := ((u8).2 _ (by omega)).trans wb
  have bm := b8
  refine KP.nil (KQ.fin0 Tryz.results37 ?_)
  (exact ⟨_, (MK.mk bm wo).cast (by rw [En.sec_cons hx0]; simp) rfl, oB⟩)
theorem data_of {H : Heap} {p : Value} : Ct Tryz.prog 41 [p] H (fun u H' => u = .func (.func 42) #[p] #[] ∧ H = H') := by
  refine Ct.mk Tryz.func41 rfl Tryz.ntmps41 rfl ?_
  intro W0 hW0
  have o0 : Old H H := Old.refl H
  refine KC.sr (KL.fin 1 rfl (KQ.sr (KL.fin 3 rfl (KQ.seq (KC.ret (KQ.ofRet (KQ.fin1 Tryz.results41 rfl ?_)))))))
  exact ⟨rfl, rfl⟩
theorem data_sec {H : Heap} {gm : Nat} {vm : Value} {acc : List Sec} {bad : Bool} (mk : MK H gm vm acc bad) {Hb : Heap} (oB : Old Hb H) (hgB : Hb.size ≤ gm) {u : Value} {xs : List Elm} (hs : Sl 3 EDat Hb u xs) (hm : xs.length ≤ 4000) (hz : ∀ x ∈ xs, Isp.bulk x.2.1 ≤ 4000 ∧ x.2.2.length ≤ 200000) (ix : Int) (rid : InR .u8 ix) (hac : acc.length ≤ 1000) (hN : (En.lst En.datB xs).length + 100000000 ≤ 1099511627776) : Ct Tryz.prog 40 [.pointer (some ⟨gm, 0, none⟩), .int .u8 ix, u, .func (.func 41) #[] #[]] H (fun _ H' => ∃ vm', MK H' gm vm' (acc ++ En.sec ix En.datB xs) (bad || !xs.all En.datO) ∧ Old Hb H') := by
  refine Ct.mk Tryz.func40 rfl Tryz.ntmps40 rfl ?_
  intro W0 hW0
  have o0 : OldB 0 H H := OldB.refl _ H
  obtain ⟨bm, wo⟩ := mk
  have zm := blk_lt bm
  have bm0 := bm
  have wo0 := wo
  have oB0 := oB
  have hvm2 : vm = .slice none 0 0 ∨ vblock vm < Array.size H := wo.lt.imp id And.right
  have oP : Old H H := Old.refl _
  have hvl : vblock vm < Array.size H + 1 := by
    rcases wo.lt with e | e
    · rw [e]; show 0 < _; omega
    omega
  refine KC.seq (KC.sr (KL.run 1 rfl (KL.q (R.lenS rfl U31 rfl hs) rfl (KL.fin 1 rfl (KQ.seq ?_)))))
  refine KC.iq rfl ?_ ?_
  · intro hx0
    refine KC.ret (KQ.retThen (KQ.ofRet (KQ.fin0 Tryz.results40 ?_)))
    (exact ⟨_, (MK.mk bm0 wo0).cast (by rw [En.sec_nil hx0]; simp) (by rw [En.all_nil hx0]; simp), oB0⟩)
  intro hx0
  refine KC.skip (KQ.sr (KL.b0 bt128 rfl rfl ?_))
  refine KL.m (M.box rfl rfl rfl) rfl ?_
  rintro _ H1 ⟨rfl, n1⟩
  have z1 := n1.2.1
  have o0 := o0.trans ((n1.1).b (by omega))
  have oP := oP.trans n1.1
  have b1 := n1.2.2
  have wb := b1
  have wi : WA H1 (Array.size H) (.slice none 0 0) [] false := ⟨wb, Own.nil _ _ _ _ _ _⟩
  have wiP := wi
  have oPP := oP
  refine KL.fin 1 rfl (KQ.sr (KL.run 4 rfl ?_))
  refine KL.c rfl Tryz.call41 (data_of) ?_
  rintro _ _ ⟨rfl, rfl⟩
  refine KL.c rfl Tryz.call74 (wlist_data wi (oB.trans oP) (by omega) hs (by omega) hz (by simp only [List.length_nil]; omega)) ?_
  rintro _ H2 ⟨vw, wi, tW⟩
  have zt := tW.sz
  have oP : Old H H2 := tW.om wiP oPP (Nat.le_refl _)
  have bm := oP.blk bm0
  have wo := wo0.old oP
  have oB := oB0.trans oP
  have o0 : OldB 0 H H2 := ⟨oP.1, fun k hk => absurd hk (by omega)⟩
  have wb := wi.b
  have ww := wi.w
  have zm := blk_lt wb
  refine KL.nil (KQ.seq (KC.seq ?_))
  refine KC.cutD (κ := Unit) [20, 21, 22, 23, 24, 25, 26, 27, 28, 29, 30, 31, 32] (fun _ => []) (fun _ Hl => Hl[gm]? = some (.cells [vm, .bool (bad || !xs.all En.datO)].toArray 74 (0, 0)) ∧ OwnE 2 ESec 48 (gm + 1) Hl vm [gm] acc ∧ Hl[Array.size H]? = some (.cells [vw, .bool (false || !xs.all En.datO)].toArray 128 (0, 0)) ∧ Own 1 (EInt .u8) 5 #[] (Array.size H + 1) Hl vw (([] : List Int) ++ (En.lst En.datB xs)) ∧ Old Hb Hl) ?_ ?_
  · skip
    refine KC.region (KL.run 4 rfl (KL.ld rfl (cell_of bm rfl) (KL.run 1 rfl ?_)))
    refine KL.cq 25 rfl ?_ ?_
    · intro hg25
      refine KL.run 7 rfl ?_
      refine KL.opS (S.store rfl sz4 rfl rfl rfl rfl bm (by simp)) rfl rfl ?_
      rintro H3 ⟨u3, b3⟩
      have o0 := o0.trans (OldB.upd u3 (by omega))
      have zu3 := u3.1
      have wo := wo.upd u3 (by simp) (by exact wo.lt.imp id (fun h => by omega))
      have oB := oB.upd u3 (by omega)
      have wb := ((u3).2 _ (by omega)).trans wb
      have ww := ww.upd u3 (by exact ww.lt.imp id (fun h => by omega))
      have bm := b3
      refine KL.nil ?_
      refine KQ.meet () ?_ ?_
      · exact Sub.all rfl
      exact ⟨by rw [hg25]; exact bm, wo, wb, ww, oB⟩
    intro hg25
    refine KL.run 3 rfl (KL.ld rfl (cell_of wb rfl) (KL.run 3 rfl ?_))
    refine KL.opS (S.store rfl sz4 rfl rfl rfl rfl bm (by simp)) rfl rfl ?_
    rintro H4 ⟨u4, b4⟩
    have o0 := o0.trans (OldB.upd u4 (by omega))
    have zu4 := u4.1
    have wo := wo.upd u4 (by simp) (by exact wo.lt.imp id (fun h => by omega))
    have oB := oB.upd u4 (by omega)
    have wb := ((u4).2 _ (by omega)).trans wb
    have ww := ww.upd u4 (by exact ww.lt.imp id (fun h => by omega))
    have bm := b4
    refine KL.nil ?_
    refine KQ.meet () ?_ ?_
    · exact Sub.all rfl
    exact ⟨by rw [hg25]; exact bm, wo, wb, ww, oB⟩
  rintro _ H5 ⟨bm, wo, wb, ww, oB⟩
  have zm := blk_lt wb
  have o0 : OldB 0 H H5 := ⟨by omega, fun k hk => absurd hk (by omega)⟩
  refine KQ.seq ?_
  refine KC.text (clOf [(11, 2), (12, 2), (15, 2)]) (fun i Hc => (i = 4 → Hc[gm]? = some _) ∧ (i = 9 → Hc[Array.size H]? = some _)) (by kernel_rfl) (by kernel_rfl) (fun _ => ⟨fun _ => bm, fun _ => wb⟩) ?_
  refine KP.run 4 rfl rfl ?_
  refine KP.op rfl (fun Hg hg => R.load rfl U44 rfl rfl (cell_of (hg.1 rfl) rfl)) rfl rfl rfl ?_
  refine KP.run 4 rfl rfl ?_
  refine KP.op rfl (fun Hg hg => R.load rfl U34 rfl rfl (cell_of (hg.2 rfl) rfl)) rfl rfl rfl ?_
  refine KP.op rfl (fun Hg hg => R.buildL rfl U48 zr48 [(0, 1), (1, 1)] (fun w => by kernel_rfl) rfl ⟨⟨_, rfl, rfl⟩, ⟨_, rfl, rfl⟩, trivial⟩ rfl rfl ⟨⟨_, rfl, by rfl⟩, ⟨_, rfl, by exact ww.cells1⟩, trivial⟩ rfl) rfl rfl rfl ?_
  refine KP.opM rfl (M.lit rfl U44 zs48 (by decide) rfl rfl rfl) rfl rfl rfl (fun _ _ hR j _ _ => ⟨fun _ => hR.2.1.blk bm, fun _ => hR.2.1.blk wb⟩) ?_
  rintro _ H6 ⟨rfl, n6⟩
  have z6 := n6.2.1
  have o0 := o0.trans ((n6.1).b (by omega))
  have bm := (n6.1).blk bm
  have wo := wo.old n6.1
  have oB := oB.trans n6.1
  have wb := (n6.1).blk wb
  have ww := ww.old n6.1
  have b6 := n6.2.2
  have se : Sl 2 (FK ESec H6 (vblock vm :: [gm])) H6 _ [(ix, ([] : List Int) ++ (En.lst En.datB xs))] := Sl.lit1N n6 rfl (by decide) (fun H2 kx => ⟨_, rfl, fk_own ww (lt2 hvl (by omega)) H2 kx, rid⟩)
  have hvm := wo.lt
  have lt7 := wo.lt
  refine KP.opM rfl (M.appendE rfl U44 inf48 rfl (by decide) rfl rfl wo (se) (by omega) (by simp only [List.length_singleton]; omega) (by unfold maxLen; simp only [List.length_singleton]; omega)) rfl rfl rfl (fun _ _ hR j _ _ => ⟨fun _ => (hR.2.1.2 _ (blk_lt bm) (hvm.imp id (fun e => by omega))).trans bm, fun _ => (hR.2.1.2 _ (blk_lt wb) (hvm2.imp id (fun e => by omega))).trans wb⟩) ?_
  rintro vn H7 ⟨w7, g7, nx7⟩
  try dsimp only at g7 nx7
  have ob7 := g7.oldBE wo (by omega)
  have o0 := o0.trans (ob7.mono (by omega))
  have z7 := ob7.1
  have bm := (g7.2 _ (blk_lt bm) (by exact lt7.imp id (fun h => by omega))).trans bm
  have oB := oB.then ob7 (by omega)
  have wb := (g7.2 _ (blk_lt wb) (by exact hvm2.imp id (fun e => by omega))).trans wb
  have wo := w7
  refine KP.run 2 rfl rfl ?_
  refine KP.opS rfl (S.store rfl sz44 rfl rfl (OwnE.own wo).cells1 (OwnE.own wo).one bm (by simp)) rfl rfl (fun _ h j hj1 hj2 => ⟨fun hj => by subst hj; exact absurd (by decide +kernel) hj2, fun hj => by subst hj; exact absurd (by decide +kernel) hj2⟩) ?_
  rintro H8 ⟨u8, b8⟩
  have o0 := o0.trans (OldB.upd u8 (by omega))
  have zu8 := u8.1
  have wo := wo.upd u8 (by simp) (by exact wo.lt.imp id (fun h => by omega))
  have oB := oB.upd u8 (by omega)
  have wb := ((u8).2 _ (by omega)).trans wb
  have bm := b8
  refine KP.nil (KQ.fin0 Tryz.results40 ?_)
  (exact ⟨_, (MK.mk bm wo).cast (by rw [En.sec_cons hx0]; simp) rfl, oB⟩)
namespace En
/-- sections that rise, up to n, and are not long -/
def Up (l : List Sec) (n : Int) : Prop := Sc.rise 0 l = true ∧ Sc.lst 0 l ≤ n ∧ ((Sc.body l).length : Int) ≤ n * 5000000000 ∧ (l.length : Int) ≤ n
theorem up_nil : Up [] 0 := ⟨rfl, Int.le_refl _, by simp [Sc.body], by simp⟩
theorem up_one {l : List Sec} {n id : Int} {b : List Int} (h : Up l n) (h1 : n < id) (h2 : id ≤ 11) (hb : b.length ≤ 4500000000) : Up (l ++ [(id, b)]) id := by
  obtain ⟨a1, a2, a3, a4⟩ := h
  have hu : (Lb.ap (b.length : Int)).length ≤ 10 := u_le _
  refine ⟨?_, ?_, ?_, ?_⟩
  · rw [Sc.rise_app, a1]; simp only [Sc.rise, Bool.true_and, Bool.and_true, decide_eq_true_eq]; omega
  · rw [Sc.lst_app]; exact Int.le_refl _
  · rw [Sc.body_app]; simp only [Sc.body, List.length_append, List.length_cons, List.length_nil]; omega
  simp only [List.length_append, List.length_cons, List.length_nil]; omega
theorem up_le {l : List Sec} {n id : Int} (h : Up l n) (h1 : n ≤ id) : Up l id := ⟨h.1, by have := h.2.1; omega, by have := h.2.2.1; omega, by have := h.2.2.2; omega⟩
theorem up_sec {α : Type} {f : α → List Int} {xs : List α} {l : List Sec} {n id : Int} (h : Up l n) (h1 : n < id) (h2 : id ≤ 11) (hb : (lst f xs).length ≤ 4500000000) : Up (l ++ sec id f xs) id := by
  unfold sec
  split
  · rw [List.append_nil]; exact up_le h (by omega)
  exact up_one h h1 h2 hb
theorem lst_big {α : Type} {f : α → List Int} {l : List α} (h : ∀ x ∈ l, (f x).length ≤ 1000000) (hl : l.length ≤ 4000) : (lst f l).length ≤ 4500000000 := by
  have := lst_le h; omega
/-- the binary of a module that has one -/
noncomputable def bin (m : Mo) : List Int := Sc.beg ++ Sc.body (secs m)
section
variable {m : Mo} (h : Small m)
include h
theorem b_typ : (lst typB m.types).length ≤ 4500000000 := lst_big (fun x hx => typ_le (h.t x hx)) h.n.1
theorem b_imp : (lst impB m.imports).length ≤ 4500000000 := lst_big (fun x hx => imp_le (h.i x hx)) h.n.2.1
theorem b_fun : (lst u m.funcs).length ≤ 4500000000 := lst_big (fun x _ => by have := u_le x; omega) h.n.2.2.1
theorem b_tab : (lst tabB m.tables).length ≤ 4500000000 := lst_big (fun x _ => by have := tab_le x; omega) h.n.2.2.2.1
theorem b_mem : (lst limB m.mems).length ≤ 4500000000 := lst_big (fun x _ => by have := lim_le x; omega) h.n.2.2.2.2.1
theorem b_glo : (lst gloB m.globs).length ≤ 4500000000 := lst_big (fun x hx => glo_le (h.g x hx)) h.n.2.2.2.2.2.1
theorem b_exp : (lst expB m.exports).length ≤ 4500000000 := lst_big (fun x hx => exp_le (h.e x hx)) h.n.2.2.2.2.2.2.1
theorem b_elm : (lst elmB m.elems).length ≤ 4500000000 := lst_big (fun x hx => elm_le (h.el x hx)) h.n.2.2.2.2.2.2.2.1
theorem b_cod : (lst codB m.codes).length ≤ 4500000000 := lst_big (fun x hx => cod_le (h.c x hx)) h.n.2.2.2.2.2.2.2.2.1
theorem b_dat : (lst datB m.datas).length ≤ 4500000000 := lst_big (fun x hx => dat_le (h.d x hx)) h.n.2.2.2.2.2.2.2.2.2
theorem up_secs : Up (secs m) 11 := by
  have p1 := up_sec (f := typB) up_nil (id := 1) (by omega) (by omega) (b_typ h)
  have p2 := up_sec p1 (id := 2) (by omega) (by omega) (b_imp h)
  have p3 := up_sec p2 (id := 3) (by omega) (by omega) (b_fun h)
  have p4 := up_sec p3 (id := 4) (by omega) (by omega) (b_tab h)
  have p5 := up_sec p4 (id := 5) (by omega) (by omega) (b_mem h)
  have p6 := up_sec p5 (id := 6) (by omega) (by omega) (b_glo h)
  have p7 := up_sec p6 (id := 7) (by omega) (by omega) (b_exp h)
  have p8 : Up (([] ++ sec 1 typB m.types ++ sec 2 impB m.imports ++ sec 3 u m.funcs ++ sec 4 tabB m.tables ++ sec 5 limB m.mems ++ sec 6 gloB m.globs ++ sec 7 expB m.exports) ++ (if m.hasStart = true then [(8, u m.start)] else [])) 8 := by
    split
    · exact up_one p7 (by omega) (by omega) (by have := u_le m.start; omega)
    rw [List.append_nil]; exact up_le p7 (by omega)
  have p9 := up_sec p8 (id := 9) (by omega) (by omega) (b_elm h)
  have p10 := up_sec p9 (id := 10) (by omega) (by omega) (b_cod h)
  have p11 := up_sec p10 (id := 11) (by omega) (by omega) (b_dat h)
  rw [List.nil_append] at p11
  exact p11
theorem join_secs : Sc.join (secs m) = some (bin m) := by
  unfold Sc.join bin; rw [if_pos (up_secs h).1]
theorem body_secs : (Sc.body (secs m)).length ≤ 140737488351232 := by
  have := (up_secs h).2.2.1; omega
end
/-- what an encoding hands back -/
def ERes (m : Mo) (u : Value) (H : Heap) : Prop :=
  (ok m = false ∧ u = .tuple #[.slice none 0 0, .int .i64 2]) ∨ (ok m = true ∧ 65536 < (bin m).length ∧ u = .tuple #[.slice none 0 0, .int .i64 3]) ∨ (ok m = true ∧ (bin m).length ≤ 65536 ∧ ∃ v, u = .tuple #[v, .int .i64 0] ∧ Sl 1 (EInt .u8) H v (bin m))
end En
/-- a module's cells in memory -/
structure MoV (H : Heap) (t i f tb me g e el c d : Value) (m : Mo) : Prop where
  t : Sl 2 EFTy H t m.types
  i : Sl 8 EImp H i m.imports
  f : Sl 1 (EInt .u32) H f m.funcs
  tb : Sl 2 ELim H tb m.tables
  me : Sl 2 ELim H me m.mems
  g : Sl 3 EGlo H g m.globs
  e : Sl 3 EExp H e m.exports
  el : Sl 3 EElm H el m.elems
  c : Sl 2 ECod H c m.codes
  d : Sl 3 EDat H d m.datas
  s : InR .u32 m.start
theorem MoV.old {H H' : Heap} {t i f tb me g e el c d : Value} {m : Mo} (h : MoV H t i f tb me g e el c d m) (o : Old H H') : MoV H' t i f tb me g e el c d m :=
  ⟨h.t.old o, h.i.old o, h.f.old o, h.tb.old o, h.me.old o, h.g.old o, h.e.old o, h.el.old o, h.c.old o, h.d.old o, h.s⟩
theorem Join_bin {H : Heap} {v : Value} {l : List Sec} {b : List Int} (hs : Sl 2 ESec H v l) (hz : (Sc.body l).length ≤ 140737488351232) (e : Sc.join l = some b) : Ct Tryz.prog 43 [v] H (fun u H' => ∃ w, u = .tuple #[w, .int .i64 0] ∧ Sl 1 (EInt .u8) H' w b ∧ Old H H') :=
  (Join_any v l hs hz).mono (fun _ _ ⟨o, r⟩ => by rw [e] at r; obtain ⟨w, hw, hs⟩ := r; exact ⟨w, hw, hs, o⟩)
theorem En.sec_one {α : Type} (id : Int) (f : α → List Int) (l : List α) : (En.sec id f l).length ≤ 1 := by unfold En.sec; split <;> simp
theorem En.ok_bad (m : Mo) : (!(decide (m.codes.length = m.funcs.length) && (m.hasStart || decide (m.start = 0))) || !m.types.all En.typO || !m.imports.all En.impO || !m.funcs.all En.tru || !m.tables.all En.limO || !m.mems.all En.limO || !m.globs.all En.gloO || !m.exports.all En.expO || !m.elems.all En.elmO || !m.codes.all En.codO || !m.datas.all En.datO) = !En.ok m := by
  have h : m.funcs.all En.tru = true := List.all_eq_true.2 (fun _ _ => rfl)
  unfold En.ok
  rw [h]
  simp only [Bool.not_and, Bool.not_true, Bool.or_false, Bool.or_assoc]
theorem Encode_any {H : Heap} {t i f tb me g e el c d : Value} {m : Mo} (mv : MoV H t i f tb me g e el c d m) (hS : En.Small m) (hT : TabU H) : Ct Tryz.prog 7 [.agg [t, i, f, tb, me, g, e, .bool m.hasStart, .int .u32 m.start, el, c, d].toArray] H (fun u H' => En.ERes m u H' ∧ Old H H') := by
  refine Ct.mk Tryz.func7 rfl Tryz.ntmps7 rfl ?_
  intro W0 hW0
  have o0 : Old H H := Old.refl H
  have y1 := En.sec_one 1 En.typB m.types
  have y2 := En.sec_one 2 En.impB m.imports
  have y3 := En.sec_one 3 En.u m.funcs
  have y4 := En.sec_one 4 En.tabB m.tables
  have y5 := En.sec_one 5 En.limB m.mems
  have y6 := En.sec_one 6 En.gloB m.globs
  have y7 := En.sec_one 7 En.expB m.exports
  have y8 := En.sec_one 9 En.elmB m.elems
  have y9 := En.sec_one 10 En.codB m.codes
  have y10 := En.sec_one 11 En.datB m.datas
  refine KC.sr ?_
  refine KL.m (M.box rfl rfl rfl) rfl ?_
  rintro _ H1 ⟨rfl, n1⟩
  have z1 := n1.2.1
  have o0 := o0.trans n1.1
  have b1 := n1.2.2
  have bx := b1
  have bxP := bx
  have oX : Old H H1 := n1.1
  have mvX := mv.old oX
  have hTX := hT.old oX
  have oB : Old H1 H1 := Old.refl _
  have zX := n1.2.1
  refine KL.fin 2 rfl (KQ.seq (KC.seq ?_))
  refine KC.cutD (κ := Unit) [7, 8, 9, 10, 11, 12, 13, 14, 15, 16, 17, 18, 19, 20, 21, 22, 23, 24, 25, 4] (fun _ => [(4, .pointer (some ⟨(Array.size H1), 0, none⟩))]) (fun _ Hl => MK Hl (Array.size H1) (.slice none 0 0) [] (!(decide (m.codes.length = m.funcs.length) && (m.hasStart || decide (m.start = 0)))) ∧ Old H1 Hl ∧ Hl[Array.size H]? = some (.cells [t, i, f, tb, me, g, e, .bool m.hasStart, .int .u32 m.start, el, c, d].toArray 33 (0, 0))) ?_ ?_
  · skip
    refine KC.region (KL.run 1 rfl (KL.ld rfl (cell_of bx rfl) (KL.q (R.lenS rfl U30 rfl (mvX.c.old oB)) rfl (KL.run 1 rfl (KL.ld rfl (cell_of bx rfl) (KL.q (R.lenS rfl U24 rfl (mvX.f.old oB)) rfl (KL.run 2 rfl ?_)))))))
    refine KL.cq 14 rfl ?_ ?_
    · intro hg14
      refine KL.run 9 rfl (KL.b0 bt74 rfl rfl ?_)
      refine KL.m (M.box rfl rfl rfl) rfl ?_
      rintro _ H2 ⟨rfl, n2⟩
      have z2 := n2.2.1
      have o0 := o0.trans n2.1
      have bx := (n2.1).blk bx
      have oB := oB.trans n2.1
      have b2 := n2.2.2
      have bk := b2
      have mk := MK.mk bk (OwnE.nil _ _ _ _ _ _)
      refine KL.fin 1 rfl ?_
      refine KQ.meet () ?_ ?_
      · exact Sub.all rfl
      exact ⟨mk.cast rfl (by (rw [decide_eq_false (show ¬ m.codes.length = m.funcs.length by omega)]; rfl)), oB, bx⟩
    intro hg14
    refine KL.run 1 rfl (KL.ld rfl (cell_of bx rfl) (KL.run 2 rfl ?_))
    refine KL.cq 18 rfl ?_ ?_
    · intro hg18
      refine KL.run 1 rfl (KL.ld rfl (cell_of bx rfl) (KL.run 3 rfl (KL.b0 bt74 rfl rfl ?_)))
      refine KL.m (M.box rfl rfl rfl) rfl ?_
      rintro _ H3 ⟨rfl, n3⟩
      have z3 := n3.2.1
      have o0 := o0.trans n3.1
      have bx := (n3.1).blk bx
      have oB := oB.trans n3.1
      have b3 := n3.2.2
      have bk := b3
      have mk := MK.mk bk (OwnE.nil _ _ _ _ _ _)
      refine KL.fin 1 rfl ?_
      refine KQ.meet () ?_ ?_
      · exact Sub.all rfl
      exact ⟨mk.cast rfl (by (rw [decide_eq_true (show m.codes.length = m.funcs.length by omega)]; simp_all)), oB, bx⟩
    intro hg18
    refine KL.run 5 rfl (KL.b0 bt74 rfl rfl ?_)
    refine KL.m (M.box rfl rfl rfl) rfl ?_
    rintro _ H4 ⟨rfl, n4⟩
    have z4 := n4.2.1
    have o0 := o0.trans n4.1
    have bx := (n4.1).blk bx
    have oB := oB.trans n4.1
    have b4 := n4.2.2
    have bk := b4
    have mk := MK.mk bk (OwnE.nil _ _ _ _ _ _)
    refine KL.fin 1 rfl ?_
    refine KQ.meet () ?_ ?_
    · exact Sub.all rfl
    exact ⟨mk.cast rfl (by (rw [decide_eq_true (show m.codes.length = m.funcs.length by omega)]; simp_all)), oB, bx⟩
  rintro _ H5 ⟨mk, oB, bx⟩
  have o0 := oX.trans oB
  have zm := mk.lt
  refine KQ.sr (KL.run 2 rfl (KL.ld rfl (cell_of bx rfl) ?_))
  refine KL.c rfl Tryz.call13 (typed_sec mk oB (by omega) mvX.t (hS.n.1) hS.t 1 (by decide) (by simp only [List.length_append, List.length_nil, List.length_cons]; omega) (by have := En.b_typ hS; omega)) ?_
  rintro _ H6 ⟨vm1, mk, oB⟩
  have bx := oB.blk bxP
  have o0 := oX.trans oB
  have zm := mk.lt
  refine KL.nil (KQ.sr (KL.run 2 rfl (KL.ld rfl (cell_of bx rfl) ?_)))
  refine KL.c rfl Tryz.call16 (imported_sec mk oB (by omega) hTX mvX.i (hS.n.2.1) hS.i 2 (by decide) (by simp only [List.length_append, List.length_nil, List.length_cons]; omega) (by have := En.b_imp hS; omega)) ?_
  rintro _ H7 ⟨vm2, mk, oB⟩
  have bx := oB.blk bxP
  have o0 := oX.trans oB
  have zm := mk.lt
  refine KL.nil (KQ.sr (KL.run 2 rfl (KL.ld rfl (cell_of bx rfl) ?_)))
  refine KL.c rfl Tryz.call19 (u32_sec mk oB (by omega) mvX.f (hS.n.2.2.1) 3 (by decide) (by simp only [List.length_append, List.length_nil, List.length_cons]; omega) (by have := En.b_fun hS; omega)) ?_
  rintro _ H8 ⟨vm3, mk, oB⟩
  have bx := oB.blk bxP
  have o0 := oX.trans oB
  have zm := mk.lt
  refine KL.nil (KQ.sr (KL.run 2 rfl (KL.ld rfl (cell_of bx rfl) ?_)))
  refine KL.c rfl Tryz.call22 (table_sec mk oB (by omega) mvX.tb (hS.n.2.2.2.1) 4 (by decide) (by simp only [List.length_append, List.length_nil, List.length_cons]; omega) (by have := En.b_tab hS; omega)) ?_
  rintro _ H9 ⟨vm4, mk, oB⟩
  have bx := oB.blk bxP
  have o0 := oX.trans oB
  have zm := mk.lt
  refine KL.nil (KQ.sr (KL.run 2 rfl (KL.ld rfl (cell_of bx rfl) ?_)))
  refine KL.c rfl Tryz.call22 (limits_sec mk oB (by omega) mvX.me (hS.n.2.2.2.2.1) 5 (by decide) (by simp only [List.length_append, List.length_nil, List.length_cons]; omega) (by have := En.b_mem hS; omega)) ?_
  rintro _ H10 ⟨vm5, mk, oB⟩
  have bx := oB.blk bxP
  have o0 := oX.trans oB
  have zm := mk.lt
  refine KL.nil (KQ.sr (KL.run 2 rfl (KL.ld rfl (cell_of bx rfl) ?_)))
  refine KL.c rfl Tryz.call27 (global_sec mk oB (by omega) mvX.g (hS.n.2.2.2.2.2.1) hS.g 6 (by decide) (by simp only [List.length_append, List.length_nil, List.length_cons]; omega) (by have := En.b_glo hS; omega)) ?_
  rintro _ H11 ⟨vm6, mk, oB⟩
  have bx := oB.blk bxP
  have o0 := oX.trans oB
  have zm := mk.lt
  refine KL.nil (KQ.sr (KL.run 2 rfl (KL.ld rfl (cell_of bx rfl) ?_)))
  refine KL.c rfl Tryz.call30 (export_sec mk oB (by omega) hTX mvX.e (hS.n.2.2.2.2.2.2.1) hS.e 7 (by decide) (by simp only [List.length_append, List.length_nil, List.length_cons]; omega) (by have := En.b_exp hS; omega)) ?_
  rintro _ H12 ⟨vm7, mk, oB⟩
  have bx := oB.blk bxP
  have o0 := oX.trans oB
  have zm := mk.lt
  refine KL.nil (KQ.seq (KC.seq (KC.sr (KL.run 1 rfl (KL.ld rfl (cell_of bx rfl) (KL.nil (KQ.seq ?_)))))))
  refine KC.iq rfl ?_ ?_
  · intro hc55
    have bm := mk.b
    have wo := mk.w
    have hvm := wo.lt
    have hvl : vblock vm7 < Array.size H12 := wo.blt (by omega)
    refine KC.text (clOf [(8, 2), (10, 2), (11, 2), (14, 2)]) (fun i Hc => (i = 4 → Hc[(Array.size H1)]? = some _) ∧ (i = 6 → Hc[Array.size H]? = some _)) (by kernel_rfl) (by kernel_rfl) (fun _ => ⟨fun _ => bm, fun _ => bx⟩) ?_
    refine KP.run 4 rfl rfl ?_
    refine KP.op rfl (fun Hg hg => R.load rfl U44 rfl rfl (cell_of (hg.1 rfl) rfl)) rfl rfl rfl ?_
    refine KP.run 1 rfl rfl ?_
    refine KP.op rfl (fun Hg hg => R.load rfl U28 rfl rfl (cell_of (hg.2 rfl) rfl)) rfl rfl rfl ?_
    refine KP.op rfl (fun Hg hg => R.convI rfl U28 U95 rfl (by have := mv.s; dsimp only [InR] at *; omega)) rfl rfl rfl ?_
    refine KP.call rfl rfl rfl rfl rfl Tryz.call33 rfl rfl rfl (AppendU_big _ _ _ (Sl.nil _ _ _) (by simp) (by have := mv.s; dsimp only [InR] at *; omega) (by have := mv.s; dsimp only [InR] at *; omega)) (fun _ _ hR j _ _ => ⟨fun _ => hR.2.blk bm, fun _ => hR.2.blk bx⟩) ?_
    rintro va H13 ⟨ww, ox⟩
    have zc_H13 := (ox).1
    have o0 := o0.trans ox
    have mk := mk.old ox
    have oB := oB.trans ox
    have bx := (ox).blk bx
    have bm := (ox).blk bm
    have wo := wo.old ox
    refine KP.op rfl (fun Hg hg => R.buildL rfl U48 zr48 [(0, 1), (1, 1)] (fun w => by kernel_rfl) rfl ⟨⟨_, rfl, rfl⟩, ⟨_, rfl, rfl⟩, trivial⟩ rfl rfl ⟨⟨_, rfl, by rfl⟩, ⟨_, rfl, by exact ww.cells1⟩, trivial⟩ rfl) rfl rfl rfl ?_
    refine KP.opM rfl (M.lit rfl U44 zs48 (by decide) rfl rfl rfl) rfl rfl rfl (fun _ _ hR j _ _ => ⟨fun _ => hR.2.1.blk bm, fun _ => hR.2.1.blk bx⟩) ?_
    rintro _ H14 ⟨rfl, n14⟩
    have z14 := n14.2.1
    have o0 := o0.trans n14.1
    have mk := mk.old n14.1
    have oB := oB.trans n14.1
    have bx := (n14.1).blk bx
    have bm := (n14.1).blk bm
    have wo := wo.old n14.1
    have ww := ww.old n14.1
    have b14 := n14.2.2
    have se : Sl 2 (FK ESec H14 (vblock vm7 :: [(Array.size H1)])) H14 _ [((8 : Int), ([] : List Int) ++ Lb.ap m.start)] := Sl.lit1N n14 rfl (by decide) (fun H2 kx => ⟨_, rfl, fk_own ww (lt2 hvl (by omega)) H2 kx, (show InR .u8 8 from by decide)⟩)
    have hvm := wo.lt
    have lt15 := wo.lt
    refine KP.opM rfl (M.appendE rfl U44 inf48 rfl (by decide) rfl rfl wo (se) (by omega) (by simp only [List.length_append, List.length_nil, List.length_cons]; omega) (by unfold maxLen; simp only [List.length_append, List.length_nil, List.length_cons]; omega)) rfl rfl rfl (fun _ _ hR j _ _ => ⟨fun _ => (hR.2.1.2 _ (blk_lt bm) (hvm.imp id (fun e => by omega))).trans bm, fun _ => (hR.2.1.2 _ (blk_lt bx) (hvm.imp id (fun e => by omega))).trans bx⟩) ?_
    rintro vn H15 ⟨w15, g15, nx15⟩
    try dsimp only at g15 nx15
    have ob15 := g15.oldBE wo (by omega)
    have o0 := o0.then ob15 (by omega)
    have z15 := ob15.1
    have oB := oB.then ob15 (by omega)
    have bx := (g15.2 _ (blk_lt bx) (by exact lt15.imp id (fun h => by omega))).trans bx
    have bm := (g15.2 _ (blk_lt bm) (by exact lt15.imp id (fun h => by omega))).trans bm
    have wo := w15
    refine KP.run 2 rfl rfl ?_
    refine KP.opS rfl (S.store rfl sz44 rfl rfl (OwnE.own wo).cells1 (OwnE.own wo).one bm (by simp)) rfl rfl (fun _ h j hj1 hj2 => ⟨fun hj => by subst hj; exact absurd (by decide +kernel) hj2, fun hj => by subst hj; exact absurd (by decide +kernel) hj2⟩) ?_
    rintro H16 ⟨u16, b16⟩
    have o0 := o0.upd u16 (by omega)
    have zu16 := u16.1
    have oB := oB.upd u16 (by omega)
    have bx := ((u16).2 _ (by omega)).trans bx
    have wo := wo.upd u16 (by simp) (by exact wo.lt.imp id (fun h => by omega))
    have bm := b16
    have mk := MK.mk bm wo
    have vm7 := vn
    refine KP.nil (KQ.sr (KL.run 2 rfl (KL.ld rfl (cell_of bx rfl) ?_)))
    refine KL.c rfl Tryz.call34 (elem_sec mk oB (by omega) mvX.el (hS.n.2.2.2.2.2.2.2.1) hS.el 9 (by decide) (by simp only [List.length_append, List.length_nil, List.length_cons]; omega) (by have := En.b_elm hS; omega)) ?_
    rintro _ H17 ⟨vm9, mk, oB⟩
    have bx := oB.blk bxP
    have o0 := oX.trans oB
    have zm := mk.lt
    refine KL.nil (KQ.sr (KL.run 2 rfl (KL.ld rfl (cell_of bx rfl) ?_)))
    refine KL.c rfl Tryz.call37 (code_sec mk oB (by omega) mvX.c (hS.n.2.2.2.2.2.2.2.2.1) hS.c 10 (by decide) (by simp only [List.length_append, List.length_nil, List.length_cons]; omega) (by have := En.b_cod hS; omega)) ?_
    rintro _ H18 ⟨vm10, mk, oB⟩
    have bx := oB.blk bxP
    have o0 := oX.trans oB
    have zm := mk.lt
    refine KL.nil (KQ.sr (KL.run 2 rfl (KL.ld rfl (cell_of bx rfl) ?_)))
    refine KL.c rfl Tryz.call40 (data_sec mk oB (by omega) mvX.d (hS.n.2.2.2.2.2.2.2.2.2) hS.d 11 (by decide) (by simp only [List.length_append, List.length_nil, List.length_cons]; omega) (by have := En.b_dat hS; omega)) ?_
    rintro _ H19 ⟨vm11, mk, oB⟩
    have bx := oB.blk bxP
    have o0 := oX.trans oB
    have zm := mk.lt
    have mk := mk.cast (l' := En.secs m) (bad' := !En.ok m) (by simp [En.secs, En.u, hc55]) (En.ok_bad m)
    refine KL.nil (KQ.seq (KC.seq (KC.sr (KL.run 3 rfl (KL.ld rfl (cell_of mk.b rfl) (KL.nil (KQ.seq ?_)))))))
    refine KC.iq rfl ?_ ?_
    · intro hc85
      refine KC.sr (KL.fin 2 rfl (KQ.seq (KC.ret (KQ.retThen (KQ.ofRet (KQ.fin2 V7 rfl rfl ?_))))))
      exact ⟨.inl ⟨hc85, rfl⟩, o0⟩
    intro hc85
    refine KC.skip (KQ.sr (KL.run 3 rfl (KL.ld rfl (cell_of mk.b rfl) ?_)))
    refine KL.c rfl Tryz.call43 (Join_bin (b := En.bin m) (mk.w.sl (by decide)) (En.body_secs hS) (En.join_secs hS)) ?_
    rintro _ H20 ⟨w, rfl, sw, ox⟩
    have zc_H20 := (ox).1
    have o0 := o0.trans ox
    have mk := mk.old ox
    have oB := oB.trans ox
    have bx := (ox).blk bx
    refine KL.fin 5 rfl (KQ.seq (KC.seq (KC.sr (KL.run 1 rfl (KL.q ((R.neq rfl rfl rfl).val ((congrArg (fun b => Value.bool (!b)) (decide_eq_true rfl)))) rfl (KL.nil (KQ.seq (KC.condF rfl (KC.skip (KQ.seq (KC.seq (KC.seq ?_))))))))))))
    refine KC.region (KL.run 1 rfl (KL.q (R.lenS rfl U34 rfl sw) rfl (KL.fin 1 rfl (KQ.seq ?_))))
    refine KC.iq rfl ?_ ?_
    · intro hc99
      refine KC.sr (KL.fin 2 rfl (KQ.seq (KC.ret (KQ.retThen (KQ.ofRet (KQ.fin2 V7 rfl rfl ?_))))))
      exact ⟨.inr (.inl ⟨hc85, by omega, rfl⟩), o0⟩
    intro hc99
    refine KC.skip (KQ.sr (KL.fin 3 rfl (KQ.seq (KC.ret (KQ.ofRet (KQ.fin2 V7 rfl rfl ?_))))))
    exact ⟨.inr (.inr ⟨hc85, by omega, _, rfl, sw⟩), o0⟩
  intro hc55
  refine KC.skip (KQ.sr (KL.run 2 rfl (KL.ld rfl (cell_of bx rfl) ?_)))
  refine KL.c rfl Tryz.call34 (elem_sec mk oB (by omega) mvX.el (hS.n.2.2.2.2.2.2.2.1) hS.el 9 (by decide) (by simp only [List.length_append, List.length_nil, List.length_cons]; omega) (by have := En.b_elm hS; omega)) ?_
  rintro _ H21 ⟨vm9, mk, oB⟩
  have bx := oB.blk bxP
  have o0 := oX.trans oB
  have zm := mk.lt
  refine KL.nil (KQ.sr (KL.run 2 rfl (KL.ld rfl (cell_of bx rfl) ?_)))
  refine KL.c rfl Tryz.call37 (code_sec mk oB (by omega) mvX.c (hS.n.2.2.2.2.2.2.2.2.1) hS.c 10 (by decide) (by simp only [List.length_append, List.length_nil, List.length_cons]; omega) (by have := En.b_cod hS; omega)) ?_
  rintro _ H22 ⟨vm10, mk, oB⟩
  have bx := oB.blk bxP
  have o0 := oX.trans oB
  have zm := mk.lt
  refine KL.nil (KQ.sr (KL.run 2 rfl (KL.ld rfl (cell_of bx rfl) ?_)))
  refine KL.c rfl Tryz.call40 (data_sec mk oB (by omega) mvX.d (hS.n.2.2.2.2.2.2.2.2.2) hS.d 11 (by decide) (by simp only [List.length_append, List.length_nil, List.length_cons]; omega) (by have := En.b_dat hS; omega)) ?_
  rintro _ H23 ⟨vm11, mk, oB⟩
  have bx := oB.blk bxP
  have o0 := oX.trans oB
  have zm := mk.lt
  have mk := mk.cast (l' := En.secs m) (bad' := !En.ok m) (by simp [En.secs, En.u, hc55]) (En.ok_bad m)
  refine KL.nil (KQ.seq (KC.seq (KC.sr (KL.run 3 rfl (KL.ld rfl (cell_of mk.b rfl) (KL.nil (KQ.seq ?_)))))))
  refine KC.iq rfl ?_ ?_
  · intro hc85
    refine KC.sr (KL.fin 2 rfl (KQ.seq (KC.ret (KQ.retThen (KQ.ofRet (KQ.fin2 V7 rfl rfl ?_))))))
    exact ⟨.inl ⟨hc85, rfl⟩, o0⟩
  intro hc85
  refine KC.skip (KQ.sr (KL.run 3 rfl (KL.ld rfl (cell_of mk.b rfl) ?_)))
  refine KL.c rfl Tryz.call43 (Join_bin (b := En.bin m) (mk.w.sl (by decide)) (En.body_secs hS) (En.join_secs hS)) ?_
  rintro _ H24 ⟨w, rfl, sw, ox⟩
  have zc_H24 := (ox).1
  have o0 := o0.trans ox
  have mk := mk.old ox
  have oB := oB.trans ox
  have bx := (ox).blk bx
  refine KL.fin 5 rfl (KQ.seq (KC.seq (KC.sr (KL.run 1 rfl (KL.q ((R.neq rfl rfl rfl).val ((congrArg (fun b => Value.bool (!b)) (decide_eq_true rfl)))) rfl (KL.nil (KQ.seq (KC.condF rfl (KC.skip (KQ.seq (KC.seq (KC.seq ?_))))))))))))
  refine KC.region (KL.run 1 rfl (KL.q (R.lenS rfl U34 rfl sw) rfl (KL.fin 1 rfl (KQ.seq ?_))))
  refine KC.iq rfl ?_ ?_
  · intro hc99
    refine KC.sr (KL.fin 2 rfl (KQ.seq (KC.ret (KQ.retThen (KQ.ofRet (KQ.fin2 V7 rfl rfl ?_))))))
    exact ⟨.inr (.inl ⟨hc85, by omega, rfl⟩), o0⟩
  intro hc99
  refine KC.skip (KQ.sr (KL.fin 3 rfl (KQ.seq (KC.ret (KQ.ofRet (KQ.fin2 V7 rfl rfl ?_))))))
  exact ⟨.inr (.inr ⟨hc85, by omega, _, rfl, sw⟩), o0⟩
end Go.Proofs.YtldmfchamcpmmaaGreatDoor
namespace Go.Proofs.YtldmfchamcpmmaaGreatDoor.Ord
open Go
end Go.Proofs.YtldmfchamcpmmaaGreatDoor.Ord
namespace Go.Proofs.YtldmfchamcpmmaaGreatDoor
open Go Go.RowKit
theorem En.u_pos {z : Int} (hz : 0 ≤ z ∧ z < 4294967296) : 0 < (En.u z).length := (Lb.ap_length hz.1 (by omega)).1
namespace En
noncomputable def scN (m : Mo) (i : Nat) : List Sec := match i with
  | 1 => sec 1 typB m.types | 2 => sec 2 impB m.imports | 3 => sec 3 u m.funcs | 4 => sec 4 tabB m.tables | 5 => sec 5 limB m.mems | 6 => sec 6 gloB m.globs | 7 => sec 7 expB m.exports
  | 8 => if m.hasStart = true then [(8, u m.start)] else [] | 9 => sec 9 elmB m.elems | 10 => sec 10 codB m.codes | 11 => sec 11 datB m.datas | _ => []
noncomputable def acc (m : Mo) : Nat → List Sec
  | 0 => []
  | n + 1 => acc m n ++ scN m (n + 1)
end En
theorem Own.pos {α : Type} {n : Nat} {E : El α} {e : TypeId} {H0 H : Heap} {B : Nat} {v : Value} {l : List α} (h : Own n E e H0 B H v l) (hl : 0 < l.length) : B ≤ vblock v ∧ vblock v < H.size := by
  rcases h.lt with e | e
  · subst e
    obtain ⟨flat, ⟨_, hc⟩, _⟩ := h
    rcases hc with ⟨_, hc⟩ | ⟨g, cap, cur, hv, _⟩
    · omega
    cases hv
  exact e
/-- what the form's reach says of a list of instructions -/
def InsB (xs : List Ins) : Prop := xs.length ≤ 140737488351232 ∧ ∀ y ∈ xs, y.l.length ≤ 70368744177664
/-- what the form's reach says of a module -/
structure Szd (m : Mo) : Prop where
  n : m.types.length ≤ 140737488351232 ∧ m.imports.length ≤ 140737488351232 ∧ m.funcs.length ≤ 140737488351232 ∧ m.tables.length ≤ 140737488351232 ∧ m.mems.length ≤ 140737488351232 ∧ m.globs.length ≤ 140737488351232 ∧ m.exports.length ≤ 140737488351232 ∧ m.elems.length ≤ 140737488351232 ∧ m.codes.length ≤ 140737488351232 ∧ m.datas.length ≤ 140737488351232
  t : ∀ x ∈ m.types, x.1.length ≤ 140737488351232 ∧ x.2.length ≤ 140737488351232
  i : ∀ x ∈ m.imports, x.mod.size ≤ 140737488351232 ∧ x.nam.size ≤ 140737488351232
  e : ∀ x ∈ m.exports, x.nam.size ≤ 140737488351232
  g : ∀ x ∈ m.globs, InsB x.2
  el : ∀ x ∈ m.elems, InsB x.2.1 ∧ x.2.2.length ≤ 140737488351232
  c : ∀ x ∈ m.codes, InsB x.2 ∧ x.1.length ≤ 140737488351232
  d : ∀ x ∈ m.datas, InsB x.2.1 ∧ x.2.2.length ≤ 140737488351232
theorem mem_all {α : Type} [Inhabited α] {p : α → Prop} {l : List α} (h : ∀ j, j < l.length → p (l.getD j default)) : ∀ x ∈ l, p x := by
  intro x hx
  obtain ⟨j, hj, rfl⟩ := List.getElem_of_mem hx
  have := h j hj
  rwa [List.getD_eq_getElem?_getD, List.getElem?_eq_getElem hj] at this
def hvyGo (xs : List Ins) : Nat → Nat → Int → Int
  | 0, _, n => n
  | f + 1, k, n => if k < xs.length ∧ n ≤ 4000 then hvyGo xs f (k + 1) (n + ((xs.getD k default).l.length : Nat)) else n
/-- how many instructions and labels a list has, as far as they are counted -/
def hvy (xs : List Ins) : Int := hvyGo xs (xs.length + 1) 0 (xs.length : Nat)
theorem hvyGo_is {xs : List Ins} (hB : InsB xs) : ∀ (f k : Nat) (n : Int), k ≤ xs.length → n + k = xs.length + Isp.bulk (xs.take k) → 0 ≤ n → n ≤ 300000000000000 → xs.length + 1 ≤ f + k → 0 ≤ hvyGo xs f k n ∧ hvyGo xs f k n ≤ 300000000000000 ∧ (hvyGo xs f k n ≤ 4000 → Isp.bulk xs ≤ 4000)
  | 0, k, n, hk, hb, h0, h1, hf => by omega
  | f + 1, k, n, hk, hb, h0, h1, hf => by
    unfold hvyGo
    split
    · rename_i hc
      have hlb := hB.2 _ (En.getD_memD (l := xs) (k := k) (by omega))
      exact hvyGo_is hB f (k + 1) _ (by omega) (by rw [Isp.bulk_step hc.1]; omega) (by omega) (by omega) (by omega)
    rename_i hc
    refine ⟨h0, h1, fun h9 => ?_⟩
    have hkl : k = xs.length := by omega
    rw [hkl, List.take_length] at hb; omega
theorem hvy_is {xs : List Ins} (hB : InsB xs) : 0 ≤ hvy xs ∧ hvy xs ≤ 300000000000000 ∧ (hvy xs ≤ 4000 → Isp.bulk xs ≤ 4000) :=
  hvyGo_is hB _ 0 _ (Nat.zero_le _) (by simp [Isp.bulk]) (by omega) (by have := hB.1; omega) (by omega)
theorem hvy_step {xs : List Ins} {k : Nat} {n : Int} (hk : k < xs.length) (hn : n ≤ 4000) : hvyGo xs (xs.length + 1 - k) k n = hvyGo xs (xs.length + 1 - (k + 1)) (k + 1) (n + ((xs.getD k default).l.length : Nat)) := by
  rw [show xs.length + 1 - k = (xs.length + 1 - (k + 1)) + 1 by omega]
  conv => lhs; unfold hvyGo
  rw [if_pos ⟨hk, hn⟩]
theorem hvy_stop {xs : List Ins} {k : Nat} {n : Int} (hk : k ≤ xs.length) (h : ¬ (k < xs.length ∧ n ≤ 4000)) : hvyGo xs (xs.length + 1 - k) k n = n := by
  rw [show xs.length + 1 - k = (xs.length - k) + 1 by omega]
  unfold hvyGo
  rw [if_neg h]
theorem heavy_any {H : Heap} {v : Value} {xs : List Ins} (hs : Sl 5 EIns H v xs) (hB : InsB xs) : Ct Tryz.prog 12 [v] H (fun u H' => u = .int .i64 (hvy xs) ∧ H = H') := by
  refine Ct.mk Tryz.func12 rfl Tryz.ntmps12 rfl ?_
  intro W0 hW0
  have o0 : Old H H := Old.refl H
  have hxl := hB.1
  refine KC.sr (KL.fin 1 rfl (KQ.sr (KL.run 1 rfl (KL.q (R.lenS rfl U52 rfl hs) rfl (KL.fin 1 rfl (KQ.seq (KC.seq (KC.sr (KL.fin 1 rfl ?_)))))))))
  refine KQ.seq (KC.block ?_)
  refine KC.loopD (κ := Nat × Int) [7, 8, 9, 10, 11, 12, 13, 14, 17, 18, 19, 20, 21, 22, 23, 24, 3, 15, 16, 4] (fun k => [(4, .int .i64 (k.1 : Nat)), (3, .int .i64 k.2)]) (fun k Hl => k.1 ≤ xs.length ∧ hvy xs = hvyGo xs (xs.length + 1 - k.1) k.1 k.2 ∧ 0 ≤ k.2 ∧ k.2 ≤ 300000000000000 ∧ H = Hl) (fun k => xs.length - k.1) (0, (xs.length : Nat)) ?_ ?_ ?_
  · exact Sub.all rfl
  · exact ⟨Nat.zero_le _, rfl, by dsimp only; omega, by dsimp only; omega, rfl⟩
  rintro ⟨k, n⟩ H1 ⟨hk, hb, hn0, hn1, rfl⟩
  dsimp only at hk hb hn0 hn1
  refine KC.seq (KC.sr (KL.run 2 rfl (KL.q (R.lenS rfl U52 rfl hs) rfl (KL.run 2 rfl ?_))))
  refine KL.opG (fun hq => R.move rfl rfl) rfl rfl rfl ?_
  refine KL.opG (fun hq => R.leq (k := .i64) (a := n) rfl (by rw [hq]; rfl) rfl) rfl rfl rfl ?_
  refine KL.q (R.and (s := decide (n ≤ 4000)) rfl rfl (fun hq => by rw [hq]; rfl)) rfl ?_
  refine KL.nil (KQ.seq ?_)
  refine KC.iq rfl ?_ ?_
  · intro hc14
    try dsimp only at hc14
    obtain ⟨vl, hcx, hcl, hxr⟩ := hs.insV k (by omega)
    have hlb := hB.2 _ (En.getD_memD (l := xs) (k := k) (by omega))
    refine KC.skip (KQ.seq (KC.seq (KC.block (KC.region (KL.run 3 rfl ?_)))))
    refine KL.q (R.index (j := k) rfl U52 sz126 rfl rfl hs rfl (by omega)) rfl ?_
    refine KL.q (R.fieldAddrP rfl U126 rfl rfl sz24 rfl) rfl (KL.ld rfl (hcx 4 _ rfl) (KL.q (R.lenS rfl U24 rfl hcl) rfl ?_))
    refine KL.q (R.add rfl rfl rfl (by dsimp only [InR]; omega)) rfl ?_
    refine KL.fin 1 rfl (KQ.normBlock (KQ.r (KL.run 1 rfl ?_)))
    refine KL.q ((R.add rfl rfl rfl (by dsimp only [InR]; omega)).val (congrArg (Value.int .i64) (show (k : Int) + 1 = ((k + 1 : Nat) : Int) by omega))) rfl ?_
    refine KL.fin 1 rfl ?_
    refine KQ.again ((k + 1, n + ((xs.getD k default).l.length : Nat))) ?_ ?_ ?_
    · exact Sub.all rfl
    · show xs.length - (k + 1) < xs.length - k; omega
    exact ⟨by show k + 1 ≤ _; omega, by dsimp only; rw [← hvy_step (by omega) (by omega)]; exact hb, by dsimp only; omega, by dsimp only; omega, rfl⟩
  intro hc14
  try dsimp only at hc14
  simp only [Bool.and_eq_false_iff, decide_eq_false_iff_not] at hc14
  refine KC.exit (KQ.exitThen (KQ.exitThen (KQ.hit (KQ.sr (KL.fin 2 rfl (KQ.seq (KC.ret (KQ.ofRet (KQ.fin1 Tryz.results12 rfl ?_)))))))))
  exact ⟨congrArg (Value.int .i64) (by rw [hb, hvy_stop hk (by omega)]), rfl⟩
theorem Great_any {H : Heap} {t i f tb me g e el c d : Value} {m : Mo} (mv : MoV H t i f tb me g e el c d m) (hZ : Szd m) : Ct Tryz.prog 6 [.agg [t, i, f, tb, me, g, e, .bool m.hasStart, .int .u32 m.start, el, c, d].toArray] H (fun u H' => ∃ hv, u = .bool hv ∧ (hv = false → En.Small m) ∧ Old H H') := by
  refine Ct.mk Tryz.func6 rfl Tryz.ntmps6 rfl ?_
  intro W0 hW0
  have o0 : Old H H := Old.refl H
  obtain ⟨z1, z2, z3, z4, z5, z6, z7, z8, z9, z10⟩ := hZ.n
  refine KC.sr ?_
  refine KL.m (M.box rfl rfl rfl) rfl ?_
  rintro _ H1 ⟨rfl, n1⟩
  have z1 := n1.2.1
  have o0 := o0.trans n1.1
  have b1 := n1.2.2
  have bx := b1
  refine KL.fin 1 rfl (KQ.sr (KL.run 1 rfl (KL.ld rfl (cell_of bx rfl) (KL.q (R.lenS rfl U22 rfl (mv.t.old o0)) rfl (KL.run 1 rfl (KL.ld rfl (cell_of bx rfl) (KL.q (R.lenS rfl U23 rfl (mv.i.old o0)) rfl ?_)))))))
  refine KL.q (R.add rfl rfl rfl (by dsimp only [InR]; omega)) rfl ?_
  refine KL.run 1 rfl (KL.ld rfl (cell_of bx rfl) (KL.q (R.lenS rfl U24 rfl (mv.f.old o0)) rfl ?_))
  refine KL.q (R.add rfl rfl rfl (by dsimp only [InR]; omega)) rfl ?_
  refine KL.run 1 rfl (KL.ld rfl (cell_of bx rfl) (KL.q (R.lenS rfl U25 rfl (mv.tb.old o0)) rfl ?_))
  refine KL.q (R.add rfl rfl rfl (by dsimp only [InR]; omega)) rfl ?_
  refine KL.run 1 rfl (KL.ld rfl (cell_of bx rfl) (KL.q (R.lenS rfl U25 rfl (mv.me.old o0)) rfl ?_))
  refine KL.q (R.add rfl rfl rfl (by dsimp only [InR]; omega)) rfl ?_
  refine KL.run 1 rfl (KL.ld rfl (cell_of bx rfl) (KL.q (R.lenS rfl U26 rfl (mv.g.old o0)) rfl ?_))
  refine KL.q (R.add rfl rfl rfl (by dsimp only [InR]; omega)) rfl ?_
  refine KL.run 1 rfl (KL.ld rfl (cell_of bx rfl) (KL.q (R.lenS rfl U27 rfl (mv.e.old o0)) rfl ?_))
  refine KL.q (R.add rfl rfl rfl (by dsimp only [InR]; omega)) rfl ?_
  refine KL.run 1 rfl (KL.ld rfl (cell_of bx rfl) (KL.q (R.lenS rfl U29 rfl (mv.el.old o0)) rfl ?_))
  refine KL.q (R.add rfl rfl rfl (by dsimp only [InR]; omega)) rfl ?_
  refine KL.run 1 rfl (KL.ld rfl (cell_of bx rfl) (KL.q (R.lenS rfl U30 rfl (mv.c.old o0)) rfl ?_))
  refine KL.q (R.add rfl rfl rfl (by dsimp only [InR]; omega)) rfl ?_
  refine KL.run 1 rfl (KL.ld rfl (cell_of bx rfl) (KL.q (R.lenS rfl U31 rfl (mv.d.old o0)) rfl ?_))
  refine KL.q (R.add rfl rfl rfl (by dsimp only [InR]; omega)) rfl ?_
  refine KL.fin 1 rfl (KQ.seq (KC.seq (KC.sr (KL.fin 1 rfl (KQ.seq (KC.block ?_))))))
  refine KC.loopD (κ := Nat × Int) [50, 51, 52, 53, 54, 55, 56, 57, 58, 61, 62, 63, 64, 65, 66, 67, 68, 69, 70, 71, 72, 73, 74, 75, 76, 77, 3, 59, 60, 4] (fun k => [(4, .int .i64 (k.1 : Nat)), (3, .int .i64 k.2)]) (fun k Hl => k.1 ≤ m.types.length ∧ ((m.types.length : Int) + (m.imports.length : Int) + (m.funcs.length : Int) + (m.tables.length : Int) + (m.mems.length : Int) + (m.globs.length : Int) + (m.exports.length : Int) + (m.elems.length : Int) + (m.codes.length : Int) + (m.datas.length : Int)) ≤ k.2 ∧ k.2 ≤ 2000000000000000 ∧ (∀ j, j < k.1 → k.2 ≤ 4000 → (m.types.getD j default).1.length ≤ 4000 ∧ (m.types.getD j default).2.length ≤ 4000) ∧ H1 = Hl) (fun k => m.types.length - k.1) (0, ((m.types.length : Int) + (m.imports.length : Int) + (m.funcs.length : Int) + (m.tables.length : Int) + (m.mems.length : Int) + (m.globs.length : Int) + (m.exports.length : Int) + (m.elems.length : Int) + (m.codes.length : Int) + (m.datas.length : Int))) ?_ ?_ ?_
  · exact Sub.all rfl
  · exact ⟨Nat.zero_le _, Int.le_refl _, by dsimp only; omega, fun j hj => absurd hj (Nat.not_lt_zero _), rfl⟩
  rintro ⟨k1, n1⟩ H2 ⟨hk1, hn1, hm1, hP1, rfl⟩
  dsimp only at hk1 hn1 hm1 hP1
  have hz1 : 0 ≤ n1 := by omega
  refine KC.seq (KC.sr (KL.run 2 rfl (KL.ld rfl (cell_of bx rfl) (KL.q (R.lenS rfl U22 rfl (mv.t.old o0)) rfl (KL.run 2 rfl ?_)))))
  refine KL.opG (fun hq => R.move rfl rfl) rfl rfl rfl ?_
  refine KL.opG (fun hq => R.leq (k := .i64) (a := n1) rfl (by rw [hq]; rfl) rfl) rfl rfl rfl ?_
  refine KL.q (R.and (s := decide (n1 ≤ 4000)) rfl rfl (fun hq => by rw [hq]; rfl)) rfl ?_
  refine KL.nil (KQ.seq ?_)
  refine KC.iq rfl ?_ ?_
  · intro hc58
    try dsimp only at hc58
    obtain ⟨cs, hcl, hcx, a, b, rfl, ha, hb⟩ := mv.t.at k1 (by omega)
    have hsz := hZ.t _ (En.getD_memD (l := m.types) (k := k1) (by omega))
    refine KC.skip (KQ.seq (KC.seq (KC.block (KC.quiet (by kernel_rfl) (by kernel_rfl) (KD.run 2 rfl (KD.ld rfl (cell_of bx rfl) (KD.run 1 rfl ?_)))))))
    refine KD.op (R.index (j := k1) rfl U22 sz50 rfl rfl (mv.t.old o0) rfl (by omega)) rfl rfl rfl ?_
    refine KD.op (R.fieldAddrP rfl U50 rfl rfl sz34 rfl) rfl rfl rfl (KD.ld rfl ((o0.cells hcx) 0 _ rfl) (KD.op (R.lenS rfl U34 rfl (ha.old o0)) rfl rfl rfl ?_))
    refine KD.op (R.add rfl rfl rfl (by dsimp only [InR]; omega)) rfl rfl rfl ?_
    refine KD.run 1 rfl (KD.ld rfl (cell_of bx rfl) (KD.run 1 rfl ?_))
    refine KD.op (R.index (j := k1) rfl U22 sz50 rfl rfl (mv.t.old o0) rfl (by omega)) rfl rfl rfl ?_
    refine KD.op (R.fieldAddrP rfl U50 rfl rfl sz34 rfl) rfl rfl rfl (KD.ld rfl ((o0.cells hcx) 1 _ rfl) (KD.op (R.lenS rfl U34 rfl (hb.old o0)) rfl rfl rfl ?_))
    refine KD.op (R.add rfl rfl rfl (by dsimp only [InR]; omega)) rfl rfl rfl ?_
    refine KD.fin 1 rfl (KQ.normBlock (KQ.r (KL.run 1 rfl ?_)))
    refine KL.q ((R.add rfl rfl rfl (by dsimp only [InR]; omega)).val (congrArg (Value.int .i64) (show (k1 : Int) + 1 = ((k1 + 1 : Nat) : Int) by omega))) rfl ?_
    refine KL.fin 1 rfl ?_
    refine KQ.again ((k1 + 1, n1 + ((m.types.getD k1 default).1.length : Nat) + ((m.types.getD k1 default).2.length : Nat))) ?_ ?_ ?_
    · exact Sub.all rfl
    · show m.types.length - (k1 + 1) < m.types.length - k1; omega
    exact ⟨by show k1 + 1 ≤ _; omega, by dsimp only; omega, by dsimp only; omega, fun j hj h9 => by dsimp only at hj h9; rcases (by omega : j < k1 ∨ j = k1) with h8 | rfl; exact hP1 j h8 (by omega); omega, rfl⟩
  intro hc58
  try dsimp only at hc58
  simp only [Bool.and_eq_false_iff, decide_eq_false_iff_not] at hc58
  refine KC.exit (KQ.exitThen (KQ.exitThen (KQ.hit (KQ.seq (KC.seq (KC.sr (KL.fin 1 rfl (KQ.seq (KC.block ?_)))))))))
  refine KC.loopD (κ := Nat × Int) [78, 79, 80, 81, 82, 83, 84, 85, 86, 89, 90, 91, 92, 93, 94, 95, 96, 97, 98, 99, 100, 101, 102, 103, 104, 105, 3, 87, 88, 5] (fun k => [(5, .int .i64 (k.1 : Nat)), (3, .int .i64 k.2)]) (fun k Hl => k.1 ≤ m.imports.length ∧ n1 ≤ k.2 ∧ k.2 ≤ 2000000000000000 ∧ (∀ j, j < k.1 → k.2 ≤ 4000 → (m.imports.getD j default).mod.size ≤ 4000 ∧ (m.imports.getD j default).nam.size ≤ 4000) ∧ H1 = Hl) (fun k => m.imports.length - k.1) (0, n1) ?_ ?_ ?_
  · exact Sub.all rfl
  · exact ⟨Nat.zero_le _, Int.le_refl _, by dsimp only; omega, fun j hj => absurd hj (Nat.not_lt_zero _), rfl⟩
  rintro ⟨k2, n2⟩ H3 ⟨hk2, hn2, hm2, hP2, rfl⟩
  dsimp only at hk2 hn2 hm2 hP2
  have hz2 : 0 ≤ n2 := by omega
  refine KC.seq (KC.sr (KL.run 2 rfl (KL.ld rfl (cell_of bx rfl) (KL.q (R.lenS rfl U23 rfl (mv.i.old o0)) rfl (KL.run 2 rfl ?_)))))
  refine KL.opG (fun hq => R.move rfl rfl) rfl rfl rfl ?_
  refine KL.opG (fun hq => R.leq (k := .i64) (a := n2) rfl (by rw [hq]; rfl) rfl) rfl rfl rfl ?_
  refine KL.q (R.and (s := decide (n2 ≤ 4000)) rfl rfl (fun hq => by rw [hq]; rfl)) rfl ?_
  refine KL.nil (KQ.seq ?_)
  refine KC.iq rfl ?_ ?_
  · intro hc86
    try dsimp only at hc86
    obtain ⟨cs, hcl, hcx, rfl, r1, r2, r3, r4, r5⟩ := mv.i.at k2 (by omega)
    have hsz := hZ.i _ (En.getD_memD (l := m.imports) (k := k2) (by omega))
    refine KC.skip (KQ.seq (KC.seq (KC.block (KC.quiet (by kernel_rfl) (by kernel_rfl) (KD.run 2 rfl (KD.ld rfl (cell_of bx rfl) (KD.run 1 rfl ?_)))))))
    refine KD.op (R.index (j := k2) rfl U23 sz61 rfl rfl (mv.i.old o0) rfl (by omega)) rfl rfl rfl ?_
    refine KD.op (R.fieldAddrP rfl U61 rfl rfl sz9 rfl) rfl rfl rfl (KD.ld rfl ((o0.cells hcx) 0 _ rfl) (KD.op (R.lenStr (ty := 0) rfl U9 rfl) rfl rfl rfl ?_))
    refine KD.op (R.add rfl rfl rfl (by dsimp only [InR]; omega)) rfl rfl rfl ?_
    refine KD.run 1 rfl (KD.ld rfl (cell_of bx rfl) (KD.run 1 rfl ?_))
    refine KD.op (R.index (j := k2) rfl U23 sz61 rfl rfl (mv.i.old o0) rfl (by omega)) rfl rfl rfl ?_
    refine KD.op (R.fieldAddrP rfl U61 rfl rfl sz9 rfl) rfl rfl rfl (KD.ld rfl ((o0.cells hcx) 1 _ rfl) (KD.op (R.lenStr (ty := 0) rfl U9 rfl) rfl rfl rfl ?_))
    refine KD.op (R.add rfl rfl rfl (by dsimp only [InR]; omega)) rfl rfl rfl ?_
    refine KD.fin 1 rfl (KQ.normBlock (KQ.r (KL.run 1 rfl ?_)))
    refine KL.q ((R.add rfl rfl rfl (by dsimp only [InR]; omega)).val (congrArg (Value.int .i64) (show (k2 : Int) + 1 = ((k2 + 1 : Nat) : Int) by omega))) rfl ?_
    refine KL.fin 1 rfl ?_
    refine KQ.again ((k2 + 1, n2 + ((m.imports.getD k2 default).mod.size : Nat) + ((m.imports.getD k2 default).nam.size : Nat))) ?_ ?_ ?_
    · exact Sub.all rfl
    · show m.imports.length - (k2 + 1) < m.imports.length - k2; omega
    exact ⟨by show k2 + 1 ≤ _; omega, by dsimp only; omega, by dsimp only; omega, fun j hj h9 => by dsimp only at hj h9; rcases (by omega : j < k2 ∨ j = k2) with h8 | rfl; exact hP2 j h8 (by omega); omega, rfl⟩
  intro hc86
  try dsimp only at hc86
  simp only [Bool.and_eq_false_iff, decide_eq_false_iff_not] at hc86
  refine KC.exit (KQ.exitThen (KQ.exitThen (KQ.hit (KQ.seq (KC.seq (KC.sr (KL.fin 1 rfl (KQ.seq (KC.block ?_)))))))))
  refine KC.loopD (κ := Nat × Int) [106, 107, 108, 109, 110, 111, 112, 113, 114, 117, 118, 119, 120, 121, 122, 123, 124, 125, 3, 115, 116, 6] (fun k => [(6, .int .i64 (k.1 : Nat)), (3, .int .i64 k.2)]) (fun k Hl => k.1 ≤ m.exports.length ∧ n2 ≤ k.2 ∧ k.2 ≤ 2000000000000000 ∧ (∀ j, j < k.1 → k.2 ≤ 4000 → (m.exports.getD j default).nam.size ≤ 4000) ∧ H1 = Hl) (fun k => m.exports.length - k.1) (0, n2) ?_ ?_ ?_
  · exact Sub.all rfl
  · exact ⟨Nat.zero_le _, Int.le_refl _, by dsimp only; omega, fun j hj => absurd hj (Nat.not_lt_zero _), rfl⟩
  rintro ⟨k3, n3⟩ H4 ⟨hk3, hn3, hm3, hP3, rfl⟩
  dsimp only at hk3 hn3 hm3 hP3
  have hz3 : 0 ≤ n3 := by omega
  refine KC.seq (KC.sr (KL.run 2 rfl (KL.ld rfl (cell_of bx rfl) (KL.q (R.lenS rfl U27 rfl (mv.e.old o0)) rfl (KL.run 2 rfl ?_)))))
  refine KL.opG (fun hq => R.move rfl rfl) rfl rfl rfl ?_
  refine KL.opG (fun hq => R.leq (k := .i64) (a := n3) rfl (by rw [hq]; rfl) rfl) rfl rfl rfl ?_
  refine KL.q (R.and (s := decide (n3 ≤ 4000)) rfl rfl (fun hq => by rw [hq]; rfl)) rfl ?_
  refine KL.nil (KQ.seq ?_)
  refine KC.iq rfl ?_ ?_
  · intro hc114
    try dsimp only at hc114
    obtain ⟨cs, hcl, hcx, rfl, r1, r2⟩ := mv.e.at k3 (by omega)
    have hsz := hZ.e _ (En.getD_memD (l := m.exports) (k := k3) (by omega))
    refine KC.skip (KQ.seq (KC.seq (KC.block (KC.region (KL.run 2 rfl (KL.ld rfl (cell_of bx rfl) (KL.run 1 rfl ?_)))))))
    refine KL.q (R.index (j := k3) rfl U27 sz66 rfl rfl (mv.e.old o0) rfl (by omega)) rfl ?_
    refine KL.q (R.fieldAddrP rfl U66 rfl rfl sz9 rfl) rfl (KL.ld rfl ((o0.cells hcx) 0 _ rfl) (KL.q (R.lenStr (ty := 0) rfl U9 rfl) rfl ?_))
    refine KL.q (R.add rfl rfl rfl (by dsimp only [InR]; omega)) rfl ?_
    refine KL.fin 1 rfl (KQ.normBlock (KQ.r (KL.run 1 rfl ?_)))
    refine KL.q ((R.add rfl rfl rfl (by dsimp only [InR]; omega)).val (congrArg (Value.int .i64) (show (k3 : Int) + 1 = ((k3 + 1 : Nat) : Int) by omega))) rfl ?_
    refine KL.fin 1 rfl ?_
    refine KQ.again ((k3 + 1, n3 + ((m.exports.getD k3 default).nam.size : Nat))) ?_ ?_ ?_
    · exact Sub.all rfl
    · show m.exports.length - (k3 + 1) < m.exports.length - k3; omega
    exact ⟨by show k3 + 1 ≤ _; omega, by dsimp only; omega, by dsimp only; omega, fun j hj h9 => by dsimp only at hj h9; rcases (by omega : j < k3 ∨ j = k3) with h8 | rfl; exact hP3 j h8 (by omega); omega, rfl⟩
  intro hc114
  try dsimp only at hc114
  simp only [Bool.and_eq_false_iff, decide_eq_false_iff_not] at hc114
  refine KC.exit (KQ.exitThen (KQ.exitThen (KQ.hit (KQ.seq (KC.seq (KC.sr (KL.fin 1 rfl (KQ.seq (KC.block ?_)))))))))
  refine KC.loopD (κ := Nat × Int) [126, 127, 128, 129, 130, 131, 132, 133, 134, 137, 138, 139, 140, 141, 142, 143, 144, 145, 3, 135, 136, 7] (fun k => [(7, .int .i64 (k.1 : Nat)), (3, .int .i64 k.2)]) (fun k Hl => k.1 ≤ m.globs.length ∧ n3 ≤ k.2 ∧ k.2 ≤ 2000000000000000 ∧ (∀ j, j < k.1 → k.2 ≤ 4000 → Isp.bulk (m.globs.getD j default).2 ≤ 4000) ∧ H1 = Hl) (fun k => m.globs.length - k.1) (0, n3) ?_ ?_ ?_
  · exact Sub.all rfl
  · exact ⟨Nat.zero_le _, Int.le_refl _, by dsimp only; omega, fun j hj => absurd hj (Nat.not_lt_zero _), rfl⟩
  rintro ⟨k4, n4⟩ H5 ⟨hk4, hn4, hm4, hP4, rfl⟩
  dsimp only at hk4 hn4 hm4 hP4
  have hz4 : 0 ≤ n4 := by omega
  refine KC.seq (KC.sr (KL.run 2 rfl (KL.ld rfl (cell_of bx rfl) (KL.q (R.lenS rfl U26 rfl (mv.g.old o0)) rfl (KL.run 2 rfl ?_)))))
  refine KL.opG (fun hq => R.move rfl rfl) rfl rfl rfl ?_
  refine KL.opG (fun hq => R.leq (k := .i64) (a := n4) rfl (by rw [hq]; rfl) rfl) rfl rfl rfl ?_
  refine KL.q (R.and (s := decide (n4 ≤ 4000)) rfl rfl (fun hq => by rw [hq]; rfl)) rfl ?_
  refine KL.nil (KQ.seq ?_)
  refine KC.iq rfl ?_ ?_
  · intro hc134
    try dsimp only at hc134
    obtain ⟨cs, hcl, hcx, a, rfl, ha, r1⟩ := mv.g.at k4 (by omega)
    have hsz := hZ.g _ (En.getD_memD (l := m.globs) (k := k4) (by omega))
    refine KC.skip (KQ.seq (KC.seq (KC.block (KC.region (KL.run 2 rfl (KL.ld rfl (cell_of bx rfl) (KL.run 1 rfl ?_)))))))
    refine KL.q (R.index (j := k4) rfl U26 sz63 rfl rfl (mv.g.old o0) rfl (by omega)) rfl ?_
    refine KL.q (R.fieldAddrP rfl U63 rfl rfl sz52 rfl) rfl (KL.ld rfl ((o0.cells hcx) 2 _ rfl) ?_)
    obtain ⟨hnh0, hnh1, hnb⟩ := hvy_is (hsz)
    refine KL.c rfl Tryz.call12 (heavy_any (ha.old o0) (hsz)) ?_
    rintro _ _ ⟨rfl, rfl⟩
    refine KL.q (R.add rfl rfl rfl (by dsimp only [InR]; omega)) rfl ?_
    refine KL.fin 1 rfl (KQ.normBlock (KQ.r (KL.run 1 rfl ?_)))
    refine KL.q ((R.add rfl rfl rfl (by dsimp only [InR]; omega)).val (congrArg (Value.int .i64) (show (k4 : Int) + 1 = ((k4 + 1 : Nat) : Int) by omega))) rfl ?_
    refine KL.fin 1 rfl ?_
    refine KQ.again ((k4 + 1, n4 + hvy (m.globs.getD k4 default).2)) ?_ ?_ ?_
    · exact Sub.all rfl
    · show m.globs.length - (k4 + 1) < m.globs.length - k4; omega
    exact ⟨by show k4 + 1 ≤ _; omega, by dsimp only; omega, by dsimp only; omega, fun j hj h9 => by dsimp only at hj h9; rcases (by omega : j < k4 ∨ j = k4) with h8 | rfl; exact hP4 j h8 (by omega); omega, rfl⟩
  intro hc134
  try dsimp only at hc134
  simp only [Bool.and_eq_false_iff, decide_eq_false_iff_not] at hc134
  refine KC.exit (KQ.exitThen (KQ.exitThen (KQ.hit (KQ.seq (KC.seq (KC.sr (KL.fin 1 rfl (KQ.seq (KC.block ?_)))))))))
  refine KC.loopD (κ := Nat × Int) [146, 147, 148, 149, 150, 151, 152, 153, 154, 157, 158, 159, 160, 161, 162, 163, 164, 165, 166, 167, 168, 169, 170, 171, 172, 173, 3, 155, 156, 8] (fun k => [(8, .int .i64 (k.1 : Nat)), (3, .int .i64 k.2)]) (fun k Hl => k.1 ≤ m.elems.length ∧ n4 ≤ k.2 ∧ k.2 ≤ 2000000000000000 ∧ (∀ j, j < k.1 → k.2 ≤ 4000 → Isp.bulk (m.elems.getD j default).2.1 ≤ 4000 ∧ (m.elems.getD j default).2.2.length ≤ 4000) ∧ H1 = Hl) (fun k => m.elems.length - k.1) (0, n4) ?_ ?_ ?_
  · exact Sub.all rfl
  · exact ⟨Nat.zero_le _, Int.le_refl _, by dsimp only; omega, fun j hj => absurd hj (Nat.not_lt_zero _), rfl⟩
  rintro ⟨k5, n5⟩ H6 ⟨hk5, hn5, hm5, hP5, rfl⟩
  dsimp only at hk5 hn5 hm5 hP5
  have hz5 : 0 ≤ n5 := by omega
  refine KC.seq (KC.sr (KL.run 2 rfl (KL.ld rfl (cell_of bx rfl) (KL.q (R.lenS rfl U29 rfl (mv.el.old o0)) rfl (KL.run 2 rfl ?_)))))
  refine KL.opG (fun hq => R.move rfl rfl) rfl rfl rfl ?_
  refine KL.opG (fun hq => R.leq (k := .i64) (a := n5) rfl (by rw [hq]; rfl) rfl) rfl rfl rfl ?_
  refine KL.q (R.and (s := decide (n5 ≤ 4000)) rfl rfl (fun hq => by rw [hq]; rfl)) rfl ?_
  refine KL.nil (KQ.seq ?_)
  refine KC.iq rfl ?_ ?_
  · intro hc154
    try dsimp only at hc154
    obtain ⟨cs, hcl, hcx, a, b, rfl, ha, hb, r1⟩ := mv.el.at k5 (by omega)
    have hsz := hZ.el _ (En.getD_memD (l := m.elems) (k := k5) (by omega))
    refine KC.skip (KQ.seq (KC.seq (KC.block (KC.quiet (by kernel_rfl) (by kernel_rfl) (KD.run 2 rfl (KD.ld rfl (cell_of bx rfl) (KD.run 1 rfl ?_)))))))
    refine KD.op (R.index (j := k5) rfl U29 sz69 rfl rfl (mv.el.old o0) rfl (by omega)) rfl rfl rfl ?_
    refine KD.op (R.fieldAddrP rfl U69 rfl rfl sz52 rfl) rfl rfl rfl (KD.ld rfl ((o0.cells hcx) 1 _ rfl) ?_)
    obtain ⟨hnh0, hnh1, hnb⟩ := hvy_is (hsz.1)
    refine KD.call rfl rfl rfl rfl Tryz.call12 rfl rfl rfl (heavy_any (ha.old o0) (hsz.1)) ?_
    refine KD.op (R.add rfl rfl rfl (by dsimp only [InR]; omega)) rfl rfl rfl ?_
    refine KD.run 1 rfl (KD.ld rfl (cell_of bx rfl) (KD.run 1 rfl ?_))
    refine KD.op (R.index (j := k5) rfl U29 sz69 rfl rfl (mv.el.old o0) rfl (by omega)) rfl rfl rfl ?_
    refine KD.op (R.fieldAddrP rfl U69 rfl rfl sz24 rfl) rfl rfl rfl (KD.ld rfl ((o0.cells hcx) 2 _ rfl) (KD.op (R.lenS rfl U24 rfl (hb.old o0)) rfl rfl rfl ?_))
    refine KD.op (R.add rfl rfl rfl (by dsimp only [InR]; omega)) rfl rfl rfl ?_
    refine KD.fin 1 rfl (KQ.normBlock (KQ.r (KL.run 1 rfl ?_)))
    refine KL.q ((R.add rfl rfl rfl (by dsimp only [InR]; omega)).val (congrArg (Value.int .i64) (show (k5 : Int) + 1 = ((k5 + 1 : Nat) : Int) by omega))) rfl ?_
    refine KL.fin 1 rfl ?_
    refine KQ.again ((k5 + 1, n5 + hvy (m.elems.getD k5 default).2.1 + ((m.elems.getD k5 default).2.2.length : Nat))) ?_ ?_ ?_
    · exact Sub.all rfl
    · show m.elems.length - (k5 + 1) < m.elems.length - k5; omega
    exact ⟨by show k5 + 1 ≤ _; omega, by dsimp only; omega, by dsimp only; omega, fun j hj h9 => by dsimp only at hj h9; rcases (by omega : j < k5 ∨ j = k5) with h8 | rfl; exact hP5 j h8 (by omega); omega, rfl⟩
  intro hc154
  try dsimp only at hc154
  simp only [Bool.and_eq_false_iff, decide_eq_false_iff_not] at hc154
  refine KC.exit (KQ.exitThen (KQ.exitThen (KQ.hit (KQ.seq (KC.seq (KC.sr (KL.fin 1 rfl (KQ.seq (KC.block ?_)))))))))
  refine KC.loopD (κ := Nat × Int) [174, 175, 176, 177, 178, 179, 180, 181, 182, 185, 186, 187, 188, 189, 190, 191, 192, 193, 194, 195, 196, 197, 198, 199, 200, 201, 3, 183, 184, 9] (fun k => [(9, .int .i64 (k.1 : Nat)), (3, .int .i64 k.2)]) (fun k Hl => k.1 ≤ m.codes.length ∧ n5 ≤ k.2 ∧ k.2 ≤ 2000000000000000 ∧ (∀ j, j < k.1 → k.2 ≤ 4000 → Isp.bulk (m.codes.getD j default).2 ≤ 4000 ∧ (m.codes.getD j default).1.length ≤ 4000) ∧ H1 = Hl) (fun k => m.codes.length - k.1) (0, n5) ?_ ?_ ?_
  · exact Sub.all rfl
  · exact ⟨Nat.zero_le _, Int.le_refl _, by dsimp only; omega, fun j hj => absurd hj (Nat.not_lt_zero _), rfl⟩
  rintro ⟨k6, n6⟩ H7 ⟨hk6, hn6, hm6, hP6, rfl⟩
  dsimp only at hk6 hn6 hm6 hP6
  have hz6 : 0 ≤ n6 := by omega
  refine KC.seq (KC.sr (KL.run 2 rfl (KL.ld rfl (cell_of bx rfl) (KL.q (R.lenS rfl U30 rfl (mv.c.old o0)) rfl (KL.run 2 rfl ?_)))))
  refine KL.opG (fun hq => R.move rfl rfl) rfl rfl rfl ?_
  refine KL.opG (fun hq => R.leq (k := .i64) (a := n6) rfl (by rw [hq]; rfl) rfl) rfl rfl rfl ?_
  refine KL.q (R.and (s := decide (n6 ≤ 4000)) rfl rfl (fun hq => by rw [hq]; rfl)) rfl ?_
  refine KL.nil (KQ.seq ?_)
  refine KC.iq rfl ?_ ?_
  · intro hc182
    try dsimp only at hc182
    obtain ⟨cs, hcl, hcx, b, a, rfl, hb, ha⟩ := mv.c.at k6 (by omega)
    have hsz := hZ.c _ (En.getD_memD (l := m.codes) (k := k6) (by omega))
    refine KC.skip (KQ.seq (KC.seq (KC.block (KC.quiet (by kernel_rfl) (by kernel_rfl) (KD.run 2 rfl (KD.ld rfl (cell_of bx rfl) (KD.run 1 rfl ?_)))))))
    refine KD.op (R.index (j := k6) rfl U30 sz54 rfl rfl (mv.c.old o0) rfl (by omega)) rfl rfl rfl ?_
    refine KD.op (R.fieldAddrP rfl U54 rfl rfl sz52 rfl) rfl rfl rfl (KD.ld rfl ((o0.cells hcx) 1 _ rfl) ?_)
    obtain ⟨hnh0, hnh1, hnb⟩ := hvy_is (hsz.1)
    refine KD.call rfl rfl rfl rfl Tryz.call12 rfl rfl rfl (heavy_any (ha.old o0) (hsz.1)) ?_
    refine KD.op (R.add rfl rfl rfl (by dsimp only [InR]; omega)) rfl rfl rfl ?_
    refine KD.run 1 rfl (KD.ld rfl (cell_of bx rfl) (KD.run 1 rfl ?_))
    refine KD.op (R.index (j := k6) rfl U30 sz54 rfl rfl (mv.c.old o0) rfl (by omega)) rfl rfl rfl ?_
    refine KD.op (R.fieldAddrP rfl U54 rfl rfl sz51 rfl) rfl rfl rfl (KD.ld rfl ((o0.cells hcx) 0 _ rfl) (KD.op (R.lenS rfl U51 rfl (hb.old o0)) rfl rfl rfl ?_))
    refine KD.op (R.add rfl rfl rfl (by dsimp only [InR]; omega)) rfl rfl rfl ?_
    refine KD.fin 1 rfl (KQ.normBlock (KQ.r (KL.run 1 rfl ?_)))
    refine KL.q ((R.add rfl rfl rfl (by dsimp only [InR]; omega)).val (congrArg (Value.int .i64) (show (k6 : Int) + 1 = ((k6 + 1 : Nat) : Int) by omega))) rfl ?_
    refine KL.fin 1 rfl ?_
    refine KQ.again ((k6 + 1, n6 + hvy (m.codes.getD k6 default).2 + ((m.codes.getD k6 default).1.length : Nat))) ?_ ?_ ?_
    · exact Sub.all rfl
    · show m.codes.length - (k6 + 1) < m.codes.length - k6; omega
    exact ⟨by show k6 + 1 ≤ _; omega, by dsimp only; omega, by dsimp only; omega, fun j hj h9 => by dsimp only at hj h9; rcases (by omega : j < k6 ∨ j = k6) with h8 | rfl; exact hP6 j h8 (by omega); omega, rfl⟩
  intro hc182
  try dsimp only at hc182
  simp only [Bool.and_eq_false_iff, decide_eq_false_iff_not] at hc182
  refine KC.exit (KQ.exitThen (KQ.exitThen (KQ.hit (KQ.seq (KC.seq (KC.sr (KL.fin 1 rfl (KQ.seq (KC.block ?_)))))))))
  refine KC.loopD (κ := Nat × Int) [202, 203, 204, 205, 206, 207, 208, 209, 210, 213, 214, 215, 216, 217, 218, 219, 220, 221, 222, 223, 224, 225, 226, 227, 228, 229, 230, 3, 211, 212, 10] (fun k => [(10, .int .i64 (k.1 : Nat)), (3, .int .i64 k.2)]) (fun k Hl => k.1 ≤ m.datas.length ∧ n6 ≤ k.2 ∧ k.2 ≤ 2000000000000000 ∧ (∀ j, j < k.1 → k.2 ≤ 4000 → Isp.bulk (m.datas.getD j default).2.1 ≤ 4000 ∧ (m.datas.getD j default).2.2.length ≤ 200000) ∧ H1 = Hl) (fun k => m.datas.length - k.1) (0, n6) ?_ ?_ ?_
  · exact Sub.all rfl
  · exact ⟨Nat.zero_le _, Int.le_refl _, by dsimp only; omega, fun j hj => absurd hj (Nat.not_lt_zero _), rfl⟩
  rintro ⟨k7, n7⟩ H8 ⟨hk7, hn7, hm7, hP7, rfl⟩
  dsimp only at hk7 hn7 hm7 hP7
  have hz7 : 0 ≤ n7 := by omega
  refine KC.seq (KC.sr (KL.run 2 rfl (KL.ld rfl (cell_of bx rfl) (KL.q (R.lenS rfl U31 rfl (mv.d.old o0)) rfl (KL.run 2 rfl ?_)))))
  refine KL.opG (fun hq => R.move rfl rfl) rfl rfl rfl ?_
  refine KL.opG (fun hq => R.leq (k := .i64) (a := n7) rfl (by rw [hq]; rfl) rfl) rfl rfl rfl ?_
  refine KL.q (R.and (s := decide (n7 ≤ 4000)) rfl rfl (fun hq => by rw [hq]; rfl)) rfl ?_
  refine KL.nil (KQ.seq ?_)
  refine KC.iq rfl ?_ ?_
  · intro hc210
    try dsimp only at hc210
    obtain ⟨cs, hcl, hcx, a, b, rfl, ha, hb, r1⟩ := mv.d.at k7 (by omega)
    have hsz := hZ.d _ (En.getD_memD (l := m.datas) (k := k7) (by omega))
    refine KC.skip (KQ.seq (KC.seq (KC.block (KC.quiet (by kernel_rfl) (by kernel_rfl) (KD.run 2 rfl (KD.ld rfl (cell_of bx rfl) (KD.run 1 rfl ?_)))))))
    refine KD.op (R.index (j := k7) rfl U31 sz71 rfl rfl (mv.d.old o0) rfl (by omega)) rfl rfl rfl ?_
    refine KD.op (R.fieldAddrP rfl U71 rfl rfl sz52 rfl) rfl rfl rfl (KD.ld rfl ((o0.cells hcx) 1 _ rfl) ?_)
    obtain ⟨hnh0, hnh1, hnb⟩ := hvy_is (hsz.1)
    refine KD.call rfl rfl rfl rfl Tryz.call12 rfl rfl rfl (heavy_any (ha.old o0) (hsz.1)) ?_
    refine KD.op (R.add rfl rfl rfl (by dsimp only [InR]; omega)) rfl rfl rfl ?_
    refine KD.run 1 rfl (KD.ld rfl (cell_of bx rfl) (KD.run 1 rfl ?_))
    refine KD.op (R.index (j := k7) rfl U31 sz71 rfl rfl (mv.d.old o0) rfl (by omega)) rfl rfl rfl ?_
    refine KD.op (R.fieldAddrP rfl U71 rfl rfl sz34 rfl) rfl rfl rfl (KD.ld rfl ((o0.cells hcx) 2 _ rfl) (KD.op (R.lenS rfl U34 rfl (hb.old o0)) rfl rfl rfl ?_))
    refine KD.op (R.quo rfl rfl rfl (by omega) (by decide) (by dsimp only [InR]; omega)) rfl rfl rfl ?_
    refine KD.op (R.add rfl rfl rfl (by dsimp only [InR]; omega)) rfl rfl rfl ?_
    refine KD.fin 1 rfl (KQ.normBlock (KQ.r (KL.run 1 rfl ?_)))
    refine KL.q ((R.add rfl rfl rfl (by dsimp only [InR]; omega)).val (congrArg (Value.int .i64) (show (k7 : Int) + 1 = ((k7 + 1 : Nat) : Int) by omega))) rfl ?_
    refine KL.fin 1 rfl ?_
    refine KQ.again ((k7 + 1, n7 + hvy (m.datas.getD k7 default).2.1 + ((m.datas.getD k7 default).2.2.length : Nat) / 32)) ?_ ?_ ?_
    · exact Sub.all rfl
    · show m.datas.length - (k7 + 1) < m.datas.length - k7; omega
    exact ⟨by show k7 + 1 ≤ _; omega, by dsimp only; omega, by dsimp only; omega, fun j hj h9 => by dsimp only at hj h9; rcases (by omega : j < k7 ∨ j = k7) with h8 | rfl; exact hP7 j h8 (by omega); omega, rfl⟩
  intro hc210
  try dsimp only at hc210
  simp only [Bool.and_eq_false_iff, decide_eq_false_iff_not] at hc210
  refine KC.exit (KQ.exitThen (KQ.exitThen (KQ.hit (KQ.sr (KL.fin 3 rfl (KQ.seq (KC.ret (KQ.ofRet (KQ.fin1 Tryz.results6 rfl ?_)))))))))
  exact ⟨_, rfl, fun h9 => by (have h7 := of_decide_eq_false h9); exact ⟨by omega, mem_all (fun j hj => hP1 j (by omega) (by omega)), mem_all (fun j hj => hP2 j (by omega) (by omega)), mem_all (fun j hj => hP3 j (by omega) (by omega)), mem_all (fun j hj => hP4 j (by omega) (by omega)), mem_all (fun j hj => hP5 j (by omega) (by omega)), mem_all (fun j hj => hP6 j (by omega) (by omega)), mem_all (fun j hj => hP7 j (by omega) (by omega))⟩, o0⟩
instance : Inhabited Mo := ⟨⟨[], [], [], [], [], [], [], false, 0, [], [], []⟩⟩
namespace En
section
variable {m : Mo} {u : Value} {H : Heap}
theorem res_bad (h : ok m = false) (r : ERes m u H) : u = .tuple #[.slice none 0 0, .int .i64 2] := by
  rcases r with ⟨_, r⟩ | ⟨h2, _⟩ | ⟨h2, _⟩
  · exact r
  · rw [h] at h2; cases h2
  rw [h] at h2; cases h2
theorem res_good (h : ok m = true) (hl : (bin m).length ≤ 65536) (r : ERes m u H) : ∃ v, u = .tuple #[v, .int .i64 0] ∧ Sl 1 (EInt .u8) H v (bin m) := by
  rcases r with ⟨h2, _⟩ | ⟨_, h3, _⟩ | ⟨_, _, r⟩
  · rw [h] at h2; cases h2
  · omega
  exact r
end
def mo0 : Mo := ⟨[], [], [], [], [], [], [], false, 0, [], [], []⟩
def mo1 : Mo := ⟨[([], [])], [], [0], [], [], [], [], false, 0, [], [([], [])], []⟩
def moa : Mo := ⟨[], [], [0], [], [], [], [], false, 0, [], [], []⟩
def mob : Mo := ⟨[], [⟨⟨#[]⟩, ⟨#[]⟩, 4, 0, (0, 0), (0, false)⟩], [], [], [], [], [], false, 0, [], [], []⟩
def moc : Mo := ⟨[], [], [], [], [], [((124, false), [])], [], false, 0, [], [], []⟩
theorem small0 : Small mo0 := ⟨by simp [mo0], by simp [mo0], by simp [mo0], by simp [mo0], by simp [mo0], by simp [mo0], by simp [mo0], by simp [mo0]⟩
theorem small1 : Small mo1 := ⟨by simp [mo1], by simp [mo1], by simp [mo1], by simp [mo1], by simp [mo1], by simp [mo1], by simp [mo1, Isp.bulk], by simp [mo1]⟩
theorem smalla : Small moa := ⟨by simp [moa], by simp [moa], by simp [moa], by simp [moa], by simp [moa], by simp [moa], by simp [moa], by simp [moa]⟩
theorem smallb : Small mob := ⟨by simp [mob], by simp [mob], by intro x hx; simp only [mob, List.mem_singleton] at hx; subst hx; exact ⟨by decide, by decide⟩, by simp [mob], by simp [mob], by simp [mob], by simp [mob], by simp [mob]⟩
theorem smallc : Small moc := ⟨by simp [moc], by simp [moc], by simp [moc], by simp [moc], by simp [moc, Isp.bulk], by simp [moc], by simp [moc], by simp [moc]⟩
theorem has_nil : has [] = true := has_yes ⟨rfl, fun x hx => by cases hx⟩
theorem expr_nil : exprB [] = [11] := by unfold exprB; rw [if_pos has_nil]; rfl
theorem ok0 : ok mo0 = true := by simp [ok, mo0]
theorem bin0 : bin mo0 = Sc.beg := by simp [bin, secs, sec, mo0, Sc.body]
theorem ok1 : ok mo1 = true := by simp [ok, mo1, codO, typO, locS, has_nil]
theorem body1 : Sc.body (secs mo1) = [1, 4, 1, 96, 0, 0, 3, 2, 1, 0, 10, 4, 1, 2, 0, 11] := by
  simp only [secs, sec, mo1, List.length_nil, List.length_cons, if_true, if_false, List.nil_append, List.append_nil, lst, List.flatMap_cons, List.flatMap_nil, codB, codI, expr_nil, typB]
  rfl
theorem bin1 : bin mo1 = Sc.beg ++ [1, 4, 1, 96, 0, 0, 3, 2, 1, 0, 10, 4, 1, 2, 0, 11] := by
  unfold bin; rw [body1]
theorem oka : ok moa = false := by simp [ok, moa]
theorem okb : ok mob = false := by simp [ok, mob, impO, impO2]
theorem okc : ok moc = false := by simp [ok, moc, gloO, globO, vOk]
def mods : List Mo := [moa, mob, moc]
theorem mods_bad {k : Nat} (hk : k < 3) : ok (mods.getD k default) = false := by
  match k, hk with
  | 0, _ => exact oka
  | 1, _ => exact okb
  | 2, _ => exact okc
theorem mods_small {k : Nat} (hk : k < 3) : Small (mods.getD k default) := by
  match k, hk with
  | 0, _ => exact smalla
  | 1, _ => exact smallb
  | 2, _ => exact smallc
end En
def EMoZ : El Mo := fun H cs m => ∃ t i f tb me g e el c d, cs = [t, i, f, tb, me, g, e, .bool m.hasStart, .int .u32 m.start, el, c, d] ∧ MoV H t i f tb me g e el c d m
instance : Keeps EMoZ := ⟨fun o h => by obtain ⟨t, i, f, tb, me, g, e, el, c, d, hc, mv⟩ := h; exact ⟨t, i, f, tb, me, g, e, el, c, d, hc, mv.old o⟩⟩
theorem Encode_good {H : Heap} {t i f tb me g e el c d : Value} {m : Mo} (mv : MoV H t i f tb me g e el c d m) (hS : En.Small m) (hT : TabU H) (h : En.ok m = true) (hl : (En.bin m).length ≤ 65536) : Ct Tryz.prog 7 [.agg [t, i, f, tb, me, g, e, .bool m.hasStart, .int .u32 m.start, el, c, d].toArray] H (fun u H' => ∃ v, u = .tuple #[v, .int .i64 0] ∧ Sl 1 (EInt .u8) H' v (En.bin m) ∧ Old H H') :=
  (Encode_any mv hS hT).mono (fun _ _ r => by obtain ⟨v, e, s⟩ := En.res_good h hl r.1; exact ⟨v, e, s, r.2⟩)
theorem Encode_bad {H : Heap} {t i f tb me g e el c d : Value} {m : Mo} (mv : MoV H t i f tb me g e el c d m) (hS : En.Small m) (hT : TabU H) (h : En.ok m = false) : Ct Tryz.prog 7 [.agg [t, i, f, tb, me, g, e, .bool m.hasStart, .int .u32 m.start, el, c, d].toArray] H (fun u H' => u = .tuple #[.slice none 0 0, .int .i64 2] ∧ Old H H') :=
  (Encode_any mv hS hT).mono (fun _ _ r => ⟨En.res_bad h r.1, r.2⟩)
theorem known_any {H : Heap} (hT : TabU H) : Ct Tryz.prog 5 [] H (fun u H' => u = .bool true ∧ Old H H') := by
  refine Ct.mk Tryz.func5 rfl Tryz.ntmps5 rfl ?_
  intro W0 hW0
  have o0 : Old H H := Old.refl H
  refine KC.sr (KL.fin 1 rfl (KQ.sr (KL.b0 bt33 rfl rfl ?_)))
  refine KL.c rfl Tryz.call7 (Encode_good (m := En.mo0) ⟨(Sl.nil _ _ _), (Sl.nil _ _ _), (Sl.nil _ _ _), (Sl.nil _ _ _), (Sl.nil _ _ _), (Sl.nil _ _ _), (Sl.nil _ _ _), (Sl.nil _ _ _), (Sl.nil _ _ _), (Sl.nil _ _ _), by decide⟩ En.small0 (hT.old o0) En.ok0 (by rw [En.bin0]; decide)) ?_
  rintro _ H1 ⟨v0, rfl, sv0, ox⟩
  have zc_H1 := (ox).1
  have o0 := o0.trans ox
  rw [En.bin0] at sv0
  refine KL.fin 5 rfl (KQ.sr (KL.b0 bt50 rfl rfl ?_))
  refine KL.m (M.lit rfl U22 zs50 (by decide) rfl rfl rfl) rfl ?_
  rintro _ H2 ⟨rfl, n2⟩
  have z2 := n2.2.1
  have o0 := o0.trans n2.1
  have sv0 := sv0.old n2.1
  have b2 := n2.2.2
  have s17 : Sl 2 EFTy H2 _ [(([] : List Int), ([] : List Int))] := Sl.lit1N n2 rfl (by decide) ⟨_, _, rfl, Sl.nil _ _ _, Sl.nil _ _ _⟩
  refine KL.m (M.lit rfl U24 zs28 (by decide) rfl rfl rfl) rfl ?_
  rintro _ H3 ⟨rfl, n3⟩
  have z3 := n3.2.1
  have o0 := o0.trans n3.1
  have sv0 := sv0.old n3.1
  have s17 := s17.old n3.1
  have b3 := n3.2.2
  have s18 : Sl 1 (EInt .u32) H3 _ [0] := Sl.lits (l := [0]) n3 rfl (by simp) (by decide)
  refine KL.b0 bt54 rfl rfl ?_
  refine KL.m (M.lit rfl U30 zs54 (by decide) rfl rfl rfl) rfl ?_
  rintro _ H4 ⟨rfl, n4⟩
  have z4 := n4.2.1
  have o0 := o0.trans n4.1
  have sv0 := sv0.old n4.1
  have s17 := s17.old n4.1
  have s18 := s18.old n4.1
  have b4 := n4.2.2
  have s20 : Sl 2 ECod H4 _ [(([] : List (Int × Int)), ([] : List Ins))] := Sl.lit1N n4 rfl (by decide) ⟨_, _, rfl, Sl.nil _ _ _, Sl.nil _ _ _⟩
  refine KL.b0 bt33 rfl rfl ?_
  refine KL.c rfl Tryz.call7 (Encode_good (m := En.mo1) ⟨s17, (Sl.nil _ _ _), s18, (Sl.nil _ _ _), (Sl.nil _ _ _), (Sl.nil _ _ _), (Sl.nil _ _ _), (Sl.nil _ _ _), s20, (Sl.nil _ _ _), by decide⟩ En.small1 (hT.old o0) En.ok1 (by rw [En.bin1]; decide)) ?_
  rintro _ H5 ⟨v1, rfl, sv1, ox⟩
  have zc_H5 := (ox).1
  have o0 := o0.trans ox
  have sv0 := sv0.old ox
  have s17 := s17.old ox
  have s18 := s18.old ox
  have s20 := s20.old ox
  rw [En.bin1] at sv1
  refine KL.fin 5 rfl (KQ.sr ?_)
  refine KL.c rfl Tryz.call11 (Begin_any) ?_
  rintro vw H6 ⟨ww, ox⟩
  have zc_H6 := (ox).1
  have o0 := o0.trans ox
  have sv0 := sv0.old ox
  have s17 := s17.old ox
  have s18 := s18.old ox
  have s20 := s20.old ox
  have sv1 := sv1.old ox
  have sw := ww.sl (emptyOld _) (by decide)
  refine KL.q (R.convBS rfl U34 U5 U9 rfl (sw)) rfl (KL.fin 1 rfl (KQ.seq (KC.seq (KC.sr (KL.run 1 rfl (KL.q (R.convBS rfl U34 U5 U9 rfl (sv0)) rfl (KL.run 1 rfl ?_)))))))
  refine KL.q ((R.neqStr rfl rfl rfl).val (congrArg Value.bool (show _ = false by simp))) rfl ?_
  refine KL.run 2 rfl (KL.q ((R.neq rfl rfl rfl).val ((congrArg (fun b => Value.bool (!b)) (decide_eq_true rfl)))) rfl (KL.run 3 rfl (KL.q (R.convBS rfl U34 U5 U9 rfl (sv1)) rfl (KL.run 1 rfl ?_))))
  refine KL.q (R.addStr rfl rfl rfl (by rw [bstr_size (by decide)]; decide)) rfl ?_
  refine KL.q ((R.neqStr rfl rfl rfl).val (congrArg Value.bool (show _ = false from by decide +kernel))) rfl (KL.run 3 rfl (KL.q ((R.neq rfl rfl rfl).val ((congrArg (fun b => Value.bool (!b)) (decide_eq_true rfl)))) rfl (KL.fin 1 rfl (KQ.seq (KC.condF rfl (KC.skip (KQ.seq (KC.seq (KC.sr ?_)))))))))
  refine KL.m (M.lit rfl U24 zs28 (by decide) rfl rfl rfl) rfl ?_
  rintro _ H7 ⟨rfl, n7⟩
  have z7 := n7.2.1
  have o0 := o0.trans n7.1
  have sv0 := sv0.old n7.1
  have s17 := s17.old n7.1
  have s18 := s18.old n7.1
  have s20 := s20.old n7.1
  have sv1 := sv1.old n7.1
  have sw := sw.old n7.1
  have b7 := n7.2.2
  have s46 : Sl 1 (EInt .u32) H7 _ [0] := Sl.lits (l := [0]) n7 rfl (by simp) (by decide)
  refine KL.b0 bt33 rfl rfl (KL.b0 bt61 rfl rfl ?_)
  refine KL.m (M.lit rfl U23 zs61 (by decide) rfl rfl rfl) rfl ?_
  rintro _ H8 ⟨rfl, n8⟩
  have z8 := n8.2.1
  have o0 := o0.trans n8.1
  have sv0 := sv0.old n8.1
  have s17 := s17.old n8.1
  have s18 := s18.old n8.1
  have s20 := s20.old n8.1
  have sv1 := sv1.old n8.1
  have sw := sw.old n8.1
  have s46 := s46.old n8.1
  have b8 := n8.2.2
  have s49 : Sl 8 EImp H8 _ [(⟨⟨#[]⟩, ⟨#[]⟩, 4, 0, (0, 0), (0, false)⟩ : Imp)] := Sl.lit1N n8 rfl (by decide) ⟨rfl, by decide, by decide, by decide, by decide, by decide⟩
  refine KL.b0 bt33 rfl rfl (KL.b0 bt59 rfl rfl (KL.q (R.build (places := #[(0, 2), (2, 1)]) (cs := #[.int .u8 124, .bool false, .slice none 0 0]) rfl U63 zr63 (fun w => by kernel_rfl) rfl (by kernel_rfl)) rfl ?_))
  refine KL.m (M.lit rfl U26 zs63 (by decide) rfl rfl rfl) rfl ?_
  rintro _ H9 ⟨rfl, n9⟩
  have z9 := n9.2.1
  have o0 := o0.trans n9.1
  have sv0 := sv0.old n9.1
  have s17 := s17.old n9.1
  have s18 := s18.old n9.1
  have s20 := s20.old n9.1
  have sv1 := sv1.old n9.1
  have sw := sw.old n9.1
  have s46 := s46.old n9.1
  have s49 := s49.old n9.1
  have b9 := n9.2.2
  have s53 : Sl 3 EGlo H9 _ [(((124, false), []) : Glo)] := Sl.lit1N n9 rfl (by decide) ⟨_, rfl, Sl.nil _ _ _, by decide⟩
  refine KL.b0 bt33 rfl rfl ?_
  refine KL.m (M.lit rfl Tryz.underlying64 zs33 (by decide) rfl rfl rfl) rfl ?_
  rintro _ H10 ⟨rfl, n10⟩
  have z10 := n10.2.1
  have o0 := o0.trans n10.1
  have sv0 := sv0.old n10.1
  have s17 := s17.old n10.1
  have s18 := s18.old n10.1
  have s20 := s20.old n10.1
  have sv1 := sv1.old n10.1
  have sw := sw.old n10.1
  have s46 := s46.old n10.1
  have s49 := s49.old n10.1
  have s53 := s53.old n10.1
  have b10 := n10.2.2
  have s55 : Sl 12 EMoZ H10 (.slice (some ⟨_, 0, none⟩) 3 3) En.mods := (Own.litN (E := EMoZ) (H0 := H10) (B := 0) (l := En.mods) (m := 3) n10 (Nat.zero_le _) rfl (by decide) rfl (by
    intro j x hj
    match j, hj with
    | 0, hj => cases hj; exact ⟨_, _, _, _, _, _, _, _, _, _, rfl, Sl.nil _ _ _, Sl.nil _ _ _, s46, Sl.nil _ _ _, Sl.nil _ _ _, Sl.nil _ _ _, Sl.nil _ _ _, Sl.nil _ _ _, Sl.nil _ _ _, Sl.nil _ _ _, by decide⟩
    | 1, hj => cases hj; exact ⟨_, _, _, _, _, _, _, _, _, _, rfl, Sl.nil _ _ _, s49, Sl.nil _ _ _, Sl.nil _ _ _, Sl.nil _ _ _, Sl.nil _ _ _, Sl.nil _ _ _, Sl.nil _ _ _, Sl.nil _ _ _, Sl.nil _ _ _, by decide⟩
    | 2, hj => cases hj; exact ⟨_, _, _, _, _, _, _, _, _, _, rfl, Sl.nil _ _ _, Sl.nil _ _ _, Sl.nil _ _ _, Sl.nil _ _ _, Sl.nil _ _ _, s53, Sl.nil _ _ _, Sl.nil _ _ _, Sl.nil _ _ _, Sl.nil _ _ _, by decide⟩)).sl (Old.refl _) (by decide)
  refine KL.q (R.lenS rfl Tryz.underlying64 rfl s55) rfl (KL.fin 1 rfl (KQ.seq (KC.block ?_)))
  refine KC.loopD (κ := Nat) [58, 59, 60, 7, 62, 63, 61, 64, 65, 8, 9, 66, 67, 68, 69, 70, 71, 72, 0, 73, 57] (fun k => [(57, .int .i64 (k : Nat))]) (fun k Hl => k ≤ 3 ∧ Old H Hl ∧ Sl 12 EMoZ Hl (.slice (some ⟨Array.size H9, 0, none⟩) 3 3) En.mods) (fun k => 3 - k) 0 ?_ ?_ ?_
  · exact Sub.all rfl
  · exact ⟨by omega, o0, s55⟩
  rintro k H11 ⟨hk, o0, s55⟩
  have zl_H11 := o0.1
  have zl := o0.1
  refine KC.sr (KL.fin 1 rfl (KQ.seq (KC.seq ?_)))
  refine KC.iq rfl ?_ ?_
  · intro hc58
    have hk3 : k < 3 := by have h9 : ((En.mods.length : Nat) : Int) = 3 := rfl; omega
    obtain ⟨cs, hcl, hcx, t, i, f, tb, me, g, e, el, c, d, rfl, mv⟩ := s55.at k hk3
    refine KC.skip (KQ.seq (KC.seq (KC.block (KC.sr (KL.q (R.index (j := k) rfl Tryz.underlying64 sz33 rfl rfl s55 rfl hk3) rfl (KL.lda rfl hcx rfl ?_))))))
    have oK : Old H11 H11 := Old.refl _
    have sK := s55
    refine KL.m (M.alloc rfl zr33 rfl) rfl ?_
    rintro _ H12 ⟨rfl, n12⟩
    have z12 := n12.2.1
    have o0 := o0.trans n12.1
    have s55 := s55.old n12.1
    have oK := oK.trans n12.1
    have b12 := n12.2.2
    have b7 := b12
    refine KL.opS (S.storeAgg rfl sz33 rfl rfl (rfl) (by intro z hz; simp only [List.mem_cons, List.not_mem_nil, or_false] at hz; rcases hz with rfl | rfl | rfl | rfl | rfl | rfl | rfl | rfl | rfl | rfl | rfl | rfl <;> first | rfl | exact mv.t.one | exact mv.i.one | exact mv.f.one | exact mv.tb.one | exact mv.me.one | exact mv.g.one | exact mv.e.one | exact mv.el.one | exact mv.c.one | exact mv.d.one) b7 (by simp)) rfl rfl ?_
    rintro H13 ⟨u13, b13⟩
    have o0 := o0.upd u13 (by omega)
    have zu13 := u13.1
    have oK := oK.upd u13 (by omega)
    have b7 := b13
    rw [over_all (by rfl)] at b7
    have s55 := sK.old oK
    refine KL.nil (KQ.sr (KL.lda rfl (cells_of b7) rfl ?_))
    refine KL.c rfl Tryz.call7 (Encode_bad (mv.old oK) (En.mods_small hk3) (hT.old o0) (En.mods_bad hk3)) ?_
    rintro _ H14 ⟨rfl, ox⟩
    have zc_H14 := (ox).1
    have o0 := o0.trans ox
    have oK := oK.trans ox
    have b7 := (ox).blk b7
    have s55 := s55.old ox
    refine KL.fin 5 rfl (KQ.sr (KL.run 1 rfl (KL.q (R.lenS rfl U34 rfl (Sl.nil 1 (EInt .u8) H)) rfl (KL.q ((R.neq rfl rfl rfl).val ((congrArg (fun b => Value.bool (!b)) (decide_eq_true rfl)))) rfl (KL.run 2 rfl (KL.q ((R.neq rfl rfl rfl).val ((congrArg (fun b => Value.bool (!b)) (decide_eq_true rfl)))) rfl (KL.fin 1 rfl (KQ.seq (KC.condF rfl (KC.skip (KQ.normBlock ?_)))))))))))
    refine KQ.r ?_
    refine KL.q ((R.add rfl rfl rfl (by dsimp only [InR]; omega)).val (congrArg (Value.int .i64) (show (k : Int) + 1 = ((k + 1 : Nat) : Int) by omega))) rfl ?_
    refine KL.fin 1 rfl ?_
    refine KQ.again (k + 1) ?_ ?_ ?_
    · exact Sub.all rfl
    · omega
    exact ⟨by omega, o0, s55⟩
  intro hc58
  refine KC.exit (KQ.exitThen (KQ.exitThen (KQ.hit (KQ.sr (KL.fin 1 rfl (KQ.seq (KC.ret (KQ.ofRet (KQ.fin1 Tryz.results5 rfl ?_)))))))))
  exact ⟨rfl, o0⟩
end Go.Proofs.YtldmfchamcpmmaaGreatDoor
namespace Go.Proofs.YtldmfchamcpmmaaGreatDoor
open Go Go.RowKit Go.ChangeShapes Go.WideShapes Go.Deep
def EStrB : El ByteArray := fun _ cs x => cs = [.string x] ∧ x.size ≤ 140737488351232
theorem opensW_str {P : Program} {t : TypeId} (ht : P.underlying t = some .string) : OpensW P t EStrB := by
  intro H enc w base spare held fuel cs x h hwt
  obtain ⟨s, hc, hx, _⟩ := DataW.trod_string ht h
  refine ⟨s, hc, ?_⟩
  have h2 := hwt s.data.toList.length (by rw [hx]; simp [DataW.weights])
  rwa [Array.length_toList] at h2
theorem Sl.unS {α : Type} [Inhabited α] {n : Nat} {E F : El α} {p : α → Prop} {H : Heap} {v : Value} {l : List α} (h : Sl n F H v l) (hF : ∀ H cs x, F H cs x → E H cs x ∧ p x) : Sl n E H v l ∧ ∀ x ∈ l, p x := by
  refine ⟨h.mapE fun cs x hx => (hF _ _ _ hx).1, fun s hs => ?_⟩
  obtain ⟨j, hj, rfl⟩ := List.getElem_of_mem hs
  obtain ⟨cs, _, _, hx⟩ := h.at j hj
  have := (hF _ _ _ hx).2
  rwa [List.getD_eq_getElem?_getD, List.getElem?_eq_getElem hj] at this
def EFTyS : El FTy := fun H cs x => EFTy H cs x ∧ x.1.length ≤ 140737488351232 ∧ x.2.length ≤ 140737488351232
def EImpS : El Imp := fun H cs x => EImp H cs x ∧ x.mod.size ≤ 140737488351232 ∧ x.nam.size ≤ 140737488351232
def EExpS : El Exp := fun H cs x => EExp H cs x ∧ x.nam.size ≤ 140737488351232
def EGloS : El Glo := fun H cs x => EGlo H cs x ∧ InsB x.2
def EElmS : El Elm := fun H cs x => EElm H cs x ∧ InsB x.2.1 ∧ x.2.2.length ≤ 140737488351232
def EDatS : El Elm := fun H cs x => EDat H cs x ∧ InsB x.2.1 ∧ x.2.2.length ≤ 140737488351232
def ECodS : El Cod := fun H cs x => ECod H cs x ∧ InsB x.2 ∧ x.1.length ≤ 140737488351232
def EGlbB : El Glb := fun _ cs x => cs = [.int .u8 x.1, .bool x.2] ∧ InR .u8 x.1
theorem opensW_fty : OpensW Tryz.prog 50 EFTyS := by
  intro H enc w base spare held fuel cs x h hwt
  obtain ⟨hl, n, hg⟩ := trod_structW (m := 2) U50 (by kernel_rfl) h
  obtain ⟨y0, h0, k0⟩ := hg 0 _ 0 1 rfl rfl (by kernel_rfl)
  obtain ⟨y1, h1, k1⟩ := hg 1 _ 1 1 rfl rfl (by kernel_rfl)
  match cs, hl with
  | [c0, c1], _ =>
    obtain ⟨l0, v0, u0, s0, b0⟩ := opensW_slice (n := 1) (b := 1) U34 (by kernel_rfl) (by kernel_rfl) (by decide) (opens_int U5).w _ _ _ _ _ _ _ _ _ h0 (fun q hq => hwt q (k0 q hq))
    obtain ⟨l1, v1, u1, s1, b1⟩ := opensW_slice (n := 1) (b := 1) U34 (by kernel_rfl) (by kernel_rfl) (by decide) (opens_int U5).w _ _ _ _ _ _ _ _ _ h1 (fun q hq => hwt q (k1 q hq))
    cases u0; cases u1
    exact ⟨(l0, l1), ⟨_, _, rfl, s0, s1⟩, by show l0.length ≤ _; omega, by show l1.length ≤ _; omega⟩
theorem opensW_lim : OpensW Tryz.prog 57 ELim := by
  intro H enc w base spare held fuel cs x h hwt
  obtain ⟨hl, n, hg⟩ := trod_structW (m := 2) U57 (by kernel_rfl) h
  obtain ⟨y0, h0, k0⟩ := hg 0 _ 0 1 rfl rfl (by kernel_rfl)
  obtain ⟨y1, h1, k1⟩ := hg 1 _ 1 1 rfl rfl (by kernel_rfl)
  match cs, hl with
  | [c0, c1], _ =>
    obtain ⟨a0, u0, r0⟩ := opens_int U28 _ _ _ _ _ _ _ _ _ h0
    obtain ⟨a1, u1, r1⟩ := opens_int U2 _ _ _ _ _ _ _ _ _ h1
    cases u0; cases u1
    exact ⟨(a0, a1), rfl, r0, r1⟩
theorem opensW_loc : OpensW Tryz.prog 146 ELoc := by
  intro H enc w base spare held fuel cs x h hwt
  obtain ⟨hl, n, hg⟩ := trod_structW (m := 2) U146 (by kernel_rfl) h
  obtain ⟨y0, h0, k0⟩ := hg 0 _ 0 1 rfl rfl (by kernel_rfl)
  obtain ⟨y1, h1, k1⟩ := hg 1 _ 1 1 rfl rfl (by kernel_rfl)
  match cs, hl with
  | [c0, c1], _ =>
    obtain ⟨a0, u0, r0⟩ := opens_int U28 _ _ _ _ _ _ _ _ _ h0
    obtain ⟨a1, u1, r1⟩ := opens_int U5 _ _ _ _ _ _ _ _ _ h1
    cases u0; cases u1
    exact ⟨(a0, a1), rfl, r0, r1⟩
theorem opensW_glb : OpensW Tryz.prog 59 EGlbB := by
  intro H enc w base spare held fuel cs x h hwt
  obtain ⟨hl, n, hg⟩ := trod_structW (m := 2) U59 (by kernel_rfl) h
  obtain ⟨y0, h0, k0⟩ := hg 0 _ 0 1 rfl rfl (by kernel_rfl)
  obtain ⟨y1, h1, k1⟩ := hg 1 _ 1 1 rfl rfl (by kernel_rfl)
  match cs, hl with
  | [c0, c1], _ =>
    obtain ⟨a0, u0, r0⟩ := opens_int U5 _ _ _ _ _ _ _ _ _ h0
    obtain ⟨a1, u1⟩ := opens_bool U4 _ _ _ _ _ _ _ _ _ h1
    cases u0; cases u1
    exact ⟨(a0, a1), rfl, r0⟩
theorem opensW_imp : OpensW Tryz.prog 61 EImpS := by
  intro H enc w base spare held fuel cs x h hwt
  obtain ⟨hl, n, hg⟩ := trod_structW (m := 8) U61 (by kernel_rfl) h
  obtain ⟨y0, h0, k0⟩ := hg 0 _ 0 1 rfl rfl (by kernel_rfl)
  obtain ⟨y1, h1, k1⟩ := hg 1 _ 1 1 rfl rfl (by kernel_rfl)
  obtain ⟨y2, h2, k2⟩ := hg 2 _ 2 1 rfl rfl (by kernel_rfl)
  obtain ⟨y3, h3, k3⟩ := hg 3 _ 3 1 rfl rfl (by kernel_rfl)
  obtain ⟨y4, h4, k4⟩ := hg 4 _ 4 2 rfl rfl (by kernel_rfl)
  obtain ⟨y5, h5, k5⟩ := hg 5 _ 6 2 rfl rfl (by kernel_rfl)
  match cs, hl with
  | [c0, c1, c2, c3, c4, c5, c6, c7], _ =>
    obtain ⟨a0, u0, r0⟩ := opensW_str U9 _ _ _ _ _ _ _ _ _ h0 (fun q hq => hwt q (k0 q hq))
    obtain ⟨a1, u1, r1⟩ := opensW_str U9 _ _ _ _ _ _ _ _ _ h1 (fun q hq => hwt q (k1 q hq))
    obtain ⟨a2, u2, r2⟩ := opens_int U5 _ _ _ _ _ _ _ _ _ h2
    obtain ⟨a3, u3, r3⟩ := opens_int U28 _ _ _ _ _ _ _ _ _ h3
    obtain ⟨a4, u4, r4⟩ := opensW_lim _ _ _ _ _ _ _ _ _ h4 (fun q hq => hwt q (k4 q hq))
    obtain ⟨a5, u5, r5⟩ := opensW_glb _ _ _ _ _ _ _ _ _ h5 (fun q hq => hwt q (k5 q hq))
    cases u0; cases u1; cases u2; cases u3; cases u4; cases u5
    exact ⟨⟨a0, a1, a2, a3, a4, a5⟩, ⟨rfl, r2, r3, r4.1, r4.2, r5⟩, r0, r1⟩
theorem opensW_exp : OpensW Tryz.prog 66 EExpS := by
  intro H enc w base spare held fuel cs x h hwt
  obtain ⟨hl, n, hg⟩ := trod_structW (m := 3) U66 (by kernel_rfl) h
  obtain ⟨y0, h0, k0⟩ := hg 0 _ 0 1 rfl rfl (by kernel_rfl)
  obtain ⟨y1, h1, k1⟩ := hg 1 _ 1 1 rfl rfl (by kernel_rfl)
  obtain ⟨y2, h2, k2⟩ := hg 2 _ 2 1 rfl rfl (by kernel_rfl)
  match cs, hl with
  | [c0, c1, c2], _ =>
    obtain ⟨a0, u0, r0⟩ := opensW_str U9 _ _ _ _ _ _ _ _ _ h0 (fun q hq => hwt q (k0 q hq))
    obtain ⟨a1, u1, r1⟩ := opens_int U5 _ _ _ _ _ _ _ _ _ h1
    obtain ⟨a2, u2, r2⟩ := opens_int U28 _ _ _ _ _ _ _ _ _ h2
    cases u0; cases u1; cases u2
    exact ⟨⟨a0, a1, a2⟩, ⟨rfl, r1, r2⟩, r0⟩
theorem opensW_glo : OpensW Tryz.prog 63 EGloS := by
  intro H enc w base spare held fuel cs x h hwt
  obtain ⟨hl, n, hg⟩ := trod_structW (m := 3) U63 (by kernel_rfl) h
  obtain ⟨y0, h0, k0⟩ := hg 0 _ 0 2 rfl rfl (by kernel_rfl)
  obtain ⟨y1, h1, k1⟩ := hg 1 _ 2 1 rfl rfl (by kernel_rfl)
  match cs, hl with
  | [c0, c1, c2], _ =>
    obtain ⟨a0, u0, r0⟩ := opensW_glb _ _ _ _ _ _ _ _ _ h0 (fun q hq => hwt q (k0 q hq))
    obtain ⟨l1, v1, u1, s1, b1⟩ := opensW_inss _ _ _ _ _ _ _ _ _ h1 (fun q hq => hwt q (k1 q hq))
    obtain ⟨s1, w1⟩ := s1.unW
    have g1 : InsB l1 := ⟨by omega, w1⟩
    cases u0; cases u1
    exact ⟨(a0, l1), ⟨_, rfl, s1, r0⟩, g1⟩
theorem opensW_elm : OpensW Tryz.prog 69 EElmS := by
  intro H enc w base spare held fuel cs x h hwt
  obtain ⟨hl, n, hg⟩ := trod_structW (m := 3) U69 (by kernel_rfl) h
  obtain ⟨y0, h0, k0⟩ := hg 0 _ 0 1 rfl rfl (by kernel_rfl)
  obtain ⟨y1, h1, k1⟩ := hg 1 _ 1 1 rfl rfl (by kernel_rfl)
  obtain ⟨y2, h2, k2⟩ := hg 2 _ 2 1 rfl rfl (by kernel_rfl)
  match cs, hl with
  | [c0, c1, c2], _ =>
    obtain ⟨a0, u0, r0⟩ := opens_int U28 _ _ _ _ _ _ _ _ _ h0
    obtain ⟨l1, v1, u1, s1, b1⟩ := opensW_inss _ _ _ _ _ _ _ _ _ h1 (fun q hq => hwt q (k1 q hq))
    obtain ⟨s1, w1⟩ := s1.unW
    have g1 : InsB l1 := ⟨by omega, w1⟩
    obtain ⟨l2, v2, u2, s2, b2⟩ := opensW_slice (n := 1) (b := 4) U24 (by kernel_rfl) (by kernel_rfl) (by decide) (opens_int U28).w _ _ _ _ _ _ _ _ _ h2 (fun q hq => hwt q (k2 q hq))
    cases u0; cases u1; cases u2
    exact ⟨(a0, l1, l2), ⟨_, _, rfl, s1, s2, r0⟩, g1, by show l2.length ≤ _; omega⟩
theorem opensW_cod : OpensW Tryz.prog 54 ECodS := by
  intro H enc w base spare held fuel cs x h hwt
  obtain ⟨hl, n, hg⟩ := trod_structW (m := 2) U54 (by kernel_rfl) h
  obtain ⟨y0, h0, k0⟩ := hg 0 _ 0 1 rfl rfl (by kernel_rfl)
  obtain ⟨y1, h1, k1⟩ := hg 1 _ 1 1 rfl rfl (by kernel_rfl)
  match cs, hl with
  | [c0, c1], _ =>
    obtain ⟨l0, v0, u0, s0, b0⟩ := opensW_slice (n := 2) (b := 8) U51 (by kernel_rfl) (by kernel_rfl) (by decide) opensW_loc _ _ _ _ _ _ _ _ _ h0 (fun q hq => hwt q (k0 q hq))
    obtain ⟨l1, v1, u1, s1, b1⟩ := opensW_inss _ _ _ _ _ _ _ _ _ h1 (fun q hq => hwt q (k1 q hq))
    obtain ⟨s1, w1⟩ := s1.unW
    have g1 : InsB l1 := ⟨by omega, w1⟩
    cases u0; cases u1
    exact ⟨(l0, l1), ⟨_, _, rfl, s0, s1⟩, g1, by show l0.length ≤ _; omega⟩
theorem opensW_dat : OpensW Tryz.prog 71 EDatS := by
  intro H enc w base spare held fuel cs x h hwt
  obtain ⟨hl, n, hg⟩ := trod_structW (m := 3) U71 (by kernel_rfl) h
  obtain ⟨y0, h0, k0⟩ := hg 0 _ 0 1 rfl rfl (by kernel_rfl)
  obtain ⟨y1, h1, k1⟩ := hg 1 _ 1 1 rfl rfl (by kernel_rfl)
  obtain ⟨y2, h2, k2⟩ := hg 2 _ 2 1 rfl rfl (by kernel_rfl)
  match cs, hl with
  | [c0, c1, c2], _ =>
    obtain ⟨a0, u0, r0⟩ := opens_int U28 _ _ _ _ _ _ _ _ _ h0
    obtain ⟨l1, v1, u1, s1, b1⟩ := opensW_inss _ _ _ _ _ _ _ _ _ h1 (fun q hq => hwt q (k1 q hq))
    obtain ⟨s1, w1⟩ := s1.unW
    have g1 : InsB l1 := ⟨by omega, w1⟩
    obtain ⟨l2, v2, u2, s2, b2⟩ := opensW_slice (n := 1) (b := 1) U34 (by kernel_rfl) (by kernel_rfl) (by decide) (opens_int U5).w _ _ _ _ _ _ _ _ _ h2 (fun q hq => hwt q (k2 q hq))
    cases u0; cases u1; cases u2
    exact ⟨(a0, l1, l2), ⟨_, _, rfl, s1, s2, r0⟩, g1, by show l2.length ≤ _; omega⟩
def EMoS : El Mo := fun H cs m => ∃ t i f tb me g e el c d, cs = [t, i, f, tb, me, g, e, .bool m.hasStart, .int .u32 m.start, el, c, d] ∧ MoV H t i f tb me g e el c d m ∧ Szd m
theorem opensW_mod : OpensW Tryz.prog 33 EMoS := by
  intro H enc w base spare held fuel cs x h hwt
  obtain ⟨hl, n, hg⟩ := trod_structW (m := 12) U33 (by kernel_rfl) h
  obtain ⟨y0, h0, k0⟩ := hg 0 _ 0 1 rfl rfl (by kernel_rfl)
  obtain ⟨y1, h1, k1⟩ := hg 1 _ 1 1 rfl rfl (by kernel_rfl)
  obtain ⟨y2, h2, k2⟩ := hg 2 _ 2 1 rfl rfl (by kernel_rfl)
  obtain ⟨y3, h3, k3⟩ := hg 3 _ 3 1 rfl rfl (by kernel_rfl)
  obtain ⟨y4, h4, k4⟩ := hg 4 _ 4 1 rfl rfl (by kernel_rfl)
  obtain ⟨y5, h5, k5⟩ := hg 5 _ 5 1 rfl rfl (by kernel_rfl)
  obtain ⟨y6, h6, k6⟩ := hg 6 _ 6 1 rfl rfl (by kernel_rfl)
  obtain ⟨y7, h7, k7⟩ := hg 7 _ 7 1 rfl rfl (by kernel_rfl)
  obtain ⟨y8, h8, k8⟩ := hg 8 _ 8 1 rfl rfl (by kernel_rfl)
  obtain ⟨y9, h9, k9⟩ := hg 9 _ 9 1 rfl rfl (by kernel_rfl)
  obtain ⟨y10, h10, k10⟩ := hg 10 _ 10 1 rfl rfl (by kernel_rfl)
  obtain ⟨y11, h11, k11⟩ := hg 11 _ 11 1 rfl rfl (by kernel_rfl)
  match cs, hl with
  | [c0, c1, c2, c3, c4, c5, c6, c7, c8, c9, c10, c11], _ =>
    obtain ⟨l0, v0, u0, s0, b0⟩ := opensW_slice (n := 2) (b := Tryz.prog.bytesOf 50) U22 (by kernel_rfl) rfl (by decide) opensW_fty _ _ _ _ _ _ _ _ _ h0 (fun q hq => hwt q (k0 q hq))
    obtain ⟨l1, v1, u1, s1, b1⟩ := opensW_slice (n := 8) (b := Tryz.prog.bytesOf 61) U23 (by kernel_rfl) rfl (by decide) opensW_imp _ _ _ _ _ _ _ _ _ h1 (fun q hq => hwt q (k1 q hq))
    obtain ⟨l2, v2, u2, s2, b2⟩ := opensW_slice (n := 1) (b := 4) U24 (by kernel_rfl) (by kernel_rfl) (by decide) (opens_int U28).w _ _ _ _ _ _ _ _ _ h2 (fun q hq => hwt q (k2 q hq))
    obtain ⟨l3, v3, u3, s3, b3⟩ := opensW_slice (n := 2) (b := Tryz.prog.bytesOf 57) U25 (by kernel_rfl) rfl (by decide) opensW_lim _ _ _ _ _ _ _ _ _ h3 (fun q hq => hwt q (k3 q hq))
    obtain ⟨l4, v4, u4, s4, b4⟩ := opensW_slice (n := 2) (b := Tryz.prog.bytesOf 57) U25 (by kernel_rfl) rfl (by decide) opensW_lim _ _ _ _ _ _ _ _ _ h4 (fun q hq => hwt q (k4 q hq))
    obtain ⟨l5, v5, u5, s5, b5⟩ := opensW_slice (n := 3) (b := Tryz.prog.bytesOf 63) U26 (by kernel_rfl) rfl (by decide) opensW_glo _ _ _ _ _ _ _ _ _ h5 (fun q hq => hwt q (k5 q hq))
    obtain ⟨l6, v6, u6, s6, b6⟩ := opensW_slice (n := 3) (b := Tryz.prog.bytesOf 66) U27 (by kernel_rfl) rfl (by decide) opensW_exp _ _ _ _ _ _ _ _ _ h6 (fun q hq => hwt q (k6 q hq))
    obtain ⟨a7, u7⟩ := opens_bool U4 _ _ _ _ _ _ _ _ _ h7
    obtain ⟨a8, u8, r8⟩ := opens_int U28 _ _ _ _ _ _ _ _ _ h8
    obtain ⟨l9, v9, u9, s9, b9⟩ := opensW_slice (n := 3) (b := Tryz.prog.bytesOf 69) U29 (by kernel_rfl) rfl (by decide) opensW_elm _ _ _ _ _ _ _ _ _ h9 (fun q hq => hwt q (k9 q hq))
    obtain ⟨l10, v10, u10, s10, b10⟩ := opensW_slice (n := 2) (b := Tryz.prog.bytesOf 54) U30 (by kernel_rfl) rfl (by decide) opensW_cod _ _ _ _ _ _ _ _ _ h10 (fun q hq => hwt q (k10 q hq))
    obtain ⟨l11, v11, u11, s11, b11⟩ := opensW_slice (n := 3) (b := Tryz.prog.bytesOf 71) U31 (by kernel_rfl) rfl (by decide) opensW_dat _ _ _ _ _ _ _ _ _ h11 (fun q hq => hwt q (k11 q hq))
    cases u0; cases u1; cases u2; cases u3; cases u4; cases u5; cases u6; cases u7; cases u8; cases u9; cases u10; cases u11
    have p0 : l0.length ≤ 140737488351232 := Nat.le_trans (Nat.le_mul_of_pos_right _ (of_decide_eq_true (by kernel_rfl) : (1 : Nat) ≤ Tryz.prog.bytesOf 50)) b0
    have p1 : l1.length ≤ 140737488351232 := Nat.le_trans (Nat.le_mul_of_pos_right _ (of_decide_eq_true (by kernel_rfl) : (1 : Nat) ≤ Tryz.prog.bytesOf 61)) b1
    have p3 : l3.length ≤ 140737488351232 := Nat.le_trans (Nat.le_mul_of_pos_right _ (of_decide_eq_true (by kernel_rfl) : (1 : Nat) ≤ Tryz.prog.bytesOf 57)) b3
    have p4 : l4.length ≤ 140737488351232 := Nat.le_trans (Nat.le_mul_of_pos_right _ (of_decide_eq_true (by kernel_rfl) : (1 : Nat) ≤ Tryz.prog.bytesOf 57)) b4
    have p5 : l5.length ≤ 140737488351232 := Nat.le_trans (Nat.le_mul_of_pos_right _ (of_decide_eq_true (by kernel_rfl) : (1 : Nat) ≤ Tryz.prog.bytesOf 63)) b5
    have p6 : l6.length ≤ 140737488351232 := Nat.le_trans (Nat.le_mul_of_pos_right _ (of_decide_eq_true (by kernel_rfl) : (1 : Nat) ≤ Tryz.prog.bytesOf 66)) b6
    have p9 : l9.length ≤ 140737488351232 := Nat.le_trans (Nat.le_mul_of_pos_right _ (of_decide_eq_true (by kernel_rfl) : (1 : Nat) ≤ Tryz.prog.bytesOf 69)) b9
    have p10 : l10.length ≤ 140737488351232 := Nat.le_trans (Nat.le_mul_of_pos_right _ (of_decide_eq_true (by kernel_rfl) : (1 : Nat) ≤ Tryz.prog.bytesOf 54)) b10
    have p11 : l11.length ≤ 140737488351232 := Nat.le_trans (Nat.le_mul_of_pos_right _ (of_decide_eq_true (by kernel_rfl) : (1 : Nat) ≤ Tryz.prog.bytesOf 71)) b11
    obtain ⟨s0, w0⟩ := s0.unS (E := EFTy) (fun _ _ _ hx => hx)
    obtain ⟨s1, w1⟩ := s1.unS (E := EImp) (fun _ _ _ hx => hx)
    obtain ⟨s5, w5⟩ := s5.unS (E := EGlo) (fun _ _ _ hx => hx)
    obtain ⟨s6, w6⟩ := s6.unS (E := EExp) (fun _ _ _ hx => hx)
    obtain ⟨s9, w9⟩ := s9.unS (E := EElm) (fun _ _ _ hx => hx)
    obtain ⟨s10, w10⟩ := s10.unS (E := ECod) (fun _ _ _ hx => hx)
    obtain ⟨s11, w11⟩ := s11.unS (E := EDat) (fun _ _ _ hx => hx)
    exact ⟨⟨l0, l1, l2, l3, l4, l5, l6, a7, a8, l9, l10, l11⟩, _, _, _, _, _, _, _, _, _, _, rfl, ⟨s0, s1, s2, s3, s4, s5, s6, s9, s10, s11, r8⟩, ⟨⟨p0, p1, by show l2.length ≤ _; omega, p3, p4, p5, p6, p9, p10, p11⟩, w0, w1, w6, w5, w9, w10, w11⟩⟩
end Go.Proofs.YtldmfchamcpmmaaGreatDoor
namespace Go.Proofs.YtldmfchamcpmmaaGreatDoor
open Go Go.RowKit
namespace Bn
open Isp
def retP {α : Type} (x : α) : Prs α := fun _ => .ok (x, 0)
/-- a byte that must be so, and what it tells -/
def oneP {α : Type} (f : Int → Except Int α) : Prs α := fun r => match r with
  | [] => .error 60
  | x :: _ => match f x with
    | .error e => .error e
    | .ok y => .ok (y, 1)
def valF (x : Int) : Except Int Int := if x = 125 ∨ x = 124 then .error 61 else if x = 127 ∨ x = 126 then .ok x else .error 60
def valP : Prs Int := oneP valF
def flgF (x : Int) : Except Int Bool := if x ≤ 1 then .ok (decide (x = 1)) else .error 60
def flgP : Prs Bool := oneP flgF
def tagF (b x : Int) : Except Int Unit := if x = b then .ok () else .error 60
def tagP (b : Int) : Prs Unit := oneP (tagF b)
def kndF (x : Int) : Except Int Int := if x ≤ 3 then .ok x else .error 60
def kndP : Prs Int := oneP kndF
/-- a list, behind how many it has -/
def lstP {α : Type} (p : Prs α) : Prs (List α) := mapP (·.2) (bindP u32P fun n => manyP p n.toNat)
def limR : Bool → Prs (Int × Int)
  | true => bindP u32P fun _ => u32P
  | false => bindP u32P fun _ => retP (-1)
def limP : Prs (Int × Int) := mapP (·.2) (bindP flgP limR)
def tabP : Prs (Int × Int) := mapP (·.2) (bindP (tagP 112) fun _ => limP)
def glbP : Prs Glb := bindP valP fun _ => flgP
def typP : Prs FTy := mapP (·.2) (bindP (tagP 96) fun _ => bindP (lstP valP) fun _ => lstP valP)
def namP : Prs ByteArray := fun r => match Nm.nt r with
  | none => .error 60
  | some (t, k) => if (t.all fun x => decide (0 ≤ x ∧ x ≤ 255)) = true then .ok (bstr t, k) else .error 60
def impR (k : Int) : Prs (Int × (Int × Int) × Glb) :=
  if k = 0 then mapP (fun t => (t, (0, 0), (0, false))) u32P
  else if k = 1 then mapP (fun l => (0, l, (0, false))) tabP
  else if k = 2 then mapP (fun l => (0, l, (0, false))) limP
  else if k = 3 then mapP (fun g => (0, (0, 0), g)) glbP
  else fun _ => .error 60
def impP : Prs Imp := mapP (fun z => ⟨z.1, z.2.1, z.2.2.1, z.2.2.2.1, z.2.2.2.2.1, z.2.2.2.2.2⟩) (bindP namP fun _ => bindP namP fun _ => bindP byteP impR)
def expP : Prs Exp := mapP (fun z => ⟨z.1, z.2.1, z.2.2⟩) (bindP namP fun _ => bindP kndP fun _ => u32P)
def xprP : Prs (List Ins) := fun r => exprP (r.length + 1) [] r
def gloP : Prs Glo := bindP glbP fun _ => xprP
def elmP : Prs Elm := bindP u32P fun _ => bindP xprP fun _ => lstP u32P
def locP : Prs (Int × Int) := bindP u32P fun _ => valP
def bytP : Prs (List Int) := fun r => match u32P r with
  | .error e => .error e
  | .ok (n, k) => if n.toNat ≤ r.length - k then .ok ((r.drop k).take n.toNat, k + n.toNat) else .error 60
/-- all bytes -/
def whole {α : Type} (p : Prs α) (b : List Int) : Except Int α := match p b with
  | .error e => .error e
  | .ok (x, k) => if k = b.length then .ok x else .error 60
def codQ : Prs _root_.Go.Proofs.YtldmfchamcpmmaaGreatDoor.Cod := fun c => match lstP locP c with
  | .error e => .error e
  | .ok (ls, k) => if En.locS ls < 4294967296 then (match xprP (c.drop k) with
    | .error e => .error e
    | .ok (b, m) => .ok ((ls, b), k + m)) else .error 60
def codP : Prs _root_.Go.Proofs.YtldmfchamcpmmaaGreatDoor.Cod := fun r => match bytP r with
  | .error e => .error e
  | .ok (b, k) => match whole codQ b with
    | .error e => .error e
    | .ok c => .ok (c, k)
def datP : Prs Elm := bindP u32P fun _ => bindP xprP fun _ => bytP
def mapE {α β : Type} (f : α → β) : Except Int α → Except Int β
  | .error e => .error e
  | .ok x => .ok (f x)
/-- a section read into a module -/
def secF (id : Int) (b : List Int) (m : Mo) : Except Int Mo :=
  if id = 1 then mapE (fun x => { m with types := x }) (whole (lstP typP) b)
  else if id = 2 then mapE (fun x => { m with imports := x }) (whole (lstP impP) b)
  else if id = 3 then mapE (fun x => { m with funcs := x }) (whole (lstP u32P) b)
  else if id = 4 then mapE (fun x => { m with tables := x }) (whole (lstP tabP) b)
  else if id = 5 then mapE (fun x => { m with mems := x }) (whole (lstP limP) b)
  else if id = 6 then mapE (fun x => { m with globs := x }) (whole (lstP gloP) b)
  else if id = 7 then mapE (fun x => { m with exports := x }) (whole (lstP expP) b)
  else if id = 8 then mapE (fun x => { m with hasStart := true, start := x }) (whole u32P b)
  else if id = 9 then mapE (fun x => { m with elems := x }) (whole (lstP elmP) b)
  else if id = 10 then mapE (fun x => { m with codes := x }) (whole (lstP codP) b)
  else mapE (fun x => { m with datas := x }) (whole (lstP datP) b)
def fills : List Sec → Mo → Except Int Mo
  | [], m => .ok m
  | s :: l, m => match secF s.1 s.2 m with
    | .error e => .error e
    | .ok m' => fills l m'
def mo0 : Mo := ⟨[], [], [], [], [], [], [], false, 0, [], [], []⟩
/-- the module of a binary -/
def dec (l : List Int) : Except Int Mo := if 65536 < l.length then .error 3 else match Sc.split l with
  | none => .error 60
  | some ss => match fills ss mo0 with
    | .error e => .error e
    | .ok m => if m.codes.length = m.funcs.length then .ok m else .error 60
end Bn
theorem bstr_eq {l m : List Int} (hl : ∀ x ∈ l, InR .u8 x) (hm : ∀ x ∈ m, InR .u8 x) : ((bstr l).toList == (bstr m).toList) = decide (l = m) := by
  rw [str_eq_ints, ints_bstr hl, ints_bstr hm]
theorem SlBool.take {l m : List Int} (h : ¬ m.length ≤ l.length) : decide (l.take m.length = m) = false := decide_eq_false (fun e => h (by have := congrArg List.length e; rw [List.length_take] at this; omega))
theorem TakeU_or {H : Heap} (v : Value) (l : List Int) (hs : Sl 1 (EInt .u8) H v l) : Ct Tryz.prog 53 [v, .int .i64 32] H (fun u H' => H = H' ∧ ((Lb.tk l 32 = none ∧ u = .tuple #[.int .u64 0, .int .i64 0, .bool false]) ∨ ∃ n k, Lb.tk l 32 = some (n, k) ∧ u = .tuple #[.int .u64 n, .int .i64 (k : Nat), .bool true])) := by
  cases h : Lb.tk l 32 with
  | none => exact (TakeU_none v l 32 hs h).mono fun u H' ⟨h1, h2⟩ => ⟨h2, .inl ⟨rfl, h1⟩⟩
  | some p => exact (TakeU_some v l 32 p.1 p.2 hs h).mono fun u H' ⟨h1, h2⟩ => ⟨h2, .inr ⟨p.1, p.2, rfl, h1⟩⟩
theorem NTake_or {H : Heap} (v : Value) (l : List Int) (hs : Sl 1 (EInt .u8) H v l) (hT : TabU H) : Ct Tryz.prog 54 [v] H (fun u H' => Old H H' ∧ ((Nm.nt l = none ∧ u = .tuple #[.string ⟨#[]⟩, .int .i64 0, .bool false]) ∨ ∃ t k, Nm.nt l = some (t, k) ∧ u = .tuple #[.string (bstr t), .int .i64 (k : Nat), .bool true])) := by
  cases h : Nm.nt l with
  | none => exact (Take_is v l hs hT h).mono fun u H' ⟨h1, h2⟩ => ⟨h2, .inl ⟨rfl, h1⟩⟩
  | some p => exact (Take_is v l hs hT h).mono fun u H' ⟨h1, h2⟩ => ⟨h2, .inr ⟨p.1, p.2, rfl, h1⟩⟩
theorem Equal_any {H : Heap} (va vb : Value) (la lb : List Int) (sa : Sl 1 (EInt .u8) H va la) (sb : Sl 1 (EInt .u8) H vb lb) : Ct Tryz.prog 114 [va, vb] H (fun u H' => u = .bool (decide (la = lb)) ∧ H = H') := by
  refine Ct.mk Tryz.func114 rfl Tryz.ntmps114 rfl ?_
  intro W0 hW0
  have o0 : Old H H := Old.refl H
  refine KC.sr (KL.fin 1 rfl (KQ.sr (KL.run 1 rfl (KL.q (R.convBS rfl U34 U5 U9 rfl sa) rfl (KL.run 1 rfl (KL.q (R.convBS rfl U34 U5 U9 rfl sb) rfl (KL.q ((R.eqlStr rfl rfl rfl).val (congrArg Value.bool (bstr_eq sa.int_range sb.int_range))) rfl (KL.fin 1 rfl (KQ.seq (KC.ret ?_))))))))))
  refine KQ.ofRet (KQ.fin1 Tryz.results114 rfl ?_)
  exact ⟨rfl, rfl⟩
theorem HasPrefix_any {H : Heap} (va vb : Value) (la lb : List Int) (sa : Sl 1 (EInt .u8) H va la) (sb : Sl 1 (EInt .u8) H vb lb) : Ct Tryz.prog 95 [va, vb] H (fun u H' => u = .bool (decide (la.take lb.length = lb)) ∧ H = H') := by
  refine Ct.mk Tryz.func95 rfl Tryz.ntmps95 rfl ?_
  intro W0 hW0
  have o0 : Old H H := Old.refl H
  refine KC.sr (KL.fin 1 rfl (KQ.sr (KL.run 1 rfl ?_)))
  refine KL.q (by exact R.lenS rfl U34 rfl sa) rfl ?_
  refine KL.run 1 rfl ?_
  refine KL.q (by exact R.lenS rfl U34 rfl sb) rfl ?_
  refine KL.run 2 rfl ?_
  refine KL.cq 10 rfl ?_ ?_
  · intro hg10
    refine KL.run 2 rfl ?_
    refine KL.q (by exact R.lenS rfl U34 rfl sb) rfl ?_
    refine KL.q (R.slice rfl U34 sz5 rfl sa bnd.no (bnd.mk (r := lb.length) rfl rfl) (Nat.zero_le _) (by omega)) rfl ?_
    have sc : Sl 1 (EInt .u8) H (subV 1 va 0 lb.length) (la.take lb.length) := by
      have := sa.sub (lo := 0) (hi := lb.length) (Nat.zero_le _) (by omega)
      simpa using this
    refine KL.run 1 rfl ?_
    refine KL.c rfl Tryz.call114 (Equal_any _ _ _ _ sc sb) ?_
    rintro _ _ ⟨rfl, rfl⟩
    refine KL.fin 2 rfl (KQ.seq (KC.ret (KQ.ofRet (KQ.fin1 Tryz.results95 rfl ?_))))
    exact ⟨rfl, rfl⟩
  intro hg10
  refine KL.fin 8 rfl (KQ.seq (KC.ret (KQ.ofRet (KQ.fin1 Tryz.results95 rfl ?_))))
  exact ⟨congrArg Value.bool (SlBool.take (by omega)).symm, rfl⟩
theorem CutPrefix_yes {H : Heap} (va vb : Value) (la lb : List Int) (sa : Sl 1 (EInt .u8) H va la) (sb : Sl 1 (EInt .u8) H vb lb) (h : la.take lb.length = lb) : Ct Tryz.prog 51 [va, vb] H (fun u H' => u = .tuple #[subV 1 va lb.length la.length, .bool true] ∧ H = H') := by
  refine Ct.mk Tryz.func51 rfl Tryz.ntmps51 rfl ?_
  intro W0 hW0
  have o0 : Old H H := Old.refl H
  refine KC.sr (KL.fin 2 rfl (KQ.seq (KC.seq (KC.sr (KL.run 2 rfl ?_)))))
  refine KL.c rfl Tryz.call95 (((HasPrefix_any _ _ _ _ sa sb).mono (fun u H2 h2 => by rw [decide_eq_true h] at h2; exact h2))) ?_
  rintro _ _ ⟨rfl, rfl⟩
  refine KL.fin 1 rfl (KQ.seq (KC.condF rfl (KC.skip (KQ.sr (KL.run 2 rfl ?_)))))
  refine KL.q (by exact R.lenS rfl U34 rfl sb) rfl ?_
  refine KL.q (R.slice rfl U34 sz5 rfl sa (bnd.mk (r := lb.length) rfl rfl) bnd.no (by have := congrArg List.length h; rw [List.length_take] at this; omega) (Nat.le_refl _)) rfl ?_
  refine KL.fin 2 rfl (KQ.seq (KC.ret (KQ.ofRet (KQ.fin2 Tryz.results51 rfl rfl ?_))))
  exact ⟨rfl, rfl⟩
theorem CutPrefix_no {H : Heap} (va vb : Value) (la lb : List Int) (sa : Sl 1 (EInt .u8) H va la) (sb : Sl 1 (EInt .u8) H vb lb) (h : ¬ la.take lb.length = lb) : Ct Tryz.prog 51 [va, vb] H (fun u H' => u = .tuple #[va, .bool false] ∧ H = H') := by
  refine Ct.mk Tryz.func51 rfl Tryz.ntmps51 rfl ?_
  intro W0 hW0
  have o0 : Old H H := Old.refl H
  refine KC.sr (KL.fin 2 rfl (KQ.seq (KC.seq (KC.sr (KL.run 2 rfl ?_)))))
  refine KL.c rfl Tryz.call95 (((HasPrefix_any _ _ _ _ sa sb).mono (fun u H2 h2 => by rw [decide_eq_false h] at h2; exact h2))) ?_
  rintro _ _ ⟨rfl, rfl⟩
  refine KL.fin 1 rfl (KQ.seq (KC.condT rfl (KC.sr (KL.fin 3 rfl (KQ.seq (KC.ret (KQ.retThen (KQ.ofRet (KQ.fin2 Tryz.results51 rfl rfl ?_)))))))))
  exact ⟨rfl, rfl⟩
theorem Clone_any {H : Heap} (v : Value) (l : List Int) (hs : Sl 1 (EInt .u8) H v l) (hl : l.length ≤ 140737488351232) : Ct Tryz.prog 55 [v] H (fun u H' => Own 1 (EInt .u8) 5 #[] H.size H' u l ∧ Old H H') := by
  refine Ct.mk Tryz.func55 rfl Tryz.ntmps55 rfl ?_
  intro W0 hW0
  have o0 : Old H H := Old.refl H
  obtain ⟨a, cap, rfl⟩ := hs.val
  refine KC.sr (KL.fin 1 rfl (KQ.seq (KC.seq (KC.sr (KL.run 1 rfl (KL.q (R.eqlS rfl U34 rfl rfl) rfl (KL.nil (KQ.seq ?_))))))))
  refine KC.iq rfl ?_ ?_
  · intro hn
    have hl0 : l = [] := by
      cases a with
      | none => obtain ⟨_, _, hv, k1, k2, k3, _⟩ := hs; cases hv; exact List.eq_nil_of_length_eq_zero (by have := k3 rfl; omega)
      | some p => cases hn
    subst hl0
    refine KC.sr (KL.fin 1 rfl (KQ.seq (KC.ret (KQ.retThen (KQ.ofRet (KQ.fin1 Tryz.results55 rfl ?_))))))
    exact ⟨Own.nil _ _ _ _ _ _, o0⟩
  intro hn
  refine KC.skip (KQ.sr ?_)
  refine KL.m (M.lit rfl U34 zs5 (by decide) rfl rfl rfl) rfl ?_
  rintro _ H1 ⟨rfl, n1⟩
  have z1 := n1.2.1
  have o0 := o0.trans n1.1
  have b1 := n1.2.2
  have wa : Own 1 (EInt .u8) 5 #[] H.size H1 _ [] := Own.litI (l := []) n1 (Nat.le_refl _) rfl (by decide) (by intro x hx; cases hx)
  refine KL.run 1 rfl ?_
  have lt2 := wa.lt
  refine KL.m (M.append rfl U34 inf5 rfl (by decide) rfl rfl wa (by exact (hs.old o0)) (fun _ _ h _ => h) (by omega) (by simp; omega) (by unfold maxLen; simp; omega)) rfl ?_
  rintro vb H2 ⟨w2, g2⟩
  have ob2 := g2.oldB wa (by omega)
  have o0 := o0.then ob2 (by omega)
  have z2 := ob2.1
  have wa := w2
  refine KL.fin 1 rfl (KQ.seq (KC.ret (KQ.ofRet (KQ.fin1 Tryz.results55 rfl ?_))))
  exact ⟨by simpa using wa, o0⟩
theorem lt2r {g1 g2 B : Nat} (h1 : g1 < B) (h2 : g2 < B) : ∀ g ∈ g1 :: List.range (g2 + 1), g < B := by
  intro g hg
  rcases List.mem_cons.1 hg with rfl | hg
  · exact h1
  have := List.mem_range.1 hg; omega
theorem OwnE.outliveN {α : Type} {n : Nat} {E : El α} {e : TypeId} {B N N2 : Nat} {H : Heap} {v : Value} {l : List α} (h : OwnE n E e B H v (List.range N) l) (hn : 0 < n) (hN : N2 ≤ N) (hB : N2 ≤ B) : ∀ H2, KeepX (List.range N2) H H2 → Sl n E H2 v l := by
  intro H2 kx
  have hk : v = .slice none 0 0 ∨ H2[vblock v]? = H[vblock v]? := (OwnE.lt h).imp id (fun k => kx.2 _ k.2 (by rw [List.mem_range]; omega))
  have h2 : Own n (FK E H (vblock v :: List.range N)) e #[] B H2 v l := Own.keepN h.own hk
  exact (Own.sl h2 (emptyOld _) hn).mapE fun cs x hf => hf H2 ⟨kx.1, fun k hk hm => kx.2 k hk (fun hx => hm (List.mem_cons_of_mem _ (by rw [List.mem_range] at *; omega)))⟩
namespace Sc
/-- what a split hands back: no sections and an error, or sections and none -/
def Res (N : Nat) (o : Option (List Sec)) (bad good : Value) (u : Value) (H : Heap) : Prop := match o with
  | none => u = .tuple #[.slice none 0 0, bad]
  | some m => ∃ vo, u = .tuple #[vo, good] ∧ ∀ H2, KeepX (List.range N) H H2 → Sl 2 ESec H2 vo m
theorem step_map {o : Option (List Sec)} {acc : List Sec} {s : Sec} : (o.map (s :: ·)).map (acc ++ ·) = o.map ((acc ++ [s]) ++ ·) := by cases o <;> simp
end Sc
theorem Split_no {H : Heap} (v : Value) (l : List Int) (hs : Sl 1 (EInt .u8) H v l) (hT : TabU H) (hl : l.length ≤ 140737488351232) (hb : ¬ l.take 8 = Sc.beg) : Ct Tryz.prog 10 [v] H (fun u H' => Old H H' ∧ Sc.Res H.size (Sc.split l) (.int .i64 60) (.int .i64 0) u H') := by
  refine Ct.mk Tryz.func10 rfl Tryz.ntmps10 rfl ?_
  intro W0 hW0
  have o0 : Old H H := Old.refl H
  refine KC.sr (KL.fin 2 rfl (KQ.sr (KL.run 1 rfl ?_)))
  refine KL.m (M.lit rfl U34 zs5 (by decide) rfl rfl rfl) rfl ?_
  rintro _ H1 ⟨rfl, n1⟩
  have z1 := n1.2.1
  have o0 := o0.trans n1.1
  have b1 := n1.2.2
  have bm := b1
  refine KL.m (M.mark rfl U34 U5 rfl bm) rfl ?_
  rintro _ H2 ⟨rfl, um, bmk⟩
  have zum := um.1
  have o0 := o0.upd um (by omega)
  have sm : Sl 1 (EInt .u8) H2 (.slice (some ⟨_, 0, none⟩) 8 8) Sc.beg := Sl.ofCells (l := Sc.beg) bmk (by decide) (by decide)
  refine KL.c rfl Tryz.call51 (CutPrefix_no _ _ _ _ (hs.old o0) sm hb) ?_
  rintro _ _ ⟨rfl, rfl⟩
  refine KL.fin 5 rfl (KQ.seq (KC.seq (KC.sr (KL.fin 2 rfl (KQ.seq (KC.condT rfl (KC.sr (KL.fin 2 rfl (KQ.seq (KC.ret (KQ.retThen ?_)))))))))))
  refine KQ.ofRet (KQ.fin2 V10 rfl rfl ?_)
  exact ⟨o0, by unfold Sc.split; rw [if_neg hb]; rfl⟩
theorem Split_yes {H : Heap} (v : Value) (l : List Int) (hs : Sl 1 (EInt .u8) H v l) (hT : TabU H) (hl : l.length ≤ 140737488351232) (hb0 : l.take 8 = Sc.beg) : Ct Tryz.prog 10 [v] H (fun u H' => Old H H' ∧ Sc.Res H.size (Sc.split l) (.int .i64 60) (.int .i64 0) u H') := by
  refine Ct.mk Tryz.func10 rfl Tryz.ntmps10 rfl ?_
  intro W0 hW0
  have o0 : Old H H := Old.refl H
  have hl8 : 8 ≤ l.length := by
    have := congrArg List.length hb0; rw [List.length_take] at this; have e8 : Sc.beg.length = 8 := rfl; omega
  have hsp0 : Sc.split l = (Sc.sp (l.drop 8) 0).map ([] ++ ·) := by unfold Sc.split; rw [if_pos hb0]; simp
  refine KC.sr (KL.fin 2 rfl (KQ.sr (KL.run 1 rfl ?_)))
  refine KL.m (M.lit rfl U34 zs5 (by decide) rfl rfl rfl) rfl ?_
  rintro _ H1 ⟨rfl, n1⟩
  have z1 := n1.2.1
  have o0 := o0.trans n1.1
  have b1 := n1.2.2
  have bm := b1
  refine KL.m (M.mark rfl U34 U5 rfl bm) rfl ?_
  rintro _ H2 ⟨rfl, um, bmk⟩
  have zum := um.1
  have o0 := o0.upd um (by omega)
  have sm : Sl 1 (EInt .u8) H2 (.slice (some ⟨_, 0, none⟩) 8 8) Sc.beg := Sl.ofCells (l := Sc.beg) bmk (by decide) (by decide)
  refine KL.c rfl Tryz.call51 (CutPrefix_yes _ _ _ _ (hs.old o0) sm hb0) ?_
  rintro _ _ ⟨rfl, rfl⟩
  refine KL.fin 5 rfl (KQ.seq (KC.seq (KC.sr (KL.fin 2 rfl (KQ.seq (KC.condF rfl (KC.skip (KQ.sr (KL.fin 1 rfl (KQ.seq ?_))))))))))
  refine KC.sr ?_
  refine KL.c rfl Tryz.call52 (rising_any) ?_
  rintro _ H3 ⟨rfl, ox, bl, zr⟩
  have zc_H3 := (ox).1
  have o0 := o0.trans ox
  have sm := sm.old ox
  refine KL.fin 1 rfl (KQ.seq (KC.seq (KC.block ?_)))
  refine KC.loopD (κ := Value × List Int × Value × List Sec × Int) [27, 28, 29, 30, 31, 32, 8, 34, 35, 36, 33, 37, 38, 39, 9, 10, 11, 40, 41, 42, 43, 44, 45, 46, 47, 48, 49, 50, 51, 2, 3, 52, 53, 12, 54, 55, 56, 57, 58, 59, 60, 13, 61, 62, 63, 64, 65, 66, 4, 67, 68, 70, 71, 69, 72, 73, 74, 14, 15, 16, 75, 76, 77, 78, 79, 80, 81, 82, 83, 84, 85, 86, 87, 6] (fun k => [(4, k.1), (6, k.2.2.1)]) (fun k Hl => Sl 1 (EInt .u8) H k.1 k.2.1 ∧ OwnE 2 ESec 48 (Array.size H3) Hl k.2.2.1 (List.range ((Array.size H2) + 1)) k.2.2.2.1 ∧ Sc.split l = (Sc.sp k.2.1 k.2.2.2.2).map (k.2.2.2.1 ++ ·) ∧ Hl[(Array.size H2)]? = some (.cells [.int .u8 k.2.2.2.2].toArray 5 (0, 0)) ∧ (k.2.1.length ≤ l.length ∧ (k.2.2.2.1.length : Int) ≤ k.2.2.2.2 ∧ k.2.2.2.2 ≤ 11) ∧ Old H Hl ∧ Array.size H3 ≤ Hl.size) (fun k => k.2.1.length) (subV 1 v 8 l.length, l.drop 8, .slice none 0 0, [], 0) ?_ ?_ ?_
  · exact Sub.all rfl
  · exact ⟨hs.tail (by omega), OwnE.nil _ _ _ _ _ _, hsp0, bl, ⟨by show (l.drop 8).length ≤ _; rw [List.length_drop]; omega, Int.le_refl _, by show (0 : Int) ≤ 11; decide⟩, o0, Nat.le_refl _⟩
  rintro ⟨va, m, vo, acc, last⟩ H4 ⟨sa, wo, hsp, bl, hle, o0, hB⟩
  have zl_H4 := o0.1
  dsimp only at sa wo hsp bl hle
  have zl := o0.1
  have hml := sa.len
  have hz := blk_lt bl
  have hvo := wo.lt
  refine KC.seq (KC.sr (KL.run 1 rfl (KL.q (R.lenS rfl U34 rfl sa) rfl (KL.fin 1 rfl (KQ.seq ?_)))))
  refine KC.iq rfl ?_ ?_
  · intro hc29
    try dsimp only at hc29
    refine KC.skip (KQ.seq (KC.block (KC.sr (KL.run 1 rfl ?_))))
    refine KL.q (R.index1 (j := 0) rfl U34 sz5 rfl rfl (sa.old o0) rfl (by omega)) rfl ?_
    refine KL.ld rfl (((sa.old o0).int 0 (by omega)).1) ?_
    have q0 := (sa.int 0 (by omega)).2
    have q1 := q0
    dsimp only [InR] at q1
    refine KL.fin 1 rfl (KQ.sr (KL.run 1 rfl ?_))
    refine KL.q (R.slice rfl U34 sz5 rfl sa (bnd.mk (r := 1) rfl rfl) bnd.no (by omega) (Nat.le_refl _)) rfl ?_
    have s1 := sa.tail (lo := 1) (by omega)
    refine KL.c rfl Tryz.call53 (TakeU_or _ _ (s1.old o0)) ?_
    rintro u9 _ ⟨rfl, hR⟩
    rcases hR with ⟨ht, rfl⟩ | ⟨n, k, ht, rfl⟩
    · skip
      refine KL.fin 7 rfl (KQ.seq (KC.seq (KC.sr (KL.fin 12 rfl (KQ.seq (KC.condT rfl (KC.sr (KL.fin 2 rfl (KQ.seq (KC.ret (KQ.retThen ?_)))))))))))
      refine KQ.retBlock (KQ.retThen (KQ.retBlock (KQ.retThen (KQ.ofRet (KQ.fin2 V10 rfl rfl ?_)))))
      (exact ⟨o0, by rw [hsp, Sc.sp_none (by omega) ht]; rfl⟩)
    have hb := Lb.tk32 ht
    rw [List.length_drop] at hb
    refine KL.fin 7 rfl (KQ.seq (KC.seq (KC.sr (KL.run 5 rfl (KL.q (R.lenS rfl U34 rfl sa) rfl ?_)))))
    refine KL.q (R.sub rfl rfl rfl (by dsimp only [InR]; omega)) rfl ?_
    refine KL.run 1 rfl ?_
    refine KL.q (R.sub rfl rfl rfl (by dsimp only [InR]; omega)) rfl ?_
    refine KL.q (R.convI rfl U3 U95 rfl (by dsimp only [InR]; omega)) rfl ?_
    refine KL.fin 2 rfl (KQ.seq ?_)
    refine KC.iq rfl ?_ ?_
    · intro hlt
      try dsimp only at hlt
      refine KC.sr (KL.fin 2 rfl (KQ.seq (KC.ret (KQ.retThen (KQ.retBlock (KQ.retThen (KQ.retBlock (KQ.retThen (KQ.ofRet (KQ.fin2 V10 rfl rfl ?_))))))))))
      (exact ⟨o0, by rw [hsp, Sc.sp_long (by omega) ht (by omega)]; rfl⟩)
    intro hlt
    try dsimp only at hlt
    refine KC.skip (KQ.sr (KL.run 1 rfl ?_))
    refine KL.q ((R.add rfl rfl rfl (by dsimp only [InR]; omega)).val (congrArg (Value.int .i64) (show _ = ((1 + k : Nat) : Int) from by omega))) rfl ?_
    refine KL.fin 1 rfl (KQ.sr (KL.run 4 rfl ?_))
    refine KL.q (R.convI rfl U95 U3 rfl (by dsimp only [InR]; omega)) rfl ?_
    refine KL.q ((R.add rfl rfl rfl (by dsimp only [InR]; omega)).val (congrArg (Value.int .i64) (show _ = ((1 + k + n.toNat : Nat) : Int) from by omega))) rfl ?_
    refine KL.q (R.slice rfl U34 sz5 rfl sa (bnd.mk (r := 1 + k) rfl rfl) (bnd.mk (r := 1 + k + n.toNat) rfl rfl) (by omega) (by omega)) rfl ?_
    have s2 : Sl 1 (EInt .u8) H (subV 1 va (1 + k) (1 + k + n.toNat)) ((m.drop (1 + k)).take n.toNat) := by
      have h9 := sa.sub (lo := 1 + k) (hi := 1 + k + n.toNat) (by omega) (by omega)
      rwa [List.drop_take, Nat.add_sub_cancel_left] at h9
    refine KL.fin 1 rfl (KQ.sr (KL.run 3 rfl ?_))
    refine KL.q (R.convI rfl U95 U3 rfl (by dsimp only [InR]; omega)) rfl ?_
    refine KL.q ((R.add rfl rfl rfl (by dsimp only [InR]; omega)).val (congrArg (Value.int .i64) (show _ = ((1 + k + n.toNat : Nat) : Int) from by omega))) rfl ?_
    refine KL.q (R.slice rfl U34 sz5 rfl sa (bnd.mk (r := 1 + k + n.toNat) rfl rfl) bnd.no (by omega) (Nat.le_refl _)) rfl ?_
    refine KL.fin 1 rfl (KQ.seq (KC.seq (KC.sr (KL.fin 2 rfl (KQ.seq ?_)))))
    refine KC.iq rfl ?_ ?_
    · intro h0
      try dsimp only at h0
      refine KC.seq (KC.sr (KL.run 1 rfl ?_))
      refine KL.c rfl Tryz.call54 (NTake_or _ _ (s2.old o0) (hT.old o0)) ?_
      rintro u8_ H5 ⟨ox, hR⟩
      have zc_H5 := (ox).1
      have o0 := o0.trans ox
      have wo := wo.old ox
      have bl := (ox).blk bl
      rcases hR with ⟨hnt, rfl⟩ | ⟨t, e, hnt, rfl⟩
      · skip
        refine KL.fin 7 rfl (KQ.sr (KL.fin 2 rfl (KQ.seq (KC.condT rfl (KC.sr (KL.fin 2 rfl (KQ.seq (KC.ret (KQ.retThen (KQ.retThen ?_))))))))))
        refine KQ.retBlock (KQ.retThen (KQ.retBlock (KQ.retThen (KQ.ofRet (KQ.fin2 V10 rfl rfl ?_)))))
        (exact ⟨o0, by rw [hsp, Sc.sp_cust (by omega) ht (by omega) h0, if_pos hnt]; rfl⟩)
      refine KL.run 4 rfl ?_
      have hspn : Sc.split l = (Sc.sp (m.drop (1 + k + n.toNat)) last).map (acc ++ ·) := by rw [hsp, Sc.sp_cust (by omega) ht (by omega) h0, if_neg (by rw [hnt]; simp)]
      have hlen : (m.drop (1 + k + n.toNat)).length ≤ l.length ∧ (acc.length : Int) ≤ last ∧ last ≤ 11 := by rw [List.length_drop]; omega
      refine KL.fin 3 rfl (KQ.sr (KL.fin 2 rfl (KQ.seq (KC.condF rfl (KC.skip (KQ.seq (KC.exit (KQ.exitThen (KQ.hit ?_)))))))))
      refine KQ.again ((subV 1 va (1 + k + n.toNat) m.length, (m.drop (1 + k + n.toNat)), vo, acc, last)) ?_ ?_ ?_
      · exact Sub.all rfl
      · show (m.drop (1 + k + n.toNat)).length < m.length; rw [List.length_drop]; omega
      exact ⟨sa.tail (by omega), wo, hspn, bl, hlen, o0, by omega⟩
    intro h0
    try dsimp only at h0
    refine KC.skip (KQ.seq (KC.seq (KC.sr (KL.run 2 rfl ?_))))
    refine KL.c rfl Tryz.call96 (rising1_any _ _ _ bl) ?_
    rintro _ H6 ⟨rfl, uu, bl⟩
    have o0 := o0.upd uu (by omega)
    have zuu := uu.1
    have wo := wo.upd uu (by simp) (hvo.imp id (fun h => by omega))
    refine KL.fin 1 rfl (KQ.seq ?_)
    refine KC.iq rfl ?_ ?_
    · intro hc80
      try dsimp only at hc80
      refine KC.sr (KL.fin 2 rfl (KQ.seq (KC.ret (KQ.retThen (KQ.retBlock (KQ.retThen (KQ.retBlock (KQ.retThen (KQ.ofRet (KQ.fin2 V10 rfl rfl ?_))))))))))
      (exact ⟨o0, by rw [hsp, Sc.sp_bad (by omega) ht (by omega) h0 (by omega)]; rfl⟩)
    intro hc80
    try dsimp only at hc80
    refine KC.skip (KQ.r (KL.run 3 rfl ?_))
    have hvl := wo.blt (by omega)
    refine KL.c rfl Tryz.call55 (Clone_any _ _ (s2.old o0) (by rw [List.length_take, List.length_drop]; omega)) ?_
    rintro vc H7 ⟨wc, ox⟩
    have zc_H7 := (ox).1
    have o0 := o0.trans ox
    have wo := wo.old ox
    have bl := (ox).blk bl
    have hvc := wc.lt
    refine KL.bd bt48 rfl ⟨rfl, wc.cells1, trivial⟩ ?_
    refine KL.m (M.lit rfl U44 zs48 (by decide) rfl rfl rfl) rfl ?_
    rintro _ H8 ⟨rfl, n8⟩
    have z8 := n8.2.1
    have o0 := o0.trans n8.1
    have wo := wo.old n8.1
    have bl := (n8.1).blk bl
    have wc := wc.old n8.1
    have b8 := n8.2.2
    have se : Sl 2 (FK ESec H8 (vblock vo :: (List.range ((Array.size H2) + 1)))) H8 _ [((m.getD 0 default), ((m.drop (1 + k)).take n.toNat))] := Sl.lit1N n8 rfl (by decide) (fun H2 kx => ⟨_, rfl, fk_own wc (lt2r hvl (by omega)) H2 kx, q0⟩)
    have lt9 := wo.lt
    refine KL.m (M.appendE rfl U44 inf48 rfl (by decide) rfl rfl wo (se) (by omega) (by simp; omega) (by unfold maxLen; simp; omega)) rfl ?_
    rintro vn H9 ⟨w9, g9, nx9⟩
    try dsimp only at g9 nx9
    have ob9 := g9.oldBE wo (by omega)
    have o0 := o0.then ob9 (by omega)
    have z9 := ob9.1
    have bl := (g9.2 _ (blk_lt bl) (by exact lt9.imp id (fun h => by omega))).trans bl
    have wo := w9
    have hspn : Sc.split l = (Sc.sp (m.drop (1 + k + n.toNat)) (m.getD 0 default)).map ((acc ++ [((m.getD 0 default), ((m.drop (1 + k)).take n.toNat))]) ++ ·) := by rw [hsp, Sc.sp_good (by omega) ht (by omega) h0 (by omega), Sc.step_map]
    have hlen : (m.drop (1 + k + n.toNat)).length ≤ l.length ∧ ((acc ++ [((m.getD 0 default), ((m.drop (1 + k)).take n.toNat))]).length : Int) ≤ (m.getD 0 default) ∧ (m.getD 0 default) ≤ 11 := by rw [List.length_drop, List.length_append]; simp only [List.length_cons, List.length_nil]; omega
    refine KL.fin 1 rfl (KQ.normBlock ?_)
    refine KQ.again ((subV 1 va (1 + k + n.toNat) m.length, (m.drop (1 + k + n.toNat)), vn, acc ++ [((m.getD 0 default), ((m.drop (1 + k)).take n.toNat))], (m.getD 0 default))) ?_ ?_ ?_
    · exact Sub.all rfl
    · show (m.drop (1 + k + n.toNat)).length < m.length; rw [List.length_drop]; omega
    exact ⟨sa.tail (by omega), wo, hspn, bl, hlen, o0, by omega⟩
  intro hc29
  try dsimp only at hc29
  refine KC.exit (KQ.exitThen (KQ.exitThen (KQ.hit (KQ.sr (KL.fin 3 rfl (KQ.seq (KC.ret (KQ.ofRet (KQ.fin2 V10 rfl rfl ?_)))))))))
  (exact ⟨o0, by rw [hsp, Sc.sp_nil (by omega)]; exact ⟨vo, rfl, by show ∀ H2, KeepX _ _ H2 → Sl 2 ESec H2 vo (acc ++ []); rw [List.append_nil]; exact wo.outliveN (by omega) (by omega) (by omega)⟩⟩)
theorem Split_any {H : Heap} (v : Value) (l : List Int) (hs : Sl 1 (EInt .u8) H v l) (hT : TabU H) (hl : l.length ≤ 140737488351232) : Ct Tryz.prog 10 [v] H (fun u H' => Old H H' ∧ Sc.Res H.size (Sc.split l) (.int .i64 60) (.int .i64 0) u H') := by
  by_cases hb : l.take 8 = Sc.beg
  · exact Split_yes v l hs hT hl hb
  exact Split_no v l hs hT hl hb
theorem expr_any {H : Heap} {g : Nat} {v : Value} {l : List Int} {i : Nat} (rd : RD H g v l i) (hl : l.length ≤ 1000000) : CtX Tryz.prog 126 [.pointer (some ⟨g, 0, none⟩)] H (fun u H' => ∃ xs n, Isp.exprP (l.length + 1) [] (l.drop i) = .ok (xs, n) ∧ (∀ H2, KeepX (List.range (g + 1)) H' H2 → Sl 5 EIns H2 u xs) ∧ RD H' g v l (i + n) ∧ Fr g (.slice none 0 0) H H') (fun p H' => ∃ e, Isp.exprP (l.length + 1) [] (l.drop i) = .error e ∧ p = failV e ∧ Fr g (.slice none 0 0) H H') := by
  refine CtX.mk Tryz.func126 rfl Tryz.ntmps126 rfl ?_
  intro W0 hW0
  have o0 : OldB 0 H H := OldB.refl _ H
  have hle := rd.le
  have hlt := rd.lt
  have fr : Fr g (.slice none 0 0) H H := Fr.refl _ _ _
  refine KC.sr (KL.fin 1 rfl (KQ.sr (KL.fin 1 rfl (KQ.sr ?_))))
  refine KL.m (M.alloc rfl zr198 rfl) rfl ?_
  rintro _ H1 ⟨rfl, n1⟩
  have z1 := n1.2.1
  have o0 := o0.trans ((n1.1).b (by omega))
  have rd := rd.old n1.1
  have fr := fr.old n1.1
  have b1 := n1.2.2
  have bm := b1
  refine KL.nil (KQ.seq (KC.block ?_))
  refine KC.loopD (κ := List Ins × List Int × Nat × Value × Value) [8, 9, 5, 11, 12, 13, 10, 14, 15, 6, 7, 17, 16, 18, 19, 21, 20, 22, 2, 23, 24, 25, 26, 3] (fun k => [(3, k.2.2.2.1)]) (fun k Hl => RD Hl g v l (i + k.2.2.1) ∧ ES Hl g (Array.size H) (Array.size H1) k.2.2.2.2 k.2.1 k.2.2.2.1 k.1 ∧ Isp.EPre (l.length + 1) (l.drop i) (l.length + 1 - k.1.length) k.2.1 k.1 k.2.2.1 ∧ k.1.length ≤ k.2.2.1 ∧ (∀ x ∈ k.2.1, InR .u8 x) ∧ k.2.1.length ≤ k.1.length ∧ Fr g (.slice none 0 0) H Hl ∧ (Array.size H1) ≤ Hl.size) (fun k => l.length - k.2.2.1) ([], [], 0, .slice none 0 0, .slice none 0 0) ?_ ?_ ?_
  · exact Sub.all rfl
  · exact ⟨by simpa using rd, ⟨bm, Own.nil _ _ _ _ _ _, OwnE.nil _ _ _ _ _ _, .inl rfl, by omega, by omega, by omega⟩, Isp.EPre.start _ _, Nat.le_refl _, (by intro x hx; cases hx), Nat.le_refl _, fr, Nat.le_refl _⟩
  rintro ⟨acc, m, k, vo, vm⟩ H2 ⟨rd, es, hep, hak, hmr, hma, fr, hsz⟩
  dsimp only at rd es hep hak hmr hma
  have zrd := rd.lt
  have hrl := rd.le
  have o0 : OldB 0 H H2 := fr.low (Nat.zero_le _) (Nat.zero_le _)
  have zfr := fr.1
  have hf : l.length + 1 - acc.length = (l.length - acc.length) + 1 := by omega
  rw [hf] at hep
  have es0 := es
  have zes := es.gB
  have zem := es.mB
  refine KC.block (KC.sr (KL.run 1 rfl ?_))
  refine KL.callX rfl rfl rfl rfl Tryz.call130 rfl rfl rfl (instr_any rd) ?_ ?_
  · rintro vx H3 ⟨ex, hx1, hx2, hx3⟩
    refine KQ.panThen ?_
    refine KQ.panBlock ?_
    refine KQ.panThen ?_
    refine KQ.panBlock ?_
    exact KQ.pan (⟨_, hep.err (by rw [List.drop_drop]; exact hx1), hx2, fr.thenN hx3⟩)
  rintro _ H4 ⟨x, k2, hp, ⟨vl, rfl, wl0⟩, hxr, rd2, f1⟩
  have zf_H4 := f1.1
  have o0 := o0.trans (f1.low (Nat.zero_le _) (Nat.zero_le _))
  have fr := fr.thenN f1
  have rd := rd2
  have zrd := rd.lt
  have es := es.frT f1
  have obm : Old H4 H4 := Old.refl _
  have hvm := es.wm.lt
  have hwl := wl0.lt
  refine KL.m (M.alloc rfl zr126 rfl) rfl ?_
  rintro _ H5 ⟨rfl, n5⟩
  have z5 := n5.2.1
  have o0 := o0.trans ((n5.1).b (by omega))
  have fr := fr.old n5.1
  have rd := rd.old n5.1
  have obm := obm.trans n5.1
  have b5 := n5.2.2
  have bx := b5
  refine KL.opS (S.storeAgg rfl sz126 rfl rfl (rfl) (by intro u hu; simp only [List.mem_cons, List.not_mem_nil, or_false] at hu; rcases hu with rfl | rfl | rfl | rfl | rfl <;> first | rfl | exact wl0.one) bx (by simp)) rfl rfl ?_
  rintro H6 ⟨u6, b6⟩
  have o0 := o0.trans (OldB.upd u6 (by omega))
  have zu6 := u6.1
  have fr := (by exact fr.updN u6 (by omega))
  have rd := rd.updT u6 (by omega)
  have obm := obm.upd u6 (by omega)
  have bx := b6
  rw [over_all (by rfl)] at bx
  have es := es.old obm
  have wl := wl0.old obm
  have zb := obm.1
  refine KL.nil (KQ.sr (KL.run 1 rfl (KL.ld rfl (cell_of bx rfl) ?_)))
  refine KL.c rfl Tryz.call116 (next_any es.bm es.wm es.mB x.op hxr.1 (by omega) (by omega)) ?_
  rintro _ H7 hR
  rcases hR with ⟨hnx, rfl, o2⟩ | ⟨hnx, rfl, o2⟩ | ⟨m2, vm2, hnx, rfl, hbm, hwm, f2, nx2, hv2⟩
  · skip
    have o0 := o0.trans ((o2).b (by omega))
    have fr := fr.old o2
    have rd := rd.old o2
    have obm := obm.trans o2
    have bx := (o2).blk bx
    refine KL.fin 5 rfl (KQ.seq (KC.seq (KC.block (KC.sr (KL.fin 2 rfl (KQ.seq (KC.condT rfl (KC.region (KL.b0 bt219 rfl rfl (KL.q (R.makeIface rfl U219 rfl rfl) rfl ?_))))))))))
    refine KL.panic rfl rfl rfl ?_
    refine KQ.panBlock ?_
    refine KQ.panThen ?_
    refine KQ.panBlock ?_
    refine KQ.panThen ?_
    refine KQ.panBlock ?_
    exact KQ.pan (⟨60, hep.bad (by rw [List.drop_drop]; exact hp) hnx, rfl, fr⟩)
  · skip
    have o0 := o0.trans ((o2).b (by omega))
    have fr := fr.old o2
    have rd := rd.old o2
    have obm := obm.trans o2
    have bx := (o2).blk bx
    have es := es.old o2
    refine KL.fin 5 rfl (KQ.seq (KC.seq (KC.block (KC.sr (KL.fin 2 rfl (KQ.seq (KC.condF rfl (KC.sr (KL.fin 2 rfl (KQ.seq (KC.condT rfl ?_)))))))))))
    refine KC.sr (KL.fin 2 rfl (KQ.seq (KC.ret (KQ.retBlock (KQ.retThen (KQ.retBlock (KQ.retThen (KQ.retBlock (KQ.ofRetX (KQ.toX (KQ.fin1 Tryz.results126 rfl ?_)))))))))))
    exact ⟨_, _, hep.over (by rw [List.drop_drop]; exact hp) hnx, OwnE.outlive es.wo es.gB, by rw [← Nat.add_assoc]; exact rd, fr⟩
  have hgs := es0.apart (by omega) hwl nx2 (by omega)
  have rd := rd.frG f2 (by omega) (es.wm.lt.imp id (fun h => by omega))
  have zrd := rd.lt
  have fr := fr.low2 f2 (by omega) (es.wm.lt.imp id (fun h => by omega))
  have o0 : OldB 0 H H7 := fr.low (Nat.zero_le _) (Nat.zero_le _)
  have zf2 := f2.1
  have bx := (f2.2 _ (blk_lt bx) (by omega) (hvm.imp id (fun h => by omega))).trans bx
  have es1 := es
  have wl := wl.keepN (hwl.imp id (fun k => f2.2 _ (by omega) (by omega) (es0.wm.lt.imp id (fun q => by omega))))
  have es := es.mark hbm hwm f2 nx2 hv2
  refine KL.fin 5 rfl (KQ.seq (KC.seq (KC.block (KC.sr (KL.fin 2 rfl (KQ.seq (KC.condF rfl (KC.sr (KL.fin 2 rfl (KQ.seq (KC.condF rfl ?_)))))))))))
  refine KC.skip (KQ.normBlock (KQ.r (KL.run 1 rfl (KL.lda rfl (cells_of bx) rfl ?_))))
  refine KL.m (M.lit rfl U52 zs126 (by decide) rfl rfl rfl) rfl ?_
  rintro _ H8 ⟨rfl, n8⟩
  have z8 := n8.2.1
  have o0 := o0.trans ((n8.1).b (by omega))
  have rd := rd.old n8.1
  have bx := (n8.1).blk bx
  have fr := fr.old n8.1
  have b8 := n8.2.2
  have es := es.old n8.1
  have wl := wl.old n8.1
  have se : Sl 5 (FK EIns H8 (vblock vo :: (List.range (g + 1) ++ [(Array.size H), vblock vm2]))) H8 _ [x] := Sl.lit1N n8 rfl (by omega) (fun H2 kx => ⟨vl, rfl, fk_ownN wl hgs H2 kx, hxr.1, hxr.2.1, hxr.2.2.1, hxr.2.2.2⟩)
  have wo := es.wo
  have lt9 := wo.lt
  refine KL.m (M.appendE rfl U52 inf126 rfl (by decide) rfl rfl wo (se) (by omega) (by simp; omega) (by unfold maxLen; simp; omega)) rfl ?_
  rintro vn H9 ⟨w9, g9, nx9⟩
  try dsimp only at g9 nx9
  have ob9 := g9.oldBE wo (by omega)
  have o0 := o0.trans (ob9.mono (by omega))
  have z9 := ob9.1
  have rd := rd.grownT g9 (lt9.imp id (fun h => by omega))
  have fr := (by exact fr.grownN g9 (lt9.imp id (fun h => by omega)))
  have wo := w9
  have es := es.add wo g9 nx9
  refine KL.fin 1 rfl (KQ.normBlock ?_)
  refine KQ.again ((acc ++ [x], m2, k + k2, vn, vm2)) ?_ ?_ ?_
  · exact Sub.all rfl
  · show l.length - (k + k2) < l.length - k; have := Isp.insP_pos hp; have := rd.le; omega
  exact ⟨by rw [← Nat.add_assoc]; exact rd, es, by
    dsimp only
    have := hep.step (by rw [List.drop_drop]; exact hp) hnx
    rw [show l.length + 1 - (acc ++ [x]).length = l.length - acc.length by simp only [List.length_append, List.length_singleton]; omega]
    exact this, by have := Isp.insP_pos hp; simp only [List.length_append, List.length_singleton]; omega, (Isp.nx_range hmr hxr.1 hnx).1, by have := (Isp.nx_range hmr hxr.1 hnx).2; simp only [List.length_append, List.length_singleton]; omega, fr, by omega⟩
/-- deferred calls D beneath an act's own -/
def plusA (D : List Deferred) (a : Act) : Act := { a with defers := a.defers ++ D }
def plusQ (D : List Deferred) (Q : Exit → Act → World → Prop) (e : Exit) (a : Act) (w : World) : Prop := Q e (plusA D a) w
theorem plusA_put (D : List Deferred) (a : Act) (d : Option Tmp) (v : Value) : (plusA D a).put d v = plusA D (a.put d v) := by cases d <;> rfl
theorem plusA_eval (D : List Deferred) (a : Act) : (plusA D a).eval = a.eval := by funext x; cases x <;> rfl
section
variable {P : Program} {D : List Deferred}
theorem upon_plus {o : Oper} {a : Act} {N N' : Act → World → Prop} {Q : Exit → Act → World → Prop} {r : Result Next} (hn : ∀ a w, N a w → N' (plusA D a) w) (h : o.upon P a N (plusQ D Q) r) : o.upon P (plusA D a) N' Q r := by
  cases r with
  | halt x w' => cases x <;> simp only [Oper.upon] at h ⊢ <;> exact h
  | ok n w' =>
    cases n <;> simp only [Oper.upon] at h ⊢
    case value v => rw [plusA_put]; exact hn _ _ h
    case skip => rw [plusA_put]; exact hn _ _ h
    case defer d =>
      have := hn _ _ h
      rw [show ({ plusA D a with defers := d :: (plusA D a).defers } : Act) = plusA D { a with defers := d :: a.defers } from rfl, plusA_put]
      exact this
    case enter f args =>
      refine h.mono fun e w'' hq => ?_
      cases e with
      | returned v => simp only at hq ⊢; rw [plusA_put]; exact hn _ _ hq
      | panicked ch => exact hq
      | outgrown => obtain ⟨a', w', hq⟩ := hq; exact ⟨_, _, hq⟩
    case row row args => exact h.mono fun v w'' hq => by rw [plusA_put]; exact hn _ _ hq
theorem wpList_plus {ops : Array Oper} {Q : Exit → Act → World → Prop} : ∀ (l : List Oper) (a : Act) (w : World), wpList P ops (plusQ D Q) l a w → wpList P ops Q l (plusA D a) w
  | [], a, w, h => h
  | o :: l, a, w, h => by
    unfold wpList at h ⊢
    have e : yielded ops (plusA D a).tmps = yielded ops a.tmps := rfl
    rw [e]
    split
    · rename_i hw
      rw [if_pos hw] at h
      rcases h with h | ⟨h1, h2⟩
      · refine .inl ?_
        unfold Oper.wp at h ⊢
        rw [plusA_eval]
        exact upon_plus (fun a w => wpList_plus l a w) h
      refine .inr ⟨?_, ?_⟩
      · unfold Oper.asks at h1 ⊢; rw [plusA_eval]; exact h1
      obtain ⟨a', w', hq⟩ := h2; exact ⟨_, _, hq⟩
    rename_i hw
    rw [if_neg hw] at h
    rw [plusA_put]; exact wpList_plus l _ _ h
theorem ko_plus {ops : Array Oper} {cl : Nat → Nat} {C : Nat → World → Prop} {X : Nat → List PanicEntry → World → Prop} {Q : Act → World → Prop} : ∀ (l : List Nat) (a : Act) (w : World), ko P ops cl C X (fun a w => Q (plusA D a) w) l a w → ko P ops cl C X Q l (plusA D a) w
  | [], a, w, h => h
  | k :: l, a, w, h => by
    have ih : ∀ a w, ko P ops cl C X (fun a w => Q (plusA D a) w) l a w → ko P ops cl C X Q l (plusA D a) w := fun a w => ko_plus l a w
    simp only [ko] at h ⊢
    unfold sOp at h ⊢
    cases ho : ops[k]? with
    | none => simp only [ho] at h ⊢; exact ih _ _ h
    | some o =>
      simp only [ho] at h ⊢
      have e : yielded ops (plusA D a).tmps = yielded ops a.tmps := rfl
      rw [e]
      split
      · rename_i hw
        rw [if_pos hw] at h
        split
        · rename_i h0; rw [if_pos h0] at h; obtain ⟨v, h1, h2⟩ := h; exact ⟨v, fun w' hw' => by unfold Oper.fixed; rw [plusA_eval]; exact h1 w' hw', by rw [plusA_put]; exact ih _ _ h2⟩
        rename_i h0
        rw [if_neg h0] at h
        split
        · rename_i h1; rw [if_pos h1] at h; obtain ⟨v, h1, h2⟩ := h; exact ⟨v, by unfold Oper.fixed; rw [plusA_eval]; exact h1, by rw [plusA_put]; exact ih _ _ h2⟩
        rename_i h1
        rw [if_neg h1] at h
        unfold eff at h ⊢
        rw [plusA_eval]
        generalize (execOp a.eval o).run P w = r at *
        cases r with
        | halt x w' => exact h
        | ok n w' =>
          cases n <;> simp only [effUpon] at h ⊢
          case value v => rw [plusA_put]; exact ⟨h.1, ih _ _ h.2⟩
          case skip => rw [plusA_put]; exact ⟨h.1, ih _ _ h.2⟩
          case enter f args => exact h.mono fun e w'' hq => hq.imp (fun ⟨v, he, hC, hK⟩ => ⟨v, he, hC, by rw [plusA_put]; exact ih _ _ hK⟩) id
      rename_i hw; rw [if_neg hw] at h; rw [plusA_put]; exact ih _ _ h
end
section
variable {P : Program} {n d : Nat} {W0 : World} {Q : Exit → Act → World → Prop} {ops rest : List Oper} {o : Oper} {E : Env} {H : Heap} {v : Value} {D : List Deferred}
/-- code that runs above deferred calls -/
def KCD (D : List Deferred) (P : Program) (n : Nat) (W0 : World) (Q : Exit → Act → World → Prop) (c : Code) (E : Env) (H : Heap) : Prop := ∀ a w, Rep n E a → St W0 H w → c.wp P Q (plusA D a) w
theorem KCD.seq {x y : Code} (h : KCD D P n W0 (Exit.then (y.wp P Q) Q) x E H) : KCD D P n W0 Q (.seq x y) E H := fun a w ha hw => wp_seq (h a w ha hw)
theorem KQD.seq {y : Code} (h : KCD D P n W0 Q y E H) : KQ n W0 (plusQ D (Exit.then (y.wp P Q) Q)) .normal E H := fun a w ha hw => h a w ha hw
theorem KCD.region {id : Nat} {l : List Oper} (h : KL P n W0 (plusQ D Q) l l E H) : KCD D P n W0 Q (.region id l.toArray false) E H := fun a w ha hw => wp_region_lit (wpList_plus _ _ _ (h a w ha hw))
theorem KCD.ret (h : KQ n W0 (plusQ D Q) .ret E H) : KCD D P n W0 Q .ret E H := fun a w ha hw => wp_ret (h a w ha hw)
theorem KCD.skip (h : KQ n W0 (plusQ D Q) .normal E H) : KCD D P n W0 Q .skip E H := fun a w ha hw => wp_skip (h a w ha hw)
theorem KCD.condT {c : Operand} {x y : Code} (hc : ev E c = some (.bool true)) (h : KCD D P n W0 Q x E H) : KCD D P n W0 Q (.cond c x y) E H := fun a w ha hw => wp_cond_true (by rw [plusA_eval]; exact ha.eval hc) (h a w ha hw)
theorem KCD.condF {c : Operand} {x y : Code} (hc : ev E c = some (.bool false)) (h : KCD D P n W0 Q y E H) : KCD D P n W0 Q (.cond c x y) E H := fun a w ha hw => wp_cond_false (by rw [plusA_eval]; exact ha.eval hc) (h a w ha hw)
theorem KCD.ite {c : Operand} {x y : Code} {b : Bool} (hc : ev E c = some (.bool b)) (ht : b = true → KCD D P n W0 Q x E H) (hf : b = false → KCD D P n W0 Q y E H) : KCD D P n W0 Q (.cond c x y) E H := by
  cases b
  · exact KCD.condF hc (hf rfl)
  exact KCD.condT hc (ht rfl)
theorem KQD.retThen {N : Act → World → Prop} (h : KQ n W0 (plusQ D Q) .ret E H) : KQ n W0 (plusQ D (Exit.then N Q)) .ret E H := h
theorem KQD.panThen {N : Act → World → Prop} {ch : List PanicEntry} (h : KQ n W0 (plusQ D Q) (.panic ch) E H) : KQ n W0 (plusQ D (Exit.then N Q)) (.panic ch) E H := h
theorem KCD.order {id : Nat} {l : List Oper} (ord : List Nat) (cl : Nat → Nat) (C : Nat → Heap → Prop) (X : Value → Heap → Prop) (hm : P.follows .mixedOrders = true) (hns : Region.noSelect l.toArray = true) (hB : koB l.toArray cl [] ord = true) (hlen : ord.length = l.length) (hC : ∀ i, C i H)
    (hX : ∀ v H', X v H' → KQ n W0 (plusQ D Q) (.panic (Pan v)) [] H') (h : KO P n W0 (plusQ D Q) cl C X l ord E H) : KCD D P n W0 Q (.region id l.toArray true) E H :=
  fun a w ha hw => wp_region_ko (C := fun i w => C i w.heap ∧ St W0 w.heap w) (X := Xs cl W0 X) hm hns hB (fun k hk ch w hx => hk hx.1) (by simpa using hlen) (fun i => show C i w.heap ∧ _ from ⟨by rw [hw.heap]; exact hC i, rfl, hw.os, hw.tape, hw.output⟩)
    (fun i ch a' w' hk hx => by
      obtain ⟨_, v, rfl, hst, hv⟩ := hx
      have hd : a'.defers = [] ++ D := hk.defers.trans (by show a.defers ++ D = _; rw [ha.defers])
      have := hX v w'.heap hv { a' with defers := [] } w' ⟨rfl, hk.size.trans ha.size, fun t u ht => by cases ht⟩ hst
      have e : plusA D { a' with defers := [] } = a' := by show ({ a' with defers := [] ++ D } : Act) = a'; rw [← hd]
      have h2 : Q (.panic (Pan v)) (plusA D { a' with defers := [] }) w' := this
      rw [e] at h2; exact h2) (ko_plus _ _ _ (h a _ ha ⟨hw.heap, hw.os, hw.tape, hw.output⟩))
/-- the call is put by -/
theorem KL.defer {f : FuncId} {fo : Operand} {ts : Array TypeId} {cap : Array Value} (ho : o.op = .defer { callee := .value fo, args := #[], argTypes := ts })
    (hf : ev E fo = some (.func (.func f) #[] cap)) (hd : o.dst = none) (hg : want ops E o.guard = some true)
    (h : KQ n W0 (plusQ [⟨.fn (.func f) cap, #[]⟩] Q) .normal E H) : KL P n W0 Q ops [o] E H := by
  intro a w ha hw
  refine wpList_step fun K hK => ?_
  rw [if_pos (want_wanted ha hg)]
  unfold Oper.wp
  have hr : (execOp a.eval o).run P w = .ok (.defer ⟨.fn (.func f) cap, #[]⟩) w := by
    simp [execOp, ho, resolve, ha.agree fo _ hf, Deferred.ofValue, Sem.run_bind, Sem.run_pure, Result.andThen]
  rw [hr]
  show K _ w
  refine hK _ _ ?_
  have := h a w ha hw
  unfold plusQ plusA at this
  rw [ha.defers] at this
  show Q .normal _ w
  rw [hd, ha.defers]
  exact this
/-- a deferred function's contract -/
def CtDef (P : Program) (f : FuncId) (args : List Value) (H : Heap) (u : FrameMode) (R : FrameMode → Heap → Prop) : Prop :=
  ∀ w, w.heap = H → CallsD P f args.toArray u w fun e u' w' => ∃ v, e = .returned v ∧ St w w'.heap w' ∧ R u' w'.heap
theorem CtDef.mono {f : FuncId} {args : List Value} {u : FrameMode} {R R' : FrameMode → Heap → Prop} (h : CtDef P f args H u R) (hr : ∀ u' H', R u' H' → R' u' H') : CtDef P f args H u R' :=
  fun w hw => (h w hw).mono fun _ _ _ ⟨v, he, hs, hR⟩ => ⟨v, he, hs, hr _ _ hR⟩
/-- what 'recover' finds -/
def Recov : FrameMode → Value → FrameMode → Prop
  | .returning, v, u' => v = .nilIface ∧ u' = .returning
  | .panicking ch, v, u' => ch = Pan v ∧ u' = .panicking [{ v := v, recovered := true }]
  | _, _, _ => False
theorem CtDef.mk {f : FuncId} {fn : Func} {c : Code} {o0 o1 : Oper} {id d0 d1 : Nat} {args : List Value} {u u' : FrameMode} {R : FrameMode → Heap → Prop} {ts : Array TypeId} {r : Value} (hf : P.funcs[f]? = some fn) (hb : fn.body = some (.seq (.region id #[o0, o1] false) c)) (hn : fn.ntmps = n) (hle : Nat.ble args.length n = true)
    (h0 : o0.op = .call { callee := .builtin .recover, args := #[], argTypes := ts }) (g0 : o0.guard = none) (e0 : o0.dst = some d0) (l0 : Nat.blt d0 n = true) (h1 : o1.op = .assign (.tmp d0)) (g1 : o1.guard = none) (e1 : o1.dst = some d1) (l1 : Nat.blt d1 n = true) (hu : Recov u r u')
    (h : ∀ W0 : World, W0.heap = H → KC P n W0 (Post P fn W0 (fun _ H' => R u' H')) c ((d1, r) :: (d0, r) :: argEnv 0 args) H) : CtDef P f args H u R := by
  intro w hw
  have hle' : args.length ≤ n := by simpa using hle
  refine callsD_of_wpS hf hb fun c₀ cs hc => ?_
  refine wpS_seq (wpS_region ?_)
  have hr : Rep n (argEnv 0 args) { tmps := args.toArray ++ Array.replicate (fn.ntmps - args.toArray.size) undef, defers := [] } := by
    refine ⟨rfl, by simp [hn]; omega, ?_⟩
    intro t v ht
    rw [get_argEnv] at ht
    simp only [Nat.not_lt_zero, if_false, Nat.sub_zero] at ht
    have hlt := (List.getElem?_eq_some_iff.1 ht).1
    rw [Array.getElem?_append_left (by simpa using hlt)]
    simpa using ht
  generalize hA : ({ tmps := args.toArray ++ Array.replicate (fn.ntmps - args.toArray.size) undef, defers := [] } : Act) = A at hr ⊢
  have r0 : (execOp A.eval o0).run P w = .ok .recover w := by
    simp [execOp, h0, resolve, invoke, builtin, Sem.run_bind, Sem.run_pure, Result.andThen]
  have hr0 := hr.put l0 r
  have hr1 := hr0.put l1 r
  have r1 : (execOp (A.put (some d0) r).eval o1).run P w = .ok (.value r) w := by
    have := hr0.eval (x := .tmp d0) (v := r) (by simp [ev, get])
    simp [execOp, h1, this, Sem.run_bind, Sem.run_pure, Result.andThen]
  have fin : ∀ cs', cs' = { c₀ with mode := u' } :: cs → Exit.thenS (c.wpS P (bodyPostS P fn c₀ cs (fun e u' w' => ∃ v, e = .returned v ∧ St w w'.heap w' ∧ R u' w'.heap))) (bodyPostS P fn c₀ cs (fun e u' w' => ∃ v, e = .returned v ∧ St w w'.heap w' ∧ R u' w'.heap)) .normal ((A.put (some d0) r).put (some d1) r) cs' w := by
    intro cs' hcs
    show c.wpS P _ _ cs' w
    refine wpS_of_wp ?_
    refine Code.wp_mono ?_ (h w hw _ w hr1 ⟨hw, rfl, rfl, rfl⟩)
    intro e a' w' hq
    cases e with
    | normal => obtain ⟨hd, v, hv, hR⟩ := hq; obtain ⟨v', he, hs, hR⟩ := hR; exact ⟨hd, u', hcs, v, hv, v', he, hs, hR⟩
    | ret => obtain ⟨hd, v, hv, hR⟩ := hq; obtain ⟨v', he, hs, hR⟩ := hR; exact ⟨hd, u', hcs, v, hv, v', he, hs, hR⟩
    | panic ch => obtain ⟨hd, v', he, _⟩ := hq; cases he
    | exit id => exact hq.elim
    | goto l => exact hq.elim
    | outgrown => obtain ⟨v', he, _⟩ := hq; cases he
  have w0 : ∀ t, Region.wanted o0 t = true := fun t => by simp [Region.wanted, g0]
  have w1 : ∀ t, Region.wanted o1 t = true := fun t => by simp [Region.wanted, g1]
  have es : (#[o0, o1] : Array Oper).size = 2 := rfl
  rw [es, show List.range 2 = [0, 1] from rfl]
  have step1 : ∀ cs', cs' = { c₀ with mode := u' } :: cs → wpOpsS P #[o0, o1] (Exit.thenS (c.wpS P (bodyPostS P fn c₀ cs (fun e u' w' => ∃ v, e = .returned v ∧ St w w'.heap w' ∧ R u' w'.heap))) (bodyPostS P fn c₀ cs (fun e u' w' => ∃ v, e = .returned v ∧ St w w'.heap w' ∧ R u' w'.heap))) [1] (A.put (some d0) r) cs' w := by
    intro cs' hcs
    unfold wpOpsS
    simp only [show (#[o0, o1] : Array Oper)[1]? = some o1 from rfl, w1, if_true, r1]
    rw [Oper.upon_value, e1]
    exact fin cs' hcs
  unfold wpOpsS
  simp only [show (#[o0, o1] : Array Oper)[0]? = some o0 from rfl, w0, if_true, r0]
  subst hc
  cases hm : c₀.mode with
  | run => rw [hm] at hu; exact hu.elim
  | returning =>
    rw [hm] at hu
    obtain ⟨rfl, rfl⟩ := hu
    simp only [recoverD, hm]
    rw [e0]
    refine step1 _ ?_
    rw [← hm]
  | panicking ch =>
    rw [hm] at hu
    obtain ⟨rfl, rfl⟩ := hu
    simp only [recoverD, hm, Pan]
    rw [e0]
    exact step1 _ rfl
theorem loadVar_one {T : TypeId} {ds : TypeDesc} {p : Addr} {w : World} (hu : P.underlying T = some ds) (hd : isAggD ds = false) (hc : cellH w.heap p = some v) : (loadVar T p).run P w = .ok v w := by
  have h1 : w.cell? p = some v := by rw [cell_w rfl]; exact hc
  have h2 : (isAgg T).run P w = .ok false w := by
    cases ds <;> simp [isAggD] at hd <;> simp [isAgg, underlying, program, hu, Sem.run_bind, Sem.run_pure, Result.andThen, Sem.run]
  simp [loadVar, Sem.run_bind, Sem.run_pure, Result.andThen, h2, load, Sem.run, h1]
theorem loadVar_agg {T : TypeId} {ds : TypeDesc} {p : Addr} {cs : List Value} {m : Nat} {w : World} (hu : P.underlying T = some ds) (hd : isAggD ds = true) (hs : (P.info? T).map (·.size) = some m) (hc : CellsH w.heap p cs) (hm : cs.length = m) : (loadVar T p).run P w = .ok (.agg cs.toArray) w := by
  subst hm
  have h2 : (isAgg T).run P w = .ok true w := by
    cases ds <;> simp [isAggD] at hd <;> simp [isAgg, underlying, program, hu, Sem.run_bind, Sem.run_pure, Result.andThen, Sem.run]
  have h3 := run_loadCells_list (P := P) (w := w) p cs (fun j u hj => by rw [cell_w rfl]; exact hc j u (by rw [nth_eq]; exact hj))
  cases hq : P.info? T with
  | none => simp [hq] at hs
  | some i =>
    simp [hq] at hs
    simp [loadVar, Sem.run_bind, Sem.run_pure, Result.andThen, h2, sizeOf, typeInfo, program, Sem.run, hq, hs, h3]
/-- what is asked at the end of a function with deferred calls -/
def PostD (P : Program) (fn : Func) (W0 : World) (R : Value → Heap → Prop) : Exit → Act → World → Prop := bodyPostD P fn (fun e w' => ∃ v, e = .returned v ∧ St W0 w'.heap w' ∧ R v w'.heap)
theorem Ct.mkD {f : FuncId} {fn : Func} {c : Code} {args : List Value} {R : Value → Heap → Prop} (hf : P.funcs[f]? = some fn) (hb : fn.body = some c) (hn : fn.ntmps = n) (hle : Nat.ble args.length n = true)
    (h : ∀ W0 : World, W0.heap = H → KC P n W0 (PostD P fn W0 R) c (argEnv 0 args) H) : Ct P f args H R := by
  intro w hw
  have hle' : args.length ≤ n := by simpa using hle
  refine calls_of_wp_defers hf hb (h w hw _ w ⟨rfl, by simp [hn]; omega, ?_⟩ ⟨hw, rfl, rfl, rfl⟩)
  intro t v ht
  rw [get_argEnv] at ht
  simp only [Nat.not_lt_zero, if_false, Nat.sub_zero] at ht
  have hlt := (List.getElem?_eq_some_iff.1 ht).1
  rw [Array.getElem?_append_left (by simpa using hlt)]
  simpa using ht
/-- three results in memory -/
theorem results_cells {fn : Func} {a : Act} {w : World} {t1 t2 t3 : Nat} {T1 T2 T3 : TypeId} {p1 p2 p3 : Addr} {v1 v2 v3 : Value} (ha : Rep n E a) (hr : fn.results = #[.cell t1 T1, .cell t2 T2, .cell t3 T3])
    (g1 : get E t1 = some (.pointer (some p1))) (g2 : get E t2 = some (.pointer (some p2))) (g3 : get E t3 = some (.pointer (some p3)))
    (l1 : (loadVar T1 p1).run P w = .ok v1 w) (l2 : (loadVar T2 p2).run P w = .ok v2 w) (l3 : (loadVar T3 p3).run P w = .ok v3 w) : (results fn a.tmps).run P w = .ok (.tuple #[v1, v2, v3]) w := by
  have h1 := ha.val t1 _ g1
  have h2 := ha.val t2 _ g2
  have h3 := ha.val t3 _ g3
  simp [results, hr, List.mapM_toArray, Array.getD_eq_getD_getElem?, h1, h2, h3, asAddr, Sem.run_bind, Sem.run_pure, Sem.run_map, Result.andThen, l1, l2, l3]
theorem KQD.fin {fn : Func} {f : FuncId} {cap : Array Value} {R : Value → Heap → Prop} {R1 : Heap → Prop} {e : Exit} {u : FrameMode} (hu : u ≠ .run) (he : ∀ (Rn : Ending → World → Prop) (a : Act) (w : World), bodyPostD P fn Rn e a w = Leaves P fn a.tmps Rn a.defers u w) (hcall : Enters P f)
    (c : CtDef P f cap.toList H u (fun u' H' => settle u' = .returning ∧ R1 H')) (h : ∀ H', R1 H' → ∃ v, (∀ (a : Act) (w : World), Rep n E a → w.heap = H' → (results fn a.tmps).run P w = .ok v w) ∧ R v H') : KQ n W0 (plusQ [⟨.fn (.func f) cap, #[]⟩] (PostD P fn W0 R)) e E H := by
  intro a w ha hw
  show bodyPostD P fn _ e _ w
  rw [he]
  unfold plusA
  rw [ha.defers]
  refine leaves_cons (f := f) (args := cap.toList.toArray) hu ?_ ((c w hw.heap).mono ?_)
  · have := hcall cap w
    simp [invoke, this]
  rintro e' u' w' ⟨v, rfl, hst, hs, hR⟩
  show Leaves P fn a.tmps _ [] (settle u') w'
  rw [hs]
  obtain ⟨v, hv, hR⟩ := h _ hR
  exact ⟨v, hv a w' ha rfl, v, rfl, hw.trans hst, hR⟩
theorem KQD.fin_ret {fn : Func} {f : FuncId} {cap : Array Value} {R : Value → Heap → Prop} {R1 : Heap → Prop} (hcall : Enters P f)
    (c : CtDef P f cap.toList H .returning (fun u' H' => settle u' = .returning ∧ R1 H')) (h : ∀ H', R1 H' → ∃ v, (∀ (a : Act) (w : World), Rep n E a → w.heap = H' → (results fn a.tmps).run P w = .ok v w) ∧ R v H') : KQ n W0 (plusQ [⟨.fn (.func f) cap, #[]⟩] (PostD P fn W0 R)) .ret E H :=
  KQD.fin (by simp) (fun _ _ _ => rfl) hcall c h
theorem KQD.fin_pan {fn : Func} {f : FuncId} {cap : Array Value} {R : Value → Heap → Prop} {R1 : Heap → Prop} {ch : List PanicEntry} (hcall : Enters P f)
    (c : CtDef P f cap.toList H (.panicking ch) (fun u' H' => settle u' = .returning ∧ R1 H')) (h : ∀ H', R1 H' → ∃ v, (∀ (a : Act) (w : World), Rep n E a → w.heap = H' → (results fn a.tmps).run P w = .ok v w) ∧ R v H') : KQ n W0 (plusQ [⟨.fn (.func f) cap, #[]⟩] (PostD P fn W0 R)) (.panic ch) E H :=
  KQD.fin (by simp) (fun _ _ _ => rfl) hcall c h
/-- x != nil of an interface -/
def notNil : Value → Bool
  | .nilIface => false
  | _ => true
theorem R.neqNilI {T : TypeId} {x : Operand} {ds : TypeDesc} (ho : o.op = .binOp .neq T x (.const .nilIface) T) (ht : P.underlying T = some ds) (hd : isIface ds = true) (hx : ev E x = some v) (hv : v = .nilIface ∨ ∃ S u, v = .iface S u) : Run P E H o (.bool (notNil v)) := by
  intro ρ w ha hw
  have h1 := ha x _ hx
  cases ds <;> simp [isIface] at hd
  have h2 : ρ (.const .nilIface) = .nilIface := ha _ _ rfl
  rcases hv with rfl | ⟨S, u, rfl⟩
  · have h : (Op.equal T .nilIface .nilIface).run P w = .ok true w := run_equal (by rw [Op.equalIn]; simp [underlying, program, ht, Sem.run_bind, Sem.run_pure, Result.andThen, Sem.run])
    simp [execOp, ho, h1, h2, notNil, binOp, eqGuard, h, Sem.run_bind, Sem.run_pure, Result.andThen]
  have h : (Op.equal T (.iface S u) .nilIface).run P w = .ok false w := run_equal (by rw [Op.equalIn]; simp [underlying, program, ht, Sem.run_bind, Sem.run_pure, Result.andThen, Sem.run])
  simp [execOp, ho, h1, h2, notNil, binOp, eqGuard, h, Sem.run_bind, Sem.run_pure, Result.andThen]
end
theorem cloE_ret {H : Heap} {g1 g2 g3 : Nat} : CtDef Tryz.prog 129 [.pointer (some ⟨g1, 0, none⟩), .pointer (some ⟨g2, 0, none⟩), .pointer (some ⟨g3, 0, none⟩)] H (.returning) (fun u' H' => settle u' = .returning ∧ H' = H) := by
  refine CtDef.mk (u' := .returning) (r := .nilIface) Tryz.func129 rfl Tryz.ntmps129 rfl rfl rfl rfl rfl rfl rfl rfl rfl (⟨rfl, rfl⟩) ?_
  intro W0 hW0
  have o0 : Old H H := Old.refl H
  refine KC.sr (KL.run 1 rfl ?_)
  refine KL.q ((R.neqNilI rfl Tryz.underlying20 rfl rfl (by exact .inl rfl)).val (show _ = Value.bool false from rfl)) rfl ?_
  refine KL.nil (KQ.seq (KC.condF rfl (KC.skip (KQ.fin0 Tryz.results129 ?_))))
  exact ⟨rfl, rfl⟩
theorem cloE_pan {H : Heap} {g1 g2 g3 : Nat} {e : Int} {c1 : Value} {c2 c3 : Value} (ba : H[g1]? = some (.cells [c1].toArray 52 (0, 0))) (bb : H[g2]? = some (.cells [c2].toArray 3 (0, 0))) (bc : H[g3]? = some (.cells [c3].toArray 37 (0, 0))) (h12 : g1 < g2) (h23 : g2 < g3) : CtDef Tryz.prog 129 [.pointer (some ⟨g1, 0, none⟩), .pointer (some ⟨g2, 0, none⟩), .pointer (some ⟨g3, 0, none⟩)] H (.panicking (Pan (failV e))) (fun u' H' => settle u' = .returning ∧ OldB g1 H H' ∧ H'[g1]? = some (.cells [.slice none 0 0].toArray 52 (0, 0)) ∧ H'[g2]? = some (.cells [.int .i64 0].toArray 3 (0, 0)) ∧ H'[g3]? = some (.cells [.int .i64 e].toArray 37 (0, 0))) := by
  refine CtDef.mk (u' := .panicking [{ v := failV e, recovered := true }]) (r := failV e) Tryz.func129 rfl Tryz.ntmps129 rfl rfl rfl rfl rfl rfl rfl rfl rfl (⟨rfl, rfl⟩) ?_
  intro W0 hW0
  have o0 : OldB g1 H H := OldB.refl _ H
  have hlt1 := blk_lt ba
  have hlt2 := blk_lt bb
  have hlt3 := blk_lt bc
  unfold failV
  refine KC.sr (KL.run 1 rfl ?_)
  refine KL.q ((R.neqNilI rfl Tryz.underlying20 rfl rfl (by exact .inr ⟨_, _, rfl⟩)).val (show _ = Value.bool true from rfl)) rfl ?_
  refine KL.nil (KQ.seq (KC.condT rfl (KC.sr (KL.run 1 rfl (KL.q (R.assertIs rfl U219 rfl rfl) rfl (KL.run 3 rfl ?_))))))
  refine KL.m (M.alloc rfl zr219 rfl) rfl ?_
  rintro _ H1 ⟨rfl, n1⟩
  have z1 := n1.2.1
  have o0 := o0.trans ((n1.1).b (by omega))
  have ba := (n1.1).blk ba
  have bb := (n1.1).blk bb
  have bc := (n1.1).blk bc
  have b1 := n1.2.2
  have bf := b1
  refine KL.opS (S.storeAgg rfl sz219 rfl rfl (rfl) (by intro u hu; simp only [List.mem_cons, List.not_mem_nil, or_false] at hu; subst hu; rfl) bf (by simp)) rfl rfl ?_
  rintro H2 ⟨u2, b2⟩
  have o0 := o0.trans (OldB.upd u2 (by omega))
  have zu2 := u2.1
  have ba := ((u2).2 _ (by omega)).trans ba
  have bb := ((u2).2 _ (by omega)).trans bb
  have bc := ((u2).2 _ (by omega)).trans bc
  have bf := b2
  rw [over_all (by rfl)] at bf
  refine KL.fin 1 rfl (KQ.seq (KC.seq (KC.sr (KL.fin 2 rfl (KQ.seq (KC.condF rfl (KC.skip (KQ.sr (KL.fin 1 rfl (KQ.seq ?_))))))))))
  refine KC.text (clOf [(3, 2), (4, 2), (5, 2)]) (fun _ Hc => Hc[_]? = some _) (by kernel_rfl) (by kernel_rfl) (fun _ => bf) ?_
  refine KP.run 2 rfl rfl ?_
  refine KP.op rfl (fun Hg hg => R.load rfl U37 rfl rfl (cell_of hg rfl)) rfl rfl rfl ?_
  refine KP.opS rfl (S.store rfl sz52 rfl rfl rfl rfl ba (by simp)) rfl rfl (fun _ h _ _ _ => (h.1.2 _ (by omega)).trans bf) ?_
  rintro H3 ⟨u3, b3⟩
  have o0 := o0.trans (OldB.upd u3 (by omega))
  have zu3 := u3.1
  have bb := ((u3).2 _ (by omega)).trans bb
  have bc := ((u3).2 _ (by omega)).trans bc
  have bf := ((u3).2 _ (by omega)).trans bf
  have ba := b3
  refine KP.opS rfl (S.store rfl sz3 rfl rfl rfl rfl bb (by simp)) rfl rfl (fun _ h _ _ _ => (h.1.2 _ (by omega)).trans bf) ?_
  rintro H4 ⟨u4, b4⟩
  have o0 := o0.trans (OldB.upd u4 (by omega))
  have zu4 := u4.1
  have ba := ((u4).2 _ (by omega)).trans ba
  have bc := ((u4).2 _ (by omega)).trans bc
  have bf := ((u4).2 _ (by omega)).trans bf
  have bb := b4
  refine KP.opS rfl (S.store rfl sz37 rfl rfl rfl rfl bc (by simp)) rfl rfl (fun _ h _ _ _ => (h.1.2 _ (by omega)).trans bf) ?_
  rintro H5 ⟨u5, b5⟩
  have o0 := o0.trans (OldB.upd u5 (by omega))
  have zu5 := u5.1
  have ba := ((u5).2 _ (by omega)).trans ba
  have bb := ((u5).2 _ (by omega)).trans bb
  have bf := ((u5).2 _ (by omega)).trans bf
  have bc := b5
  refine KP.nil (KQ.fin0 Tryz.results129 ?_)
  exact ⟨rfl, o0, ba, bb, bc⟩
theorem KeepX.upd0 {gs : List Nat} {A B C : Heap} {g : Nat} (h : KeepX gs A B) (u : Upd g B C) (hg : g ∈ gs) : KeepX gs A C :=
  ⟨by have := u.1; have := h.1; omega, fun k hk hn => (u.2 k (fun e => hn (e ▸ hg))).trans (h.2 k hk hn)⟩
theorem KeepX.chain {gs gs' : List Nat} {A B C : Heap} (h : KeepX gs A B) (k : KeepX gs' B C) (hs : ∀ y ∈ gs', y ∈ gs) : KeepX gs A C :=
  ⟨Nat.le_trans h.1 k.1, fun i hi hn => (k.2 i (by have := h.1; omega) (fun hm => hn (hs _ hm))).trans (h.2 i hi hn)⟩
theorem readE_any {H : Heap} {v : Value} {l : List Int} (hs0 : Sl 1 (EInt .u8) H v l) (hl : l.length ≤ 1000000) : Ct Tryz.prog 125 [v, .func (.func 126) #[] #[]] H (fun u H' => Old H H' ∧ match Isp.exprP (l.length + 1) [] l with | .error e => u = .tuple #[.slice none 0 0, .int .i64 0, .int .i64 e] | .ok (x, n) => ∃ c, u = .tuple #[c, .int .i64 (n : Nat), .int .i64 0] ∧ ∀ H2, KeepX (List.range H.size) H' H2 → Sl 5 EIns H2 c x) := by
  refine Ct.mkD Tryz.func125 rfl Tryz.ntmps125 rfl ?_
  intro W0 hW0
  have o0 : Old H H := Old.refl H
  have hs := hs0
  refine KC.sr ?_
  refine KL.m (M.alloc rfl zr52 rfl) rfl ?_
  rintro _ H1 ⟨rfl, n1⟩
  have z1 := n1.2.1
  have o0 := o0.trans n1.1
  have hs := hs.old n1.1
  have b1 := n1.2.2
  have ba := b1
  refine KL.m (M.alloc rfl zr3 rfl) rfl ?_
  rintro _ H2 ⟨rfl, n2⟩
  have z2 := n2.2.1
  have o0 := o0.trans n2.1
  have hs := hs.old n2.1
  have ba := (n2.1).blk ba
  have b2 := n2.2.2
  have bb := b2
  refine KL.m (M.alloc rfl zr37 rfl) rfl ?_
  rintro _ H3 ⟨rfl, n3⟩
  have z3 := n3.2.1
  have o0 := o0.trans n3.1
  have hs := hs.old n3.1
  have ba := (n3.1).blk ba
  have bb := (n3.1).blk bb
  have b3 := n3.2.2
  have bc := b3
  refine KL.nil (KQ.sr (KL.run 1 rfl ?_))
  refine KL.defer rfl rfl rfl rfl ?_
  refine KQD.seq ?_
  refine KCD.seq ?_
  refine KCD.region ?_
  refine KL.run 1 rfl (KL.bd bt222 rfl ⟨hs.cells1, trivial⟩ ?_)
  refine KL.m (M.box rfl rfl rfl) rfl ?_
  rintro _ H4 ⟨rfl, n4⟩
  have z4 := n4.2.1
  have o0 := o0.trans n4.1
  have hs := hs.old n4.1
  have ba := (n4.1).blk ba
  have bb := (n4.1).blk bb
  have bc := (n4.1).blk bc
  have b4 := n4.2.2
  have bx := b4
  have rd : RD H4 _ v l 0 := ⟨bx, fun H2 k => hs0.old (o0.then k (by omega)), Nat.zero_le _⟩
  have zrd := rd.lt
  refine KL.fin 1 rfl ?_
  refine KQD.seq ?_
  refine KCD.seq ?_
  refine KCD.region ?_
  refine KL.run 2 rfl ?_
  refine KL.callX rfl rfl rfl rfl Tryz.call126 rfl rfl rfl (expr_any rd hl) ?_ ?_
  · rintro vx H5 ⟨ex, hx1, hx2, hx3⟩
    have ba := hx3.at_ ba (by omega)
    have bb := hx3.at_ bb (by omega)
    have bc := hx3.at_ bc (by omega)
    have o0 := o0.then (hx3.low (B0 := Array.size H) (by omega) (by omega)) (Nat.le_refl _)
    have zx3 := hx3.1
    subst hx2
    refine KQD.panThen ?_
    refine KQD.fin_pan (R1 := fun H' => OldB (Array.size H) _ H' ∧ _ ∧ _ ∧ _) Tryz.call129 (cloE_pan ba bb bc (by omega) (by omega)) ?_
    rintro HR ⟨f0, d4, d5, d6⟩
    refine ⟨_, fun ar wr har hwr => results_cells har Tryz.results125 rfl rfl rfl (loadVar_one U52 rfl (by rw [hwr]; exact cell_of d4 rfl)) (loadVar_one U3 rfl (by rw [hwr]; exact cell_of d5 rfl)) (loadVar_one U37 rfl (by rw [hwr]; exact cell_of d6 rfl)), o0.then f0 (by omega), ?_⟩
    have hx1' : Isp.exprP (l.length + 1) [] l = .error ex := by simpa using hx1
    rw [hx1']
  rintro c H6 ⟨x, n, hp, hK, rd2, f1⟩
  have zf_H6 := f1.1
  have o0 := o0.then (f1.low (B0 := H.size) (by omega) (by omega)) (Nat.le_refl _)
  have ba := f1.at_ ba (by omega)
  have bb := f1.at_ bb (by omega)
  have bc := f1.at_ bc (by omega)
  have bx := rd2.b
  have zrd := rd2.lt
  have kx := KeepX.refl (List.range (Array.size H3 + 1)) H6
  have fs := hK _ kx
  refine KL.opS (S.store rfl sz52 rfl rfl (fs.cells1) (fs.one) ba (by simp)) rfl rfl ?_
  rintro H7 ⟨u7, b7⟩
  have o0 := o0.upd u7 (by omega)
  have zu7 := u7.1
  have bb := ((u7).2 _ (by omega)).trans bb
  have bc := ((u7).2 _ (by omega)).trans bc
  have bx := ((u7).2 _ (by omega)).trans bx
  have ba := b7
  have kx := kx.upd0 u7 (List.mem_range.2 (by omega))
  refine KL.nil ?_
  refine KQD.seq ?_
  refine KCD.seq ?_
  refine KCD.order [0, 1, 2, 3, 4, 5, 6, 7] (clOf [(5, 2), (6, 2), (7, 2)]) (fun i Hc => (i = 0 → Hc[(Array.size H)]? = some _) ∧ (i = 4 → Hc[_]? = some _)) (fun _ _ => False) (by kernel_rfl) (by kernel_rfl) (by kernel_rfl) rfl (fun _ => ⟨fun _ => ba, fun _ => bx⟩) (fun _ _ h => h.elim) ?_
  refine KO.op rfl rfl (fun Hg hg => R.load rfl U52 rfl rfl (cell_of (hg.1 rfl) rfl)) rfl rfl rfl ?_
  refine KO.op rfl rfl (fun Hg hg => R.move rfl rfl) rfl rfl rfl ?_
  refine KO.op rfl rfl (fun Hg hg => R.nilCheck rfl rfl) rfl rfl rfl ?_
  refine KO.op rfl rfl (fun Hg hg => (R.fieldAddr rfl Tryz.underlying222 rfl rfl sz3 rfl)) rfl rfl rfl ?_
  refine KO.op rfl rfl (fun Hg hg => R.load rfl U3 rfl rfl (cell_of (hg.2 rfl) rfl)) rfl rfl rfl ?_
  refine KO.opS rfl rfl (S.store rfl sz52 rfl rfl (fs.cells1) (fs.one) ba (by simp)) rfl rfl (fun _ h j hj1 hj2 => ⟨fun hj => by subst hj; exact absurd (by decide +kernel) hj2, fun _ => (h.1.2 _ (by omega)).trans bx⟩) ?_
  rintro H8 ⟨u8, b8⟩
  have o0 := o0.upd u8 (by omega)
  have zu8 := u8.1
  have bb := ((u8).2 _ (by omega)).trans bb
  have bc := ((u8).2 _ (by omega)).trans bc
  have bx := ((u8).2 _ (by omega)).trans bx
  have ba := b8
  have kx := kx.upd0 u8 (List.mem_range.2 (by omega))
  refine KO.opS rfl rfl (S.store rfl sz3 rfl rfl rfl rfl bb (by simp)) rfl rfl (fun _ h _ _ _ => ⟨fun _ => (h.1.2 _ (by omega)).trans ba, fun _ => (h.1.2 _ (by omega)).trans bx⟩) ?_
  rintro H9 ⟨u9, b9⟩
  have o0 := o0.upd u9 (by omega)
  have zu9 := u9.1
  have ba := ((u9).2 _ (by omega)).trans ba
  have bc := ((u9).2 _ (by omega)).trans bc
  have bx := ((u9).2 _ (by omega)).trans bx
  have bb := b9
  have kx := kx.upd0 u9 (List.mem_range.2 (by omega))
  refine KO.opS rfl rfl (S.store rfl sz37 rfl rfl rfl rfl bc (by simp)) rfl rfl (fun _ h _ _ _ => ⟨fun _ => (h.1.2 _ (by omega)).trans ba, fun _ => (h.1.2 _ (by omega)).trans bx⟩) ?_
  rintro H10 ⟨u10, b10⟩
  have o0 := o0.upd u10 (by omega)
  have zu10 := u10.1
  have ba := ((u10).2 _ (by omega)).trans ba
  have bb := ((u10).2 _ (by omega)).trans bb
  have bx := ((u10).2 _ (by omega)).trans bx
  have bc := b10
  have kx := kx.upd0 u10 (List.mem_range.2 (by omega))
  refine KO.nil ?_
  refine KQD.seq ?_
  refine KCD.ret ?_
  have fin_e := fun H2 (k2 : KeepX (List.range (Array.size H)) H10 H2) => hK H2 (kx.chain k2 (fun y hy => List.mem_range.2 (by have := List.mem_range.1 hy; omega)))
  refine KQD.fin_ret (R1 := fun H' => H' = H10) Tryz.call129 (cloE_ret) ?_
  rintro HR rfl
  refine ⟨_, fun ar wr har hwr => results_cells har Tryz.results125 rfl rfl rfl (loadVar_one U52 rfl (by rw [hwr]; exact cell_of ba rfl)) (loadVar_one U3 rfl (by rw [hwr]; exact cell_of bb rfl)) (loadVar_one U37 rfl (by rw [hwr]; exact cell_of bc rfl)), o0, ?_⟩
  have hp' : Isp.exprP (l.length + 1) [] l = .ok (x, n) := by simpa using hp
  rw [hp']
  exact ⟨_, by rw [Nat.zero_add], fin_e⟩
theorem TakeExpr_any {H : Heap} {v : Value} {l : List Int} (hs0 : Sl 1 (EInt .u8) H v l) (hl : l.length ≤ 1000000) : Ct Tryz.prog 119 [v] H (fun u H' => Old H H' ∧ match Isp.exprP (l.length + 1) [] l with | .error e => u = .tuple #[.slice none 0 0, .int .i64 0, .int .i64 e] | .ok (x, n) => ∃ c, u = .tuple #[c, .int .i64 (n : Nat), .int .i64 0] ∧ ∀ H2, KeepX (List.range H.size) H' H2 → Sl 5 EIns H2 c x) := by
  refine Ct.mk Tryz.func119 rfl Tryz.ntmps119 rfl ?_
  intro W0 hW0
  have o0 : Old H H := Old.refl H
  refine KC.sr (KL.fin 3 rfl (KQ.sr (KL.run 1 rfl ?_)))
  refine KL.c rfl Tryz.call125 (readE_any hs0 hl) ?_
  rintro u H1 ⟨g6, hm⟩
  have zc_H1 := (g6).1
  have o0 := o0.trans g6
  have hu : ∃ x1 x2 x3, u = .tuple #[x1, x2, x3] ∧ x1.cells = #[x1] := by
    split at hm
    · exact ⟨_, _, _, hm, rfl⟩
    obtain ⟨c, hc, hs⟩ := hm; exact ⟨_, _, _, hc, (hs _ (KeepX.refl _ _)).cells1⟩
  obtain ⟨x1, x2, x3, rfl, hx1⟩ := hu
  refine KL.fin 6 rfl (KQ.seq (KC.ret (KQ.ofRet (KQ.fin3 Tryz.results119 rfl rfl rfl ?_))))
  exact ⟨o0, hm⟩
section
variable {P : Program} {n d : Nat} {W0 : World} {Q : Exit → Act → World → Prop} {ops rest : List Oper} {o : Oper} {E : Env} {H : Heap} {v : Value} {D : List Deferred}
theorem results_cells2 {fn : Func} {a : Act} {w : World} {t1 t2 : Nat} {T1 T2 : TypeId} {p1 p2 : Addr} {v1 v2 : Value} (ha : Rep n E a) (hr : fn.results = #[.cell t1 T1, .cell t2 T2])
    (g1 : get E t1 = some (.pointer (some p1))) (g2 : get E t2 = some (.pointer (some p2)))
    (l1 : (loadVar T1 p1).run P w = .ok v1 w) (l2 : (loadVar T2 p2).run P w = .ok v2 w) : (results fn a.tmps).run P w = .ok (.tuple #[v1, v2]) w := by
  have h1 := ha.val t1 _ g1
  have h2 := ha.val t2 _ g2
  simp [results, hr, List.mapM_toArray, Array.getD_eq_getD_getElem?, h1, h2, asAddr, Sem.run_bind, Sem.run_pure, Sem.run_map, Result.andThen, l1, l2]
end
/-- why there is no module, as it is thrown -/
def failB (e : Int) : Value := .iface 107 (.agg #[.int .i64 e])
/-- a reader in memory: what is left -/
structure RB (H : Heap) (g : Nat) (v : Value) (l : List Int) : Prop where
  b : H[g]? = some (.cells [v].toArray 152 (0, 0))
  s : ∀ H2, OldB g H H2 → Sl 1 (EInt .u8) H2 v l
  le : l.length ≤ 1000000
section
variable {H H' : Heap} {g g2 : Nat} {v : Value} {l l' : List Int}
theorem RB.sl (h : RB H g v l) : Sl 1 (EInt .u8) H v l := h.s H (OldB.refl _ _)
theorem RB.lt (h : RB H g v l) : g < H.size := blk_lt h.b
theorem RB.cast (h : RB H g v l) (e : l = l') : RB H g v l' := e ▸ h
theorem RB.oldB (h : RB H g v l) (o : OldB g H H') (hb : H'[g]? = H[g]?) : RB H' g v l := ⟨hb.trans h.b, fun H2 k => h.s H2 (o.trans k), h.le⟩
theorem RB.old (h : RB H g v l) (o : Old H H') : RB H' g v l := h.oldB (o.b (Nat.le_of_lt h.lt)) (o.2 _ h.lt)
theorem RB.updT (h : RB H g v l) (u : Upd g2 H H') (hne : g < g2) : RB H' g v l := h.oldB (OldB.upd u (by omega)) (u.2 g (by omega))
theorem RB.frT (h : RB H g v l) (f : Fr g2 (.slice none 0 0) H H') (hne : g < g2) : RB H' g v l := h.oldB (f.low (Nat.le_of_lt h.lt) (by omega)) (f.2 g h.lt (by omega) (.inl rfl))
theorem RB.grownT {x : Value} (h : RB H g v l) (gr : Grown x H H') (hlt : x = .slice none 0 0 ∨ g < vblock x) : RB H' g v l :=
  h.oldB ⟨gr.1, fun j hj => gr.2 j (by have := h.lt; omega) (hlt.imp id (fun k => by omega))⟩ (gr.2 g h.lt (hlt.imp id (fun k => by omega)))
/-- some is read -/
theorem RB.skip (h : RB H g v l) {n : Nat} (u : Upd g H H') (hb : H'[g]? = some (.cells [subV 1 v n l.length].toArray 152 (0, 0))) (hn : n ≤ l.length) : RB H' g (subV 1 v n l.length) (l.drop n) :=
  ⟨hb, fun H2 k => (h.s H2 ((OldB.upd u (Nat.le_refl _)).trans k)).tail hn, by have := h.le; rw [List.length_drop]; omega⟩
/-- what was made in A, above N, is as it was -/
structure RW (N : Nat) (A H : Heap) : Prop where
  k : KeepX (List.range N) A H
theorem RW.refl (N : Nat) (A : Heap) : RW N A A := ⟨KeepX.refl _ _⟩
variable {N N0 : Nat} {A H2 : Heap}
theorem RW.old (h : RW N A H) (o : Old H H') : RW N A H' := ⟨⟨Nat.le_trans h.k.1 o.1, fun i hi hn => (o.2 i (by have := h.k.1; omega)).trans (h.k.2 i hi hn)⟩⟩
theorem RW.frT (h : RW N A H) (f : Fr g (.slice none 0 0) H H') (hg : g < N ∨ A.size ≤ g) : RW N A H' := ⟨⟨Nat.le_trans h.k.1 f.1, fun i hi hn => (f.2 i (by have := h.k.1; omega) (fun e => hn (List.mem_range.2 (by omega))) (.inl rfl)).trans (h.k.2 i hi hn)⟩⟩
theorem RW.updT (h : RW N A H) (u : Upd g H H') (hg : g < N ∨ A.size ≤ g) : RW N A H' := ⟨⟨by rw [u.1]; exact h.k.1, fun i hi hn => (u.2 i (fun e => hn (List.mem_range.2 (by omega)))).trans (h.k.2 i hi hn)⟩⟩
theorem RW.go (h : RW N A H) (k : KeepX (List.range N0) H H2) (hN : N0 ≤ N) : KeepX (List.range N) A H2 := h.k.chain k (fun y hy => List.mem_range.2 (by have := List.mem_range.1 hy; omega))
/-- a row that lasts -/
def RowS {α : Type} (n : Nat) (E : El α) (N : Nat) (H : Heap) (v : Value) (l : List α) : Prop := ∀ H2, KeepX (List.range N) H H2 → Sl n E H2 v l
theorem RowS.sl {α : Type} {n : Nat} {E : El α} {l : List α} (h : RowS n E N H v l) : Sl n E H v l := h H (KeepX.refl _ _)
theorem RowS.to {α : Type} {n : Nat} {E : El α} {l : List α} (h : RowS n E N A v l) (r : RW N A H) (hN : N0 ≤ N) : RowS n E N0 H v l := fun H2 k => h H2 (r.go k hN)
theorem RowS.one {α : Type} {n : Nat} {E : El α} {l : List α} (h : RowS n E N H v l) : v.oneCell' = true := h.sl.one
theorem RowS.cells1 {α : Type} {n : Nat} {E : El α} {l : List α} (h : RowS n E N H v l) : v.cells = #[v] := h.sl.cells1
/-- a row that grows in a loop -/
structure LS {α : Type} (n : Nat) (E : El α) (e : TypeId) (N : Nat) (H : Heap) (v : Value) (l : List α) : Prop where
  w : OwnE n E e N H v (List.range N) l
variable {α : Type} {n : Nat} {E : El α} {e : TypeId} {ls : List α}
theorem LS.nil (n : Nat) (E : El α) (e : TypeId) (N : Nat) (H : Heap) : LS n E e N H (.slice none 0 0) ([] : List α) := ⟨OwnE.nil _ _ _ _ _ _⟩
theorem LS.old (h : LS n E e N H v ls) (o : Old H H') : LS n E e N H' v ls := ⟨h.w.old o⟩
theorem LS.frT (h : LS n E e N H v ls) (f : Fr g (.slice none 0 0) H H') (hg : g < N) : LS n E e N H' v ls :=
  ⟨(Own.frK h.w.own f hg).mapE fun cs x hf H2 k => hf H2 (KeepX.fr f (List.mem_cons_of_mem _ (List.mem_range.2 hg)) k)⟩
theorem LS.row (h : LS n E e N H v ls) (hn : 0 < n) : RowS n E N H v ls := h.w.outliveN hn (Nat.le_refl _) (Nat.le_refl _)
/-- one more, made meanwhile -/
theorem fk_row {β : Type} {m : Nat} {F : El β} {c : Value} {xs : List β} {M : Nat} (h : RowS m F M A c xs) (o : RW M A H) (hv : v = .slice none 0 0 ∨ vblock v < M) (h0 : 0 < M) (hN : N ≤ M) : ∀ H2, KeepX (vblock v :: List.range N) H H2 → Sl m F H2 c xs :=
  fun H2 k => h H2 (o.k.chain k (fun y hy => by
    rcases List.mem_cons.1 hy with rfl | hy
    · rcases hv with e | e
      · subst e; exact List.mem_range.2 h0
      exact List.mem_range.2 e
    exact List.mem_range.2 (by have := List.mem_range.1 hy; omega)))
end
namespace Bn
open Isp
section
variable {α β : Type} {p : Prs α} {q : α → Prs β} {f : α → β} {r : List Int} {x : α} {y : β} {k m : Nat} {e : Int}
theorem b_ok (h1 : p r = .ok (x, k)) (h2 : q x (r.drop k) = .ok (y, m)) : bindP p q r = .ok ((x, y), k + m) := by unfold bindP; rw [h1]; simp only [h2]
theorem b_e1 (h1 : p r = .error e) : bindP p q r = .error e := by unfold bindP; rw [h1]
theorem b_e2 (h1 : p r = .ok (x, k)) (h2 : q x (r.drop k) = .error e) : bindP p q r = .error e := by unfold bindP; rw [h1]; simp only [h2]
theorem m_ok (h : p r = .ok (x, k)) : mapP f p r = .ok (f x, k) := by unfold mapP; rw [h]
theorem m_e (h : p r = .error e) : mapP f p r = .error e := by unfold mapP; rw [h]
theorem byte_nil (h : r.length = 0) : byteP r = .error 60 := by rw [List.eq_nil_of_length_eq_zero h]; rfl
theorem byte_ok (h : 0 < r.length) : byteP r = .ok (r.getD 0 default, 1) := by
  cases r with
  | nil => simp at h
  | cons z r => rfl
/-- what is asked of a byte that was read -/
theorem one_of {f : Int → Except Int α} {z : Int} (h : byteP r = .ok (z, k)) (he : f z = .ok x) : oneP f r = .ok (x, k) := by
  cases r with
  | nil => cases h
  | cons z r => simp only [byteP] at h; injection h with h; injection h with h1 h2; subst h1; subst h2; unfold oneP; simp only [he]
theorem one_of_e {f : Int → Except Int α} {z : Int} (h : byteP r = .ok (z, k)) (he : f z = .error e) : oneP f r = .error e := by
  cases r with
  | nil => cases h
  | cons z r => simp only [byteP] at h; injection h with h; injection h with h1 h2; subst h1; subst h2; unfold oneP; simp only [he]
theorem one_er {f : Int → Except Int α} (h : byteP r = .error e) : oneP f r = .error e := by
  cases r with
  | nil => simp only [byteP] at h; injection h with h; subst h; rfl
  | cons z r => cases h
theorem u32_none (h : Lb.tk r 32 = none) : u32P r = .error 60 := by unfold u32P numP; rw [show Leb.tk false (r.map Lib.byteOf) ((32 : Nat) : Int) = none from h]
theorem u32_some {z : Int} (h : Lb.tk r 32 = some (z, k)) : u32P r = .ok (z, k) := by unfold u32P numP; rw [show Leb.tk false (r.map Lib.byteOf) ((32 : Nat) : Int) = some (z, k) from h]
theorem nam_none (h : Nm.nt r = none) : namP r = .error 60 := by unfold namP; rw [h]
theorem nam_some {t : List Int} (h : Nm.nt r = some (t, k)) (hr : ∀ x ∈ r, InR .u8 x) : namP r = .ok (bstr t, k) := by
  unfold namP; rw [h]
  simp only
  rw [if_pos (List.all_eq_true.2 fun x hx => by have := Nm.range hr h x hx; dsimp only [InR] at this; exact decide_eq_true this)]
theorem nt_le {t : List Int} (h : Nm.nt r = some (t, k)) : k ≤ r.length := by
  unfold Nm.nt at h
  split at h
  · cases h
  next n k' ht =>
  have := Lb.tk32 ht
  split at h
  · injection h with h; injection h with h1 h2; omega
  cases h
theorem u32_le {z : Int} (h : u32P r = .ok (z, k)) : 1 ≤ k ∧ k ≤ r.length ∧ 0 ≤ z ∧ z < 4294967296 := by
  have h1 := cod_u32.sound _ _ _ h
  have h2 := apN_len (b := 32) (by omega) ((okU_iff z).1 h1.1)
  exact ⟨by omega, h1.2.2, h1.1⟩
theorem byt_e {z : Int} (h : u32P r = .ok (z, k)) (hl : ¬ z.toNat ≤ r.length - k) : bytP r = .error 60 := by unfold bytP; rw [h]; simp only; rw [if_neg hl]
theorem byt_ok {z : Int} (h : u32P r = .ok (z, k)) (hl : z.toNat ≤ r.length - k) : bytP r = .ok ((r.drop k).take z.toNat, k + z.toNat) := by unfold bytP; rw [h]; simp only; rw [if_pos hl]
theorem byt_e1 (h : u32P r = .error e) : bytP r = .error e := by unfold bytP; rw [h]
theorem many_er {V : Int → Prop} {p : Prs α} (hp : ∀ r e, p r = .error e → V e) : ∀ (n : Nat) (r : List Int) (e : Int), manyP p n r = .error e → V e
  | 0, r, e, h => by cases h
  | n + 1, r, e, h => by
    simp only [manyP, mapP, bindP] at h
    split at h
    · next e' h' =>
      injection h with h; subst h
      split at h'
      · next e2 h2 => injection h' with h'; subst h'; exact hp _ _ h2
      split at h'
      · next e2 h2 => injection h' with h'; subst h'; exact many_er hp n _ _ h2
      cases h'
    cases h
theorem num_er {sg : Bool} {b : Nat} (h : numP sg b r = .error e) : e = 60 := by
  unfold numP at h
  split at h
  · injection h with h; exact h.symm
  cases h
theorem map_er {V : Int → Prop} {γ δ : Type} {p : Prs γ} {f : γ → δ} (hp : ∀ r e, p r = .error e → V e) : ∀ r e, mapP f p r = .error e → V e := fun r e h => by
  unfold mapP at h
  split at h
  · next e2 h2 => injection h with h; subst h; exact hp _ _ h2
  cases h
theorem bind_er {V : Int → Prop} {γ δ : Type} {p : Prs γ} {q : γ → Prs δ} (hp : ∀ r e, p r = .error e → V e) (hq : ∀ x r e, q x r = .error e → V e) : ∀ r e, bindP p q r = .error e → V e := fun r e h => by
  unfold bindP at h
  split at h
  · next e2 h2 => injection h with h; subst h; exact hp _ _ h2
  split at h
  · next e2 h2 => injection h with h; subst h; exact hq _ _ _ h2
  cases h
def E6 (e : Int) : Prop := e = 60 ∨ e = 61
theorem u32_er : ∀ r e, u32P r = .error e → E6 e := fun r e h => .inl (num_er h)
theorem ins_er (r : List Int) (e : Int) (h : insP r = .error e) : E6 e := by
  cases r with
  | nil => simp only [insP] at h; injection h with h; exact .inl h.symm
  | cons x r =>
    simp only [insP] at h
    split at h
    · injection h with h; exact .inr h.symm
    split at h
    · injection h with h; exact .inl h.symm
    split at h
    · next e2 h2 =>
      injection h with h; subst h
      unfold bodyP at h2
      have hb : ∀ r e, blockP r = .error e → E6 e := fun r e h => by
        cases r with
        | nil => simp only [blockP] at h; injection h with h; exact .inl h.symm
        | cons x r =>
          simp only [blockP] at h
          split at h
          · cases h
          split at h
          · injection h with h; exact .inr h.symm
          injection h with h; exact .inl h.symm
      have hz : ∀ r e, zeroP r = .error e → E6 e := fun r e h => by
        cases r with
        | nil => simp only [zeroP] at h; injection h with h; exact .inl h.symm
        | cons x r =>
          simp only [zeroP] at h
          split at h
          · cases h
          injection h with h; exact .inl h.symm
      have hn : ∀ (sg : Bool) (b : Nat) r e, numP sg b r = .error e → E6 e := fun sg b r e h => .inl (num_er h)
      have hl : ∀ r e, labsP r = .error e → E6 e := map_er (bind_er (bind_er u32_er fun x => many_er u32_er _) fun _ => u32_er)
      split at h2
      · exact map_er hb _ _ h2
      split at h2
      · exact map_er u32_er _ _ h2
      split at h2
      · exact map_er hl _ _ h2
      split at h2
      · exact map_er (bind_er u32_er fun _ => hz) _ _ h2
      split at h2
      · exact map_er (bind_er u32_er fun _ => u32_er) _ _ h2
      split at h2
      · exact map_er hz _ _ h2
      split at h2
      · exact map_er (hn true 32) _ _ h2
      split at h2
      · exact map_er (hn true 64) _ _ h2
      cases h2
    cases h
theorem expr_er : ∀ (f : Nat) (m r : List Int) (e : Int), exprP f m r = .error e → E6 e
  | 0, m, r, e, h => by simp only [exprP] at h; injection h with h; exact .inl h.symm
  | f + 1, m, r, e, h => by
    simp only [exprP] at h
    split at h
    · next e2 h2 => injection h with h; subst h; exact ins_er _ _ h2
    split at h
    · injection h with h; exact .inl h.symm
    · cases h
    split at h
    · next e2 h2 => injection h with h; subst h; exact expr_er f _ _ _ h2
    cases h
theorem xpr_le {xs : List Ins} (h : xprP r = .ok (xs, k)) : k ≤ r.length := (expr_sound _ _ _ _ _ h).2.2.2
end
end Bn
theorem TakeExpr_or {H : Heap} {v : Value} {l : List Int} (hs : Sl 1 (EInt .u8) H v l) (hl : l.length ≤ 1000000) : Ct Tryz.prog 119 [v] H (fun u H' => Old H H' ∧ ((∃ e, Bn.xprP l = .error e ∧ Bn.E6 e ∧ u = .tuple #[.slice none 0 0, .int .i64 0, .int .i64 e]) ∨ ∃ x n c, Bn.xprP l = .ok (x, n) ∧ n ≤ l.length ∧ u = .tuple #[c, .int .i64 (n : Nat), .int .i64 0] ∧ RowS 5 EIns H.size H' c x)) :=
  (TakeExpr_any hs hl).mono fun u H' ⟨o, h⟩ => ⟨o, by
    cases hp : Isp.exprP (l.length + 1) [] l with
    | error e => rw [hp] at h; exact .inl ⟨e, hp, Bn.expr_er _ _ _ _ hp, h⟩
    | ok y =>
      obtain ⟨x, n⟩ := y
      rw [hp] at h
      obtain ⟨c, h1, h2⟩ := h
      exact .inr ⟨x, n, c, hp, Bn.xpr_le hp, h1, h2⟩⟩
theorem must_any {H : Heap} (b : Bool) : CtX Tryz.prog 46 [.bool b] H (fun u H' => u = .tuple #[] ∧ b = true ∧ H = H') (fun q H' => q = failB 60 ∧ b = false ∧ H = H') := by
  refine CtX.mk Tryz.func46 rfl Tryz.ntmps46 rfl ?_
  intro W0 hW0
  have o0 : Old H H := Old.refl H
  refine KC.sr (KL.fin 2 rfl (KQ.seq ?_))
  refine KC.iq rfl ?_ ?_
  · intro hb
    refine KC.region (KL.b0 bt107 rfl rfl (KL.q (R.makeIface rfl U107 rfl rfl) rfl ?_))
    refine KL.panic rfl rfl rfl ?_
    exact KQ.pan (⟨rfl, hb, rfl⟩)
  intro hb
  refine KC.skip (KQ.toX (KQ.fin0 Tryz.results46 ?_))
  exact ⟨rfl, hb, rfl⟩
theorem skip_any {H : Heap} {g : Nat} {v : Value} {l : List Int} (rb : RB H g v l) (n : Nat) (hn : n ≤ l.length) : Ct Tryz.prog 108 [.pointer (some ⟨g, 0, none⟩), .int .i64 (n : Nat)] H (fun u H' => u = sub3 1 v 0 n n ∧ RB H' g (subV 1 v n l.length) (l.drop n) ∧ Upd g H H') := by
  refine Ct.mk Tryz.func108 rfl Tryz.ntmps108 rfl ?_
  intro W0 hW0
  have o0 : OldB 0 H H := OldB.refl _ H
  have bb := rb.b
  have hg := rb.lt
  refine KC.sr (KL.fin 1 rfl (KQ.sr (KL.run 3 rfl (KL.ld rfl (cell_of bb rfl) (KL.run 2 rfl (KL.q (R.slice3 rfl U34 sz5 rfl rb.sl bnd.no rfl rfl rfl rfl (Nat.zero_le _) hn) rfl (KL.fin 1 rfl (KQ.sr ?_))))))))
  refine KL.run 4 rfl (KL.ld rfl (cell_of bb rfl) (KL.run 1 rfl (KL.q (R.slice rfl U34 sz5 rfl rb.sl (bnd.mk (r := n) rfl rfl) bnd.no hn (Nat.le_refl _)) rfl (KL.run 2 rfl ?_))))
  refine KL.opS (S.store rfl sz34 rfl rfl (rb.sl.tail hn).cells1 (rb.sl.tail hn).one bb (by simp)) rfl rfl ?_
  rintro H1 ⟨u1, b1⟩
  have o0 := o0.trans (OldB.upd u1 (by omega))
  have zu1 := u1.1
  have bb := b1
  have uu := u1
  refine KL.nil (KQ.sr (KL.fin 2 rfl (KQ.seq (KC.ret (KQ.ofRet (KQ.fin1 Tryz.results108 rfl ?_))))))
  exact ⟨rfl, rb.skip uu bb hn, uu⟩
theorem bbyte_any {H : Heap} {g : Nat} {v : Value} {l : List Int} (rb : RB H g v l) : CtX Tryz.prog 103 [.pointer (some ⟨g, 0, none⟩)] H (fun u H' => ∃ x k v', Isp.byteP l = .ok (x, k) ∧ u = .int .u8 x ∧ InR .u8 x ∧ RB H' g v' (l.drop k) ∧ Fr g (.slice none 0 0) H H') (fun q H' => ∃ e, Isp.byteP l = .error e ∧ q = failB e ∧ Fr g (.slice none 0 0) H H') := by
  refine CtX.mk Tryz.func103 rfl Tryz.ntmps103 rfl ?_
  intro W0 hW0
  have o0 : OldB 0 H H := OldB.refl _ H
  have hg := rb.lt
  have fr : Fr g (.slice none 0 0) H H := Fr.refl _ _ _
  have hle := rb.le
  refine KC.sr (KL.fin 1 rfl (KQ.sr (KL.run 3 rfl (KL.ld rfl (cell_of rb.b rfl) (KL.q (R.lenS rfl U34 rfl rb.sl) rfl (KL.run 1 rfl ?_))))))
  refine KL.callX rfl rfl rfl rfl K46 rfl rfl rfl (must_any _) ?_ ?_
  · rintro vx _ ⟨rfl, hb, rfl⟩
    simp only [sd] at hb
    refine KQ.panThen ?_
    exact KQ.pan (⟨_, Bn.byte_nil (by omega), rfl, fr⟩)
  rintro _ _ ⟨rfl, hb, rfl⟩
  simp only [sd] at hb
  refine KL.nil (KQ.sr (KL.run 1 rfl ?_))
  refine KL.c rfl Tryz.call108 (skip_any rb 1 (by omega)) ?_
  rintro _ H2 ⟨rfl, rb2, uu⟩
  have f1_ := Fr.ofU uu
  have zf_H2 := f1_.1
  have o0 := o0.trans (f1_.low (Nat.zero_le _) (Nat.zero_le _))
  have fr := fr.thenN f1_
  have rb0 := rb
  have rb := rb2
  have zrd := rb.lt
  have sU : Sl 1 (EInt .u8) H2 (sub3 1 v 0 1 1) (l.take 1) := (rb0.s _ (OldB.upd uu (Nat.le_refl _))).sub3 (Nat.zero_le _) (by omega)
  refine KL.q (R.index1 (j := 0) rfl U34 sz5 rfl rfl sU rfl (by rw [List.length_take]; omega)) rfl ?_
  refine KL.q ((R.load rfl U5 rfl rfl (sU.int 0 (by rw [List.length_take]; omega)).1).val (congrArg (Value.int .u8) (Utf.getD_take (by decide)))) rfl ?_
  refine KL.fin 1 rfl (KQ.seq (KC.ret (KQ.ofRetX (KQ.toX (KQ.fin1 Tryz.results103 rfl ?_)))))
  exact ⟨_, 1, _, Bn.byte_ok (by omega), rfl, (rb0.sl.int 0 (by omega)).2, rb, fr⟩
theorem bu32_any {H : Heap} {g : Nat} {v : Value} {l : List Int} (rb : RB H g v l) : CtX Tryz.prog 80 [.pointer (some ⟨g, 0, none⟩)] H (fun u H' => ∃ x k v', Isp.u32P l = .ok (x, k) ∧ u = .int .u32 x ∧ InR .u32 x ∧ RB H' g v' (l.drop k) ∧ Fr g (.slice none 0 0) H H') (fun q H' => ∃ e, Isp.u32P l = .error e ∧ q = failB e ∧ Fr g (.slice none 0 0) H H') := by
  refine CtX.mk Tryz.func80 rfl Tryz.ntmps80 rfl ?_
  intro W0 hW0
  have o0 : OldB 0 H H := OldB.refl _ H
  have hg := rb.lt
  have fr : Fr g (.slice none 0 0) H H := Fr.refl _ _ _
  have hle := rb.le
  refine KC.sr (KL.fin 1 rfl (KQ.sr (KL.run 3 rfl (KL.ld rfl (cell_of rb.b rfl) ?_))))
  refine KL.c rfl Tryz.call53 (TakeU_or _ _ rb.sl) ?_
  rintro u9 _ ⟨rfl, hR⟩
  rcases hR with ⟨ht, rfl⟩ | ⟨n, k, ht, rfl⟩
  · skip
    refine KL.fin 7 rfl (KQ.sr (KL.run 1 rfl ?_))
    refine KL.callX rfl rfl rfl rfl K46 rfl rfl rfl (must_any false) ?_ ?_
    · rintro vx _ ⟨rfl, _, rfl⟩
      refine KQ.panThen ?_
      exact KQ.pan (⟨_, Bn.u32_none ht, rfl, fr⟩)
    rintro _ _ ⟨_, hb, _⟩
    exact absurd hb (by decide)
  have hb0 := Lb.tk32 ht
  refine KL.fin 7 rfl (KQ.sr (KL.run 1 rfl ?_))
  refine KL.callX rfl rfl rfl rfl K46 rfl rfl rfl (must_any true) ?_ ?_
  · rintro vx _ ⟨_, hb, _⟩
    refine KQ.panThen ?_
    exact KQ.pan (absurd hb (by decide))
  rintro _ _ ⟨rfl, _, rfl⟩
  refine KL.nil (KQ.sr (KL.run 2 rfl ?_))
  refine KL.c rfl Tryz.call108 (skip_any rb k (by omega)) ?_
  rintro _ H3 ⟨rfl, rb2, uu⟩
  have f1_ := Fr.ofU uu
  have zf_H3 := f1_.1
  have o0 := o0.trans (f1_.low (Nat.zero_le _) (Nat.zero_le _))
  have fr := fr.thenN f1_
  have rb0 := rb
  have rb := rb2
  have zrd := rb.lt
  refine KL.nil (KQ.sr (KL.run 1 rfl ?_))
  refine KL.q (R.convI rfl U95 U28 rfl (by dsimp only [InR]; omega)) rfl ?_
  refine KL.fin 1 rfl (KQ.seq (KC.ret (KQ.ofRetX (KQ.toX (KQ.fin1 Tryz.results80 rfl ?_)))))
  exact ⟨_, _, _, Bn.u32_some ht, rfl, by dsimp only [InR]; omega, rb, fr⟩
theorem bbytes_any {H : Heap} {g : Nat} {v : Value} {l : List Int} (rb : RB H g v l) : CtX Tryz.prog 111 [.pointer (some ⟨g, 0, none⟩)] H (fun u H' => ∃ x k v', Bn.bytP l = .ok (x, k) ∧ (∀ H2, OldB g H' H2 → Sl 1 (EInt .u8) H2 u x) ∧ RB H' g v' (l.drop k) ∧ Fr g (.slice none 0 0) H H') (fun q H' => ∃ e, Bn.bytP l = .error e ∧ q = failB e ∧ Fr g (.slice none 0 0) H H') := by
  refine CtX.mk Tryz.func111 rfl Tryz.ntmps111 rfl ?_
  intro W0 hW0
  have o0 : OldB 0 H H := OldB.refl _ H
  have hg := rb.lt
  have fr : Fr g (.slice none 0 0) H H := Fr.refl _ _ _
  have hle := rb.le
  refine KC.sr (KL.fin 1 rfl (KQ.sr (KL.run 1 rfl ?_)))
  refine KL.callX rfl rfl rfl rfl K80 rfl rfl rfl (bu32_any rb) ?_ ?_
  · rintro vx H1 ⟨ex, hx1, hx2, hx3⟩
    refine KQ.panThen ?_
    exact KQ.pan (⟨_, Bn.byt_e1 hx1, hx2, fr.thenN hx3⟩)
  rintro _ H2 ⟨n, k, v1, hp, rfl, hn, rb2, f1_⟩
  have zf_H2 := f1_.1
  have o0 := o0.trans (f1_.low (Nat.zero_le _) (Nat.zero_le _))
  have fr := fr.thenN f1_
  have rb := rb2
  have zrd := rb.lt
  have fn1 := f1_
  refine KL.fin 1 rfl (KQ.sr (KL.run 1 rfl ?_))
  refine KL.q (R.convI rfl U28 U95 rfl (by dsimp only [InR] at *; omega)) rfl ?_
  refine KL.run 3 rfl (KL.ld rfl (cell_of rb.b rfl) (KL.q (R.lenS rfl U34 rfl rb.sl) rfl ?_))
  refine KL.q (R.convI rfl U3 U95 rfl (by have := rb.sl.len; dsimp only [InR]; omega)) rfl ?_
  refine KL.run 1 rfl ?_
  refine KL.callX rfl rfl rfl rfl K46 rfl rfl rfl (must_any _) ?_ ?_
  · rintro vx _ ⟨rfl, hb, rfl⟩
    simp only [sd] at hb
    refine KQ.panThen ?_
    exact KQ.pan (⟨_, Bn.byt_e hp (by rw [← List.length_drop]; dsimp only [InR] at hn; omega), rfl, fr⟩)
  rintro _ _ ⟨rfl, hb, rfl⟩
  simp only [sd] at hb
  refine KL.nil (KQ.sr (KL.run 2 rfl ?_))
  refine KL.q ((R.convI rfl U28 U3 rfl (by dsimp only [InR] at *; omega)).val (congrArg (Value.int .i64) (show n = ((n.toNat : Nat) : Int) by dsimp only [InR] at hn; omega))) rfl ?_
  refine KL.c rfl Tryz.call108 (skip_any rb n.toNat (by dsimp only [InR] at hn; omega)) ?_
  rintro _ H4 ⟨rfl, rb2, uu⟩
  have f1_ := Fr.ofU uu
  have zf_H4 := f1_.1
  have o0 := o0.trans (f1_.low (Nat.zero_le _) (Nat.zero_le _))
  have fr := fr.thenN f1_
  have rb0 := rb
  have rb := rb2
  have zrd := rb.lt
  have sU : ∀ Hx, OldB g H2 Hx → Sl 1 (EInt .u8) Hx (sub3 1 v1 0 n.toNat n.toNat) ((l.drop k).take n.toNat) := fun Hx o => (rb0.s Hx o).sub3 (Nat.zero_le _) (by dsimp only [InR] at hn; omega)
  refine KL.fin 1 rfl (KQ.seq (KC.ret (KQ.ofRetX (KQ.toX (KQ.fin1 Tryz.results111 rfl ?_)))))
  exact ⟨_, _, _, Bn.byt_ok hp (by rw [← List.length_drop]; dsimp only [InR] at hn; omega), fun Hx o => sU Hx ((OldB.upd uu (Nat.le_refl _)).trans o), rb.cast (by rw [List.drop_drop]), fr⟩
namespace Bn
theorem val_f {x : Int} (h : x = 125 ∨ x = 124) : valF x = .error 61 := by unfold valF; rw [if_pos h]
theorem val_ok {x : Int} (h : x = 127 ∨ x = 126) : valF x = .ok x := by unfold valF; rw [if_neg (by omega), if_pos h]
theorem val_b {x : Int} (h : ¬ (x = 125 ∨ x = 124)) (h2 : ¬ (x = 127 ∨ x = 126)) : valF x = .error 60 := by unfold valF; rw [if_neg h, if_neg h2]
theorem flg_ok {x : Int} (h : x ≤ 1) : flgF x = .ok (decide (x = 1)) := by unfold flgF; rw [if_pos h]
theorem flg_b {x : Int} (h : 1 < x) : flgF x = .error 60 := by unfold flgF; rw [if_neg (by omega)]
theorem tag_ok {x b : Int} (h : x = b) : tagF b x = .ok () := by unfold tagF; rw [if_pos h]
theorem tag_b {x b : Int} (h : ¬ x = b) : tagF b x = .error 60 := by unfold tagF; rw [if_neg h]
theorem lf_e {r : List Int} {e : Int} (h : Isp.u32P r = .error e) : limR false r = .error e := by unfold limR; exact b_e1 h
theorem lf_ok {r : List Int} {x : Int} {k : Nat} (h : Isp.u32P r = .ok (x, k)) : limR false r = .ok ((x, -1), k) := by unfold limR; exact b_ok (q := fun _ => retP (-1)) h rfl
theorem knd_ok {x : Int} (h : x ≤ 3) : kndF x = .ok x := by unfold kndF; rw [if_pos h]
theorem knd_b {x : Int} (h : 3 < x) : kndF x = .error 60 := by unfold kndF; rw [if_neg (by omega)]
end Bn
theorem bname_any {H : Heap} {g : Nat} {v : Value} {l : List Int} (rb : RB H g v l) {Hb : Heap} (hT : TabU Hb) (oB : Old Hb H) (hgB : Hb.size ≤ g) : CtX Tryz.prog 106 [.pointer (some ⟨g, 0, none⟩)] H (fun u H' => ∃ x k v', Bn.namP l = .ok (x, k) ∧ u = .string x ∧ RB H' g v' (l.drop k) ∧ Fr g (.slice none 0 0) H H') (fun q H' => ∃ e, Bn.namP l = .error e ∧ q = failB e ∧ Fr g (.slice none 0 0) H H') := by
  refine CtX.mk Tryz.func106 rfl Tryz.ntmps106 rfl ?_
  intro W0 hW0
  have o0 : OldB 0 H H := OldB.refl _ H
  have hg := rb.lt
  have fr : Fr g (.slice none 0 0) H H := Fr.refl _ _ _
  have hle := rb.le
  have hrg := rb.sl.rng
  refine KC.sr (KL.fin 1 rfl (KQ.sr (KL.run 3 rfl (KL.ld rfl (cell_of rb.b rfl) ?_))))
  refine KL.c rfl Tryz.call54 (NTake_or _ _ rb.sl (hT.old oB)) ?_
  rintro u9 H1 ⟨ox, hR⟩
  have zc_H1 := (ox).1
  have o0 := o0.trans ((ox).b (by omega))
  have rb := rb.old ox
  have fr := fr.old ox
  have oB := oB.trans ox
  rcases hR with ⟨hnt, rfl⟩ | ⟨t, k, hnt, rfl⟩
  · skip
    refine KL.fin 7 rfl (KQ.sr (KL.run 1 rfl ?_))
    refine KL.callX rfl rfl rfl rfl K46 rfl rfl rfl (must_any false) ?_ ?_
    · rintro vx _ ⟨rfl, _, rfl⟩
      refine KQ.panThen ?_
      exact KQ.pan (⟨_, Bn.nam_none hnt, rfl, fr⟩)
    rintro _ _ ⟨_, hb, _⟩
    exact absurd hb (by decide)
  have hkl := Bn.nt_le hnt
  refine KL.fin 7 rfl (KQ.sr (KL.run 1 rfl ?_))
  refine KL.callX rfl rfl rfl rfl K46 rfl rfl rfl (must_any true) ?_ ?_
  · rintro vx _ ⟨_, hb, _⟩
    refine KQ.panThen ?_
    exact KQ.pan (absurd hb (by decide))
  rintro _ _ ⟨rfl, _, rfl⟩
  refine KL.nil (KQ.sr (KL.run 2 rfl ?_))
  refine KL.c rfl Tryz.call108 (skip_any rb k hkl) ?_
  rintro _ H4 ⟨rfl, rb2, uu⟩
  have f1_ := Fr.ofU uu
  have zf_H4 := f1_.1
  have o0 := o0.trans (f1_.low (Nat.zero_le _) (Nat.zero_le _))
  have fr := fr.thenN f1_
  have oB := oB.then (f1_.low (by omega) (by omega)) (Nat.le_refl _)
  have rb0 := rb
  have rb := rb2
  have zrd := rb.lt
  refine KL.nil (KQ.sr (KL.fin 2 rfl (KQ.seq (KC.ret (KQ.ofRetX (KQ.toX (KQ.fin1 Tryz.results106 rfl ?_)))))))
  exact ⟨_, _, _, Bn.nam_some hnt hrg, rfl, rb, fr⟩
theorem bflag_any {H : Heap} {g : Nat} {v : Value} {l : List Int} (rb : RB H g v l) : CtX Tryz.prog 109 [.pointer (some ⟨g, 0, none⟩)] H (fun u H' => ∃ x k v', Bn.flgP l = .ok (x, k) ∧ u = .bool x ∧ RB H' g v' (l.drop k) ∧ Fr g (.slice none 0 0) H H') (fun q H' => ∃ e, Bn.flgP l = .error e ∧ q = failB e ∧ Fr g (.slice none 0 0) H H') := by
  refine CtX.mk Tryz.func109 rfl Tryz.ntmps109 rfl ?_
  intro W0 hW0
  have o0 : OldB 0 H H := OldB.refl _ H
  have hg := rb.lt
  have fr : Fr g (.slice none 0 0) H H := Fr.refl _ _ _
  have hle := rb.le
  refine KC.sr (KL.fin 1 rfl (KQ.sr (KL.run 1 rfl ?_)))
  refine KL.callX rfl rfl rfl rfl Tryz.call103 rfl rfl rfl (bbyte_any rb) ?_ ?_
  · rintro vx H1 ⟨ex, hx1, hx2, hx3⟩
    refine KQ.panThen ?_
    exact KQ.pan (⟨_, Bn.one_er hx1, hx2, fr.thenN hx3⟩)
  rintro _ H2 ⟨x, k, v1, hp, rfl, hx, rb2, f1_⟩
  have zf_H2 := f1_.1
  have o0 := o0.trans (f1_.low (Nat.zero_le _) (Nat.zero_le _))
  have fr := fr.thenN f1_
  have rb := rb2
  have zrd := rb.lt
  have fn1 := f1_
  refine KL.fin 1 rfl (KQ.sr (KL.run 2 rfl ?_))
  refine KL.callX rfl rfl rfl rfl K46 rfl rfl rfl (must_any _) ?_ ?_
  · rintro vx _ ⟨rfl, hb, rfl⟩
    simp only [sd] at hb
    refine KQ.panThen ?_
    exact KQ.pan (⟨_, Bn.one_of_e hp (Bn.flg_b (by omega)), rfl, fr⟩)
  rintro _ _ ⟨rfl, hb, rfl⟩
  simp only [sd] at hb
  refine KL.nil (KQ.sr (KL.fin 3 rfl (KQ.seq (KC.ret (KQ.ofRetX (KQ.toX (KQ.fin1 Tryz.results109 rfl ?_)))))))
  exact ⟨_, _, _, Bn.one_of hp (Bn.flg_ok hb), rfl, rb, fr⟩
theorem bvalue_any {H : Heap} {g : Nat} {v : Value} {l : List Int} (rb : RB H g v l) : CtX Tryz.prog 105 [.pointer (some ⟨g, 0, none⟩)] H (fun u H' => ∃ x k v', Bn.valP l = .ok (x, k) ∧ u = .int .u8 x ∧ InR .u8 x ∧ RB H' g v' (l.drop k) ∧ Fr g (.slice none 0 0) H H') (fun q H' => ∃ e, Bn.valP l = .error e ∧ q = failB e ∧ Fr g (.slice none 0 0) H H') := by
  refine CtX.mk Tryz.func105 rfl Tryz.ntmps105 rfl ?_
  intro W0 hW0
  have o0 : OldB 0 H H := OldB.refl _ H
  have hg := rb.lt
  have fr : Fr g (.slice none 0 0) H H := Fr.refl _ _ _
  have hle := rb.le
  refine KC.sr (KL.fin 1 rfl (KQ.sr (KL.run 1 rfl ?_)))
  refine KL.callX rfl rfl rfl rfl Tryz.call103 rfl rfl rfl (bbyte_any rb) ?_ ?_
  · rintro vx H1 ⟨ex, hx1, hx2, hx3⟩
    refine KQ.panThen ?_
    exact KQ.pan (⟨_, Bn.one_er hx1, hx2, fr.thenN hx3⟩)
  rintro _ H2 ⟨x, k, v1, hp, rfl, hx, rb2, f2_⟩
  have zf_H2 := f2_.1
  have o0 := o0.trans (f2_.low (Nat.zero_le _) (Nat.zero_le _))
  have fr := fr.thenN f2_
  have rb := rb2
  have zrd := rb.lt
  have fn2 := f2_
  refine KL.fin 1 rfl (KQ.seq (KC.seq (KC.sr (KL.run 3 rfl ?_))))
  refine KL.cq 8 rfl ?_ ?_
  · intro hg8
    refine KL.fin 3 rfl (KQ.seq (KC.condT rfl (KC.region (KL.b0 bt107 rfl rfl (KL.q (R.makeIface rfl U107 rfl rfl) rfl ?_)))))
    refine KL.panic rfl rfl rfl ?_
    refine KQ.panThen ?_
    exact KQ.pan (⟨_, Bn.one_of_e hp (Bn.val_f (by omega)), rfl, fr⟩)
  intro hg8
  refine KL.fin 3 rfl (KQ.seq ?_)
  refine KC.iq rfl ?_ ?_
  · intro hc11
    refine KC.region (KL.b0 bt107 rfl rfl (KL.q (R.makeIface rfl U107 rfl rfl) rfl ?_))
    refine KL.panic rfl rfl rfl ?_
    refine KQ.panThen ?_
    exact KQ.pan (⟨_, Bn.one_of_e hp (Bn.val_f (by omega)), rfl, fr⟩)
  intro hc11
  refine KC.skip (KQ.sr (KL.run 3 rfl ?_))
  refine KL.cq 16 rfl ?_ ?_
  · intro hg16
    refine KL.run 3 rfl ?_
    refine KL.callX rfl rfl rfl rfl K46 rfl rfl rfl (must_any true) ?_ ?_
    · rintro vx _ ⟨_, hb, _⟩
      refine KQ.panThen ?_
      exact KQ.pan (absurd hb (by decide))
    rintro _ _ ⟨rfl, _, rfl⟩
    refine KL.nil (KQ.sr (KL.fin 2 rfl (KQ.seq (KC.ret (KQ.ofRetX (KQ.toX (KQ.fin1 Tryz.results105 rfl ?_)))))))
    exact ⟨_, _, _, Bn.one_of hp (Bn.val_ok (by omega)), rfl, hx, rb, fr⟩
  intro hg16
  refine KL.run 3 rfl ?_
  refine KL.callX rfl rfl rfl rfl K46 rfl rfl rfl (must_any _) ?_ ?_
  · rintro vx _ ⟨rfl, hb, rfl⟩
    simp only [sd] at hb
    refine KQ.panThen ?_
    exact KQ.pan (⟨_, Bn.one_of_e hp (Bn.val_b (by omega) (by omega)), rfl, fr⟩)
  rintro _ _ ⟨rfl, hb, rfl⟩
  simp only [sd] at hb
  refine KL.nil (KQ.sr (KL.fin 2 rfl (KQ.seq (KC.ret (KQ.ofRetX (KQ.toX (KQ.fin1 Tryz.results105 rfl ?_)))))))
  exact ⟨_, _, _, Bn.one_of hp (Bn.val_ok (by omega)), rfl, hx, rb, fr⟩
theorem blimits_any {H : Heap} {g : Nat} {v : Value} {l : List Int} (rb : RB H g v l) : CtX Tryz.prog 83 [.pointer (some ⟨g, 0, none⟩)] H (fun u H' => ∃ x k v', Bn.limP l = .ok (x, k) ∧ u = .agg [.int .u32 x.1, .int .i64 x.2].toArray ∧ InR .u32 x.1 ∧ InR .i64 x.2 ∧ RB H' g v' (l.drop k) ∧ Fr g (.slice none 0 0) H H') (fun q H' => ∃ e, Bn.limP l = .error e ∧ q = failB e ∧ Fr g (.slice none 0 0) H H') := by
  refine CtX.mk Tryz.func83 rfl Tryz.ntmps83 rfl ?_
  intro W0 hW0
  have o0 : OldB 0 H H := OldB.refl _ H
  have hg := rb.lt
  have fr : Fr g (.slice none 0 0) H H := Fr.refl _ _ _
  have hle := rb.le
  refine KC.sr ?_
  refine KL.m (M.alloc rfl zr57 rfl) rfl ?_
  rintro _ H1 ⟨rfl, n1⟩
  have z1 := n1.2.1
  have o0 := o0.trans ((n1.1).b (by omega))
  have rb := rb.old n1.1
  have fr := fr.old n1.1
  have b1 := n1.2.2
  have br := b1
  refine KL.nil (KQ.seq (KC.seq (KC.sr (KL.run 1 rfl ?_))))
  refine KL.callX rfl rfl rfl rfl Tryz.call109 rfl rfl rfl (bflag_any rb) ?_ ?_
  · rintro vx H2 ⟨ex, hx1, hx2, hx3⟩
    refine KQ.panThen ?_
    refine KQ.panThen ?_
    exact KQ.pan (⟨_, Bn.m_e (Bn.b_e1 hx1), hx2, fr.thenN hx3⟩)
  rintro _ H3 ⟨b, k0, v0, hp0, rfl, rb2, f3_⟩
  have zf_H3 := f3_.1
  have o0 := o0.trans (f3_.low (Nat.zero_le _) (Nat.zero_le _))
  have fr := fr.thenN f3_
  have br := f3_.at_ br (by omega)
  have rb := rb2
  have zrd := rb.lt
  have fn3 := f3_
  refine KL.nil (KQ.seq ?_)
  refine KC.iq rfl ?_ ?_
  · intro hb5
    subst hb5
    refine KC.sr (KL.run 1 rfl ?_)
    refine KL.callX rfl rfl rfl rfl K80 rfl rfl rfl (bu32_any rb) ?_ ?_
    · rintro vx H4 ⟨ex, hx1, hx2, hx3⟩
      refine KQ.panThen ?_
      refine KQ.panThen ?_
      exact KQ.pan (⟨_, Bn.m_e (Bn.b_e2 hp0 (Bn.b_e1 hx1)), hx2, fr.thenN hx3⟩)
    rintro _ H5 ⟨a1, k1, v1, hp1, rfl, ha1, rb2, f4_⟩
    have zf_H5 := f4_.1
    have o0 := o0.trans (f4_.low (Nat.zero_le _) (Nat.zero_le _))
    have fr := fr.thenN f4_
    have br := f4_.at_ br (by omega)
    have rb := rb2
    have zrd := rb.lt
    have fn4 := f4_
    refine KL.fin 1 rfl (KQ.sr (KL.run 2 rfl ?_))
    refine KL.callX rfl rfl rfl rfl K80 rfl rfl rfl (bu32_any rb) ?_ ?_
    · rintro vx H6 ⟨ex, hx1, hx2, hx3⟩
      refine KQ.panThen ?_
      refine KQ.panThen ?_
      exact KQ.pan (⟨_, Bn.m_e (Bn.b_e2 hp0 (Bn.b_e2 hp1 hx1)), hx2, fr.thenN hx3⟩)
    rintro _ H7 ⟨a2, k2, v2, hp2, rfl, ha2, rb2, f5_⟩
    have zf_H7 := f5_.1
    have o0 := o0.trans (f5_.low (Nat.zero_le _) (Nat.zero_le _))
    have fr := fr.thenN f5_
    have br := f5_.at_ br (by omega)
    have rb := rb2
    have zrd := rb.lt
    have fn5 := f5_
    refine KL.q (R.convI rfl U28 U2 rfl (by dsimp only [InR] at *; omega)) rfl ?_
    refine KL.b0 bt57 rfl rfl ?_
    refine KL.opS (S.storeAgg rfl sz57 rfl rfl (rfl) (by intro z hz; simp only [List.mem_cons, List.not_mem_nil, or_false] at hz; rcases hz with rfl | rfl <;> rfl) br (by simp)) rfl rfl ?_
    rintro H8 ⟨u8, b8⟩
    have o0 := o0.trans (OldB.upd u8 (by omega))
    have zu8 := u8.1
    have fr := (by exact fr.updN u8 (by omega))
    have rb := rb.updT u8 (by omega)
    have br := b8
    rw [over_all (by rfl)] at br
    have hfin : Bn.limP l = .ok ((a1, a2), _) := Bn.m_ok (Bn.b_ok hp0 (Bn.b_ok hp1 hp2))
    have hra : InR .u32 a1 ∧ InR .i64 a2 := ⟨ha1, by dsimp only [InR] at *; omega⟩
    refine KL.nil (KQ.seq (KC.ret (KQ.retThen (KQ.ofRetX (KQ.toX ?_)))))
    refine KQ.finCell Tryz.results83 rfl U57 rfl sz57 (cells_of br) (rfl) ?_
    exact ⟨_, _, _, hfin, rfl, hra.1, hra.2, rb.cast (by simp only [List.drop_drop, Nat.add_assoc, Nat.add_zero]), fr⟩
  intro hb5
  subst hb5
  refine KC.skip (KQ.sr (KL.run 1 rfl ?_))
  refine KL.callX rfl rfl rfl rfl K80 rfl rfl rfl (bu32_any rb) ?_ ?_
  · rintro vx H9 ⟨ex, hx1, hx2, hx3⟩
    refine KQ.panThen ?_
    exact KQ.pan (⟨_, Bn.m_e (Bn.b_e2 hp0 (Bn.lf_e hx1)), hx2, fr.thenN hx3⟩)
  rintro _ H10 ⟨a1, k1, v1, hp1, rfl, ha1, rb2, f6_⟩
  have zf_H10 := f6_.1
  have o0 := o0.trans (f6_.low (Nat.zero_le _) (Nat.zero_le _))
  have fr := fr.thenN f6_
  have br := f6_.at_ br (by omega)
  have rb := rb2
  have zrd := rb.lt
  have fn6 := f6_
  refine KL.b0 bt57 rfl rfl ?_
  refine KL.opS (S.storeAgg rfl sz57 rfl rfl (rfl) (by intro z hz; simp only [List.mem_cons, List.not_mem_nil, or_false] at hz; rcases hz with rfl | rfl <;> rfl) br (by simp)) rfl rfl ?_
  rintro H11 ⟨u11, b11⟩
  have o0 := o0.trans (OldB.upd u11 (by omega))
  have zu11 := u11.1
  have fr := (by exact fr.updN u11 (by omega))
  have rb := rb.updT u11 (by omega)
  have br := b11
  rw [over_all (by rfl)] at br
  have hfin : Bn.limP l = .ok ((a1, -1), _) := Bn.m_ok (Bn.b_ok hp0 (Bn.lf_ok hp1))
  have hra : InR .u32 a1 ∧ InR .i64 (-1) := ⟨ha1, by decide⟩
  refine KL.nil (KQ.seq (KC.ret (KQ.ofRetX (KQ.toX ?_))))
  refine KQ.finCell Tryz.results83 rfl U57 rfl sz57 (cells_of br) (rfl) ?_
  exact ⟨_, _, _, hfin, rfl, hra.1, hra.2, rb.cast (by simp only [List.drop_drop, Nat.add_assoc, Nat.add_zero]), fr⟩
theorem btable_any {H : Heap} {g : Nat} {v : Value} {l : List Int} (rb : RB H g v l) : CtX Tryz.prog 82 [.pointer (some ⟨g, 0, none⟩)] H (fun u H' => ∃ x k v', Bn.tabP l = .ok (x, k) ∧ u = .agg [.int .u32 x.1, .int .i64 x.2].toArray ∧ InR .u32 x.1 ∧ InR .i64 x.2 ∧ RB H' g v' (l.drop k) ∧ Fr g (.slice none 0 0) H H') (fun q H' => ∃ e, Bn.tabP l = .error e ∧ q = failB e ∧ Fr g (.slice none 0 0) H H') := by
  refine CtX.mk Tryz.func82 rfl Tryz.ntmps82 rfl ?_
  intro W0 hW0
  have o0 : OldB 0 H H := OldB.refl _ H
  have hg := rb.lt
  have fr : Fr g (.slice none 0 0) H H := Fr.refl _ _ _
  have hle := rb.le
  refine KC.sr ?_
  refine KL.m (M.alloc rfl zr57 rfl) rfl ?_
  rintro _ H1 ⟨rfl, n1⟩
  have z1 := n1.2.1
  have o0 := o0.trans ((n1.1).b (by omega))
  have rb := rb.old n1.1
  have fr := fr.old n1.1
  have b1 := n1.2.2
  have br := b1
  refine KL.nil (KQ.sr (KL.run 1 rfl ?_))
  refine KL.callX rfl rfl rfl rfl Tryz.call103 rfl rfl rfl (bbyte_any rb) ?_ ?_
  · rintro vx H2 ⟨ex, hx1, hx2, hx3⟩
    refine KQ.panThen ?_
    exact KQ.pan (⟨_, Bn.m_e (Bn.b_e1 (Bn.one_er hx1)), hx2, fr.thenN hx3⟩)
  rintro _ H3 ⟨x0, k0, v0, hp0, rfl, hx0, rb2, f7_⟩
  have zf_H3 := f7_.1
  have o0 := o0.trans (f7_.low (Nat.zero_le _) (Nat.zero_le _))
  have fr := fr.thenN f7_
  have br := f7_.at_ br (by omega)
  have rb := rb2
  have zrd := rb.lt
  have fn7 := f7_
  refine KL.run 1 rfl ?_
  refine KL.callX rfl rfl rfl rfl K46 rfl rfl rfl (must_any _) ?_ ?_
  · rintro vx _ ⟨rfl, hb, rfl⟩
    simp only [sd] at hb
    refine KQ.panThen ?_
    exact KQ.pan (⟨_, Bn.m_e (Bn.b_e1 (Bn.one_of_e hp0 (Bn.tag_b hb))), rfl, fr⟩)
  rintro _ _ ⟨rfl, hb, rfl⟩
  simp only [sd] at hb
  refine KL.nil (KQ.sr (KL.run 1 rfl ?_))
  refine KL.callX rfl rfl rfl rfl Tryz.call83 rfl rfl rfl (blimits_any rb) ?_ ?_
  · rintro vx H5 ⟨ex, hx1, hx2, hx3⟩
    refine KQ.panThen ?_
    exact KQ.pan (⟨_, Bn.m_e (Bn.b_e2 (Bn.one_of hp0 (Bn.tag_ok hb)) hx1), hx2, fr.thenN hx3⟩)
  rintro _ H6 ⟨y, k1, v1, hp1, rfl, ha1, ha2, rb2, f8_⟩
  have zf_H6 := f8_.1
  have o0 := o0.trans (f8_.low (Nat.zero_le _) (Nat.zero_le _))
  have fr := fr.thenN f8_
  have br := f8_.at_ br (by omega)
  have rb := rb2
  have zrd := rb.lt
  have fn8 := f8_
  refine KL.opS (S.storeAgg rfl sz57 rfl rfl (rfl) (by intro z hz; simp only [List.mem_cons, List.not_mem_nil, or_false] at hz; rcases hz with rfl | rfl <;> rfl) br (by simp)) rfl rfl ?_
  rintro H7 ⟨u7, b7⟩
  have o0 := o0.trans (OldB.upd u7 (by omega))
  have zu7 := u7.1
  have fr := (by exact fr.updN u7 (by omega))
  have rb := rb.updT u7 (by omega)
  have br := b7
  rw [over_all (by rfl)] at br
  refine KL.nil (KQ.seq (KC.ret (KQ.ofRetX (KQ.toX ?_))))
  refine KQ.finCell Tryz.results82 rfl U57 rfl sz57 (cells_of br) (rfl) ?_
  exact ⟨_, _, _, Bn.m_ok (Bn.b_ok (Bn.one_of hp0 (Bn.tag_ok hb)) hp1), rfl, ha1, ha2, rb.cast (by simp only [List.drop_drop]), fr⟩
theorem bglob_any {H : Heap} {g : Nat} {v : Value} {l : List Int} (rb : RB H g v l) : CtX Tryz.prog 107 [.pointer (some ⟨g, 0, none⟩)] H (fun u H' => ∃ x k v', Bn.glbP l = .ok (x, k) ∧ u = .agg [.int .u8 x.1, .bool x.2].toArray ∧ InR .u8 x.1 ∧ RB H' g v' (l.drop k) ∧ Fr g (.slice none 0 0) H H') (fun q H' => ∃ e, Bn.glbP l = .error e ∧ q = failB e ∧ Fr g (.slice none 0 0) H H') := by
  refine CtX.mk Tryz.func107 rfl Tryz.ntmps107 rfl ?_
  intro W0 hW0
  have o0 : OldB 0 H H := OldB.refl _ H
  have hg := rb.lt
  have fr : Fr g (.slice none 0 0) H H := Fr.refl _ _ _
  have hle := rb.le
  refine KC.sr ?_
  refine KL.m (M.alloc rfl zr59 rfl) rfl ?_
  rintro _ H1 ⟨rfl, n1⟩
  have z1 := n1.2.1
  have o0 := o0.trans ((n1.1).b (by omega))
  have rb := rb.old n1.1
  have fr := fr.old n1.1
  have b1 := n1.2.2
  have br := b1
  refine KL.nil (KQ.sr (KL.run 1 rfl ?_))
  refine KL.callX rfl rfl rfl rfl Tryz.call105 rfl rfl rfl (bvalue_any rb) ?_ ?_
  · rintro vx H2 ⟨ex, hx1, hx2, hx3⟩
    refine KQ.panThen ?_
    exact KQ.pan (⟨_, Bn.b_e1 hx1, hx2, fr.thenN hx3⟩)
  rintro _ H3 ⟨x0, k0, v0, hp0, rfl, hx0, rb2, f9_⟩
  have zf_H3 := f9_.1
  have o0 := o0.trans (f9_.low (Nat.zero_le _) (Nat.zero_le _))
  have fr := fr.thenN f9_
  have br := f9_.at_ br (by omega)
  have rb := rb2
  have zrd := rb.lt
  have fn9 := f9_
  refine KL.fin 1 rfl (KQ.sr (KL.run 2 rfl ?_))
  refine KL.callX rfl rfl rfl rfl Tryz.call109 rfl rfl rfl (bflag_any rb) ?_ ?_
  · rintro vx H4 ⟨ex, hx1, hx2, hx3⟩
    refine KQ.panThen ?_
    exact KQ.pan (⟨_, Bn.b_e2 hp0 hx1, hx2, fr.thenN hx3⟩)
  rintro _ H5 ⟨b, k1, v1, hp1, rfl, rb2, f10_⟩
  have zf_H5 := f10_.1
  have o0 := o0.trans (f10_.low (Nat.zero_le _) (Nat.zero_le _))
  have fr := fr.thenN f10_
  have br := f10_.at_ br (by omega)
  have rb := rb2
  have zrd := rb.lt
  have fn10 := f10_
  refine KL.b0 bt59 rfl rfl ?_
  refine KL.opS (S.storeAgg rfl sz59 rfl rfl (rfl) (by intro z hz; simp only [List.mem_cons, List.not_mem_nil, or_false] at hz; rcases hz with rfl | rfl <;> rfl) br (by simp)) rfl rfl ?_
  rintro H6 ⟨u6, b6⟩
  have o0 := o0.trans (OldB.upd u6 (by omega))
  have zu6 := u6.1
  have fr := (by exact fr.updN u6 (by omega))
  have rb := rb.updT u6 (by omega)
  have br := b6
  rw [over_all (by rfl)] at br
  refine KL.nil (KQ.seq (KC.ret (KQ.ofRetX (KQ.toX ?_))))
  refine KQ.finCell Tryz.results107 rfl U59 rfl sz59 (cells_of br) (rfl) ?_
  exact ⟨_, _, _, Bn.b_ok hp0 hp1, rfl, hx0, rb.cast (by simp only [List.drop_drop]), fr⟩
theorem bexpr_any {H : Heap} {g : Nat} {v : Value} {l : List Int} (rb : RB H g v l) : CtX Tryz.prog 110 [.pointer (some ⟨g, 0, none⟩)] H (fun u H' => ∃ x k v', Bn.xprP l = .ok (x, k) ∧ RowS 5 EIns H.size H' u x ∧ RB H' g v' (l.drop k) ∧ Fr g (.slice none 0 0) H H') (fun q H' => ∃ e, Bn.xprP l = .error e ∧ q = failB e ∧ Fr g (.slice none 0 0) H H') := by
  refine CtX.mk Tryz.func110 rfl Tryz.ntmps110 rfl ?_
  intro W0 hW0
  have o0 : OldB 0 H H := OldB.refl _ H
  have hg := rb.lt
  have fr : Fr g (.slice none 0 0) H H := Fr.refl _ _ _
  have hle := rb.le
  refine KC.sr (KL.fin 1 rfl (KQ.sr (KL.run 3 rfl (KL.ld rfl (cell_of rb.b rfl) ?_))))
  refine KL.c rfl Tryz.call119 (TakeExpr_or rb.sl hle) ?_
  rintro u9 H1 ⟨ox, hR⟩
  have zc_H1 := (ox).1
  have o0 := o0.trans ((ox).b (by omega))
  have rb := rb.old ox
  have fr := fr.old ox
  rcases hR with ⟨e, hx1, he6, rfl⟩ | ⟨x, n, c, hp, hnl, rfl, hrow⟩
  · skip
    refine KL.fin 7 rfl (KQ.seq (KC.seq (KC.sr (KL.run 1 rfl ?_))))
    refine KL.q ((R.neq rfl rfl rfl).val (congrArg (fun b => Value.bool (!b)) (decide_eq_false (by rcases he6 with h | h <;> rw [h] <;> decide)))) rfl ?_
    refine KL.nil (KQ.seq (KC.condT rfl (KC.region (KL.run 1 rfl (KL.b0 bt107 rfl rfl (KL.q (R.makeIface rfl U107 rfl rfl) rfl ?_))))))
    refine KL.panic rfl rfl rfl ?_
    refine KQ.panThen ?_
    exact KQ.pan (⟨_, hx1, rfl, fr⟩)
  have rw_ := RW.refl (Array.size H) H1
  refine KL.fin 7 rfl (KQ.seq (KC.seq (KC.sr (KL.run 1 rfl (KL.q ((R.neq rfl rfl rfl).val (congrArg (fun b => Value.bool (!b)) (decide_eq_true (by decide)))) rfl (KL.nil (KQ.seq (KC.condF rfl (KC.skip (KQ.sr ?_))))))))))
  refine KL.run 2 rfl ?_
  refine KL.c rfl Tryz.call108 (skip_any rb n hnl) ?_
  rintro _ H2 ⟨rfl, rb2, uu⟩
  have f1_ := Fr.ofU uu
  have zf_H2 := f1_.1
  have o0 := o0.trans (f1_.low (Nat.zero_le _) (Nat.zero_le _))
  have fr := fr.thenN f1_
  have rw_ := rw_.frT f1_ (by omega)
  have rb0 := rb
  have rb := rb2
  have zrd := rb.lt
  refine KL.nil (KQ.sr (KL.fin 2 rfl (KQ.seq (KC.ret (KQ.ofRetX (KQ.toX (KQ.fin1 Tryz.results110 rfl ?_)))))))
  exact ⟨_, _, _, hp, hrow.to rw_ (Nat.le_refl _), rb, fr⟩
end Go.Proofs.YtldmfchamcpmmaaGreatDoor
