/- What the proof of BinSections leans on, part 4. No condition but those that each law states. -/
import Derived.Test.YtldmfchamcpmmaaDoorRows
import Derived.WalkKit
import Derived.Deep.Quiet
import Derived.Below
import Derived.WalkLawsBesides
import Derived.Lib.Hide
import Derived.Laws.AppendOwnNone
import Derived.Laws.CopyRow
import Derived.Laws.Tables
import Derived.Orders
import Derived.Deep.Slices
import Derived.Deep.Fields
import Derived.OpenShut
import Derived.ProofKit
import Derived.Lib.AppendZerosOnto
import Derived.Laws.BytesString
import Derived.Lib.SlBytesConst
import Derived.Laws.IdiomStrings
import Derived.Lib.AppendStr
import Derived.Lib.EndianZ
import Derived.Lib.DecodeN
import Derived.Lib.ValidLaws
import Derived.Lib.EndianBits
import Derived.Maps.AppendAt
import Derived.ChangeKeysEq
import Derived.Lib.LaidTab
import Derived.Lib.LaidU8
import Derived.LaidMore
import Derived.WalkSpells
import Derived.Lib.ItoaNum
import Derived.Defers
import Derived.Recover
import Derived.Scope
import Derived.Laws.StructEq
import Derived.ArgAppend
import Derived.Test.YtldmfchamcpmmaaDoorBinSectionsPC
set_option maxHeartbeats 10000000
set_option maxRecDepth 100000
namespace Go.Proofs.YtldmfchamcpmmaaDoor
open Go Go.RowKit
set_option linter.unusedVariables false
set_option linter.unusedSimpArgs false
set_option linter.unnecessarySimpa false
theorem cloD_ret {H : Heap} {g1 g2 : Nat} : CtDef Tryd.prog 53 [.pointer (some ⟨g1, 0, none⟩), .pointer (some ⟨g2, 0, none⟩)] H (.returning) (fun u' H' => settle u' = .returning ∧ H' = H) := by
  refine CtDef.mk (u' := .returning) (r := .nilIface) Tryd.func53 rfl Tryd.ntmps53 rfl rfl rfl rfl rfl rfl rfl rfl rfl (⟨rfl, rfl⟩) ?_
  intro W0 hW0
  have o0 : Old H H := Old.refl H
  refine KC.sr (KL.run 1 rfl ?_)
  refine KL.q ((R.neqNilI rfl Tryd.underlying20 rfl rfl (by first | exact .inl rfl | exact .inr ⟨_, _, rfl⟩)).val (show _ = Value.bool false from rfl)) rfl ?_
  refine KL.nil (KQ.seq (KC.condF rfl (KC.skip (KQ.fin0 Tryd.results53 ?_))))
  exact ⟨rfl, rfl⟩
theorem cloD_pan {H : Heap} {g1 g2 : Nat} {e : Int} {c2 : Value} {l1 : List Value} (ba : H[g1]? = some (.cells l1.toArray 33 (0, 0))) (bb : H[g2]? = some (.cells [c2].toArray 37 (0, 0))) (h12 : g1 < g2) (hl1 : l1.length = 12) : CtDef Tryd.prog 53 [.pointer (some ⟨g1, 0, none⟩), .pointer (some ⟨g2, 0, none⟩)] H (.panicking (Pan (failB e))) (fun u' H' => settle u' = .returning ∧ OldB g1 H H' ∧ H'[g1]? = some (.cells [.slice none 0 0, .slice none 0 0, .slice none 0 0, .slice none 0 0, .slice none 0 0, .slice none 0 0, .slice none 0 0, .bool false, .int .u32 0, .slice none 0 0, .slice none 0 0, .slice none 0 0].toArray 33 (0, 0)) ∧ H'[g2]? = some (.cells [.int .i64 e].toArray 37 (0, 0))) := by
  refine CtDef.mk (u' := .panicking [{ v := failB e, recovered := true }]) (r := failB e) Tryd.func53 rfl Tryd.ntmps53 rfl rfl rfl rfl rfl rfl rfl rfl rfl (⟨rfl, rfl⟩) ?_
  intro W0 hW0
  have o0 : OldB g1 H H := OldB.refl _ H
  have hlt1 := blk_lt ba
  have hlt2 := blk_lt bb
  unfold failB
  refine KC.sr (KL.run 1 rfl ?_)
  refine KL.q ((R.neqNilI rfl Tryd.underlying20 rfl rfl (by first | exact .inl rfl | exact .inr ⟨_, _, rfl⟩)).val (show _ = Value.bool true from rfl)) rfl ?_
  refine KL.nil (KQ.seq (KC.condT rfl (KC.sr (KL.run 1 rfl (KL.q (R.assertIs rfl Tryd.underlying117 rfl rfl) rfl (KL.run 3 rfl ?_))))))
  refine KL.m (M.alloc rfl zr117 rfl) rfl ?_
  rintro _ H1 ⟨rfl, n1⟩
  have z1 := n1.2.1
  have o0 := o0.trans ((n1.1).b (by omega))
  have ba := (n1.1).blk ba
  have bb := (n1.1).blk bb
  have b1 := n1.2.2
  have bf := b1
  refine KL.opS (S.storeAgg rfl sz117 rfl rfl (rfl) (by intro u hu; simp only [List.mem_cons, List.not_mem_nil, or_false] at hu; subst hu; rfl) bf (by simp)) rfl rfl ?_
  rintro H2 ⟨u2, b2⟩
  have o0 := o0.trans (OldB.upd u2 (by omega))
  have zu2 := u2.1
  have ba := ((u2).2 _ (by omega)).trans ba
  have bb := ((u2).2 _ (by omega)).trans bb
  have bf := b2
  rw [over_all (by rfl)] at bf
  refine KL.fin 1 rfl (KQ.seq (KC.seq (KC.sr (KL.fin 2 rfl (KQ.seq (KC.condF rfl (KC.skip (KQ.seq ?_))))))))
  refine KC.text (clOf [(3, 2), (4, 2)]) (fun _ Hc => Hc[_]? = some _) (by kernel_rfl) (by kernel_rfl) (fun _ => bf) ?_
  refine KP.op rfl (fun Hg hg => R.buildL rfl Tryd.underlying33 zr33 [(0, 1), (1, 1), (2, 1), (3, 1), (4, 1), (5, 1), (6, 1), (7, 1), (8, 1), (9, 1), (10, 1), (11, 1)] (fun w => by kernel_rfl) rfl trivial rfl rfl trivial rfl) rfl rfl rfl ?_
  refine KP.op rfl (fun Hg hg => (by first | exact R.fieldAddr rfl Tryd.underlying117 rfl rfl sz37 rfl | exact R.fieldAddrP rfl Tryd.underlying117 rfl rfl sz37 rfl)) rfl rfl rfl ?_
  refine KP.op rfl (fun Hg hg => R.load rfl Tryd.underlying37 rfl rfl (cell_of hg rfl)) rfl rfl rfl ?_
  refine KP.opS rfl (S.storeAgg rfl sz33 rfl rfl (rfl) (by intro z hz; simp only [List.mem_cons, List.not_mem_nil, or_false] at hz; rcases hz with rfl | rfl | rfl | rfl | rfl | rfl | rfl | rfl | rfl | rfl | rfl | rfl <;> rfl) ba (by simp [hl1])) rfl rfl (fun _ h _ _ _ => (h.1.2 _ (by omega)).trans bf) ?_
  rintro H3 ⟨u3, b3⟩
  have o0 := o0.trans (OldB.upd u3 (by omega))
  have zu3 := u3.1
  have bb := ((u3).2 _ (by omega)).trans bb
  have bf := ((u3).2 _ (by omega)).trans bf
  have ba := b3
  rw [over_all (by rw [hl1]; rfl)] at ba
  refine KP.opS rfl (S.store rfl sz37 rfl rfl rfl rfl bb (by simp)) rfl rfl (fun _ h _ _ _ => (h.1.2 _ (by omega)).trans bf) ?_
  rintro H4 ⟨u4, b4⟩
  have o0 := o0.trans (OldB.upd u4 (by omega))
  have zu4 := u4.1
  have ba := ((u4).2 _ (by omega)).trans ba
  have bf := ((u4).2 _ (by omega)).trans bf
  have bb := b4
  refine KP.nil (KQ.fin0 Tryd.results53 ?_)
  exact ⟨rfl, o0, ba, bb⟩
namespace Bn
/-- the module of a binary, or none and why -/
def decR (l : List Int) : Mo × Int := match dec l with
  | .error e => (mo0, e)
  | .ok m => (m, 0)
theorem fills_step {s : Sec} {ss : List Sec} {m m' : Mo} (h : secF s.1 s.2 m = .ok m') : fills (s :: ss) m = fills ss m' := by simp only [fills, h]
theorem fills_e {s : Sec} {ss : List Sec} {m : Mo} {e : Int} (h : secF s.1 s.2 m = .error e) : fills (s :: ss) m = .error e := by simp only [fills, h]
section
variable {l : List Int} {ss : List Sec} {m : Mo} {e : Int}
theorem dec_long (h : 65536 < l.length) : decR l = (mo0, 3) := by unfold decR dec; rw [if_pos h]
theorem dec_none (h : ¬ 65536 < l.length) (hs : Sc.split l = none) : decR l = (mo0, 60) := by unfold decR dec; rw [if_neg h, hs]
theorem dec_err (h : ¬ 65536 < l.length) (hs : Sc.split l = some ss) (hf : fills ss mo0 = .error e) : decR l = (mo0, e) := by unfold decR dec; rw [if_neg h, hs]; simp only [hf]
theorem dec_odd (h : ¬ 65536 < l.length) (hs : Sc.split l = some ss) (hf : fills ss mo0 = .ok m) (hm : ¬ m.codes.length = m.funcs.length) : decR l = (mo0, 60) := by unfold decR dec; rw [if_neg h, hs]; simp only [hf]; rw [if_neg hm]
theorem dec_ok (h : ¬ 65536 < l.length) (hs : Sc.split l = some ss) (hf : fills ss mo0 = .ok m) (hm : m.codes.length = m.funcs.length) : decR l = (m, 0) := by unfold decR dec; rw [if_neg h, hs]; simp only [hf]; rw [if_pos hm]
end
/-- the sections of a binary have no more bytes than it -/
theorem go_len : ∀ (f : Nat) (r : List Int) (last : Int) (ss : List Sec), Sc.go f r last = some ss → ∀ s ∈ ss, s.2.length ≤ r.length
  | 0, r, last, ss, h => by simp only [Sc.go] at h; cases h
  | f + 1, r, last, ss, h => by
    simp only [Sc.go] at h
    split at h
    · injection h with h; subst h; intro s hs; cases hs
    split at h
    · cases h
    next n k ht =>
    split at h
    · cases h
    split at h
    · split at h
      · cases h
      intro s hs
      have := go_len f _ _ _ h s hs
      rw [List.length_drop] at this; omega
    split at h
    · cases hg : Sc.go f (r.drop (1 + k + n.toNat)) (r.getD 0 default) with
      | none => rw [hg] at h; cases h
      | some ss' =>
        rw [hg] at h
        injection h with h; subst h
        intro s hs
        rcases List.mem_cons.1 hs with rfl | hs
        · rw [List.length_take, List.length_drop]; omega
        have := go_len f _ _ _ hg s hs
        rw [List.length_drop] at this; omega
    cases h
theorem split_len {l : List Int} {ss : List Sec} (h : Sc.split l = some ss) : ∀ s ∈ ss, s.2.length ≤ l.length := by
  unfold Sc.split at h
  split at h
  · intro s hs
    have := go_len _ _ _ _ h s hs
    rw [List.length_drop] at this; omega
  cases h
end Bn
theorem Split_or {H : Heap} {v : Value} {l : List Int} (hs : Sl 1 (EInt .u8) H v l) (hT : TabU H) (hl : l.length ≤ 140737488351232) : Ct Tryd.prog 15 [v] H (fun u H' => Old H H' ∧ ((Sc.split l = none ∧ u = .tuple #[.slice none 0 0, .int .i64 60]) ∨ ∃ ss vo, Sc.split l = some ss ∧ u = .tuple #[vo, .int .i64 0] ∧ RowS 2 ESec H.size H' vo ss)) :=
  (Split_any v l hs hT hl).mono fun u H' ⟨o, h⟩ => ⟨o, by
    cases hp : Sc.split l with
    | none => rw [hp] at h; exact .inl ⟨rfl, h⟩
    | some ss => rw [hp] at h; obtain ⟨vo, h1, h2⟩ := h; exact .inr ⟨ss, vo, rfl, h1, h2⟩⟩
theorem Decode_st {H : Heap} {v : Value} {l : List Int} (hs : Sl 1 (EInt .u8) H v l) (hT : TabU H) : Ct Tryd.prog 11 [v] H (fun u H' => Old H H' ∧ ∃ t i f tb me gl ex el co da, u = .tuple #[.agg [t, i, f, tb, me, gl, ex, .bool (Bn.decR l).1.hasStart, .int .u32 (Bn.decR l).1.start, el, co, da].toArray, .int .i64 (Bn.decR l).2] ∧ ∀ H2, KeepX (List.range (Array.size H)) H' H2 → MoV H2 t i f tb me gl ex el co da (Bn.decR l).1) := by
  refine Ct.mkD Tryd.func11 rfl Tryd.ntmps11 rfl ?_
  intro W0 hW0
  have o0 : Old H H := Old.refl H
  refine KC.sr ?_
  refine KL.m (M.alloc rfl zr33 rfl) rfl ?_
  rintro _ H1 ⟨rfl, n1⟩
  have z1 := n1.2.1
  have o0 := o0.trans n1.1
  have b1 := n1.2.2
  have bm := b1
  refine KL.m (M.alloc rfl zr37 rfl) rfl ?_
  rintro _ H2 ⟨rfl, n2⟩
  have z2 := n2.2.1
  have o0 := o0.trans n2.1
  have bm := (n2.1).blk bm
  have b2 := n2.2.2
  have be := b2
  refine KL.nil (KQ.seq (KC.seq (KC.sr (KL.run 1 rfl (KL.q (R.lenS rfl Tryd.underlying36 rfl hs) rfl (KL.fin 1 rfl (KQ.seq ?_)))))))
  refine KC.iq rfl ?_ ?_
  · intro hlong
    refine KC.sr ?_
    refine KL.lda rfl (by first | exact cells_of bm | exact cells_of be | assumption) rfl ?_
    refine KL.opS (S.storeAgg rfl sz33 rfl rfl (rfl) (by intro z hz; simp only [List.mem_cons, List.not_mem_nil, or_false] at hz; rcases hz with rfl | rfl | rfl | rfl | rfl | rfl | rfl | rfl | rfl | rfl | rfl | rfl <;> rfl) bm (by simp)) rfl rfl ?_
    rintro H3 ⟨u3, b3⟩
    have o0 := o0.upd u3 (by omega)
    have zu3 := u3.1
    have be := ((u3).2 _ (by omega)).trans be
    have bm := b3
    rw [over_all (by rfl)] at bm
    refine KL.opS (S.store rfl sz37 rfl rfl rfl rfl be (by simp)) rfl rfl ?_
    rintro H4 ⟨u4, b4⟩
    have o0 := o0.upd u4 (by omega)
    have zu4 := u4.1
    have bm := ((u4).2 _ (by omega)).trans bm
    have be := b4
    refine KL.nil (KQ.seq (KC.ret (KQ.retThen ?_)))
    refine KQ.finD _ (fun ar wr har hwr => results_cells2 har Tryd.results11 rfl rfl (loadVar_agg Tryd.underlying33 rfl sz33 (by rw [hwr]; exact cells_of bm) rfl) (loadVar_one Tryd.underlying37 rfl (by rw [hwr]; exact cell_of be rfl))) ?_
    refine ⟨o0, _, _, _, _, _, _, _, _, _, _, by rw [Bn.dec_long (by omega)]; rfl, ?_⟩
    rw [Bn.dec_long (by omega)]
    exact fun _ _ => ⟨Sl.nil _ _ _, Sl.nil _ _ _, Sl.nil _ _ _, Sl.nil _ _ _, Sl.nil _ _ _, Sl.nil _ _ _, Sl.nil _ _ _, Sl.nil _ _ _, Sl.nil _ _ _, Sl.nil _ _ _, (show InR .u32 0 by decide)⟩
  intro hlong
  have hlong : ¬ 65536 < l.length := by omega
  refine KC.skip (KQ.sr (KL.run 1 rfl ?_))
  refine KL.defer rfl rfl rfl rfl ?_
  refine KQD.seq ?_
  refine KCD.seq ?_
  refine KCD.region ?_
  refine KL.run 1 rfl ?_
  refine KL.c rfl Tryd.call15 (Split_or (hs.old o0) (hT.old o0) (by omega)) ?_
  rintro u9 H5 ⟨ox, hR⟩
  have zc_H5 := (ox).1
  have o0 := o0.trans ox
  have bm := (ox).blk bm
  have be := (ox).blk be
  rcases hR with ⟨hsp, rfl⟩ | ⟨ss, vo, hsp, rfl, hrow⟩
  · skip
    refine KL.run 4 rfl ?_
    refine KL.opS (S.store rfl sz37 rfl rfl rfl rfl be (by simp)) rfl rfl ?_
    rintro H6 ⟨u6, b6⟩
    have o0 := o0.upd u6 (by omega)
    have zu6 := u6.1
    have bm := ((u6).2 _ (by omega)).trans bm
    have be := b6
    refine KL.nil ?_
    refine KQD.seq ?_
    refine KCD.seq ?_
    refine KCD.seq ?_
    refine KCD.region ?_
    refine KL.ld rfl (by first | exact cell_of bm rfl | exact cell_of be rfl | assumption) ?_
    refine KL.q ((R.neq rfl rfl rfl).val (congrArg (fun b => Value.bool (!b)) (decide_eq_false (by decide)))) rfl (KL.nil ?_)
    refine KQD.seq ?_
    refine KCD.condT rfl ?_
    refine KCD.seq ?_
    refine KCD.order [0, 1, 2, 3] (clOf [(2, 2), (3, 2)]) (fun j Hc => (j = 0 → Hc[(Array.size H)]? = some _) ∧ (j = 1 → Hc[_]? = some _)) (fun _ _ => False) (by kernel_rfl) (by kernel_rfl) (by kernel_rfl) rfl (fun _ => ⟨fun _ => bm, fun _ => be⟩) (fun _ _ h => h.elim) ?_
    refine KO.op rfl rfl (fun Hg hg => R.loadAgg rfl Tryd.underlying33 rfl sz33 rfl (cells_of (hg.1 rfl)) rfl) rfl rfl rfl ?_
    refine KO.op rfl rfl (fun Hg hg => R.load rfl Tryd.underlying37 rfl rfl (cell_of (hg.2 rfl) rfl)) rfl rfl rfl ?_
    refine KO.opS rfl rfl (S.storeAgg rfl sz33 rfl rfl (rfl) (by intro z hz; simp only [List.mem_cons, List.not_mem_nil, or_false] at hz; rcases hz with rfl | rfl | rfl | rfl | rfl | rfl | rfl | rfl | rfl | rfl | rfl | rfl <;> rfl) bm (by simp)) rfl rfl (fun _ hR j hj1 hj2 => ⟨fun hj => by subst hj; exact absurd (by decide +kernel) hj2, fun hj => (hR.1.2 _ (by omega)).trans be⟩) ?_
    rintro H7 ⟨u7, b7⟩
    have o0 := o0.upd u7 (by omega)
    have zu7 := u7.1
    have be := ((u7).2 _ (by omega)).trans be
    have bm := b7
    rw [over_all (by rfl)] at bm
    refine KO.opS rfl rfl (S.store rfl sz37 rfl rfl rfl rfl be (by simp)) rfl rfl (fun _ hR j hj1 hj2 => ⟨fun hj => by subst hj; exact absurd (by decide +kernel) hj2, fun hj => by subst hj; exact absurd (by decide +kernel) hj2⟩) ?_
    rintro H8 ⟨u8, b8⟩
    have o0 := o0.upd u8 (by omega)
    have zu8 := u8.1
    have bm := ((u8).2 _ (by omega)).trans bm
    have be := b8
    refine KO.nil ?_
    refine KQD.seq ?_
    refine KCD.ret ?_
    refine KQD.retThen ?_
    refine KQD.fin_ret (R1 := fun H' => H' = H8) Tryd.call53 (cloD_ret) ?_
    rintro HR rfl
    refine ⟨_, fun ar wr har hwr => results_cells2 har Tryd.results11 rfl rfl (loadVar_agg Tryd.underlying33 rfl sz33 (by rw [hwr]; exact cells_of bm) rfl) (loadVar_one Tryd.underlying37 rfl (by rw [hwr]; exact cell_of be rfl)), o0, _, _, _, _, _, _, _, _, _, _, by rw [Bn.dec_none hlong hsp]; rfl, ?_⟩
    rw [Bn.dec_none hlong hsp]
    exact fun _ _ => ⟨Sl.nil _ _ _, Sl.nil _ _ _, Sl.nil _ _ _, Sl.nil _ _ _, Sl.nil _ _ _, Sl.nil _ _ _, Sl.nil _ _ _, Sl.nil _ _ _, Sl.nil _ _ _, Sl.nil _ _ _, (show InR .u32 0 by decide)⟩
  have rws := RW.refl (Array.size H2) H5
  have hsl := Bn.split_len hsp
  refine KL.run 4 rfl ?_
  refine KL.opS (S.store rfl sz37 rfl rfl rfl rfl be (by simp)) rfl rfl ?_
  rintro H9 ⟨u9, b9⟩
  have o0 := o0.upd u9 (by omega)
  have zu9 := u9.1
  have bm := ((u9).2 _ (by omega)).trans bm
  have rws := rws.updT u9 (by omega)
  have be := b9
  refine KL.nil ?_
  refine KQD.seq ?_
  refine KCD.seq ?_
  refine KCD.seq ?_
  refine KCD.region ?_
  refine KL.ld rfl (by first | exact cell_of bm rfl | exact cell_of be rfl | assumption) ?_
  refine KL.q ((R.neq rfl rfl rfl).val (congrArg (fun b => Value.bool (!b)) (decide_eq_true (by decide)))) rfl (KL.nil ?_)
  refine KQD.seq ?_
  refine KCD.condF rfl ?_
  refine KCD.skip ?_
  refine KQD.seq ?_
  refine KCD.seq ?_
  refine KCD.seq ?_
  refine KCD.region ?_
  refine KL.run 1 rfl (KL.q (R.lenS rfl Tryd.underlying66 rfl hrow.sl) rfl ?_)
  have ms : MS H9 (Array.size H) ((Array.size H) + 2) Bn.mo0 (.slice none 0 0) (.slice none 0 0) (.slice none 0 0) (.slice none 0 0) (.slice none 0 0) (.slice none 0 0) (.slice none 0 0) (.slice none 0 0) (.slice none 0 0) (.slice none 0 0) := ⟨bm, fun _ _ => Sl.nil _ _ _, fun _ _ => Sl.nil _ _ _, fun _ _ => Sl.nil _ _ _, fun _ _ => Sl.nil _ _ _, fun _ _ => Sl.nil _ _ _, fun _ _ => Sl.nil _ _ _, fun _ _ => Sl.nil _ _ _, fun _ _ => Sl.nil _ _ _, fun _ _ => Sl.nil _ _ _, fun _ _ => Sl.nil _ _ _, by decide⟩
  refine KL.fin 1 rfl ?_
  refine KQD.seq ?_
  refine KCD.block ?_
  refine KCD.loopD (κ := Nat × Mo × Value × Value × Value × Value × Value × Value × Value × Value × Value × Value) [24, 25, 26, 6, 27, 28, 29, 23] (fun k => [(23, .int .i64 (k.1 : Nat))]) (fun k Hl => k.1 ≤ ss.length ∧ MS Hl (Array.size H) ((Array.size H) + 2) k.2.1 k.2.2.1 k.2.2.2.1 k.2.2.2.2.1 k.2.2.2.2.2.1 k.2.2.2.2.2.2.1 k.2.2.2.2.2.2.2.1 k.2.2.2.2.2.2.2.2.1 k.2.2.2.2.2.2.2.2.2.1 k.2.2.2.2.2.2.2.2.2.2.1 k.2.2.2.2.2.2.2.2.2.2.2 ∧ Hl[(Array.size H1)]? = some (.cells [.int .i64 0].toArray 37 (0, 0)) ∧ Bn.fills ss Bn.mo0 = Bn.fills (ss.drop k.1) k.2.1 ∧ RW (Array.size H2) H5 Hl ∧ Old H Hl ∧ (Array.size H) + 2 ≤ Hl.size) (fun k => ss.length - k.1) (0, Bn.mo0, .slice none 0 0, .slice none 0 0, .slice none 0 0, .slice none 0 0, .slice none 0 0, .slice none 0 0, .slice none 0 0, .slice none 0 0, .slice none 0 0, .slice none 0 0) ?_ ?_ ?_
  · exact Sub.all rfl
  · exact ⟨Nat.zero_le _, ms, be, rfl, rws, o0, by omega⟩
  rintro ⟨k, mk, t, i, f, tb, me, gl, ex, el, co, da⟩ H10 ⟨hk, ms, be, hfl, rws, o0, hz2⟩
  have zl_H10 := o0.1
  dsimp only at hk ms hfl
  have bm := ms.b
  have zl := o0.1
  have zrw := rws.k.1
  have oP : Old H10 H10 := Old.refl _
  refine KCD.seq ?_
  refine KCD.region ?_
  refine KL.fin 1 rfl ?_
  refine KQD.seq ?_
  refine KCD.seq ?_
  refine KCD.iteL rfl ?_ ?_
  · intro hc24
    simp only [sd] at hc24
    have hk2 : k < ss.length := by omega
    have rwm := RW.refl ((Array.size H) + 2) H10
    obtain ⟨u2, hcx, hu, hid⟩ := (hrow _ rws.k).secAt k hk2
    have hge : (ss.getD k default) = ss[k] := by rw [List.getD_eq_getElem?_getD, List.getElem?_eq_getElem hk2]; rfl
    refine KCD.skip ?_
    refine KQD.seq ?_
    refine KCD.seq ?_
    refine KCD.block ?_
    refine KCD.seq ?_
    refine KCD.region ?_
    refine KL.q (R.index (j := k) rfl Tryd.underlying66 sz71 rfl rfl (hrow _ rws.k) rfl (by omega)) rfl ?_
    refine KL.lda rfl (oP.cells hcx) rfl ?_
    refine KL.m (M.alloc rfl zr71 rfl) rfl ?_
    rintro _ H11 ⟨rfl, n11⟩
    have z11 := n11.2.1
    have o0 := o0.trans n11.1
    have bm := (n11.1).blk bm
    have be := (n11.1).blk be
    have rws := rws.old n11.1
    have oP := oP.trans n11.1
    have rwm := rwm.old n11.1
    have b11 := n11.2.2
    have bv := b11
    refine KL.opS (S.storeAgg rfl sz71 rfl rfl (rfl) (by intro z hz; simp only [List.mem_cons, List.not_mem_nil, or_false] at hz; rcases hz with rfl | rfl <;> first | rfl | exact hu.one) bv (by simp)) rfl rfl ?_
    rintro H12 ⟨u12, b12⟩
    have o0 := o0.upd u12 (by omega)
    have zu12 := u12.1
    have bm := ((u12).2 _ (by omega)).trans bm
    have be := ((u12).2 _ (by omega)).trans be
    have rws := rws.updT u12 (by omega)
    have oP := oP.upd u12 (by omega)
    have rwm := rwm.updT u12 (by omega)
    have bv := b12
    rw [over_all (by rfl)] at bv
    refine KL.nil ?_
    refine KQD.seq ?_
    refine KCD.region ?_
    refine KL.lda rfl (cells_of bv) rfl ?_
    have ms2 : MS H12 (Array.size H) ((Array.size H) + 2) mk t i f tb me gl ex el co da := ⟨bm, ms.rt.to rwm (Nat.le_refl _), ms.ri.to rwm (Nat.le_refl _), ms.rf.to rwm (Nat.le_refl _), ms.rtb.to rwm (Nat.le_refl _), ms.rme.to rwm (Nat.le_refl _), ms.rgl.to rwm (Nat.le_refl _), ms.rex.to rwm (Nat.le_refl _), ms.rel.to rwm (Nat.le_refl _), ms.rco.to rwm (Nat.le_refl _), ms.rda.to rwm (Nat.le_refl _), ms.rs⟩
    refine KL.callX rfl rfl rfl rfl Tryd.call54 rfl rfl rfl (section_any ms2 (by omega) (by omega) hT o0 (Nat.le_refl _) _ (hu.old oP) (by have := hsl _ (En.getD_memD hk2); omega)) ?_ ?_
    · rintro vx H13 ⟨ex_, hx1, rfl, hx3, csx, hbx, hlx⟩
      have be := hx3.at_ be (by omega)
      have o0 := o0.then (hx3.low (B0 := Array.size H) (by omega) (Nat.le_refl _)) (Nat.le_refl _)
      have hfx : Bn.fills ss Bn.mo0 = .error ex_ := by rw [hfl, List.drop_eq_getElem_cons hk2]; exact Bn.fills_e (by rw [hge] at hx1; exact hx1)
      refine KQD.panBlock ?_
      refine KQD.panThen ?_
      refine KQD.panThen ?_
      refine KQD.panBlock ?_
      refine KQD.panThen ?_
      refine KQD.fin_pan (R1 := fun H' => OldB (Array.size H) _ H' ∧ _ ∧ _) Tryd.call53 (cloD_pan hbx be (by omega) hlx) ?_
      rintro HR ⟨f0, d4, d5⟩
      refine ⟨_, fun ar wr har hwr => results_cells2 har Tryd.results11 rfl rfl (loadVar_agg Tryd.underlying33 rfl sz33 (by rw [hwr]; exact cells_of d4) rfl) (loadVar_one Tryd.underlying37 rfl (by rw [hwr]; exact cell_of d5 rfl)), o0.then f0 (Nat.le_refl _), _, _, _, _, _, _, _, _, _, _, by rw [Bn.dec_err hlong hsp hfx]; rfl, ?_⟩
      rw [Bn.dec_err hlong hsp hfx]
      exact fun _ _ => ⟨Sl.nil _ _ _, Sl.nil _ _ _, Sl.nil _ _ _, Sl.nil _ _ _, Sl.nil _ _ _, Sl.nil _ _ _, Sl.nil _ _ _, Sl.nil _ _ _, Sl.nil _ _ _, Sl.nil _ _ _, (show InR .u32 0 by decide)⟩
    rintro _ H14 ⟨m', t', i', f', tb', me', gl', ex', el', co', da', hsf, ms', f1⟩
    have zf_H14 := f1.1
    have o0 := o0.then (f1.low (B0 := H.size) (by omega) (by omega)) (Nat.le_refl _)
    have be := f1.at_ be (by omega)
    have rws := rws.frT f1 (by omega)
    have bv := f1.at_ bv (by omega)
    have zms := ms'.b
    have zmb := blk_lt zms
    rw [hge] at hsf
    refine KL.nil ?_
    refine KQD.normBlock ?_
    refine KQD.seq ?_
    refine KCD.region ?_
    refine KL.q ((R.add rfl rfl rfl (by have := hrow.sl.len; dsimp only [InR]; omega)).val (congrArg (Value.int .i64) (show (k : Int) + 1 = ((k + 1 : Nat) : Int) by omega))) rfl ?_
    refine KL.fin 1 rfl ?_
    refine KQD.again ((k + 1, m', t', i', f', tb', me', gl', ex', el', co', da')) ?_ ?_ ?_
    · exact Sub.all rfl
    · show ss.length - (k + 1) < ss.length - k; omega
    exact ⟨by show k + 1 ≤ _; omega, ms', be, by rw [hfl, List.drop_eq_getElem_cons hk2]; exact Bn.fills_step hsf, rws, o0, by omega⟩
  intro hc24
  simp only [sd] at hc24
  have hkl : k = ss.length := by omega
  subst hkl
  rw [List.drop_length] at hfl
  have hfl : Bn.fills ss Bn.mo0 = .ok mk := hfl
  refine KCD.exit ?_
  refine KQD.exitThen ?_
  refine KQD.exitThen ?_
  refine KQD.hit ?_
  refine KQD.seq ?_
  refine KCD.seq ?_
  refine KCD.region ?_
  refine KL.q (by first | exact R.fieldAddr rfl Tryd.underlying33 rfl rfl sz30 rfl | exact R.fieldAddrP rfl Tryd.underlying33 rfl rfl sz30 rfl) rfl ?_
  refine KL.ld rfl (by first | exact cell_of bm rfl | exact cell_of be rfl | assumption) ?_
  refine KL.q (R.lenS rfl Tryd.underlying30 rfl ms.rco.sl) rfl ?_
  refine KL.q (by first | exact R.fieldAddr rfl Tryd.underlying33 rfl rfl sz24 rfl | exact R.fieldAddrP rfl Tryd.underlying33 rfl rfl sz24 rfl) rfl ?_
  refine KL.ld rfl (by first | exact cell_of bm rfl | exact cell_of be rfl | assumption) ?_
  refine KL.q (R.lenS rfl Tryd.underlying24 rfl ms.rf.sl) rfl (KL.run 1 rfl ?_)
  refine KL.callX rfl rfl rfl rfl Tryd.call55 rfl rfl rfl (must_any _) ?_ ?_
  · rintro vx _ ⟨rfl, hq, rfl⟩
    simp only [sd] at hq
    refine KQD.panThen ?_
    refine KQD.fin_pan (R1 := fun H' => OldB (Array.size H) _ H' ∧ _ ∧ _) Tryd.call53 (cloD_pan bm be (by omega) rfl) ?_
    rintro HR ⟨f0, d4, d5⟩
    refine ⟨_, fun ar wr har hwr => results_cells2 har Tryd.results11 rfl rfl (loadVar_agg Tryd.underlying33 rfl sz33 (by rw [hwr]; exact cells_of d4) rfl) (loadVar_one Tryd.underlying37 rfl (by rw [hwr]; exact cell_of d5 rfl)), o0.then f0 (Nat.le_refl _), _, _, _, _, _, _, _, _, _, _, by rw [Bn.dec_odd hlong hsp hfl (by omega)]; rfl, ?_⟩
    rw [Bn.dec_odd hlong hsp hfl (by omega)]
    exact fun _ _ => ⟨Sl.nil _ _ _, Sl.nil _ _ _, Sl.nil _ _ _, Sl.nil _ _ _, Sl.nil _ _ _, Sl.nil _ _ _, Sl.nil _ _ _, Sl.nil _ _ _, Sl.nil _ _ _, Sl.nil _ _ _, (show InR .u32 0 by decide)⟩
  rintro _ _ ⟨rfl, hq, rfl⟩
  simp only [sd] at hq
  have oM : Old H10 H10 := Old.refl _
  have msM := ms
  have rwm := RW.refl ((Array.size H) + 2) H10
  refine KL.nil ?_
  refine KQD.seq ?_
  refine KCD.seq ?_
  refine KCD.region ?_
  refine KL.lda rfl (by first | exact cells_of bm | exact cells_of be | assumption) rfl ?_
  refine KL.opS (S.storeAgg rfl sz33 rfl rfl (rfl) (by intro z hz; simp only [List.mem_cons, List.not_mem_nil, or_false] at hz; rcases hz with rfl | rfl | rfl | rfl | rfl | rfl | rfl | rfl | rfl | rfl | rfl | rfl <;> first | rfl | exact ms.rt.one | exact ms.ri.one | exact ms.rf.one | exact ms.rtb.one | exact ms.rme.one | exact ms.rgl.one | exact ms.rex.one | exact ms.rel.one | exact ms.rco.one | exact ms.rda.one) bm (by simp)) rfl rfl ?_
  rintro H16 ⟨u16, b16⟩
  have o0 := o0.upd u16 (by omega)
  have zu16 := u16.1
  have be := ((u16).2 _ (by omega)).trans be
  have rws := rws.updT u16 (by omega)
  have rwm := rwm.updT u16 (by omega)
  have bm := b16
  rw [over_all (by rfl)] at bm
  refine KL.opS (S.store rfl sz37 rfl rfl rfl rfl be (by simp)) rfl rfl ?_
  rintro H17 ⟨u17, b17⟩
  have o0 := o0.upd u17 (by omega)
  have zu17 := u17.1
  have bm := ((u17).2 _ (by omega)).trans bm
  have rws := rws.updT u17 (by omega)
  have rwm := rwm.updT u17 (by omega)
  have be := b17
  refine KL.nil ?_
  refine KQD.seq ?_
  refine KCD.ret ?_
  refine KQD.fin_ret (R1 := fun H' => H' = H17) Tryd.call53 (cloD_ret) ?_
  rintro HR rfl
  refine ⟨_, fun ar wr har hwr => results_cells2 har Tryd.results11 rfl rfl (loadVar_agg Tryd.underlying33 rfl sz33 (by rw [hwr]; exact cells_of bm) rfl) (loadVar_one Tryd.underlying37 rfl (by rw [hwr]; exact cell_of be rfl)), o0, _, _, _, _, _, _, _, _, _, _, by rw [Bn.dec_ok hlong hsp hfl (by omega)], ?_⟩
  rw [Bn.dec_ok hlong hsp hfl (by omega)]
  exact fun H2_ k_ => ⟨(ms.rt.to (N0 := Array.size H) rwm (by omega)) H2_ k_, (ms.ri.to (N0 := Array.size H) rwm (by omega)) H2_ k_, (ms.rf.to (N0 := Array.size H) rwm (by omega)) H2_ k_, (ms.rtb.to (N0 := Array.size H) rwm (by omega)) H2_ k_, (ms.rme.to (N0 := Array.size H) rwm (by omega)) H2_ k_, (ms.rgl.to (N0 := Array.size H) rwm (by omega)) H2_ k_, (ms.rex.to (N0 := Array.size H) rwm (by omega)) H2_ k_, (ms.rel.to (N0 := Array.size H) rwm (by omega)) H2_ k_, (ms.rco.to (N0 := Array.size H) rwm (by omega)) H2_ k_, (ms.rda.to (N0 := Array.size H) rwm (by omega)) H2_ k_, ms.rs⟩
theorem Decode_any {H : Heap} {v : Value} {l : List Int} (hs : Sl 1 (EInt .u8) H v l) (hT : TabU H) : Ct Tryd.prog 11 [v] H (fun u H' => Old H H' ∧ ∃ t i f tb me gl ex el co da, u = .tuple #[.agg [t, i, f, tb, me, gl, ex, .bool (Bn.decR l).1.hasStart, .int .u32 (Bn.decR l).1.start, el, co, da].toArray, .int .i64 (Bn.decR l).2] ∧ MoV H' t i f tb me gl ex el co da (Bn.decR l).1) :=
  (Decode_st hs hT).mono fun u H' ⟨o, t, i, f, tb, me, gl, ex, el, co, da, h1, h2⟩ => ⟨o, t, i, f, tb, me, gl, ex, el, co, da, h1, h2 H' (KeepX.refl _ _)⟩
end Go.Proofs.YtldmfchamcpmmaaDoor
namespace Go.Proofs.YtldmfchamcpmmaaDoor
open Go Go.RowKit
set_option linter.unusedVariables false
set_option linter.unusedSimpArgs false
set_option linter.unnecessarySimpa false
theorem SameI_refl {H : Heap} {a : Ins} {va vb : Value} (ha : Sl 1 (EInt .u32) H va a.l) (hb : Sl 1 (EInt .u32) H vb a.l) : Ct Tryd.prog 114 [insV a va, insV a vb] H (fun u H' => u = .bool true ∧ Old H H') := by
  refine Ct.mk Tryd.func114 rfl Tryd.ntmps114 rfl ?_
  intro W0 hW0
  have o0 : Old H H := Old.refl H
  unfold insV
  refine KC.sr ?_
  refine KL.m (M.box (cs := [.int .u8 a.op, .int .u32 a.a, .int .u32 a.b, .int .i64 a.c, va]) rfl rfl rfl) rfl ?_
  rintro _ H1 ⟨rfl, n1⟩
  have z1 := n1.2.1
  have o0 := o0.trans n1.1
  have ha := ha.old n1.1
  have hb := hb.old n1.1
  have b1 := n1.2.2
  have bx := b1
  refine KL.m (M.box (cs := [.int .u8 a.op, .int .u32 a.a, .int .u32 a.b, .int .i64 a.c, vb]) rfl rfl rfl) rfl ?_
  rintro _ H2 ⟨rfl, n2⟩
  have z2 := n2.2.1
  have o0 := o0.trans n2.1
  have ha := ha.old n2.1
  have hb := hb.old n2.1
  have bx := (n2.1).blk bx
  have b2 := n2.2.2
  have by_ := b2
  refine KL.fin 1 rfl (KQ.sr (KL.run 1 rfl (KL.ld rfl (cell_of bx rfl) (KL.run 1 rfl (KL.ld rfl (cell_of by_ rfl) (KL.q ((R.eql rfl rfl rfl).val (congrArg Value.bool (decide_eq_true rfl))) rfl (KL.run 2 rfl (KL.ld rfl (cell_of bx rfl) (KL.run 1 rfl (KL.ld rfl (cell_of by_ rfl) (KL.q ((R.eql rfl rfl rfl).val (congrArg Value.bool (decide_eq_true rfl))) rfl ?_)))))))))))
  refine KL.run 3 rfl (KL.ld rfl (cell_of bx rfl) (KL.run 1 rfl (KL.ld rfl (cell_of by_ rfl) (KL.q ((R.eql rfl rfl rfl).val (congrArg Value.bool (decide_eq_true rfl))) rfl (KL.run 3 rfl (KL.ld rfl (cell_of bx rfl) (KL.run 1 rfl (KL.ld rfl (cell_of by_ rfl) (KL.q ((R.eql rfl rfl rfl).val (congrArg Value.bool (decide_eq_true rfl))) rfl (KL.run 3 rfl (KL.ld rfl (cell_of bx rfl) (KL.q (R.lenS rfl Tryd.underlying24 rfl ha) rfl (KL.run 1 rfl ?_)))))))))))))
  refine KL.ld rfl (cell_of by_ rfl) (KL.q (R.lenS rfl Tryd.underlying24 rfl hb) rfl (KL.q ((R.eql rfl rfl rfl).val (congrArg Value.bool (decide_eq_true rfl))) rfl (KL.fin 2 rfl (KQ.seq (KC.seq (KC.sr (KL.fin 1 rfl (KQ.seq (KC.block ?_)))))))))
  refine KC.loopD (κ := Nat) [42, 43, 44, 45, 46, 47, 48, 49, 52, 53, 54, 55, 56, 57, 58, 59, 60, 61, 62, 5, 50, 51, 6] (fun k => [(5, .bool true), (6, .int .i64 (k : Nat))]) (fun k Hl => k ≤ a.l.length ∧ H2 = Hl) (fun k => a.l.length - k) 0 ?_ ?_ ?_
  · exact Sub.all rfl
  · exact ⟨Nat.zero_le _, rfl⟩
  rintro k H3 ⟨hk, rfl⟩
  refine KC.seq (KC.sr (KL.run 2 rfl (KL.ld rfl (cell_of bx rfl) (KL.q (R.lenS rfl Tryd.underlying24 rfl ha) rfl (KL.run 2 rfl ?_)))))
  refine KL.cq 47 rfl ?_ ?_
  · intro hg47
    refine KL.fin 2 rfl (KQ.seq (KC.condT rfl (KC.skip (KQ.seq (KC.seq (KC.block (KC.quiet (by kernel_rfl) (by kernel_rfl) (KD.run 1 rfl (KD.ld rfl (cell_of bx rfl) (KD.run 1 rfl ?_))))))))))
    refine KD.op (R.index1 (j := k) rfl Tryd.underlying24 sz28 rfl rfl ha rfl (by omega)) rfl rfl rfl ?_
    refine KD.ld rfl (ha.int k (by omega)).1 ?_
    refine KD.run 1 rfl (KD.ld rfl (cell_of by_ rfl) (KD.run 1 rfl ?_))
    refine KD.op (R.index1 (j := k) rfl Tryd.underlying24 sz28 rfl rfl hb rfl (by omega)) rfl rfl rfl ?_
    refine KD.ld rfl (hb.int k (by omega)).1 ?_
    refine KD.op ((R.eql rfl rfl rfl).val (congrArg Value.bool (decide_eq_true rfl))) rfl rfl rfl (KD.fin 1 rfl (KQ.normBlock (KQ.r (KL.run 1 rfl ?_))))
    refine KL.q ((R.add rfl rfl rfl (by have := ha.len; dsimp only [InR]; omega)).val (congrArg (Value.int .i64) (show (k : Int) + 1 = ((k + 1 : Nat) : Int) by omega))) rfl ?_
    refine KL.fin 1 rfl ?_
    refine KQ.again (k + 1) ?_ ?_ ?_
    · exact Sub.all rfl
    · show a.l.length - (k + 1) < a.l.length - k; omega
    exact ⟨by omega, rfl⟩
  intro hg47
  refine KL.fin 2 rfl (KQ.seq (KC.condF rfl (KC.exit (KQ.exitThen (KQ.exitThen (KQ.hit (KQ.sr (KL.fin 2 rfl (KQ.seq (KC.ret (KQ.ofRet ?_)))))))))))
  refine KQ.fin1 Tryd.results114 rfl ?_
  exact ⟨rfl, o0⟩
theorem SameAll_refl {H : Heap} {vx vy : Value} {xs : List Ins} (hx : Sl 5 EIns H vx xs) (hy : Sl 5 EIns H vy xs) : Ct Tryd.prog 59 [vx, vy] H (fun u H' => u = .bool true ∧ Old H H') := by
  refine Ct.mk Tryd.func59 rfl Tryd.ntmps59 rfl ?_
  intro W0 hW0
  have o0 : Old H H := Old.refl H
  refine KC.sr (KL.fin 1 rfl (KQ.sr (KL.run 1 rfl (KL.q (R.lenS rfl Tryd.underlying52 rfl hx) rfl (KL.run 1 rfl (KL.q (R.lenS rfl Tryd.underlying52 rfl hy) rfl (KL.q ((R.eql rfl rfl rfl).val (congrArg Value.bool (decide_eq_true rfl))) rfl (KL.fin 1 rfl (KQ.seq (KC.seq ?_))))))))))
  refine KC.sr (KL.fin 1 rfl (KQ.seq (KC.block ?_)))
  refine KC.loopD (κ := Nat) [12, 13, 14, 15, 16, 17, 18, 21, 22, 23, 24, 25, 26, 27, 28, 29, 5, 19, 20, 6] (fun k => [(5, .bool true), (6, .int .i64 (k : Nat))]) (fun k Hl => k ≤ xs.length ∧ Old H Hl) (fun k => xs.length - k) 0 ?_ ?_ ?_
  · exact Sub.all rfl
  · exact ⟨Nat.zero_le _, o0⟩
  rintro k H1 ⟨hk, o0⟩
  have zl_H1 := o0.1
  have hx1 := hx.old o0
  have hy1 := hy.old o0
  refine KC.seq (KC.sr (KL.run 2 rfl (KL.q (R.lenS rfl Tryd.underlying52 rfl hx) rfl (KL.run 2 rfl ?_))))
  refine KL.cq 16 rfl ?_ ?_
  · intro hg16
    obtain ⟨va, hcx, hcl, _⟩ := hx1.insV k (by omega)
    obtain ⟨vb, hdx, hdl, _⟩ := hy1.insV k (by omega)
    refine KL.fin 2 rfl (KQ.seq (KC.condT rfl (KC.skip (KQ.seq (KC.seq (KC.block ?_))))))
    refine KC.grow (by kernel_rfl) (by kernel_rfl) ?_
    refine KG.op (fun Hg og => R.move rfl rfl) rfl rfl rfl ?_
    refine KG.op (fun Hg og => R.move rfl rfl) rfl rfl rfl ?_
    refine KG.op (fun Hg og => R.index (j := k) rfl Tryd.underlying52 sz127 rfl rfl hx rfl (by omega)) rfl rfl rfl ?_
    refine KG.op (fun Hg og => R.loadAgg rfl Tryd.underlying127 rfl sz127 rfl (og.cells hcx) rfl) rfl rfl rfl ?_
    refine KG.op (fun Hg og => R.move rfl rfl) rfl rfl rfl ?_
    refine KG.op (fun Hg og => R.move rfl rfl) rfl rfl rfl ?_
    refine KG.op (fun Hg og => R.index (j := k) rfl Tryd.underlying52 sz127 rfl rfl hy rfl (by omega)) rfl rfl rfl ?_
    refine KG.op (fun Hg og => R.loadAgg rfl Tryd.underlying127 rfl sz127 rfl (og.cells hdx) rfl) rfl rfl rfl ?_
    refine KG.call rfl rfl rfl rfl Tryd.call114 rfl rfl rfl (fun Hg og => SameI_refl (hcl.old og) (hdl.old og)) ?_
    refine KG.op (fun Hg og => R.assign rfl rfl) rfl rfl rfl ?_
    refine KG.nil ?_
    intro H2 ogH2
    have o0 := o0.trans ogH2
    have zH2 := ogH2.1
    refine KQ.normBlock (KQ.r (KL.run 1 rfl ?_))
    refine KL.q ((R.add rfl rfl rfl (by have := hx.len; dsimp only [InR]; omega)).val (congrArg (Value.int .i64) (show (k : Int) + 1 = ((k + 1 : Nat) : Int) by omega))) rfl ?_
    refine KL.fin 1 rfl ?_
    refine KQ.again (k + 1) ?_ ?_ ?_
    · exact Sub.all rfl
    · show xs.length - (k + 1) < xs.length - k; omega
    exact ⟨by omega, o0⟩
  intro hg16
  refine KL.fin 2 rfl (KQ.seq (KC.condF rfl (KC.exit (KQ.exitThen (KQ.exitThen (KQ.hit (KQ.sr (KL.fin 2 rfl (KQ.seq (KC.ret (KQ.ofRet ?_)))))))))))
  refine KQ.fin1 Tryd.results59 rfl ?_
  exact ⟨rfl, o0⟩
theorem SameN_refl {H : Heap} {va vb : Value} {l : List Int} (ha : Sl 1 (EInt .u32) H va l) (hb : Sl 1 (EInt .u32) H vb l) : Ct Tryd.prog 56 [va, vb] H (fun u H' => u = .bool true ∧ H = H') := by
  refine Ct.mk Tryd.func56 rfl Tryd.ntmps56 rfl ?_
  intro W0 hW0
  have o0 : Old H H := Old.refl H
  refine KC.sr (KL.fin 1 rfl (KQ.sr (KL.run 1 rfl (KL.q (R.lenS rfl Tryd.underlying24 rfl ha) rfl (KL.run 1 rfl (KL.q (R.lenS rfl Tryd.underlying24 rfl hb) rfl (KL.q ((R.eql rfl rfl rfl).val (congrArg Value.bool (decide_eq_true rfl))) rfl (KL.fin 1 rfl (KQ.seq (KC.seq ?_))))))))))
  refine KC.sr (KL.fin 1 rfl (KQ.seq (KC.block ?_)))
  refine KC.loopD (κ := Nat) [12, 13, 14, 15, 16, 17, 18, 21, 22, 23, 24, 25, 26, 27, 28, 29, 5, 19, 20, 6] (fun k => [(5, .bool true), (6, .int .i64 (k : Nat))]) (fun k Hl => k ≤ l.length ∧ H = Hl) (fun k => l.length - k) 0 ?_ ?_ ?_
  · exact Sub.all rfl
  · exact ⟨Nat.zero_le _, rfl⟩
  rintro k H1 ⟨hk, rfl⟩
  refine KC.seq (KC.sr (KL.run 2 rfl (KL.q (R.lenS rfl Tryd.underlying24 rfl ha) rfl (KL.run 2 rfl ?_))))
  refine KL.cq 16 rfl ?_ ?_
  · intro hg16
    refine KL.fin 2 rfl (KQ.seq (KC.condT rfl (KC.skip (KQ.seq (KC.seq (KC.block (KC.quiet (by kernel_rfl) (by kernel_rfl) (KD.run 2 rfl ?_))))))))
    refine KD.op (R.index1 (j := k) rfl Tryd.underlying24 sz28 rfl rfl ha rfl (by omega)) rfl rfl rfl ?_
    refine KD.ld rfl (ha.int k (by omega)).1 ?_
    refine KD.run 2 rfl ?_
    refine KD.op (R.index1 (j := k) rfl Tryd.underlying24 sz28 rfl rfl hb rfl (by omega)) rfl rfl rfl ?_
    refine KD.ld rfl (hb.int k (by omega)).1 ?_
    refine KD.op ((R.eql rfl rfl rfl).val (congrArg Value.bool (decide_eq_true rfl))) rfl rfl rfl (KD.fin 1 rfl (KQ.normBlock (KQ.r (KL.run 1 rfl ?_))))
    refine KL.q ((R.add rfl rfl rfl (by have := ha.len; dsimp only [InR]; omega)).val (congrArg (Value.int .i64) (show (k : Int) + 1 = ((k + 1 : Nat) : Int) by omega))) rfl ?_
    refine KL.fin 1 rfl ?_
    refine KQ.again (k + 1) ?_ ?_ ?_
    · exact Sub.all rfl
    · show l.length - (k + 1) < l.length - k; omega
    exact ⟨by omega, rfl⟩
  intro hg16
  refine KL.fin 2 rfl (KQ.seq (KC.condF rfl (KC.exit (KQ.exitThen (KQ.exitThen (KQ.hit (KQ.sr (KL.fin 2 rfl (KQ.seq (KC.ret (KQ.ofRet ?_)))))))))))
  refine KQ.fin1 Tryd.results56 rfl ?_
  exact ⟨rfl, rfl⟩
theorem SameL_refl {H : Heap} {va vb : Value} {l : List (Int × Int)} (ha : Sl 2 ELim H va l) (hb : Sl 2 ELim H vb l) : Ct Tryd.prog 57 [va, vb] H (fun u H' => u = .bool true ∧ H = H') := by
  refine Ct.mk Tryd.func57 rfl Tryd.ntmps57 rfl ?_
  intro W0 hW0
  have o0 : Old H H := Old.refl H
  refine KC.sr (KL.fin 1 rfl (KQ.sr (KL.run 1 rfl (KL.q (R.lenS rfl Tryd.underlying25 rfl ha) rfl (KL.run 1 rfl (KL.q (R.lenS rfl Tryd.underlying25 rfl hb) rfl (KL.q ((R.eql rfl rfl rfl).val (congrArg Value.bool (decide_eq_true rfl))) rfl (KL.fin 1 rfl (KQ.seq (KC.seq ?_))))))))))
  refine KC.sr (KL.fin 1 rfl (KQ.seq (KC.block ?_)))
  refine KC.loopD (κ := Nat) [12, 13, 14, 15, 16, 17, 18, 21, 22, 23, 24, 25, 26, 27, 28, 29, 5, 19, 20, 6] (fun k => [(5, .bool true), (6, .int .i64 (k : Nat))]) (fun k Hl => k ≤ l.length ∧ H = Hl) (fun k => l.length - k) 0 ?_ ?_ ?_
  · exact Sub.all rfl
  · exact ⟨Nat.zero_le _, rfl⟩
  rintro k H1 ⟨hk, rfl⟩
  refine KC.seq (KC.sr (KL.run 2 rfl (KL.q (R.lenS rfl Tryd.underlying25 rfl ha) rfl (KL.run 2 rfl ?_))))
  refine KL.cq 16 rfl ?_ ?_
  · intro hg16
    refine KL.fin 2 rfl (KQ.seq (KC.condT rfl (KC.skip (KQ.seq (KC.seq (KC.block (KC.quiet (by kernel_rfl) (by kernel_rfl) (KD.run 2 rfl ?_))))))))
    refine KD.op (R.index (j := k) rfl Tryd.underlying25 sz47 rfl rfl ha rfl (by omega)) rfl rfl rfl ?_
    refine KD.op (R.loadAgg rfl Tryd.underlying47 rfl sz47 rfl (ha.limAt k (by omega)).1 rfl) rfl rfl rfl ?_
    refine KD.run 2 rfl ?_
    refine KD.op (R.index (j := k) rfl Tryd.underlying25 sz47 rfl rfl hb rfl (by omega)) rfl rfl rfl ?_
    refine KD.op (R.loadAgg rfl Tryd.underlying47 rfl sz47 rfl (hb.limAt k (by omega)).1 rfl) rfl rfl rfl ?_
    refine KD.op ((R.eqlSt rfl Tryd.underlying47 (by kernel_rfl) (by kernel_rfl) rfl rfl (EqFs.int (by decide) Tryd.underlying28 rfl rfl (EqFs.int (by decide) Tryd.underlying2 rfl rfl EqFs.nil))).val (congrArg Value.bool (show _ = true from by simp))) rfl rfl rfl ?_
    refine KD.fin 1 rfl (KQ.normBlock (KQ.r (KL.run 1 rfl ?_)))
    refine KL.q ((R.add rfl rfl rfl (by have := ha.len; dsimp only [InR]; omega)).val (congrArg (Value.int .i64) (show (k : Int) + 1 = ((k + 1 : Nat) : Int) by omega))) rfl ?_
    refine KL.fin 1 rfl ?_
    refine KQ.again (k + 1) ?_ ?_ ?_
    · exact Sub.all rfl
    · show l.length - (k + 1) < l.length - k; omega
    exact ⟨by omega, rfl⟩
  intro hg16
  refine KL.fin 2 rfl (KQ.seq (KC.condF rfl (KC.exit (KQ.exitThen (KQ.exitThen (KQ.hit (KQ.sr (KL.fin 2 rfl (KQ.seq (KC.ret (KQ.ofRet ?_)))))))))))
  refine KQ.fin1 Tryd.results57 rfl ?_
  exact ⟨rfl, rfl⟩
section
variable {H : Heap} {v : Value}
theorem Sl.ftyAt {l : List FTy} (h : Sl 2 EFTy H v l) (j : Nat) (hj : j < l.length) : ∃ a b, CellsH H ((vbase v).add (j * 2)) [a, b] ∧ Sl 1 (EInt .u8) H a (l.getD j default).1 ∧ Sl 1 (EInt .u8) H b (l.getD j default).2 := by
  obtain ⟨cs, hl, hc, a, b, rfl, h1, h2⟩ := h.at j hj
  exact ⟨a, b, hc, h1, h2⟩
theorem Sl.codAt {l : List Cod} (h : Sl 2 ECod H v l) (j : Nat) (hj : j < l.length) : ∃ a b, CellsH H ((vbase v).add (j * 2)) [a, b] ∧ Sl 2 ELoc H a (l.getD j default).1 ∧ Sl 5 EIns H b (l.getD j default).2 := by
  obtain ⟨cs, hl, hc, a, b, rfl, h1, h2⟩ := h.at j hj
  exact ⟨a, b, hc, h1, h2⟩
theorem Sl.impAt {l : List Imp} (h : Sl 8 EImp H v l) (j : Nat) (hj : j < l.length) : CellsH H ((vbase v).add (j * 8)) [.string (l.getD j default).mod, .string (l.getD j default).nam, .int .u8 (l.getD j default).kind, .int .u32 (l.getD j default).typ, .int .u32 (l.getD j default).lim.1, .int .i64 (l.getD j default).lim.2, .int .u8 (l.getD j default).glob.1, .bool (l.getD j default).glob.2] ∧ InR .u8 (l.getD j default).kind ∧ InR .u8 (l.getD j default).glob.1 := by
  obtain ⟨cs, hl, hc, rfl, h1, _, _, _, h2⟩ := h.at j hj
  exact ⟨hc, h1, h2⟩
theorem Sl.expAt {l : List Exp} (h : Sl 3 EExp H v l) (j : Nat) (hj : j < l.length) : CellsH H ((vbase v).add (j * 3)) [.string (l.getD j default).nam, .int .u8 (l.getD j default).kind, .int .u32 (l.getD j default).idx] := by
  obtain ⟨cs, hl, hc, rfl, h1, _⟩ := h.at j hj
  exact hc
theorem Sl.gloAt {l : List Glo} (h : Sl 3 EGlo H v l) (j : Nat) (hj : j < l.length) : ∃ a, CellsH H ((vbase v).add (j * 3)) [.int .u8 (l.getD j default).1.1, .bool (l.getD j default).1.2, a] ∧ Sl 5 EIns H a (l.getD j default).2 ∧ InR .u8 (l.getD j default).1.1 := by
  obtain ⟨cs, hl, hc, a, rfl, h1, h2⟩ := h.at j hj
  exact ⟨a, hc, h1, h2⟩
theorem Sl.elmAt {l : List Elm} (h : Sl 3 EElm H v l) (j : Nat) (hj : j < l.length) : ∃ a b, CellsH H ((vbase v).add (j * 3)) [.int .u32 (l.getD j default).1, a, b] ∧ Sl 5 EIns H a (l.getD j default).2.1 ∧ Sl 1 (EInt .u32) H b (l.getD j default).2.2 := by
  obtain ⟨cs, hl, hc, a, b, rfl, h1, h2, _⟩ := h.at j hj
  exact ⟨a, b, hc, h1, h2⟩
theorem Sl.datAt {l : List Elm} (h : Sl 3 EDat H v l) (j : Nat) (hj : j < l.length) : ∃ a b, CellsH H ((vbase v).add (j * 3)) [.int .u32 (l.getD j default).1, a, b] ∧ Sl 5 EIns H a (l.getD j default).2.1 ∧ Sl 1 (EInt .u8) H b (l.getD j default).2.2 := by
  obtain ⟨cs, hl, hc, a, b, rfl, h1, h2, _⟩ := h.at j hj
  exact ⟨a, b, hc, h1, h2⟩
end
theorem SameC_refl {H : Heap} {va vb : Value} {l : List Cod} (ha : Sl 2 ECod H va l) (hb : Sl 2 ECod H vb l) : Ct Tryd.prog 58 [va, vb] H (fun u H' => u = .bool true ∧ Old H H') := by
  refine Ct.mk Tryd.func58 rfl Tryd.ntmps58 rfl ?_
  intro W0 hW0
  have o0 : Old H H := Old.refl H
  refine KC.sr (KL.fin 1 rfl (KQ.sr (KL.run 1 rfl (KL.q (R.lenS rfl Tryd.underlying30 rfl ha) rfl (KL.run 1 rfl (KL.q (R.lenS rfl Tryd.underlying30 rfl hb) rfl (KL.q ((R.eql rfl rfl rfl).val (congrArg Value.bool (decide_eq_true rfl))) rfl (KL.fin 1 rfl (KQ.seq (KC.seq ?_))))))))))
  refine KC.sr (KL.fin 1 rfl (KQ.seq (KC.block ?_)))
  refine KC.loopD (κ := Nat) [13, 14, 15, 16, 17, 18, 19, 22, 23, 24, 25, 26, 27, 28, 29, 30, 31, 32, 33, 34, 35, 36, 37, 38, 39, 40, 41, 42, 43, 44, 45, 46, 47, 5, 7, 48, 49, 50, 51, 52, 53, 54, 55, 56, 57, 58, 61, 62, 63, 64, 65, 66, 67, 68, 69, 70, 71, 72, 73, 74, 75, 76, 77, 59, 60, 20, 21, 6] (fun k => [(5, .bool true), (6, .int .i64 (k : Nat))]) (fun k Hl => k ≤ l.length ∧ Old H Hl) (fun k => l.length - k) 0 ?_ ?_ ?_
  · exact Sub.all rfl
  · exact ⟨Nat.zero_le _, o0⟩
  rintro k H1 ⟨hk, o0⟩
  have zl_H1 := o0.1
  have ha1 := ha.old o0
  have hb1 := hb.old o0
  refine KC.seq (KC.sr (KL.run 2 rfl (KL.q (R.lenS rfl Tryd.underlying30 rfl ha) rfl (KL.run 2 rfl ?_))))
  refine KL.cq 17 rfl ?_ ?_
  · intro hg17
    obtain ⟨va1, va2, hca, hca1, hca2⟩ := ha1.codAt k (by omega)
    obtain ⟨vb1, vb2, hcb, hcb1, hcb2⟩ := hb1.codAt k (by omega)
    refine KL.fin 2 rfl (KQ.seq (KC.condT rfl (KC.skip (KQ.seq (KC.seq (KC.block (KC.seq ?_)))))))
    refine KC.grow (by kernel_rfl) (by kernel_rfl) ?_
    refine KG.op (fun Hg og => R.move rfl rfl) rfl rfl rfl ?_
    refine KG.op (fun Hg og => R.move rfl rfl) rfl rfl rfl ?_
    refine KG.op (fun Hg og => R.index (j := k) rfl Tryd.underlying30 sz58 rfl rfl ha rfl (by omega)) rfl rfl rfl ?_
    refine KG.op (fun Hg og => (R.fieldAddrP rfl Tryd.underlying58 rfl rfl sz56 rfl)) rfl rfl rfl ?_
    refine KG.op (fun Hg og => R.load rfl Tryd.underlying56 rfl rfl (og.cell (hca 0 _ rfl))) rfl rfl rfl ?_
    refine KG.op (fun Hg og => R.lenS rfl Tryd.underlying56 rfl hca1) rfl rfl rfl ?_
    refine KG.op (fun Hg og => R.move rfl rfl) rfl rfl rfl ?_
    refine KG.op (fun Hg og => R.move rfl rfl) rfl rfl rfl ?_
    refine KG.op (fun Hg og => R.index (j := k) rfl Tryd.underlying30 sz58 rfl rfl hb rfl (by omega)) rfl rfl rfl ?_
    refine KG.op (fun Hg og => (R.fieldAddrP rfl Tryd.underlying58 rfl rfl sz56 rfl)) rfl rfl rfl ?_
    refine KG.op (fun Hg og => R.load rfl Tryd.underlying56 rfl rfl (og.cell (hcb 0 _ rfl))) rfl rfl rfl ?_
    refine KG.op (fun Hg og => R.lenS rfl Tryd.underlying56 rfl hcb1) rfl rfl rfl ?_
    refine KG.op (fun Hg og => (R.eql rfl rfl rfl).val (congrArg Value.bool (decide_eq_true rfl))) rfl rfl rfl ?_
    refine KG.op (fun Hg og => R.move rfl rfl) rfl rfl rfl ?_
    refine KG.op (fun Hg og => R.move rfl rfl) rfl rfl rfl ?_
    refine KG.op (fun Hg og => R.move rfl rfl) rfl rfl rfl ?_
    refine KG.op (fun Hg og => R.index (j := k) rfl Tryd.underlying30 sz58 rfl rfl ha rfl (by omega)) rfl rfl rfl ?_
    refine KG.op (fun Hg og => (R.fieldAddrP rfl Tryd.underlying58 rfl rfl sz52 rfl)) rfl rfl rfl ?_
    refine KG.op (fun Hg og => R.load rfl Tryd.underlying52 rfl rfl (og.cell (hca 1 _ rfl))) rfl rfl rfl ?_
    refine KG.op (fun Hg og => R.move rfl rfl) rfl rfl rfl ?_
    refine KG.op (fun Hg og => R.move rfl rfl) rfl rfl rfl ?_
    refine KG.op (fun Hg og => R.index (j := k) rfl Tryd.underlying30 sz58 rfl rfl hb rfl (by omega)) rfl rfl rfl ?_
    refine KG.op (fun Hg og => (R.fieldAddrP rfl Tryd.underlying58 rfl rfl sz52 rfl)) rfl rfl rfl ?_
    refine KG.op (fun Hg og => R.load rfl Tryd.underlying52 rfl rfl (og.cell (hcb 1 _ rfl))) rfl rfl rfl ?_
    refine KG.call rfl rfl rfl rfl Tryd.call59 rfl rfl rfl (fun Hg og => SameAll_refl (hca2.old og) (hcb2.old og)) ?_
    refine KG.op (fun Hg og => R.pick rfl rfl rfl) rfl rfl rfl ?_
    refine KG.op (fun Hg og => R.assign rfl rfl) rfl rfl rfl ?_
    refine KG.nil ?_
    intro H2 ogH2
    have o0 := o0.trans ogH2
    have zH2 := ogH2.1
    have hca : CellsH H2 _ _ := ogH2.cells hca
    have hcb : CellsH H2 _ _ := ogH2.cells hcb
    have hca1 := hca1.old ogH2
    have hcb1 := hcb1.old ogH2
    refine KQ.sr (KL.fin 1 rfl (KQ.seq (KC.block ?_)))
    refine KC.loopD (κ := Nat) [48, 49, 50, 51, 52, 53, 54, 55, 56, 57, 58, 61, 62, 63, 64, 65, 66, 67, 68, 69, 70, 71, 72, 73, 74, 75, 76, 77, 5, 59, 60, 7] (fun j => [(5, .bool true), (7, .int .i64 (j : Nat))]) (fun j Hl => j ≤ (l.getD k default).1.length ∧ H2 = Hl) (fun j => (l.getD k default).1.length - j) 0 ?_ ?_ ?_
    · exact Sub.all rfl
    · exact ⟨Nat.zero_le _, rfl⟩
    rintro j H3 ⟨hj, rfl⟩
    refine KC.seq (KC.sr (KL.run 3 rfl ?_))
    refine KL.q (R.index (j := k) rfl Tryd.underlying30 sz58 rfl rfl ha rfl (by omega)) rfl ?_
    refine KL.q (R.fieldAddrP rfl Tryd.underlying58 rfl rfl sz56 rfl) rfl (KL.ld rfl (hca 0 _ rfl) (KL.q (R.lenS rfl Tryd.underlying56 rfl hca1) rfl (KL.run 2 rfl ?_)))
    refine KL.cq 56 rfl ?_ ?_
    · intro hg56
      refine KL.fin 2 rfl (KQ.seq (KC.condT rfl (KC.skip (KQ.seq (KC.seq (KC.block (KC.quiet (by kernel_rfl) (by kernel_rfl) (KD.run 2 rfl ?_))))))))
      refine KD.op (R.index (j := k) rfl Tryd.underlying30 sz58 rfl rfl ha rfl (by omega)) rfl rfl rfl ?_
      refine KD.op (R.fieldAddrP rfl Tryd.underlying58 rfl rfl sz56 rfl) rfl rfl rfl (KD.ld rfl (hca 0 _ rfl) (KD.run 1 rfl ?_))
      refine KD.op (R.index (j := j) rfl Tryd.underlying56 sz60 rfl rfl hca1 rfl (by omega)) rfl rfl rfl ?_
      refine KD.op (R.loadAgg rfl Tryd.underlying60 rfl sz60 rfl (hca1.locAt j (by omega)).1 rfl) rfl rfl rfl ?_
      refine KD.run 2 rfl ?_
      refine KD.op (R.index (j := k) rfl Tryd.underlying30 sz58 rfl rfl hb rfl (by omega)) rfl rfl rfl ?_
      refine KD.op (R.fieldAddrP rfl Tryd.underlying58 rfl rfl sz56 rfl) rfl rfl rfl (KD.ld rfl (hcb 0 _ rfl) (KD.run 1 rfl ?_))
      refine KD.op (R.index (j := j) rfl Tryd.underlying56 sz60 rfl rfl hcb1 rfl (by omega)) rfl rfl rfl ?_
      refine KD.op (R.loadAgg rfl Tryd.underlying60 rfl sz60 rfl (hcb1.locAt j (by omega)).1 rfl) rfl rfl rfl ?_
      refine KD.op ((R.eqlSt rfl Tryd.underlying60 (by kernel_rfl) (by kernel_rfl) rfl rfl (EqFs.int (by decide) Tryd.underlying28 rfl rfl (EqFs.int (by decide) Tryd.underlying5 rfl rfl EqFs.nil))).val (congrArg Value.bool (show _ = true from by simp))) rfl rfl rfl ?_
      refine KD.fin 1 rfl (KQ.normBlock (KQ.r (KL.run 1 rfl ?_)))
      refine KL.q ((R.add rfl rfl rfl (by have := hca1.len; dsimp only [InR]; omega)).val (congrArg (Value.int .i64) (show (j : Int) + 1 = ((j + 1 : Nat) : Int) by omega))) rfl ?_
      refine KL.fin 1 rfl ?_
      refine KQ.again (j + 1) ?_ ?_ ?_
      · exact Sub.all rfl
      · show (l.getD k default).1.length - (j + 1) < (l.getD k default).1.length - j; omega
      exact ⟨by omega, rfl⟩
    intro hg56
    refine KL.fin 2 rfl (KQ.seq (KC.condF rfl (KC.exit (KQ.exitThen (KQ.exitThen (KQ.hit (KQ.normBlock (KQ.r (KL.run 1 rfl ?_)))))))))
    refine KL.q ((R.add rfl rfl rfl (by have := ha.len; dsimp only [InR]; omega)).val (congrArg (Value.int .i64) (show (k : Int) + 1 = ((k + 1 : Nat) : Int) by omega))) rfl ?_
    refine KL.fin 1 rfl ?_
    refine KQ.again (k + 1) ?_ ?_ ?_
    · exact Sub.all rfl
    · show l.length - (k + 1) < l.length - k; omega
    exact ⟨by omega, o0⟩
  intro hg17
  refine KL.fin 2 rfl (KQ.seq (KC.condF rfl (KC.exit (KQ.exitThen (KQ.exitThen (KQ.hit (KQ.sr (KL.fin 2 rfl (KQ.seq (KC.ret (KQ.ofRet ?_)))))))))))
  refine KQ.fin1 Tryd.results58 rfl ?_
  exact ⟨rfl, o0⟩
end Go.Proofs.YtldmfchamcpmmaaDoor
namespace Go.Proofs.YtldmfchamcpmmaaDoor
open Go Go.RowKit
set_option linter.unusedVariables false
set_option linter.unusedSimpArgs false
section
variable {P : Program} {E : Env} {H : Heap} {o : Oper}
theorem part_sub {t : TypeId} {ds : TypeDesc} {cs : Array Value} {i m : Nat} (hu : P.underlying t = some ds) (hd : isAggD ds = true) (hs : (P.info? t).map (·.size) = some m) (w : World) : (part t cs i).run P w = .ok (.agg (cs.extract i (i + m))) w := by
  have h2 : (isAgg t).run P w = .ok true w := by
    cases ds <;> simp [isAggD] at hd <;> simp [isAgg, underlying, program, hu, Sem.run_bind, Sem.run_pure, Result.andThen, Sem.run]
  cases hq : P.info? t with
  | none => simp [hq] at hs
  | some i' =>
    simp [hq] at hs
    simp [part, h2, sizeOf, typeInfo, program, hq, hs, Sem.run_bind, Sem.run_pure, Result.andThen, Sem.run]
/-- two structs' fields are alike -/
inductive SameFs (P : Program) (xs : Array Value) : List Field → Prop
  | nil : SameFs P xs []
  | int {f : Field} {fs : List Field} {k k' : IntKind} {a : Int} (hn : f.name ≠ "_") (hu : P.underlying f.type = some (.int k')) (hx : nth xs.toList f.offset = some (.int k a)) (h : SameFs P xs fs) : SameFs P xs (f :: fs)
  | str {f : Field} {fs : List Field} {a : ByteArray} (hn : f.name ≠ "_") (hu : P.underlying f.type = some .string) (hx : nth xs.toList f.offset = some (.string a)) (h : SameFs P xs fs) : SameFs P xs (f :: fs)
  | sub {f : Field} {fs : List Field} {gs : Array Field} {m : Nat} {r : Bool} (hn : f.name ≠ "_") (hu : P.underlying f.type = some (.struct gs)) (hst : P.stoodInHeld f.type = false) (hs : (P.info? f.type).map (·.size) = some m) (hf : EqFs P (xs.extract f.offset (f.offset + m)) (xs.extract f.offset (f.offset + m)) gs.toList r) (hr : r = true) (h : SameFs P xs fs) : SameFs P xs (f :: fs)
theorem SameFs.run {xs : Array Value} {fs : List Field} (h : SameFs P xs fs) (d : Nat) (w : World) : (Op.eqFields (d + 2) xs xs fs).run P w = .ok true w := by
  induction h with
  | nil => simp [Op.eqFields, Sem.run_pure]
  | @int f fs k k' a hn hu hx h ih =>
    have e : (a == a) = true := by simp
    simp only [Op.eqFields, hn, ne_eq, not_false_eq_true, if_true, Sem.run_bind, part_one hu rfl hx, run_equalIn_int w (d + 1) _ k k' a a hu, Result.andThen_ok, e]
    simp [ih]
  | @str f fs a hn hu hx h ih =>
    have e : (a.toList == a.toList) = true := by simp
    simp only [Op.eqFields, hn, ne_eq, not_false_eq_true, if_true, Sem.run_bind, part_one hu rfl hx, run_equalIn_string w (d + 1) _ a a hu, Result.andThen_ok, e]
    simp [ih]
  | @sub f fs gs m r hn hu hst hs hf hr h ih =>
    subst hr
    have e : P.fieldsOf f.type = gs := by simp [Program.fieldsOf, hu]
    have h9 : (Op.equalIn (d + 2) f.type (.agg (xs.extract f.offset (f.offset + m))) (.agg (xs.extract f.offset (f.offset + m)))).run P w = .ok true w := by
      rw [run_equalIn_struct w (d + 1) f.type _ _ (by rw [e]; exact hu) hst, e]
      exact hf.run d w
    simp only [Op.eqFields, hn, ne_eq, not_false_eq_true, if_true, Sem.run_bind, part_sub hu rfl hs, h9, Result.andThen_ok]
    simp [ih]
theorem R.eqlSame {T T' : TypeId} {x y : Operand} {xs : Array Value} {fs : Array Field} (ho : o.op = .binOp .eql T x y T') (ht : P.underlying T = some (.struct fs)) (hst : P.stoodInHeld T = false) (hG : P.eqGuardType P.depth T = false) (hx : ev E x = some (.agg xs)) (hy : ev E y = some (.agg xs)) (hf : SameFs P xs fs.toList) : Run P E H o (.bool true) := by
  intro ρ w ha hw
  have e : P.fieldsOf T = fs := by simp [Program.fieldsOf, ht]
  have h1 : (Op.equal T (.agg xs) (.agg xs)).run P w = .ok true w := by
    show (Op.equalIn (9999 + 1) T _ _).run P w = _
    rw [run_equalIn_struct w 9999 T xs xs (by rw [e]; exact ht) hst, e]
    exact hf.run 9997 w
  simp [execOp, ho, ha x _ hx, ha y _ hy, run_eqGuard_agg w _ T x y xs xs hG, binOp, program, h1, Sem.run_bind, Sem.run_pure, Result.andThen, Sem.run]
end
end Go.Proofs.YtldmfchamcpmmaaDoor
namespace Go.Proofs.YtldmfchamcpmmaaDoor
open Go Go.RowKit
set_option linter.unusedVariables false
set_option linter.unusedSimpArgs false
set_option linter.unnecessarySimpa false
theorem Same_refl {H : Heap} {t i f tb me g e el c d : Value} {t' i' f' tb' me' g' e' el' c' d' : Value} {m : Mo} (m1 : MoV H t i f tb me g e el c d m) (m2 : MoV H t' i' f' tb' me' g' e' el' c' d' m) : Ct Tryd.prog 12 [.agg [t, i, f, tb, me, g, e, .bool m.hasStart, .int .u32 m.start, el, c, d].toArray, .agg [t', i', f', tb', me', g', e', .bool m.hasStart, .int .u32 m.start, el', c', d'].toArray] H (fun u H' => u = .bool true ∧ Old H H') := by
  refine Ct.mk Tryd.func12 rfl Tryd.ntmps12 rfl ?_
  intro W0 hW0
  have o0 : Old H H := Old.refl H
  refine KC.sr ?_
  refine KL.m (M.box (cs := [t, i, f, tb, me, g, e, .bool m.hasStart, .int .u32 m.start, el, c, d]) rfl rfl rfl) rfl ?_
  rintro _ H1 ⟨rfl, n1⟩
  have z1 := n1.2.1
  have o0 := o0.trans n1.1
  have b1 := n1.2.2
  have bx := b1
  refine KL.m (M.box (cs := [t', i', f', tb', me', g', e', .bool m.hasStart, .int .u32 m.start, el', c', d']) rfl rfl rfl) rfl ?_
  rintro _ H2 ⟨rfl, n2⟩
  have z2 := n2.2.1
  have o0 := o0.trans n2.1
  have bx := (n2.1).blk bx
  have b2 := n2.2.2
  have by_ := b2
  refine KL.fin 1 rfl (KQ.sr (KL.run 1 rfl (KL.ld rfl (cell_of bx rfl) (KL.q (R.lenS rfl Tryd.underlying22 rfl m1.t) rfl (KL.run 1 rfl (KL.ld rfl (cell_of by_ rfl) (KL.q (R.lenS rfl Tryd.underlying22 rfl m2.t) rfl (KL.q ((R.eql rfl rfl rfl).val (congrArg Value.bool (decide_eq_true rfl))) rfl (KL.run 2 rfl (KL.ld rfl (cell_of bx rfl) (KL.q (R.lenS rfl Tryd.underlying23 rfl m1.i) rfl ?_)))))))))))
  refine KL.run 1 rfl (KL.ld rfl (cell_of by_ rfl) (KL.q (R.lenS rfl Tryd.underlying23 rfl m2.i) rfl (KL.q ((R.eql rfl rfl rfl).val (congrArg Value.bool (decide_eq_true rfl))) rfl (KL.run 3 rfl (KL.ld rfl (cell_of bx rfl) (KL.run 1 rfl (KL.ld rfl (cell_of by_ rfl) ?_)))))))
  refine KL.c rfl Tryd.call56 (SameN_refl (m1.f.old o0) (m2.f.old o0)) ?_
  rintro _ _ ⟨rfl, rfl⟩
  refine KL.run 3 rfl (KL.ld rfl (cell_of bx rfl) (KL.run 1 rfl (KL.ld rfl (cell_of by_ rfl) ?_)))
  refine KL.c rfl Tryd.call57 (SameL_refl (m1.tb.old o0) (m2.tb.old o0)) ?_
  rintro _ _ ⟨rfl, rfl⟩
  refine KL.run 3 rfl (KL.ld rfl (cell_of bx rfl) (KL.run 1 rfl (KL.ld rfl (cell_of by_ rfl) ?_)))
  refine KL.c rfl Tryd.call57 (SameL_refl (m1.me.old o0) (m2.me.old o0)) ?_
  rintro _ _ ⟨rfl, rfl⟩
  refine KL.run 3 rfl (KL.ld rfl (cell_of bx rfl) (KL.q (R.lenS rfl Tryd.underlying26 rfl m1.g) rfl (KL.run 1 rfl (KL.ld rfl (cell_of by_ rfl) (KL.q (R.lenS rfl Tryd.underlying26 rfl m2.g) rfl (KL.q ((R.eql rfl rfl rfl).val (congrArg Value.bool (decide_eq_true rfl))) rfl (KL.run 3 rfl (KL.ld rfl (cell_of bx rfl) (KL.q (R.lenS rfl Tryd.underlying27 rfl m1.e) rfl (KL.run 1 rfl (KL.ld rfl (cell_of by_ rfl) (KL.q (R.lenS rfl Tryd.underlying27 rfl m2.e) rfl (KL.q ((R.eql rfl rfl rfl).val (congrArg Value.bool (decide_eq_true rfl))) rfl ?_)))))))))))))
  refine KL.run 3 rfl (KL.ld rfl (cell_of bx rfl) (KL.run 1 rfl (KL.ld rfl (cell_of by_ rfl) ?_)))
  refine KL.q ((R.eqlB rfl Tryd.underlying4 rfl rfl).val (congrArg Value.bool (show _ = true from by simp))) rfl ?_
  refine KL.run 3 rfl (KL.ld rfl (cell_of bx rfl) (KL.run 1 rfl (KL.ld rfl (cell_of by_ rfl) (KL.q ((R.eql rfl rfl rfl).val (congrArg Value.bool (decide_eq_true rfl))) rfl (KL.run 3 rfl (KL.ld rfl (cell_of bx rfl) (KL.q (R.lenS rfl Tryd.underlying29 rfl m1.el) rfl (KL.run 1 rfl (KL.ld rfl (cell_of by_ rfl) (KL.q (R.lenS rfl Tryd.underlying29 rfl m2.el) rfl (KL.q ((R.eql rfl rfl rfl).val (congrArg Value.bool (decide_eq_true rfl))) rfl (KL.run 3 rfl (KL.ld rfl (cell_of bx rfl) ?_)))))))))))))
  refine KL.run 1 rfl (KL.ld rfl (cell_of by_ rfl) ?_)
  refine KL.c rfl Tryd.call58 (SameC_refl (m1.c.old o0) (m2.c.old o0)) ?_
  rintro _ H3 ⟨rfl, ox⟩
  have zc_H3 := (ox).1
  have o0 := o0.trans ox
  have bx := (ox).blk bx
  have by_ := (ox).blk by_
  refine KL.run 3 rfl (KL.ld rfl (cell_of bx rfl) (KL.q (R.lenS rfl Tryd.underlying31 rfl m1.d) rfl (KL.run 1 rfl (KL.ld rfl (cell_of by_ rfl) (KL.q (R.lenS rfl Tryd.underlying31 rfl m2.d) rfl (KL.q ((R.eql rfl rfl rfl).val (congrArg Value.bool (decide_eq_true rfl))) rfl (KL.fin 2 rfl (KQ.seq (KC.seq (KC.sr (KL.fin 1 rfl (KQ.seq ?_))))))))))))
  refine KC.block ?_
  refine KC.loopD (κ := Nat) [106, 107, 108, 109, 110, 111, 112, 113, 116, 117, 118, 119, 120, 121, 122, 123, 124, 125, 126, 127, 128, 129, 130, 131, 132, 133, 134, 135, 136, 137, 138, 139, 140, 141, 142, 143, 144, 145, 146, 147, 5, 114, 115, 6] (fun k => [(5, .bool true), (6, .int .i64 (k : Nat))]) (fun k Hl => k ≤ m.types.length ∧ Old H Hl ∧ Hl[Array.size H]? = some (.cells [t, i, f, tb, me, g, e, .bool m.hasStart, .int .u32 m.start, el, c, d].toArray 33 (0, 0)) ∧ Hl[Array.size H1]? = some (.cells [t', i', f', tb', me', g', e', .bool m.hasStart, .int .u32 m.start, el', c', d'].toArray 33 (0, 0))) (fun k => m.types.length - k) 0 ?_ ?_ ?_
  · exact Sub.all rfl
  · exact ⟨Nat.zero_le _, o0, bx, by_⟩
  rintro k H4 ⟨hk, o0, bx, by_⟩
  have zl_H4 := o0.1
  have zl := o0.1
  refine KC.seq (KC.sr (KL.run 2 rfl (KL.ld rfl (cell_of bx rfl) (KL.q (R.lenS rfl Tryd.underlying22 rfl m1.t) rfl (KL.run 2 rfl ?_)))))
  refine KL.cq 111 rfl ?_ ?_
  · intro hg111
    obtain ⟨a1, a2, hca, ha1, ha2⟩ := (m1.t.old o0).ftyAt k (by omega)
    obtain ⟨b1_, b2_, hcb, hb1, hb2⟩ := (m2.t.old o0).ftyAt k (by omega)
    refine KL.fin 2 rfl (KQ.seq (KC.condT rfl (KC.skip (KQ.seq (KC.seq (KC.block (KC.quiet (by kernel_rfl) (by kernel_rfl) (KD.run 1 rfl (KD.ld rfl (cell_of bx rfl) (KD.run 1 rfl ?_))))))))))
    refine KD.op (R.index (j := k) rfl Tryd.underlying22 sz44 rfl rfl m1.t rfl (by omega)) rfl rfl rfl ?_
    refine KD.op (R.fieldAddrP rfl Tryd.underlying44 rfl rfl sz36 rfl) rfl rfl rfl (KD.ld rfl (hca 0 _ rfl) (KD.op (R.convBS rfl Tryd.underlying36 Tryd.underlying5 Tryd.underlying9 rfl ha1) rfl rfl rfl (KD.run 1 rfl (KD.ld rfl (cell_of by_ rfl) (KD.run 1 rfl ?_)))))
    refine KD.op (R.index (j := k) rfl Tryd.underlying22 sz44 rfl rfl m2.t rfl (by omega)) rfl rfl rfl ?_
    refine KD.op (R.fieldAddrP rfl Tryd.underlying44 rfl rfl sz36 rfl) rfl rfl rfl (KD.ld rfl (hcb 0 _ rfl) (KD.op (R.convBS rfl Tryd.underlying36 Tryd.underlying5 Tryd.underlying9 rfl hb1) rfl rfl rfl ?_))
    refine KD.op ((R.eqlStr rfl rfl rfl).val (congrArg Value.bool (show _ = true from by simp))) rfl rfl rfl ?_
    refine KD.run 2 rfl (KD.ld rfl (cell_of bx rfl) (KD.run 1 rfl ?_))
    refine KD.op (R.index (j := k) rfl Tryd.underlying22 sz44 rfl rfl m1.t rfl (by omega)) rfl rfl rfl ?_
    refine KD.op (R.fieldAddrP rfl Tryd.underlying44 rfl rfl sz36 rfl) rfl rfl rfl (KD.ld rfl (hca 1 _ rfl) (KD.op (R.convBS rfl Tryd.underlying36 Tryd.underlying5 Tryd.underlying9 rfl ha2) rfl rfl rfl (KD.run 1 rfl (KD.ld rfl (cell_of by_ rfl) (KD.run 1 rfl ?_)))))
    refine KD.op (R.index (j := k) rfl Tryd.underlying22 sz44 rfl rfl m2.t rfl (by omega)) rfl rfl rfl ?_
    refine KD.op (R.fieldAddrP rfl Tryd.underlying44 rfl rfl sz36 rfl) rfl rfl rfl (KD.ld rfl (hcb 1 _ rfl) (KD.op (R.convBS rfl Tryd.underlying36 Tryd.underlying5 Tryd.underlying9 rfl hb2) rfl rfl rfl ?_))
    refine KD.op ((R.eqlStr rfl rfl rfl).val (congrArg Value.bool (show _ = true from by simp))) rfl rfl rfl ?_
    refine KD.fin 2 rfl (KQ.normBlock (KQ.r (KL.run 1 rfl ?_)))
    refine KL.q ((R.add rfl rfl rfl (by have := m1.t.len; dsimp only [InR]; omega)).val (congrArg (Value.int .i64) (show (k : Int) + 1 = ((k + 1 : Nat) : Int) by omega))) rfl ?_
    refine KL.fin 1 rfl ?_
    refine KQ.again (k + 1) ?_ ?_ ?_
    · exact Sub.all rfl
    · show m.types.length - (k + 1) < m.types.length - k; omega
    exact ⟨by omega, o0, bx, by_⟩
  intro hg111
  refine KL.fin 2 rfl (KQ.seq (KC.condF rfl (KC.exit (KQ.exitThen (KQ.exitThen (KQ.hit (KQ.seq (KC.seq (KC.sr (KL.fin 1 rfl (KQ.seq (KC.block ?_))))))))))))
  refine KC.loopD (κ := Nat) [148, 149, 150, 151, 152, 153, 154, 155, 158, 159, 160, 161, 162, 163, 164, 165, 166, 167, 168, 5, 156, 157, 7] (fun k => [(5, .bool true), (7, .int .i64 (k : Nat))]) (fun k Hl => k ≤ m.imports.length ∧ Old H Hl ∧ Hl[Array.size H]? = some (.cells [t, i, f, tb, me, g, e, .bool m.hasStart, .int .u32 m.start, el, c, d].toArray 33 (0, 0)) ∧ Hl[Array.size H1]? = some (.cells [t', i', f', tb', me', g', e', .bool m.hasStart, .int .u32 m.start, el', c', d'].toArray 33 (0, 0))) (fun k => m.imports.length - k) 0 ?_ ?_ ?_
  · exact Sub.all rfl
  · exact ⟨Nat.zero_le _, o0, bx, by_⟩
  rintro k H5 ⟨hk, o0, bx, by_⟩
  have zl_H5 := o0.1
  have zl := o0.1
  refine KC.seq (KC.sr (KL.run 2 rfl (KL.ld rfl (cell_of bx rfl) (KL.q (R.lenS rfl Tryd.underlying23 rfl m1.i) rfl (KL.run 2 rfl ?_)))))
  refine KL.cq 153 rfl ?_ ?_
  · intro hg153
    refine KL.fin 2 rfl (KQ.seq (KC.condT rfl (KC.skip (KQ.seq (KC.seq (KC.block (KC.quiet (by kernel_rfl) (by kernel_rfl) (KD.run 1 rfl (KD.ld rfl (cell_of bx rfl) (KD.run 1 rfl ?_))))))))))
    refine KD.op (R.index (j := k) rfl Tryd.underlying23 sz51 rfl rfl m1.i rfl (by omega)) rfl rfl rfl ?_
    refine KD.op (R.loadAgg rfl Tryd.underlying51 rfl sz51 rfl ((m1.i.old o0).impAt k (by omega)).1 rfl) rfl rfl rfl ?_
    refine KD.run 1 rfl (KD.ld rfl (cell_of by_ rfl) (KD.run 1 rfl ?_))
    refine KD.op (R.index (j := k) rfl Tryd.underlying23 sz51 rfl rfl m2.i rfl (by omega)) rfl rfl rfl ?_
    refine KD.op (R.loadAgg rfl Tryd.underlying51 rfl sz51 rfl ((m2.i.old o0).impAt k (by omega)).1 rfl) rfl rfl rfl ?_
    refine KD.op (R.eqlSame rfl Tryd.underlying51 (by kernel_rfl) (by kernel_rfl) rfl rfl (SameFs.str (by decide) Tryd.underlying9 rfl (SameFs.str (by decide) Tryd.underlying9 rfl (SameFs.int (by decide) Tryd.underlying5 rfl (SameFs.int (by decide) Tryd.underlying28 rfl (SameFs.sub (by decide) Tryd.underlying47 (by kernel_rfl) sz47 (EqFs.int (by decide) Tryd.underlying28 rfl rfl (EqFs.int (by decide) Tryd.underlying2 rfl rfl EqFs.nil)) (by simp) (SameFs.sub (by decide) Tryd.underlying49 (by kernel_rfl) sz49 (EqFs.int (by decide) Tryd.underlying5 rfl rfl (EqFs.bool (by decide) Tryd.underlying4 rfl rfl EqFs.nil)) (by simp) SameFs.nil))))))) rfl rfl rfl ?_
    refine KD.fin 1 rfl (KQ.normBlock (KQ.r (KL.run 1 rfl ?_)))
    refine KL.q ((R.add rfl rfl rfl (by have := m1.i.len; dsimp only [InR]; omega)).val (congrArg (Value.int .i64) (show (k : Int) + 1 = ((k + 1 : Nat) : Int) by omega))) rfl ?_
    refine KL.fin 1 rfl ?_
    refine KQ.again (k + 1) ?_ ?_ ?_
    · exact Sub.all rfl
    · show m.imports.length - (k + 1) < m.imports.length - k; omega
    exact ⟨by omega, o0, bx, by_⟩
  intro hg153
  refine KL.fin 2 rfl (KQ.seq (KC.condF rfl (KC.exit (KQ.exitThen (KQ.exitThen (KQ.hit (KQ.seq (KC.seq (KC.sr (KL.fin 1 rfl (KQ.seq (KC.block ?_))))))))))))
  refine KC.loopD (κ := Nat) [169, 170, 171, 172, 173, 174, 175, 176, 179, 180, 181, 182, 183, 184, 185, 186, 187, 188, 189, 190, 191, 192, 193, 194, 195, 196, 197, 198, 199, 200, 201, 202, 203, 204, 205, 206, 5, 177, 178, 8] (fun k => [(5, .bool true), (8, .int .i64 (k : Nat))]) (fun k Hl => k ≤ m.globs.length ∧ Old H Hl ∧ Hl[Array.size H]? = some (.cells [t, i, f, tb, me, g, e, .bool m.hasStart, .int .u32 m.start, el, c, d].toArray 33 (0, 0)) ∧ Hl[Array.size H1]? = some (.cells [t', i', f', tb', me', g', e', .bool m.hasStart, .int .u32 m.start, el', c', d'].toArray 33 (0, 0))) (fun k => m.globs.length - k) 0 ?_ ?_ ?_
  · exact Sub.all rfl
  · exact ⟨Nat.zero_le _, o0, bx, by_⟩
  rintro k H6 ⟨hk, o0, bx, by_⟩
  have zl_H6 := o0.1
  have zl := o0.1
  refine KC.seq (KC.sr (KL.run 2 rfl (KL.ld rfl (cell_of bx rfl) (KL.q (R.lenS rfl Tryd.underlying26 rfl m1.g) rfl (KL.run 2 rfl ?_)))))
  refine KL.cq 174 rfl ?_ ?_
  · intro hg174
    obtain ⟨a1, hca, ha1, _⟩ := (m1.g.old o0).gloAt k (by omega)
    obtain ⟨b1_, hcb, hb1, _⟩ := (m2.g.old o0).gloAt k (by omega)
    have hcaT : CellsH H6 _ [.int .u8 (m.globs.getD k default).1.1, .bool (m.globs.getD k default).1.2] := fun i v hv => hca i v (by match i, hv with | 0, hv => exact hv | 1, hv => exact hv)
    have hcbT : CellsH H6 _ [.int .u8 (m.globs.getD k default).1.1, .bool (m.globs.getD k default).1.2] := fun i v hv => hcb i v (by match i, hv with | 0, hv => exact hv | 1, hv => exact hv)
    refine KL.fin 2 rfl (KQ.seq (KC.condT rfl (KC.skip (KQ.seq (KC.seq (KC.block ?_))))))
    refine KC.grow (by kernel_rfl) (by kernel_rfl) ?_
    refine KG.op (fun Hg og => (R.fieldAddr rfl Tryd.underlying33 rfl rfl sz26 rfl)) rfl rfl rfl ?_
    refine KG.op (fun Hg og => R.load rfl Tryd.underlying26 rfl rfl (cell_of (og.blk bx) rfl)) rfl rfl rfl ?_
    refine KG.op (fun Hg og => R.move rfl rfl) rfl rfl rfl ?_
    refine KG.op (fun Hg og => R.index (j := k) rfl Tryd.underlying26 sz54 rfl rfl m1.g rfl (by omega)) rfl rfl rfl ?_
    refine KG.op (fun Hg og => (R.fieldAddrP rfl Tryd.underlying54 rfl rfl sz49 rfl)) rfl rfl rfl ?_
    refine KG.op (fun Hg og => R.loadAgg rfl Tryd.underlying49 rfl sz49 rfl (og.cells hcaT) rfl) rfl rfl rfl ?_
    refine KG.op (fun Hg og => (R.fieldAddr rfl Tryd.underlying33 rfl rfl sz26 rfl)) rfl rfl rfl ?_
    refine KG.op (fun Hg og => R.load rfl Tryd.underlying26 rfl rfl (cell_of (og.blk by_) rfl)) rfl rfl rfl ?_
    refine KG.op (fun Hg og => R.move rfl rfl) rfl rfl rfl ?_
    refine KG.op (fun Hg og => R.index (j := k) rfl Tryd.underlying26 sz54 rfl rfl m2.g rfl (by omega)) rfl rfl rfl ?_
    refine KG.op (fun Hg og => (R.fieldAddrP rfl Tryd.underlying54 rfl rfl sz49 rfl)) rfl rfl rfl ?_
    refine KG.op (fun Hg og => R.loadAgg rfl Tryd.underlying49 rfl sz49 rfl (og.cells hcbT) rfl) rfl rfl rfl ?_
    refine KG.op (fun Hg og => (R.eqlSt rfl Tryd.underlying49 (by kernel_rfl) (by kernel_rfl) rfl rfl (EqFs.int (by decide) Tryd.underlying5 rfl rfl (EqFs.bool (by decide) Tryd.underlying4 rfl rfl EqFs.nil))).val (congrArg Value.bool (show _ = true from by simp))) rfl rfl rfl ?_
    refine KG.op (fun Hg og => R.move rfl rfl) rfl rfl rfl ?_
    refine KG.op (fun Hg og => (R.fieldAddr rfl Tryd.underlying33 rfl rfl sz26 rfl)) rfl rfl rfl ?_
    refine KG.op (fun Hg og => R.load rfl Tryd.underlying26 rfl rfl (cell_of (og.blk bx) rfl)) rfl rfl rfl ?_
    refine KG.op (fun Hg og => R.move rfl rfl) rfl rfl rfl ?_
    refine KG.op (fun Hg og => R.index (j := k) rfl Tryd.underlying26 sz54 rfl rfl m1.g rfl (by omega)) rfl rfl rfl ?_
    refine KG.op (fun Hg og => (R.fieldAddrP rfl Tryd.underlying54 rfl rfl sz52 rfl)) rfl rfl rfl ?_
    refine KG.op (fun Hg og => R.load rfl Tryd.underlying52 rfl rfl (og.cell (hca 2 _ rfl))) rfl rfl rfl ?_
    refine KG.op (fun Hg og => (R.fieldAddr rfl Tryd.underlying33 rfl rfl sz26 rfl)) rfl rfl rfl ?_
    refine KG.op (fun Hg og => R.load rfl Tryd.underlying26 rfl rfl (cell_of (og.blk by_) rfl)) rfl rfl rfl ?_
    refine KG.op (fun Hg og => R.move rfl rfl) rfl rfl rfl ?_
    refine KG.op (fun Hg og => R.index (j := k) rfl Tryd.underlying26 sz54 rfl rfl m2.g rfl (by omega)) rfl rfl rfl ?_
    refine KG.op (fun Hg og => (R.fieldAddrP rfl Tryd.underlying54 rfl rfl sz52 rfl)) rfl rfl rfl ?_
    refine KG.op (fun Hg og => R.load rfl Tryd.underlying52 rfl rfl (og.cell (hcb 2 _ rfl))) rfl rfl rfl ?_
    refine KG.call rfl rfl rfl rfl Tryd.call59 rfl rfl rfl (fun Hg og => SameAll_refl (ha1.old og) (hb1.old og)) ?_
    refine KG.op (fun Hg og => R.pick rfl rfl rfl) rfl rfl rfl ?_
    refine KG.op (fun Hg og => R.assign rfl rfl) rfl rfl rfl ?_
    refine KG.nil ?_
    intro H7 ogH7
    have o0 := o0.trans ogH7
    have bx := (ogH7).blk bx
    have by_ := (ogH7).blk by_
    have zH7 := ogH7.1
    refine KQ.normBlock (KQ.r (KL.run 1 rfl ?_))
    refine KL.q ((R.add rfl rfl rfl (by have := m1.g.len; dsimp only [InR]; omega)).val (congrArg (Value.int .i64) (show (k : Int) + 1 = ((k + 1 : Nat) : Int) by omega))) rfl ?_
    refine KL.fin 1 rfl ?_
    refine KQ.again (k + 1) ?_ ?_ ?_
    · exact Sub.all rfl
    · show m.globs.length - (k + 1) < m.globs.length - k; omega
    exact ⟨by omega, o0, bx, by_⟩
  intro hg174
  refine KL.fin 2 rfl (KQ.seq (KC.condF rfl (KC.exit (KQ.exitThen (KQ.exitThen (KQ.hit (KQ.seq (KC.seq (KC.sr (KL.fin 1 rfl (KQ.seq (KC.block ?_))))))))))))
  refine KC.loopD (κ := Nat) [207, 208, 209, 210, 211, 212, 213, 214, 217, 218, 219, 220, 221, 222, 223, 224, 225, 226, 227, 5, 215, 216, 9] (fun k => [(5, .bool true), (9, .int .i64 (k : Nat))]) (fun k Hl => k ≤ m.exports.length ∧ Old H Hl ∧ Hl[Array.size H]? = some (.cells [t, i, f, tb, me, g, e, .bool m.hasStart, .int .u32 m.start, el, c, d].toArray 33 (0, 0)) ∧ Hl[Array.size H1]? = some (.cells [t', i', f', tb', me', g', e', .bool m.hasStart, .int .u32 m.start, el', c', d'].toArray 33 (0, 0))) (fun k => m.exports.length - k) 0 ?_ ?_ ?_
  · exact Sub.all rfl
  · exact ⟨Nat.zero_le _, o0, bx, by_⟩
  rintro k H8 ⟨hk, o0, bx, by_⟩
  have zl_H8 := o0.1
  have zl := o0.1
  refine KC.seq (KC.sr (KL.run 2 rfl (KL.ld rfl (cell_of bx rfl) (KL.q (R.lenS rfl Tryd.underlying27 rfl m1.e) rfl (KL.run 2 rfl ?_)))))
  refine KL.cq 212 rfl ?_ ?_
  · intro hg212
    refine KL.fin 2 rfl (KQ.seq (KC.condT rfl (KC.skip (KQ.seq (KC.seq (KC.block (KC.quiet (by kernel_rfl) (by kernel_rfl) (KD.run 1 rfl (KD.ld rfl (cell_of bx rfl) (KD.run 1 rfl ?_))))))))))
    refine KD.op (R.index (j := k) rfl Tryd.underlying27 sz76 rfl rfl m1.e rfl (by omega)) rfl rfl rfl ?_
    refine KD.op (R.loadAgg rfl Tryd.underlying76 rfl sz76 rfl ((m1.e.old o0).expAt k (by omega)) rfl) rfl rfl rfl ?_
    refine KD.run 1 rfl (KD.ld rfl (cell_of by_ rfl) (KD.run 1 rfl ?_))
    refine KD.op (R.index (j := k) rfl Tryd.underlying27 sz76 rfl rfl m2.e rfl (by omega)) rfl rfl rfl ?_
    refine KD.op (R.loadAgg rfl Tryd.underlying76 rfl sz76 rfl ((m2.e.old o0).expAt k (by omega)) rfl) rfl rfl rfl ?_
    refine KD.op (R.eqlSame rfl Tryd.underlying76 (by kernel_rfl) (by kernel_rfl) rfl rfl (SameFs.str (by decide) Tryd.underlying9 rfl (SameFs.int (by decide) Tryd.underlying5 rfl (SameFs.int (by decide) Tryd.underlying28 rfl SameFs.nil)))) rfl rfl rfl (KD.fin 1 rfl (KQ.normBlock (KQ.r (KL.run 1 rfl ?_))))
    refine KL.q ((R.add rfl rfl rfl (by have := m1.e.len; dsimp only [InR]; omega)).val (congrArg (Value.int .i64) (show (k : Int) + 1 = ((k + 1 : Nat) : Int) by omega))) rfl ?_
    refine KL.fin 1 rfl ?_
    refine KQ.again (k + 1) ?_ ?_ ?_
    · exact Sub.all rfl
    · show m.exports.length - (k + 1) < m.exports.length - k; omega
    exact ⟨by omega, o0, bx, by_⟩
  intro hg212
  refine KL.fin 2 rfl (KQ.seq (KC.condF rfl (KC.exit (KQ.exitThen (KQ.exitThen (KQ.hit (KQ.seq (KC.seq (KC.sr (KL.fin 1 rfl (KQ.seq (KC.block ?_))))))))))))
  refine KC.loopD (κ := Nat) [228, 229, 230, 231, 232, 233, 234, 235, 238, 239, 240, 241, 242, 243, 244, 245, 246, 247, 248, 249, 250, 251, 252, 253, 254, 255, 256, 257, 258, 259, 260, 261, 262, 263, 264, 265, 266, 267, 268, 269, 270, 271, 272, 273, 274, 275, 276, 277, 278, 279, 280, 5, 236, 237, 10] (fun k => [(5, .bool true), (10, .int .i64 (k : Nat))]) (fun k Hl => k ≤ m.elems.length ∧ Old H Hl ∧ Hl[Array.size H]? = some (.cells [t, i, f, tb, me, g, e, .bool m.hasStart, .int .u32 m.start, el, c, d].toArray 33 (0, 0)) ∧ Hl[Array.size H1]? = some (.cells [t', i', f', tb', me', g', e', .bool m.hasStart, .int .u32 m.start, el', c', d'].toArray 33 (0, 0))) (fun k => m.elems.length - k) 0 ?_ ?_ ?_
  · exact Sub.all rfl
  · exact ⟨Nat.zero_le _, o0, bx, by_⟩
  rintro k H9 ⟨hk, o0, bx, by_⟩
  have zl_H9 := o0.1
  have zl := o0.1
  refine KC.seq (KC.sr (KL.run 2 rfl (KL.ld rfl (cell_of bx rfl) (KL.q (R.lenS rfl Tryd.underlying29 rfl m1.el) rfl (KL.run 2 rfl ?_)))))
  refine KL.cq 233 rfl ?_ ?_
  · intro hg233
    obtain ⟨a1, a2, hca, ha1, ha2⟩ := (m1.el.old o0).elmAt k (by omega)
    obtain ⟨b1_, b2_, hcb, hb1, hb2⟩ := (m2.el.old o0).elmAt k (by omega)
    refine KL.fin 2 rfl (KQ.seq (KC.condT rfl (KC.skip (KQ.seq (KC.seq (KC.block ?_))))))
    refine KC.grow (by kernel_rfl) (by kernel_rfl) ?_
    refine KG.op (fun Hg og => (R.fieldAddr rfl Tryd.underlying33 rfl rfl sz29 rfl)) rfl rfl rfl ?_
    refine KG.op (fun Hg og => R.load rfl Tryd.underlying29 rfl rfl (cell_of (og.blk bx) rfl)) rfl rfl rfl ?_
    refine KG.op (fun Hg og => R.move rfl rfl) rfl rfl rfl ?_
    refine KG.op (fun Hg og => R.index (j := k) rfl Tryd.underlying29 sz62 rfl rfl m1.el rfl (by omega)) rfl rfl rfl ?_
    refine KG.op (fun Hg og => (R.fieldAddrP rfl Tryd.underlying62 rfl rfl sz28 rfl)) rfl rfl rfl ?_
    refine KG.op (fun Hg og => R.load rfl Tryd.underlying28 rfl rfl (og.cell (hca 0 _ rfl))) rfl rfl rfl ?_
    refine KG.op (fun Hg og => (R.fieldAddr rfl Tryd.underlying33 rfl rfl sz29 rfl)) rfl rfl rfl ?_
    refine KG.op (fun Hg og => R.load rfl Tryd.underlying29 rfl rfl (cell_of (og.blk by_) rfl)) rfl rfl rfl ?_
    refine KG.op (fun Hg og => R.move rfl rfl) rfl rfl rfl ?_
    refine KG.op (fun Hg og => R.index (j := k) rfl Tryd.underlying29 sz62 rfl rfl m2.el rfl (by omega)) rfl rfl rfl ?_
    refine KG.op (fun Hg og => (R.fieldAddrP rfl Tryd.underlying62 rfl rfl sz28 rfl)) rfl rfl rfl ?_
    refine KG.op (fun Hg og => R.load rfl Tryd.underlying28 rfl rfl (og.cell (hcb 0 _ rfl))) rfl rfl rfl ?_
    refine KG.op (fun Hg og => (R.eql rfl rfl rfl).val (congrArg Value.bool (decide_eq_true rfl))) rfl rfl rfl ?_
    refine KG.op (fun Hg og => R.move rfl rfl) rfl rfl rfl ?_
    refine KG.op (fun Hg og => (R.fieldAddr rfl Tryd.underlying33 rfl rfl sz29 rfl)) rfl rfl rfl ?_
    refine KG.op (fun Hg og => R.load rfl Tryd.underlying29 rfl rfl (cell_of (og.blk bx) rfl)) rfl rfl rfl ?_
    refine KG.op (fun Hg og => R.move rfl rfl) rfl rfl rfl ?_
    refine KG.op (fun Hg og => R.index (j := k) rfl Tryd.underlying29 sz62 rfl rfl m1.el rfl (by omega)) rfl rfl rfl ?_
    refine KG.op (fun Hg og => (R.fieldAddrP rfl Tryd.underlying62 rfl rfl sz52 rfl)) rfl rfl rfl ?_
    refine KG.op (fun Hg og => R.load rfl Tryd.underlying52 rfl rfl (og.cell (hca 1 _ rfl))) rfl rfl rfl ?_
    refine KG.op (fun Hg og => (R.fieldAddr rfl Tryd.underlying33 rfl rfl sz29 rfl)) rfl rfl rfl ?_
    refine KG.op (fun Hg og => R.load rfl Tryd.underlying29 rfl rfl (cell_of (og.blk by_) rfl)) rfl rfl rfl ?_
    refine KG.op (fun Hg og => R.move rfl rfl) rfl rfl rfl ?_
    refine KG.op (fun Hg og => R.index (j := k) rfl Tryd.underlying29 sz62 rfl rfl m2.el rfl (by omega)) rfl rfl rfl ?_
    refine KG.op (fun Hg og => (R.fieldAddrP rfl Tryd.underlying62 rfl rfl sz52 rfl)) rfl rfl rfl ?_
    refine KG.op (fun Hg og => R.load rfl Tryd.underlying52 rfl rfl (og.cell (hcb 1 _ rfl))) rfl rfl rfl ?_
    refine KG.call rfl rfl rfl rfl Tryd.call59 rfl rfl rfl (fun Hg og => SameAll_refl (ha1.old og) (hb1.old og)) ?_
    refine KG.op (fun Hg og => R.pick rfl rfl rfl) rfl rfl rfl ?_
    refine KG.op (fun Hg og => R.move rfl rfl) rfl rfl rfl ?_
    refine KG.op (fun Hg og => (R.fieldAddr rfl Tryd.underlying33 rfl rfl sz29 rfl)) rfl rfl rfl ?_
    refine KG.op (fun Hg og => R.load rfl Tryd.underlying29 rfl rfl (cell_of (og.blk bx) rfl)) rfl rfl rfl ?_
    refine KG.op (fun Hg og => R.move rfl rfl) rfl rfl rfl ?_
    refine KG.op (fun Hg og => R.index (j := k) rfl Tryd.underlying29 sz62 rfl rfl m1.el rfl (by omega)) rfl rfl rfl ?_
    refine KG.op (fun Hg og => (R.fieldAddrP rfl Tryd.underlying62 rfl rfl sz24 rfl)) rfl rfl rfl ?_
    refine KG.op (fun Hg og => R.load rfl Tryd.underlying24 rfl rfl (og.cell (hca 2 _ rfl))) rfl rfl rfl ?_
    refine KG.op (fun Hg og => (R.fieldAddr rfl Tryd.underlying33 rfl rfl sz29 rfl)) rfl rfl rfl ?_
    refine KG.op (fun Hg og => R.load rfl Tryd.underlying29 rfl rfl (cell_of (og.blk by_) rfl)) rfl rfl rfl ?_
    refine KG.op (fun Hg og => R.move rfl rfl) rfl rfl rfl ?_
    refine KG.op (fun Hg og => R.index (j := k) rfl Tryd.underlying29 sz62 rfl rfl m2.el rfl (by omega)) rfl rfl rfl ?_
    refine KG.op (fun Hg og => (R.fieldAddrP rfl Tryd.underlying62 rfl rfl sz24 rfl)) rfl rfl rfl ?_
    refine KG.op (fun Hg og => R.load rfl Tryd.underlying24 rfl rfl (og.cell (hcb 2 _ rfl))) rfl rfl rfl ?_
    refine KG.call rfl rfl rfl rfl Tryd.call56 rfl rfl rfl (fun Hg og => (SameN_refl (ha2.old og) (hb2.old og)).mono (fun _ _ ⟨a, b⟩ => ⟨a, b ▸ Old.refl _⟩)) ?_
    refine KG.op (fun Hg og => R.pick rfl rfl rfl) rfl rfl rfl ?_
    refine KG.op (fun Hg og => R.assign rfl rfl) rfl rfl rfl ?_
    refine KG.nil ?_
    intro H10 ogH10
    have o0 := o0.trans ogH10
    have bx := (ogH10).blk bx
    have by_ := (ogH10).blk by_
    have zH10 := ogH10.1
    refine KQ.normBlock (KQ.r (KL.run 1 rfl ?_))
    refine KL.q ((R.add rfl rfl rfl (by have := m1.el.len; dsimp only [InR]; omega)).val (congrArg (Value.int .i64) (show (k : Int) + 1 = ((k + 1 : Nat) : Int) by omega))) rfl ?_
    refine KL.fin 1 rfl ?_
    refine KQ.again (k + 1) ?_ ?_ ?_
    · exact Sub.all rfl
    · show m.elems.length - (k + 1) < m.elems.length - k; omega
    exact ⟨by omega, o0, bx, by_⟩
  intro hg233
  refine KL.fin 2 rfl (KQ.seq (KC.condF rfl (KC.exit (KQ.exitThen (KQ.exitThen (KQ.hit (KQ.seq (KC.seq (KC.sr (KL.fin 1 rfl (KQ.seq (KC.block ?_))))))))))))
  refine KC.loopD (κ := Nat) [281, 282, 283, 284, 285, 286, 287, 288, 291, 292, 293, 294, 295, 296, 297, 298, 299, 300, 301, 302, 303, 304, 305, 306, 307, 308, 309, 310, 311, 312, 313, 314, 315, 316, 317, 318, 319, 320, 321, 322, 323, 324, 325, 326, 327, 328, 329, 330, 331, 332, 333, 334, 335, 5, 289, 290, 11] (fun k => [(5, .bool true), (11, .int .i64 (k : Nat))]) (fun k Hl => k ≤ m.datas.length ∧ Old H Hl ∧ Hl[Array.size H]? = some (.cells [t, i, f, tb, me, g, e, .bool m.hasStart, .int .u32 m.start, el, c, d].toArray 33 (0, 0)) ∧ Hl[Array.size H1]? = some (.cells [t', i', f', tb', me', g', e', .bool m.hasStart, .int .u32 m.start, el', c', d'].toArray 33 (0, 0))) (fun k => m.datas.length - k) 0 ?_ ?_ ?_
  · exact Sub.all rfl
  · exact ⟨Nat.zero_le _, o0, bx, by_⟩
  rintro k H11 ⟨hk, o0, bx, by_⟩
  have zl_H11 := o0.1
  have zl := o0.1
  refine KC.seq (KC.sr (KL.run 2 rfl (KL.ld rfl (cell_of bx rfl) (KL.q (R.lenS rfl Tryd.underlying31 rfl m1.d) rfl (KL.run 2 rfl ?_)))))
  refine KL.cq 286 rfl ?_ ?_
  · intro hg286
    obtain ⟨a1, a2, hca, ha1, ha2⟩ := (m1.d.old o0).datAt k (by omega)
    obtain ⟨b1_, b2_, hcb, hb1, hb2⟩ := (m2.d.old o0).datAt k (by omega)
    refine KL.fin 2 rfl (KQ.seq (KC.condT rfl (KC.skip (KQ.seq (KC.seq (KC.block ?_))))))
    refine KC.grow (by kernel_rfl) (by kernel_rfl) ?_
    refine KG.op (fun Hg og => (R.fieldAddr rfl Tryd.underlying33 rfl rfl sz31 rfl)) rfl rfl rfl ?_
    refine KG.op (fun Hg og => R.load rfl Tryd.underlying31 rfl rfl (cell_of (og.blk bx) rfl)) rfl rfl rfl ?_
    refine KG.op (fun Hg og => R.move rfl rfl) rfl rfl rfl ?_
    refine KG.op (fun Hg og => R.index (j := k) rfl Tryd.underlying31 sz64 rfl rfl m1.d rfl (by omega)) rfl rfl rfl ?_
    refine KG.op (fun Hg og => (R.fieldAddrP rfl Tryd.underlying64 rfl rfl sz28 rfl)) rfl rfl rfl ?_
    refine KG.op (fun Hg og => R.load rfl Tryd.underlying28 rfl rfl (og.cell (hca 0 _ rfl))) rfl rfl rfl ?_
    refine KG.op (fun Hg og => (R.fieldAddr rfl Tryd.underlying33 rfl rfl sz31 rfl)) rfl rfl rfl ?_
    refine KG.op (fun Hg og => R.load rfl Tryd.underlying31 rfl rfl (cell_of (og.blk by_) rfl)) rfl rfl rfl ?_
    refine KG.op (fun Hg og => R.move rfl rfl) rfl rfl rfl ?_
    refine KG.op (fun Hg og => R.index (j := k) rfl Tryd.underlying31 sz64 rfl rfl m2.d rfl (by omega)) rfl rfl rfl ?_
    refine KG.op (fun Hg og => (R.fieldAddrP rfl Tryd.underlying64 rfl rfl sz28 rfl)) rfl rfl rfl ?_
    refine KG.op (fun Hg og => R.load rfl Tryd.underlying28 rfl rfl (og.cell (hcb 0 _ rfl))) rfl rfl rfl ?_
    refine KG.op (fun Hg og => (R.eql rfl rfl rfl).val (congrArg Value.bool (decide_eq_true rfl))) rfl rfl rfl ?_
    refine KG.op (fun Hg og => R.move rfl rfl) rfl rfl rfl ?_
    refine KG.op (fun Hg og => (R.fieldAddr rfl Tryd.underlying33 rfl rfl sz31 rfl)) rfl rfl rfl ?_
    refine KG.op (fun Hg og => R.load rfl Tryd.underlying31 rfl rfl (cell_of (og.blk bx) rfl)) rfl rfl rfl ?_
    refine KG.op (fun Hg og => R.move rfl rfl) rfl rfl rfl ?_
    refine KG.op (fun Hg og => R.index (j := k) rfl Tryd.underlying31 sz64 rfl rfl m1.d rfl (by omega)) rfl rfl rfl ?_
    refine KG.op (fun Hg og => (R.fieldAddrP rfl Tryd.underlying64 rfl rfl sz52 rfl)) rfl rfl rfl ?_
    refine KG.op (fun Hg og => R.load rfl Tryd.underlying52 rfl rfl (og.cell (hca 1 _ rfl))) rfl rfl rfl ?_
    refine KG.op (fun Hg og => (R.fieldAddr rfl Tryd.underlying33 rfl rfl sz31 rfl)) rfl rfl rfl ?_
    refine KG.op (fun Hg og => R.load rfl Tryd.underlying31 rfl rfl (cell_of (og.blk by_) rfl)) rfl rfl rfl ?_
    refine KG.op (fun Hg og => R.move rfl rfl) rfl rfl rfl ?_
    refine KG.op (fun Hg og => R.index (j := k) rfl Tryd.underlying31 sz64 rfl rfl m2.d rfl (by omega)) rfl rfl rfl ?_
    refine KG.op (fun Hg og => (R.fieldAddrP rfl Tryd.underlying64 rfl rfl sz52 rfl)) rfl rfl rfl ?_
    refine KG.op (fun Hg og => R.load rfl Tryd.underlying52 rfl rfl (og.cell (hcb 1 _ rfl))) rfl rfl rfl ?_
    refine KG.call rfl rfl rfl rfl Tryd.call59 rfl rfl rfl (fun Hg og => SameAll_refl (ha1.old og) (hb1.old og)) ?_
    refine KG.op (fun Hg og => R.pick rfl rfl rfl) rfl rfl rfl ?_
    refine KG.op (fun Hg og => R.move rfl rfl) rfl rfl rfl ?_
    refine KG.op (fun Hg og => (R.fieldAddr rfl Tryd.underlying33 rfl rfl sz31 rfl)) rfl rfl rfl ?_
    refine KG.op (fun Hg og => R.load rfl Tryd.underlying31 rfl rfl (cell_of (og.blk bx) rfl)) rfl rfl rfl ?_
    refine KG.op (fun Hg og => R.move rfl rfl) rfl rfl rfl ?_
    refine KG.op (fun Hg og => R.index (j := k) rfl Tryd.underlying31 sz64 rfl rfl m1.d rfl (by omega)) rfl rfl rfl ?_
    refine KG.op (fun Hg og => (R.fieldAddrP rfl Tryd.underlying64 rfl rfl sz36 rfl)) rfl rfl rfl ?_
    refine KG.op (fun Hg og => R.load rfl Tryd.underlying36 rfl rfl (og.cell (hca 2 _ rfl))) rfl rfl rfl ?_
    refine KG.op (fun Hg og => R.convBS rfl Tryd.underlying36 Tryd.underlying5 Tryd.underlying9 rfl (ha2.old og)) rfl rfl rfl ?_
    refine KG.op (fun Hg og => (R.fieldAddr rfl Tryd.underlying33 rfl rfl sz31 rfl)) rfl rfl rfl ?_
    refine KG.op (fun Hg og => R.load rfl Tryd.underlying31 rfl rfl (cell_of (og.blk by_) rfl)) rfl rfl rfl ?_
    refine KG.op (fun Hg og => R.move rfl rfl) rfl rfl rfl ?_
    refine KG.op (fun Hg og => R.index (j := k) rfl Tryd.underlying31 sz64 rfl rfl m2.d rfl (by omega)) rfl rfl rfl ?_
    refine KG.op (fun Hg og => (R.fieldAddrP rfl Tryd.underlying64 rfl rfl sz36 rfl)) rfl rfl rfl ?_
    refine KG.op (fun Hg og => R.load rfl Tryd.underlying36 rfl rfl (og.cell (hcb 2 _ rfl))) rfl rfl rfl ?_
    refine KG.op (fun Hg og => R.convBS rfl Tryd.underlying36 Tryd.underlying5 Tryd.underlying9 rfl (hb2.old og)) rfl rfl rfl ?_
    refine KG.op (fun Hg og => (R.eqlStr rfl rfl rfl).val (congrArg Value.bool (show _ = true from by simp))) rfl rfl rfl ?_
    refine KG.op (fun Hg og => R.pick rfl rfl rfl) rfl rfl rfl ?_
    refine KG.op (fun Hg og => R.assign rfl rfl) rfl rfl rfl ?_
    refine KG.nil ?_
    intro H12 ogH12
    have o0 := o0.trans ogH12
    have bx := (ogH12).blk bx
    have by_ := (ogH12).blk by_
    have zH12 := ogH12.1
    refine KQ.normBlock (KQ.r (KL.run 1 rfl ?_))
    refine KL.q ((R.add rfl rfl rfl (by have := m1.d.len; dsimp only [InR]; omega)).val (congrArg (Value.int .i64) (show (k : Int) + 1 = ((k + 1 : Nat) : Int) by omega))) rfl ?_
    refine KL.fin 1 rfl ?_
    refine KQ.again (k + 1) ?_ ?_ ?_
    · exact Sub.all rfl
    · show m.datas.length - (k + 1) < m.datas.length - k; omega
    exact ⟨by omega, o0, bx, by_⟩
  intro hg286
  refine KL.fin 2 rfl (KQ.seq (KC.condF rfl (KC.exit (KQ.exitThen (KQ.exitThen (KQ.hit (KQ.sr (KL.fin 2 rfl (KQ.seq (KC.ret (KQ.ofRet ?_)))))))))))
  refine KQ.fin1 Tryd.results12 rfl ?_
  exact ⟨rfl, o0⟩
end Go.Proofs.YtldmfchamcpmmaaDoor
namespace Go.Proofs.YtldmfchamcpmmaaDoor
open Go Go.RowKit
set_option linter.unusedVariables false
set_option linter.unusedSimpArgs false
set_option linter.unnecessarySimpa false
namespace Bn
theorem mapE_ok {α β : Type} {f : α → β} {x : Except Int α} {y : β} (h : mapE f x = .ok y) : ∃ z, x = .ok z ∧ y = f z := by
  cases x with
  | error e => cases h
  | ok z => injection h with h; exact ⟨z, rfl, h.symm⟩
end Bn
theorem Decode_is {H : Heap} {v : Value} {l : List Int} {m : Mo} {ec : Int} (hs : Sl 1 (EInt .u8) H v l) (hT : TabU H) (hd : Bn.decR l = (m, ec)) : Ct Tryd.prog 11 [v] H (fun u H' => Old H H' ∧ ∃ t i f tb me g e el c d, u = .tuple #[.agg [t, i, f, tb, me, g, e, .bool m.hasStart, .int .u32 m.start, el, c, d].toArray, .int .i64 ec] ∧ MoV H' t i f tb me g e el c d m) := by
  have h := Decode_any hs hT
  rw [hd] at h
  exact h
namespace Bn
theorem d1 : decR (Sc.beg ++ [1, 4, 1, 96, 0, 0, 3, 2, 1, 0, 10, 4, 1, 2, 0, 11]) = (⟨[([], [])], [], [0], [], [], [], [], false, 0, [], [([], [])], []⟩, 0) := by kernel_rfl
theorem d2 : decR (Sc.beg ++ [1, 5, 1, 96, 1, 125, 0]) = (mo0, 61) := by kernel_rfl
theorem d3 : decR (Sc.beg ++ [3, 2, 1, 0]) = (mo0, 60) := by kernel_rfl
theorem d4 : decR (Sc.beg ++ [5, 3, 1, 0, 2]) = (⟨[], [], [], [], [(2, -1)], [], [], false, 0, [], [], []⟩, 0) := by kernel_rfl
theorem d5 : decR (Sc.beg ++ [5, 4, 1, 1, 2, 3]) = (⟨[], [], [], [], [(2, 3)], [], [], false, 0, [], [], []⟩, 0) := by kernel_rfl
end Bn
theorem of_any {H : Heap} {v : Value} {l : List Int} (hs : Sl 1 (EInt .u8) H v l) (hl : l.length ≤ 1000) : Ct Tryd.prog 52 [v] H (fun u H' => Sl 1 (EInt .u8) H' u (Sc.beg ++ l) ∧ Old H H') := by
  refine Ct.mk Tryd.func52 rfl Tryd.ntmps52 rfl ?_
  intro W0 hW0
  have o0 : Old H H := Old.refl H
  refine KC.sr (KL.fin 1 rfl (KQ.sr ?_))
  refine KL.c rfl Tryd.call17 (Begin_any) ?_
  rintro vb H1 ⟨wa, ox⟩
  have zc_H1 := (ox).1
  have o0 := o0.trans ox
  have hbl : Sc.beg.length = 8 := rfl
  refine KL.run 1 rfl ?_
  have lt2 := wa.lt
  refine KL.m (M.append rfl Tryd.underlying36 inf5 rfl (by decide) rfl rfl wa (by exact hs.old o0) (fun _ _ h _ => h) (by omega) (by omega) (by unfold maxLen; omega)) rfl ?_
  rintro vn H2 ⟨w2, g2⟩
  have ob2 := g2.oldB wa (by omega)
  have o0 := o0.then ob2 (by omega)
  have z2 := ob2.1
  have wa := w2
  refine KL.fin 1 rfl (KQ.seq (KC.ret (KQ.ofRet (KQ.fin1 Tryd.results52 rfl ?_))))
  exact ⟨wa.sl (emptyOld _) (by decide), o0⟩
theorem bknown_any {H : Heap} (hT : TabU H) : Ct Tryd.prog 10 [] H (fun u H' => u = .bool true ∧ Old H H') := by
  refine Ct.mk Tryd.func10 rfl Tryd.ntmps10 rfl ?_
  intro W0 hW0
  have o0 : Old H H := Old.refl H
  refine KC.sr (KL.fin 1 rfl (KQ.sr ?_))
  refine KL.m (M.lit rfl Tryd.underlying36 zs5 (by decide) rfl rfl rfl) rfl ?_
  rintro _ H1 ⟨rfl, n1⟩
  have z1 := n1.2.1
  have o0 := o0.trans n1.1
  have b1 := n1.2.2
  have sa1 : Sl 1 (EInt .u8) H1 _ [1, 4, 1, 96, 0, 0, 3, 2, 1, 0, 10, 4, 1, 2, 0, 11] := Sl.lits (l := [1, 4, 1, 96, 0, 0, 3, 2, 1, 0, 10, 4, 1, 2, 0, 11]) n1 rfl (by simp) (by decide)
  refine KL.c rfl Tryd.call52 (of_any sa1 (by decide)) ?_
  rintro vo H2 ⟨so1, ox⟩
  have zc_H2 := (ox).1
  have o0 := o0.trans ox
  have sa1 := sa1.old ox
  refine KL.c rfl Tryd.call11 (Decode_is so1 (hT.old o0) Bn.d1) ?_
  rintro _ H3 ⟨ox, t1, i1, f1, tb1, me1, g1, e1, el1, c1, d1, rfl, mv1⟩
  have zc_H3 := (ox).1
  have o0 := o0.trans ox
  have sa1 := sa1.old ox
  have so1 := so1.old ox
  have oX1 : Old H3 H3 := Old.refl _
  refine KL.run 3 rfl ?_
  refine KL.m (M.alloc rfl zr33 rfl) rfl ?_
  rintro _ H4 ⟨rfl, n4⟩
  have z4 := n4.2.1
  have o0 := o0.trans n4.1
  have sa1 := sa1.old n4.1
  have so1 := so1.old n4.1
  have oX1 := oX1.trans n4.1
  have b4 := n4.2.2
  have bm1 := b4
  refine KL.opS (S.storeAgg rfl sz33 rfl rfl (rfl) (by intro z hz; simp only [List.mem_cons, List.not_mem_nil, or_false] at hz; rcases hz with rfl | rfl | rfl | rfl | rfl | rfl | rfl | rfl | rfl | rfl | rfl | rfl <;> first | rfl | exact mv1.t.one | exact mv1.i.one | exact mv1.f.one | exact mv1.tb.one | exact mv1.me.one | exact mv1.g.one | exact mv1.e.one | exact mv1.el.one | exact mv1.c.one | exact mv1.d.one) bm1 (by simp)) rfl rfl ?_
  rintro H5 ⟨u5, b5⟩
  have o0 := o0.upd u5 (by omega)
  have zu5 := u5.1
  have oX1 := oX1.upd u5 (by omega)
  have bm1 := b5
  rw [over_all (by rfl)] at bm1
  refine KL.fin 1 rfl (KQ.seq (KC.seq (KC.sr (KL.run 1 rfl (KL.q ((R.neq rfl rfl rfl).val ((congrArg (fun b => Value.bool (!b)) (decide_eq_true rfl)))) rfl (KL.run 1 rfl (KL.lda rfl (cells_of bm1) rfl (KL.b0 bt44 rfl rfl ?_))))))))
  refine KL.m (M.lit rfl Tryd.underlying22 zs44 (by decide) rfl rfl rfl) rfl ?_
  rintro _ H6 ⟨rfl, n6⟩
  have z6 := n6.2.1
  have o0 := o0.trans n6.1
  have oX1 := oX1.trans n6.1
  have bm1 := (n6.1).blk bm1
  have b6 := n6.2.2
  have s22 : Sl 2 EFTy H6 _ [(([] : List Int), ([] : List Int))] := Sl.lit1N n6 rfl (by decide) ⟨_, _, rfl, Sl.nil _ _ _, Sl.nil _ _ _⟩
  refine KL.m (M.lit rfl Tryd.underlying24 zs28 (by decide) rfl rfl rfl) rfl ?_
  rintro _ H7 ⟨rfl, n7⟩
  have z7 := n7.2.1
  have o0 := o0.trans n7.1
  have oX1 := oX1.trans n7.1
  have bm1 := (n7.1).blk bm1
  have s22 := s22.old n7.1
  have b7 := n7.2.2
  have s23 : Sl 1 (EInt .u32) H7 _ [0] := Sl.lits (l := [0]) n7 rfl (by simp) (by decide)
  refine KL.b0 bt58 rfl rfl ?_
  refine KL.m (M.lit rfl Tryd.underlying30 zs58 (by decide) rfl rfl rfl) rfl ?_
  rintro _ H8 ⟨rfl, n8⟩
  have z8 := n8.2.1
  have o0 := o0.trans n8.1
  have oX1 := oX1.trans n8.1
  have bm1 := (n8.1).blk bm1
  have s22 := s22.old n8.1
  have s23 := s23.old n8.1
  have b8 := n8.2.2
  have s25 : Sl 2 ECod H8 _ [(([] : List (Int × Int)), ([] : List Ins))] := Sl.lit1N n8 rfl (by decide) ⟨_, _, rfl, Sl.nil _ _ _, Sl.nil _ _ _⟩
  refine KL.b0 bt33 rfl rfl ?_
  refine KL.c rfl Tryd.call12 (Same_refl (mv1.old oX1) ⟨s22, (Sl.nil _ _ _), s23, (Sl.nil _ _ _), (Sl.nil _ _ _), (Sl.nil _ _ _), (Sl.nil _ _ _), (Sl.nil _ _ _), s25, (Sl.nil _ _ _), by decide⟩) ?_
  rintro _ H9 ⟨rfl, ox⟩
  have zc_H9 := (ox).1
  have o0 := o0.trans ox
  have oX1 := oX1.trans ox
  have bm1 := (ox).blk bm1
  have s22 := s22.old ox
  have s23 := s23.old ox
  have s25 := s25.old ox
  refine KL.fin 2 rfl (KQ.seq (KC.condF rfl (KC.skip (KQ.sr ?_))))
  refine KL.m (M.lit rfl Tryd.underlying36 zs5 (by decide) rfl rfl rfl) rfl ?_
  rintro _ H10 ⟨rfl, n10⟩
  have z10 := n10.2.1
  have o0 := o0.trans n10.1
  have oX1 := oX1.trans n10.1
  have bm1 := (n10.1).blk bm1
  have s22 := s22.old n10.1
  have s23 := s23.old n10.1
  have s25 := s25.old n10.1
  have b10 := n10.2.2
  have sa2 : Sl 1 (EInt .u8) H10 _ [1, 5, 1, 96, 1, 125, 0] := Sl.lits (l := [1, 5, 1, 96, 1, 125, 0]) n10 rfl (by simp) (by decide)
  refine KL.c rfl Tryd.call52 (of_any sa2 (by decide)) ?_
  rintro vo H11 ⟨so2, ox⟩
  have zc_H11 := (ox).1
  have o0 := o0.trans ox
  have oX1 := oX1.trans ox
  have bm1 := (ox).blk bm1
  have s22 := s22.old ox
  have s23 := s23.old ox
  have s25 := s25.old ox
  have sa2 := sa2.old ox
  refine KL.c rfl Tryd.call11 (Decode_is so2 (hT.old o0) Bn.d2) ?_
  rintro _ H12 ⟨ox, t2, i2, f2, tb2, me2, g2, e2, el2, c2, d2, rfl, mv2⟩
  have zc_H12 := (ox).1
  have o0 := o0.trans ox
  have oX1 := oX1.trans ox
  have bm1 := (ox).blk bm1
  have s22 := s22.old ox
  have s23 := s23.old ox
  have s25 := s25.old ox
  have sa2 := sa2.old ox
  have so2 := so2.old ox
  have oX2 : Old H12 H12 := Old.refl _
  refine KL.run 3 rfl ?_
  refine KL.m (M.alloc rfl zr33 rfl) rfl ?_
  rintro _ H13 ⟨rfl, n13⟩
  have z13 := n13.2.1
  have o0 := o0.trans n13.1
  have oX1 := oX1.trans n13.1
  have bm1 := (n13.1).blk bm1
  have s22 := s22.old n13.1
  have s23 := s23.old n13.1
  have s25 := s25.old n13.1
  have sa2 := sa2.old n13.1
  have so2 := so2.old n13.1
  have oX2 := oX2.trans n13.1
  have b13 := n13.2.2
  have bm2 := b13
  refine KL.opS (S.storeAgg rfl sz33 rfl rfl (rfl) (by intro z hz; simp only [List.mem_cons, List.not_mem_nil, or_false] at hz; rcases hz with rfl | rfl | rfl | rfl | rfl | rfl | rfl | rfl | rfl | rfl | rfl | rfl <;> first | rfl | exact mv2.t.one | exact mv2.i.one | exact mv2.f.one | exact mv2.tb.one | exact mv2.me.one | exact mv2.g.one | exact mv2.e.one | exact mv2.el.one | exact mv2.c.one | exact mv2.d.one) bm2 (by simp)) rfl rfl ?_
  rintro H14 ⟨u14, b14⟩
  have o0 := o0.upd u14 (by omega)
  have zu14 := u14.1
  have oX1 := oX1.upd u14 (by omega)
  have bm1 := ((u14).2 _ (by omega)).trans bm1
  have oX2 := oX2.upd u14 (by omega)
  have bm2 := b14
  rw [over_all (by rfl)] at bm2
  refine KL.fin 1 rfl (KQ.sr ?_)
  refine KL.m (M.lit rfl Tryd.underlying36 zs5 (by decide) rfl rfl rfl) rfl ?_
  rintro _ H15 ⟨rfl, n15⟩
  have z15 := n15.2.1
  have o0 := o0.trans n15.1
  have oX1 := oX1.trans n15.1
  have bm1 := (n15.1).blk bm1
  have oX2 := oX2.trans n15.1
  have bm2 := (n15.1).blk bm2
  have b15 := n15.2.2
  have sa3 : Sl 1 (EInt .u8) H15 _ [3, 2, 1, 0] := Sl.lits (l := [3, 2, 1, 0]) n15 rfl (by simp) (by decide)
  refine KL.c rfl Tryd.call52 (of_any sa3 (by decide)) ?_
  rintro vo H16 ⟨so3, ox⟩
  have zc_H16 := (ox).1
  have o0 := o0.trans ox
  have oX1 := oX1.trans ox
  have bm1 := (ox).blk bm1
  have oX2 := oX2.trans ox
  have bm2 := (ox).blk bm2
  have sa3 := sa3.old ox
  refine KL.c rfl Tryd.call11 (Decode_is so3 (hT.old o0) Bn.d3) ?_
  rintro _ H17 ⟨ox, t3, i3, f3, tb3, me3, g3, e3, el3, c3, d3, rfl, mv3⟩
  have zc_H17 := (ox).1
  have o0 := o0.trans ox
  have oX1 := oX1.trans ox
  have bm1 := (ox).blk bm1
  have oX2 := oX2.trans ox
  have bm2 := (ox).blk bm2
  have sa3 := sa3.old ox
  have so3 := so3.old ox
  have oX3 : Old H17 H17 := Old.refl _
  refine KL.run 3 rfl ?_
  refine KL.m (M.alloc rfl zr33 rfl) rfl ?_
  rintro _ H18 ⟨rfl, n18⟩
  have z18 := n18.2.1
  have o0 := o0.trans n18.1
  have oX1 := oX1.trans n18.1
  have bm1 := (n18.1).blk bm1
  have oX2 := oX2.trans n18.1
  have bm2 := (n18.1).blk bm2
  have sa3 := sa3.old n18.1
  have so3 := so3.old n18.1
  have oX3 := oX3.trans n18.1
  have b18 := n18.2.2
  have bm3 := b18
  refine KL.opS (S.storeAgg rfl sz33 rfl rfl (rfl) (by intro z hz; simp only [List.mem_cons, List.not_mem_nil, or_false] at hz; rcases hz with rfl | rfl | rfl | rfl | rfl | rfl | rfl | rfl | rfl | rfl | rfl | rfl <;> first | rfl | exact mv3.t.one | exact mv3.i.one | exact mv3.f.one | exact mv3.tb.one | exact mv3.me.one | exact mv3.g.one | exact mv3.e.one | exact mv3.el.one | exact mv3.c.one | exact mv3.d.one) bm3 (by simp)) rfl rfl ?_
  rintro H19 ⟨u19, b19⟩
  have o0 := o0.upd u19 (by omega)
  have zu19 := u19.1
  have oX1 := oX1.upd u19 (by omega)
  have bm1 := ((u19).2 _ (by omega)).trans bm1
  have oX2 := oX2.upd u19 (by omega)
  have bm2 := ((u19).2 _ (by omega)).trans bm2
  have oX3 := oX3.upd u19 (by omega)
  have bm3 := b19
  rw [over_all (by rfl)] at bm3
  refine KL.fin 1 rfl (KQ.sr ?_)
  refine KL.m (M.lit rfl Tryd.underlying36 zs5 (by decide) rfl rfl rfl) rfl ?_
  rintro _ H20 ⟨rfl, n20⟩
  have z20 := n20.2.1
  have o0 := o0.trans n20.1
  have oX1 := oX1.trans n20.1
  have bm1 := (n20.1).blk bm1
  have oX2 := oX2.trans n20.1
  have bm2 := (n20.1).blk bm2
  have oX3 := oX3.trans n20.1
  have bm3 := (n20.1).blk bm3
  have b20 := n20.2.2
  have sa4 : Sl 1 (EInt .u8) H20 _ [5, 3, 1, 0, 2] := Sl.lits (l := [5, 3, 1, 0, 2]) n20 rfl (by simp) (by decide)
  refine KL.c rfl Tryd.call52 (of_any sa4 (by decide)) ?_
  rintro vo H21 ⟨so4, ox⟩
  have zc_H21 := (ox).1
  have o0 := o0.trans ox
  have oX1 := oX1.trans ox
  have bm1 := (ox).blk bm1
  have oX2 := oX2.trans ox
  have bm2 := (ox).blk bm2
  have oX3 := oX3.trans ox
  have bm3 := (ox).blk bm3
  have sa4 := sa4.old ox
  refine KL.c rfl Tryd.call11 (Decode_is so4 (hT.old o0) Bn.d4) ?_
  rintro _ H22 ⟨ox, t4, i4, f4, tb4, me4, g4, e4, el4, c4, d4, rfl, mv4⟩
  have zc_H22 := (ox).1
  have o0 := o0.trans ox
  have oX1 := oX1.trans ox
  have bm1 := (ox).blk bm1
  have oX2 := oX2.trans ox
  have bm2 := (ox).blk bm2
  have oX3 := oX3.trans ox
  have bm3 := (ox).blk bm3
  have sa4 := sa4.old ox
  have so4 := so4.old ox
  have oX4 : Old H22 H22 := Old.refl _
  refine KL.run 3 rfl ?_
  refine KL.m (M.alloc rfl zr33 rfl) rfl ?_
  rintro _ H23 ⟨rfl, n23⟩
  have z23 := n23.2.1
  have o0 := o0.trans n23.1
  have oX1 := oX1.trans n23.1
  have bm1 := (n23.1).blk bm1
  have oX2 := oX2.trans n23.1
  have bm2 := (n23.1).blk bm2
  have oX3 := oX3.trans n23.1
  have bm3 := (n23.1).blk bm3
  have sa4 := sa4.old n23.1
  have so4 := so4.old n23.1
  have oX4 := oX4.trans n23.1
  have b23 := n23.2.2
  have bm4 := b23
  refine KL.opS (S.storeAgg rfl sz33 rfl rfl (rfl) (by intro z hz; simp only [List.mem_cons, List.not_mem_nil, or_false] at hz; rcases hz with rfl | rfl | rfl | rfl | rfl | rfl | rfl | rfl | rfl | rfl | rfl | rfl <;> first | rfl | exact mv4.t.one | exact mv4.i.one | exact mv4.f.one | exact mv4.tb.one | exact mv4.me.one | exact mv4.g.one | exact mv4.e.one | exact mv4.el.one | exact mv4.c.one | exact mv4.d.one) bm4 (by simp)) rfl rfl ?_
  rintro H24 ⟨u24, b24⟩
  have o0 := o0.upd u24 (by omega)
  have zu24 := u24.1
  have oX1 := oX1.upd u24 (by omega)
  have bm1 := ((u24).2 _ (by omega)).trans bm1
  have oX2 := oX2.upd u24 (by omega)
  have bm2 := ((u24).2 _ (by omega)).trans bm2
  have oX3 := oX3.upd u24 (by omega)
  have bm3 := ((u24).2 _ (by omega)).trans bm3
  have oX4 := oX4.upd u24 (by omega)
  have bm4 := b24
  rw [over_all (by rfl)] at bm4
  refine KL.fin 1 rfl (KQ.sr ?_)
  refine KL.m (M.lit rfl Tryd.underlying36 zs5 (by decide) rfl rfl rfl) rfl ?_
  rintro _ H25 ⟨rfl, n25⟩
  have z25 := n25.2.1
  have o0 := o0.trans n25.1
  have oX1 := oX1.trans n25.1
  have bm1 := (n25.1).blk bm1
  have oX2 := oX2.trans n25.1
  have bm2 := (n25.1).blk bm2
  have oX3 := oX3.trans n25.1
  have bm3 := (n25.1).blk bm3
  have oX4 := oX4.trans n25.1
  have bm4 := (n25.1).blk bm4
  have b25 := n25.2.2
  have sa5 : Sl 1 (EInt .u8) H25 _ [5, 4, 1, 1, 2, 3] := Sl.lits (l := [5, 4, 1, 1, 2, 3]) n25 rfl (by simp) (by decide)
  refine KL.c rfl Tryd.call52 (of_any sa5 (by decide)) ?_
  rintro vo H26 ⟨so5, ox⟩
  have zc_H26 := (ox).1
  have o0 := o0.trans ox
  have oX1 := oX1.trans ox
  have bm1 := (ox).blk bm1
  have oX2 := oX2.trans ox
  have bm2 := (ox).blk bm2
  have oX3 := oX3.trans ox
  have bm3 := (ox).blk bm3
  have oX4 := oX4.trans ox
  have bm4 := (ox).blk bm4
  have sa5 := sa5.old ox
  refine KL.c rfl Tryd.call11 (Decode_is so5 (hT.old o0) Bn.d5) ?_
  rintro _ H27 ⟨ox, t5, i5, f5, tb5, me5, g5, e5, el5, c5, d5, rfl, mv5⟩
  have zc_H27 := (ox).1
  have o0 := o0.trans ox
  have oX1 := oX1.trans ox
  have bm1 := (ox).blk bm1
  have oX2 := oX2.trans ox
  have bm2 := (ox).blk bm2
  have oX3 := oX3.trans ox
  have bm3 := (ox).blk bm3
  have oX4 := oX4.trans ox
  have bm4 := (ox).blk bm4
  have sa5 := sa5.old ox
  have so5 := so5.old ox
  have oX5 : Old H27 H27 := Old.refl _
  refine KL.run 3 rfl ?_
  refine KL.m (M.alloc rfl zr33 rfl) rfl ?_
  rintro _ H28 ⟨rfl, n28⟩
  have z28 := n28.2.1
  have o0 := o0.trans n28.1
  have oX1 := oX1.trans n28.1
  have bm1 := (n28.1).blk bm1
  have oX2 := oX2.trans n28.1
  have bm2 := (n28.1).blk bm2
  have oX3 := oX3.trans n28.1
  have bm3 := (n28.1).blk bm3
  have oX4 := oX4.trans n28.1
  have bm4 := (n28.1).blk bm4
  have sa5 := sa5.old n28.1
  have so5 := so5.old n28.1
  have oX5 := oX5.trans n28.1
  have b28 := n28.2.2
  have bm5 := b28
  refine KL.opS (S.storeAgg rfl sz33 rfl rfl (rfl) (by intro z hz; simp only [List.mem_cons, List.not_mem_nil, or_false] at hz; rcases hz with rfl | rfl | rfl | rfl | rfl | rfl | rfl | rfl | rfl | rfl | rfl | rfl <;> first | rfl | exact mv5.t.one | exact mv5.i.one | exact mv5.f.one | exact mv5.tb.one | exact mv5.me.one | exact mv5.g.one | exact mv5.e.one | exact mv5.el.one | exact mv5.c.one | exact mv5.d.one) bm5 (by simp)) rfl rfl ?_
  rintro H29 ⟨u29, b29⟩
  have o0 := o0.upd u29 (by omega)
  have zu29 := u29.1
  have oX1 := oX1.upd u29 (by omega)
  have bm1 := ((u29).2 _ (by omega)).trans bm1
  have oX2 := oX2.upd u29 (by omega)
  have bm2 := ((u29).2 _ (by omega)).trans bm2
  have oX3 := oX3.upd u29 (by omega)
  have bm3 := ((u29).2 _ (by omega)).trans bm3
  have oX4 := oX4.upd u29 (by omega)
  have bm4 := ((u29).2 _ (by omega)).trans bm4
  have oX5 := oX5.upd u29 (by omega)
  have bm5 := b29
  rw [over_all (by rfl)] at bm5
  refine KL.fin 1 rfl (KQ.sr (KL.run 1 rfl (KL.q ((R.eql rfl rfl rfl).val (congrArg Value.bool (decide_eq_true rfl))) rfl (KL.run 2 rfl (KL.q ((R.eql rfl rfl rfl).val (congrArg Value.bool (decide_eq_true rfl))) rfl (KL.run 3 rfl (KL.q ((R.eql rfl rfl rfl).val (congrArg Value.bool (decide_eq_true rfl))) rfl (KL.run 3 rfl (KL.q ((R.eql rfl rfl rfl).val (congrArg Value.bool (decide_eq_true rfl))) rfl (KL.run 3 rfl (KL.ld rfl (cell_of bm4 rfl) ?_)))))))))))
  refine KL.q (R.lenS rfl Tryd.underlying25 rfl mv4.me) rfl (KL.q ((R.eql rfl rfl rfl).val (congrArg Value.bool (decide_eq_true rfl))) rfl (KL.run 3 rfl (KL.ld rfl (cell_of bm4 rfl) (KL.q (R.index (j := 0) rfl Tryd.underlying25 sz47 rfl rfl mv4.me rfl (by decide)) rfl (KL.lda rfl ((mv4.me.old oX4).limAt 0 (by decide)).1 rfl (KL.b0 bt47 rfl rfl (KL.q ((R.eqlSt rfl Tryd.underlying47 (by kernel_rfl) (by kernel_rfl) rfl rfl (EqFs.int (by decide) Tryd.underlying28 rfl rfl (EqFs.int (by decide) Tryd.underlying2 rfl rfl EqFs.nil))).val (congrArg Value.bool (show _ = true from rfl))) rfl (KL.run 3 rfl (KL.ld rfl (cell_of bm5 rfl) (KL.q (R.lenS rfl Tryd.underlying25 rfl mv5.me) rfl (KL.q ((R.eql rfl rfl rfl).val (congrArg Value.bool (decide_eq_true rfl))) rfl (KL.run 3 rfl (KL.ld rfl (cell_of bm5 rfl) ?_)))))))))))))
  refine KL.q (R.index (j := 0) rfl Tryd.underlying25 sz47 rfl rfl mv5.me rfl (by decide)) rfl (KL.lda rfl ((mv5.me.old oX5).limAt 0 (by decide)).1 rfl (KL.b0 bt47 rfl rfl (KL.q ((R.eqlSt rfl Tryd.underlying47 (by kernel_rfl) (by kernel_rfl) rfl rfl (EqFs.int (by decide) Tryd.underlying28 rfl rfl (EqFs.int (by decide) Tryd.underlying2 rfl rfl EqFs.nil))).val (congrArg Value.bool (show _ = true from rfl))) rfl (KL.fin 2 rfl (KQ.seq (KC.ret (KQ.ofRet (KQ.fin1 Tryd.results10 rfl ?_))))))))
  exact ⟨rfl, o0⟩
end Go.Proofs.YtldmfchamcpmmaaDoor
namespace Go.Proofs.YtldmfchamcpmmaaDoor
open Go Go.RowKit
set_option linter.unusedVariables false
set_option linter.unusedSimpArgs false
namespace Sc
theorem cut_ap {x : Int} {a b r : List Int} : ([x] ++ a ++ b ++ r).drop (1 + a.length) = b ++ r ∧ ([x] ++ a ++ b ++ r).drop (1 + a.length + b.length) = r ∧ ([x] ++ a ++ b ++ r).drop 1 = a ++ (b ++ r) ∧ ([x] ++ a ++ b ++ r).getD 0 default = x ∧ ([x] ++ a ++ b ++ r).length = 1 + a.length + b.length + r.length := by
  refine ⟨?_, ?_, by simp, by simp, by simp; omega⟩
  · rw [show [x] ++ a ++ b ++ r = ([x] ++ a) ++ (b ++ r) by simp, List.drop_left' (by simp; omega)]
  rw [show [x] ++ a ++ b ++ r = ([x] ++ a ++ b) ++ r by simp, List.drop_left' (by simp; omega)]
theorem sp_body {l : List Sec} {last : Int} (h0 : 0 ≤ last) (hr : rise last l = true) (hb : ∀ s ∈ l, s.2.length < 4294967296) : sp (body l) last = some l := by
  induction l generalizing last with
  | nil => exact sp_nil rfl
  | cons s l ih =>
    simp only [rise, Bool.and_eq_true, decide_eq_true_eq] at hr
    have hs := hb s (List.mem_cons_self ..)
    simp only [body]
    obtain ⟨e1, e2, e3, e4, e5⟩ := cut_ap (x := s.1) (a := Lb.ap (s.2.length : Int)) (b := s.2) (r := body l)
    have hp := Lb.ap_length (z := (s.2.length : Int)) (by omega) (by omega)
    rw [sp_good (n := (s.2.length : Int)) (k := (Lb.ap (s.2.length : Int)).length) (by rw [e5]; omega) (by rw [e3]; exact Lb.tk_ap (by omega) (by omega) _) (by rw [e5]; omega) (by rw [e4]; omega) (by rw [e4]; exact hr.1), e4, Int.toNat_natCast, e2, e1, ih (by omega) hr.2 (fun s hs => hb s (List.mem_cons_of_mem _ hs))]
    simp
theorem split_join {l : List Sec} {c : List Int} (h : join l = some c) (hb : ∀ s ∈ l, s.2.length < 4294967296) : split c = some l := by
  unfold join at h
  split at h
  · next hr =>
    injection h with h
    subst h
    unfold split
    rw [if_pos (show (beg ++ body l).take 8 = beg from rfl), show (beg ++ body l).drop 8 = body l from rfl]
    exact sp_body (Int.le_refl _) hr hb
  cases h
theorem ap_short {l : List Int} {z n : Int} {k : Nat} (h : Lb.tk l z = some (n, k)) : (Lb.ap n).length ≤ k := by
  have := Leb.tk_short h
  unfold Lb.ap; rw [uints_length]; exact this
theorem sp_facts : ∀ (f : Nat) {r : List Int} {last : Int} {m : List Sec}, r.length < f → sp r last = some m → rise last m = true ∧ (body m).length ≤ r.length ∧ ∀ s ∈ m, s.2.length < 4294967296 := by
  intro f
  induction f with
  | zero => intro r last m h; omega
  | succ f ih =>
    intro r last m hf h
    by_cases h0 : r.length = 0
    · rw [sp_nil h0] at h; injection h with h; subst h
      exact ⟨rfl, by simp [body], by simp⟩
    cases ht : Lb.tk (r.drop 1) 32 with
    | none => rw [sp_none (by omega) ht] at h; cases h
    | some p =>
      obtain ⟨n, k⟩ := p
      have hb := Lb.tk32 ht
      rw [List.length_drop] at hb
      by_cases hn : ((r.length - 1 - k : Nat) : Int) < n
      · rw [sp_long (by omega) ht hn] at h; cases h
      have hd : (r.drop (1 + k + n.toNat)).length + (1 + k + n.toNat) = r.length := by rw [List.length_drop]; omega
      by_cases hz : r.getD 0 default = 0
      · rw [sp_cust (by omega) ht hn hz] at h
        split at h
        · cases h
        obtain ⟨a1, a2, a3⟩ := ih (by omega) h
        exact ⟨a1, by omega, a3⟩
      by_cases hi : last < r.getD 0 default ∧ r.getD 0 default ≤ 11
      · rw [sp_good (by omega) ht hn hz hi, Option.map_eq_some_iff] at h
        obtain ⟨m', hm, rfl⟩ := h
        obtain ⟨a1, a2, a3⟩ := ih (by omega) hm
        have hl : ((r.drop (1 + k)).take n.toNat).length = n.toNat := by rw [List.length_take, List.length_drop]; omega
        refine ⟨by simp only [rise, a1, Bool.and_true]; exact decide_eq_true hi, ?_, ?_⟩
        · simp only [body, List.length_append, List.length_cons, List.length_nil, hl]
          rw [show ((n.toNat : Nat) : Int) = n from by omega]
          have := ap_short ht
          omega
        intro s hs
        rcases List.mem_cons.1 hs with rfl | hs
        · show ((r.drop (1 + k)).take n.toNat).length < _; rw [hl]; omega
        exact a3 s hs
      rw [sp_bad (by omega) ht hn hz hi] at h; cases h
/-- what is split may be joined, has at most as many bytes then, and is split as the same -/
theorem join_split {b : List Int} {m : List Sec} (h : split b = some m) : ∃ c, join m = some c ∧ c.length ≤ b.length ∧ split c = some m := by
  have h' := h
  unfold split at h
  split at h
  · next he =>
    obtain ⟨a1, a2, a3⟩ := sp_facts _ (Nat.lt_succ_self _) h
    have hj : join m = some (beg ++ body m) := by unfold join; rw [if_pos a1]
    have h8 : 8 ≤ b.length := by have := congrArg List.length he; rw [List.length_take, show beg.length = 8 from rfl] at this; omega
    refine ⟨_, hj, ?_, split_join hj a3⟩
    rw [List.length_append, show beg.length = 8 from rfl]
    rw [List.length_drop] at a2
    omega
  cases h
theorem split_body {b : List Int} {m : List Sec} (h : split b = some m) : (body m).length + 8 ≤ b.length := by
  obtain ⟨c, h1, h2, _⟩ := join_split h
  unfold join at h1
  split at h1
  · injection h1 with h1; subst h1; rw [List.length_append, show beg.length = 8 from rfl] at h2; omega
  cases h1
theorem rise_few : ∀ {m : List Sec} {last : Int}, rise last m = true → (m.length : Int) ≤ 11 - last ∨ m = [] := by
  intro m
  induction m with
  | nil => intro last _; exact .inr rfl
  | cons s m ih =>
    intro last h
    simp only [rise, Bool.and_eq_true, decide_eq_true_eq] at h
    rcases ih h.2 with h2 | h2
    · left; simp only [List.length_cons]; omega
    subst h2; left; simp; omega
theorem split_few {b : List Int} {m : List Sec} (h : split b = some m) : m.length ≤ 11 := by
  obtain ⟨c, h1, _⟩ := join_split h
  unfold join at h1
  split at h1
  · next hr =>
    rcases rise_few hr with h2 | h2
    · omega
    subst h2; simp
  cases h1
end Sc
end Go.Proofs.YtldmfchamcpmmaaDoor
namespace Go.Proofs.YtldmfchamcpmmaaDoor
open Go Go.RowKit
set_option linter.unusedVariables false
set_option linter.unusedSimpArgs false
namespace Bn
/-- a module without what a section of a number tells -/
def unset (id : Int) (m : Mo) : Mo :=
  if id = 1 then { m with types := [] }
  else if id = 2 then { m with imports := [] }
  else if id = 4 then { m with tables := [] }
  else if id = 5 then { m with mems := [] }
  else if id = 6 then { m with globs := [] }
  else if id = 7 then { m with exports := [] }
  else if id = 8 then { m with hasStart := false, start := 0 }
  else if id = 9 then { m with elems := [] }
  else if id = 11 then { m with datas := [] }
  else m
theorem us_0 (id : Int) : unset id mo0 = mo0 := by
  unfold unset; (repeat' split) <;> rfl
theorem us_cf (id : Int) (m : Mo) : (unset id m).codes = m.codes ∧ (unset id m).funcs = m.funcs := by
  unfold unset; (repeat' split) <;> exact ⟨rfl, rfl⟩
theorem sF_ids {P : Int → Prop} {n : Int} (h : 1 ≤ n ∧ n ≤ 11) (h1 : P 1) (h2 : P 2) (h3 : P 3) (h4 : P 4) (h5 : P 5) (h6 : P 6) (h7 : P 7) (h8 : P 8) (h9 : P 9) (h10 : P 10) (h11 : P 11) : P n := by
  have : n = 1 ∨ n = 2 ∨ n = 3 ∨ n = 4 ∨ n = 5 ∨ n = 6 ∨ n = 7 ∨ n = 8 ∨ n = 9 ∨ n = 10 ∨ n = 11 := by omega
  rcases this with rfl | rfl | rfl | rfl | rfl | rfl | rfl | rfl | rfl | rfl | rfl <;> assumption
theorem us_same {id : Int} {b : List Int} {m m' : Mo} (h : secF id b m = .ok m') (hi : 1 ≤ id ∧ id ≤ 11) (h3 : id ≠ 3) (h10 : id ≠ 10) : unset id m' = unset id m := by
  revert h h3 h10
  refine sF_ids (P := fun id => secF id b m = .ok m' → id ≠ 3 → id ≠ 10 → unset id m' = unset id m) hi ?_ ?_ ?_ ?_ ?_ ?_ ?_ ?_ ?_ ?_ ?_ <;> intro h h3 h10 <;> first
    | exact absurd rfl h3
    | exact absurd rfl h10
    | (obtain ⟨x, _, rfl⟩ := mapE_ok h; rfl)
theorem us_other {id n : Int} {b : List Int} {m m' : Mo} (h : secF n b m = .ok m') (hi : 1 ≤ id ∧ id ≤ 11) (hn : 1 ≤ n ∧ n ≤ 11) (hne : n ≠ id) : secF n b (unset id m) = .ok (unset id m') := by
  revert h hne
  refine sF_ids (P := fun id => secF n b m = .ok m' → n ≠ id → secF n b (unset id m) = .ok (unset id m')) hi ?_ ?_ ?_ ?_ ?_ ?_ ?_ ?_ ?_ ?_ ?_ <;>
  refine sF_ids (P := fun n => secF n b m = .ok m' → n ≠ _ → secF n b (unset _ m) = .ok (unset _ m')) hn ?_ ?_ ?_ ?_ ?_ ?_ ?_ ?_ ?_ ?_ ?_ <;> intro h hne <;> first
    | exact absurd rfl hne
    | (obtain ⟨x, hx, rfl⟩ := mapE_ok h; exact mE_ok hx)
theorem us_fills {id : Int} (hi : 1 ≤ id ∧ id ≤ 11) : ∀ {ss : List Sec} {m m' : Mo}, fills ss m = .ok m' → (∀ s ∈ ss, (1 ≤ s.1 ∧ s.1 ≤ 11) ∧ s.1 ≠ id) → fills ss (unset id m) = .ok (unset id m')
  | [], m, m', h, _ => by injection h with h; subst h; rfl
  | s :: ss, m, m', h, hs => by
    simp only [fills] at h
    split at h
    · cases h
    next m1 h1 =>
    have hx := hs s (List.mem_cons_self)
    rw [fills_step (us_other h1 hi hx.1 hx.2)]
    exact us_fills hi h (fun t ht => hs t (List.mem_cons_of_mem _ ht))
theorem fills_app : ∀ {a c : List Sec} {m : Mo}, fills (a ++ c) m = match fills a m with | .error e => .error e | .ok m' => fills c m'
  | [], c, m => rfl
  | s :: a, c, m => by
    simp only [List.cons_append, fills]
    cases secF s.1 s.2 m with
    | error e => rfl
    | ok m' => exact fills_app
theorem rise_ids : ∀ {l : List Sec} {last : Int}, 0 ≤ last → Sc.rise last l = true → ∀ s ∈ l, last < s.1 ∧ (1 ≤ s.1 ∧ s.1 ≤ 11)
  | [], _, _, _ => fun s hs => by cases hs
  | t :: l, last, h0, h => fun s hs => by
    simp only [Sc.rise, Bool.and_eq_true, decide_eq_true_eq] at h
    rcases List.mem_cons.1 hs with rfl | hs
    · omega
    have := rise_ids (by omega) h.2 s hs; omega
theorem rise_less : ∀ {a : List Sec} {s : Sec} {c : List Sec} {last : Int}, 0 ≤ last → Sc.rise last (a ++ s :: c) = true → Sc.rise last (a ++ c) = true ∧ (∀ t ∈ a, t.1 < s.1) ∧ (∀ t ∈ c, s.1 < t.1)
  | [], s, c, last, h0, h => by
    simp only [List.nil_append, Sc.rise, Bool.and_eq_true, decide_eq_true_eq] at h
    refine ⟨?_, (fun t ht => by cases ht), fun t ht => (rise_ids (by omega) h.2 t ht).1⟩
    cases c with
    | nil => rfl
    | cons t c =>
      have h2 := h.2
      simp only [List.nil_append, Sc.rise, Bool.and_eq_true, decide_eq_true_eq] at h2 ⊢
      exact ⟨by omega, h2.2⟩
  | t :: a, s, c, last, h0, h => by
    have hall := rise_ids h0 h
    simp only [List.cons_append, Sc.rise, Bool.and_eq_true, decide_eq_true_eq] at h ⊢
    obtain ⟨r1, r2, r3⟩ := rise_less (by omega) h.2
    refine ⟨⟨h.1, r1⟩, ?_, r3⟩
    intro u hu
    rcases List.mem_cons.1 hu with rfl | hu
    · exact (rise_ids (by omega) h.2 s (by simp)).1
    exact r2 u hu
/-- a reader says 60 or 61 where it fails -/
def Er {α : Type} (p : Isp.Prs α) : Prop := ∀ r e, p r = .error e → e = 60 ∨ e = 61
section
open Isp
variable {α β : Type} {p : Prs α} {q : α → Prs β} {g : α → β}
theorem er_bind (hp : Er p) (hq : ∀ x, Er (q x)) : Er (bindP p q) := fun r e h => by
  unfold bindP at h
  split at h
  · next e' he => injection h with h; subst h; exact hp _ _ he
  next x k hx =>
  split at h
  · next e' he => injection h with h; subst h; exact hq _ _ _ he
  cases h
theorem er_map (hp : Er p) : Er (mapP g p) := fun r e h => by
  unfold mapP at h
  split at h
  · next e' he => injection h with h; subst h; exact hp _ _ he
  cases h
theorem er_many (hp : Er p) : ∀ n, Er (manyP p n)
  | 0 => fun r e h => by cases h
  | n + 1 => er_map (er_bind hp fun _ => er_many hp n)
theorem er_num (sg : Bool) (b : Nat) : Er (numP sg b) := fun r e h => by
  unfold numP at h
  split at h
  · injection h with h; exact .inl h.symm
  cases h
theorem er_byte : Er byteP := fun r e h => by
  cases r with
  | nil => injection h with h; exact .inl h.symm
  | cons x r => cases h
theorem er_zero : Er zeroP := fun r e h => by
  cases r with
  | nil => injection h with h; exact .inl h.symm
  | cons x r =>
    simp only [zeroP] at h
    split at h
    · cases h
    injection h with h; exact .inl h.symm
theorem er_block : Er blockP := fun r e h => by
  cases r with
  | nil => injection h with h; exact .inl h.symm
  | cons x r =>
    simp only [blockP] at h
    split at h
    · cases h
    split at h
    · injection h with h; exact .inr h.symm
    injection h with h; exact .inl h.symm
theorem er_labs : Er labsP := by unfold labsP; exact er_map (er_bind (er_bind (er_num _ _) fun _ => er_many (er_num _ _) _) fun _ => er_num _ _)
theorem er_body (f : Int) : Er (bodyP f) := by
  unfold bodyP
  split
  · exact er_map er_block
  split
  · exact er_map (er_num _ _)
  split
  · exact er_map er_labs
  split
  · exact er_map (er_bind (er_num _ _) fun _ => er_zero)
  split
  · exact er_map (er_bind (er_num _ _) fun _ => er_num _ _)
  split
  · exact er_map er_zero
  split
  · exact er_map (er_num _ _)
  split
  · exact er_map (er_num _ _)
  intro r e h; cases h
theorem er_ins : Er insP := fun r e h => by
  cases r with
  | nil => injection h with h; exact .inl h.symm
  | cons op r =>
    simp only [insP] at h
    split at h
    · injection h with h; exact .inr h.symm
    split at h
    · injection h with h; exact .inl h.symm
    split at h
    · next e' he => injection h with h; subst h; exact er_body _ _ _ he
    cases h
theorem er_expr : ∀ (f : Nat) (m : List Int), Er (exprP f m)
  | 0, m => fun r e h => by injection h with h; exact .inl h.symm
  | f + 1, m => fun r e h => by
    simp only [exprP] at h
    split at h
    · next e' he => injection h with h; subst h; exact er_ins _ _ he
    split at h
    · injection h with h; exact .inl h.symm
    · cases h
    split at h
    · next e' he => injection h with h; subst h; exact er_expr f _ _ _ he
    cases h
theorem er_one {f : Int → Except Int α} (hf : ∀ x e, f x = .error e → e = 60 ∨ e = 61) : Er (oneP f) := fun r e h => by
  cases r with
  | nil => injection h with h; exact .inl h.symm
  | cons x r =>
    simp only [oneP] at h
    split at h
    · next e' he => injection h with h; subst h; exact hf _ _ he
    cases h
theorem er_val : Er valP := er_one fun x e h => by
  unfold valF at h
  split at h
  · injection h with h; exact .inr h.symm
  split at h
  · cases h
  injection h with h; exact .inl h.symm
theorem er_flg : Er flgP := er_one fun x e h => by
  unfold flgF at h
  split at h
  · cases h
  injection h with h; exact .inl h.symm
theorem er_tag (b : Int) : Er (tagP b) := er_one fun x e h => by
  unfold tagF at h
  split at h
  · cases h
  injection h with h; exact .inl h.symm
theorem er_knd : Er kndP := er_one fun x e h => by
  unfold kndF at h
  split at h
  · cases h
  injection h with h; exact .inl h.symm
theorem er_ret (x : α) : Er (retP x) := fun r e h => by cases h
theorem er_lst (hp : Er p) : Er (lstP p) := er_map (er_bind (er_num _ _) fun _ => er_many hp _)
theorem er_lim : Er limP := er_map (er_bind er_flg fun b => by
  cases b
  · exact er_bind (er_num _ _) fun _ => er_ret _
  exact er_bind (er_num _ _) fun _ => er_num _ _)
theorem er_tab : Er tabP := er_map (er_bind (er_tag _) fun _ => er_lim)
theorem er_glb : Er glbP := er_bind er_val fun _ => er_flg
theorem er_typ : Er typP := er_map (er_bind (er_tag _) fun _ => er_bind (er_lst er_val) fun _ => er_lst er_val)
theorem er_nam : Er namP := fun r e h => by
  unfold namP at h
  split at h
  · injection h with h; exact .inl h.symm
  split at h
  · cases h
  injection h with h; exact .inl h.symm
theorem er_imp : Er impP := er_map (er_bind er_nam fun _ => er_bind er_nam fun _ => er_bind er_byte fun k => by
  unfold impR
  split
  · exact er_map (er_num _ _)
  split
  · exact er_map er_tab
  split
  · exact er_map er_lim
  split
  · exact er_map er_glb
  intro r e h; injection h with h; exact .inl h.symm)
theorem er_exp : Er expP := er_map (er_bind er_nam fun _ => er_bind er_knd fun _ => er_num _ _)
theorem er_xpr : Er xprP := fun r e h => er_expr _ _ r e h
theorem er_glo : Er gloP := er_bind er_glb fun _ => er_xpr
theorem er_elm : Er elmP := er_bind (er_num _ _) fun _ => er_bind er_xpr fun _ => er_lst (er_num _ _)
theorem er_byt : Er bytP := fun r e h => by
  unfold bytP at h
  split at h
  · next e' he => injection h with h; subst h; exact er_num _ _ _ _ he
  split at h
  · cases h
  injection h with h; exact .inl h.symm
theorem er_dat : Er datP := er_bind (er_num _ _) fun _ => er_bind er_xpr fun _ => er_byt
theorem er_whole (hp : Er p) {b : List Int} {e : Int} (h : whole p b = .error e) : e = 60 ∨ e = 61 := by
  unfold whole at h
  split at h
  · next e' he => injection h with h; subst h; exact hp _ _ he
  split at h
  · cases h
  injection h with h; exact .inl h.symm
theorem er_codQ : Er codQ := fun r e h => by
  unfold codQ at h
  split at h
  · next e' he => injection h with h; subst h; exact er_lst (er_bind (er_num _ _) fun _ => er_val) _ _ he
  split at h
  · split at h
    · next e' he => injection h with h; subst h; exact er_xpr _ _ he
    cases h
  injection h with h; exact .inl h.symm
theorem er_cod : Er codP := fun r e h => by
  unfold codP at h
  split at h
  · next e' he => injection h with h; subst h; exact er_byt _ _ he
  split at h
  · next e' he => injection h with h; subst h; exact er_whole er_codQ he
  cases h
theorem er_mapE {x : Except Int α} {f : α → β} {e : Int} (h : mapE f x = .error e) : x = .error e := by
  cases x with
  | error e' => have h : (Except.error e' : Except Int β) = .error e := h; injection h with h; rw [h]
  | ok y => cases h
theorem er_sec {id : Int} {b : List Int} {m : Mo} {e : Int} (h : secF id b m = .error e) : e = 60 ∨ e = 61 := by
  by_cases h1 : id = 1
  · rw [sF_1 h1] at h; exact er_whole (er_lst er_typ) (er_mapE h)
  by_cases h2 : id = 2
  · rw [sF_2 h2] at h; exact er_whole (er_lst er_imp) (er_mapE h)
  by_cases h3 : id = 3
  · rw [sF_3 h3] at h; exact er_whole (er_lst (er_num _ _)) (er_mapE h)
  by_cases h4 : id = 4
  · rw [sF_4 h4] at h; exact er_whole (er_lst er_tab) (er_mapE h)
  by_cases h5 : id = 5
  · rw [sF_5 h5] at h; exact er_whole (er_lst er_lim) (er_mapE h)
  by_cases h6 : id = 6
  · rw [sF_6 h6] at h; exact er_whole (er_lst er_glo) (er_mapE h)
  by_cases h7 : id = 7
  · rw [sF_7 h7] at h; exact er_whole (er_lst er_exp) (er_mapE h)
  by_cases h8 : id = 8
  · rw [sF_8 h8] at h; exact er_whole (er_num _ _) (er_mapE h)
  by_cases h9 : id = 9
  · rw [sF_9 h9] at h; exact er_whole (er_lst er_elm) (er_mapE h)
  by_cases h10 : id = 10
  · rw [sF_10 h10] at h; exact er_whole (er_lst er_cod) (er_mapE h)
  rw [sF_n (fun n a b => by omega)] at h; exact er_whole (er_lst er_dat) (er_mapE h)
theorem er_fills : ∀ {ss : List Sec} {m : Mo} {e : Int}, fills ss m = .error e → e = 60 ∨ e = 61
  | [], m, e, h => by cases h
  | s :: ss, m, e, h => by
    simp only [fills] at h
    split at h
    · next e' he => injection h with h; subst h; exact er_sec he
    exact er_fills h
end
/-- what is decoded without a fault -/
theorem decR_ok {l : List Int} (h : (decR l).2 = 0) : ∃ ss, Sc.split l = some ss ∧ fills ss mo0 = .ok (decR l).1 ∧ (decR l).1.codes.length = (decR l).1.funcs.length ∧ decR l = ((decR l).1, 0) ∧ l.length ≤ 65536 := by
  by_cases hl : 65536 < l.length
  · rw [dec_long hl] at h; cases h
  cases hs : Sc.split l with
  | none => rw [dec_none hl hs] at h; cases h
  | some ss =>
    cases hf : fills ss mo0 with
    | error e =>
      rw [dec_err hl hs hf] at h
      have : e = 0 := h
      have := er_fills hf
      omega
    | ok m =>
      by_cases hc : m.codes.length = m.funcs.length
      · rw [dec_ok hl hs hf hc]
        exact ⟨ss, rfl, hf, hc, rfl, by omega⟩
      rw [dec_odd hl hs hf hc] at h; cases h
/-- what was read is read again, split and joined anew -/
theorem anew {l : List Int} {m : Mo} (hd : decR l = (m, 0)) (hl : l.length ≤ 3000) : ∃ ss b, Sc.split l = some ss ∧ Sc.join ss = some b ∧ decR b = (m, 0) ∧ (Sc.body ss).length ≤ 3000 ∧ ∀ k, k < ss.length → (ss.getD k default).1 ≠ 3 → (ss.getD k default).1 ≠ 10 →
    ∃ b2, Sc.join (ss.take k ++ ss.drop (k + 1)) = some b2 ∧ decR b2 = (unset (ss.getD k default).1 m, 0) ∧ (Sc.body (ss.take k ++ ss.drop (k + 1))).length ≤ 3000 := by
  obtain ⟨ss, h1, h2, h3, _, _⟩ := decR_ok (l := l) (by rw [hd])
  rw [hd] at h2 h3
  obtain ⟨c, j1, j2, j3⟩ := Sc.join_split h1
  have hb := Sc.split_body h1
  have hlen := split_len h1
  have hr : Sc.rise 0 ss = true := by
    unfold Sc.join at j1
    split at j1
    · assumption
    cases j1
  refine ⟨ss, c, h1, j1, dec_ok (by omega) j3 h2 h3, by omega, fun k hk n3 n10 => ?_⟩
  have hge : ss.getD k default = ss[k] := by rw [List.getD_eq_getElem?_getD, List.getElem?_eq_getElem hk]; rfl
  have hcut : ss = ss.take k ++ ss.getD k default :: ss.drop (k + 1) := by
    conv => lhs; rw [← List.take_append_drop k ss, List.drop_eq_getElem_cons hk]
    rw [hge]
  generalize hA : ss.take k = A at *
  generalize hC : ss.drop (k + 1) = C at *
  generalize hS : ss.getD k default = s at *
  rw [hcut] at hr h2 hb
  obtain ⟨r1, r2, r3⟩ := rise_less (by decide) hr
  have hids := rise_ids (by decide) hr
  have hsi := (hids s (by simp)).2
  have hbl : (Sc.body (A ++ C)).length ≤ 3000 := by
    rw [Sc.body_app, List.length_append] at hb
    rw [Sc.body_app, List.length_append]
    simp only [Sc.body, List.length_append] at hb
    omega
  have hj : Sc.join (A ++ C) = some (Sc.beg ++ Sc.body (A ++ C)) := by unfold Sc.join; rw [if_pos r1]
  refine ⟨_, hj, ?_, hbl⟩
  have hsp := Sc.split_join hj (fun t ht => by
    have : t ∈ ss := by rw [hcut]; rcases List.mem_append.1 ht with h | h <;> simp [h]
    have := hlen t this
    omega)
  rw [fills_app] at h2
  split at h2
  · cases h2
  next m1 hm1 =>
  simp only [fills] at h2
  split at h2
  · cases h2
  next m2 hm2 =>
  have f1 := us_fills hsi hm1 (fun t ht => ⟨(hids t (by simp [ht])).2, by have := r2 t ht; omega⟩)
  rw [us_0, hm1] at f1
  injection f1 with f1
  have f2 := us_fills hsi h2 (fun t ht => ⟨(hids t (by simp [ht])).2, by have := r3 t ht; omega⟩)
  rw [us_same hm2 hsi n3 n10, ← f1] at f2
  refine dec_ok ?_ hsp ?_ ?_
  · rw [List.length_append, show Sc.beg.length = 8 from rfl]; omega
  · rw [fills_app, hm1]; exact f2
  rw [(us_cf _ _).1, (us_cf _ _).2]; exact h3
end Bn
end Go.Proofs.YtldmfchamcpmmaaDoor
namespace Go.Proofs.YtldmfchamcpmmaaDoor
open Go Go.RowKit
set_option linter.unusedVariables false
set_option linter.unusedSimpArgs false
set_option linter.unnecessarySimpa false
namespace Bn
end Bn
end Go.Proofs.YtldmfchamcpmmaaDoor
namespace Go.Proofs.YtldmfchamcpmmaaDoor
open Go Go.RowKit
set_option linter.unusedVariables false
set_option linter.unusedSimpArgs false
set_option linter.unnecessarySimpa false
theorem Decode_lasts {H : Heap} {v : Value} {l : List Int} {m : Mo} {ec : Int} (hs : Sl 1 (EInt .u8) H v l) (hT : TabU H) (hd : Bn.decR l = (m, ec)) : Ct Tryd.prog 11 [v] H (fun u H' => Old H H' ∧ ∃ t i f tb me g e el c d, u = .tuple #[.agg [t, i, f, tb, me, g, e, .bool m.hasStart, .int .u32 m.start, el, c, d].toArray, .int .i64 ec] ∧ ∀ H2, KeepX (List.range (Array.size H)) H' H2 → MoV H2 t i f tb me g e el c d m) := by
  have h := Decode_st hs hT
  rw [hd] at h
  exact h
theorem Split_is {H : Heap} {v : Value} {l : List Int} {ss : List Sec} (hs : Sl 1 (EInt .u8) H v l) (hT : TabU H) (hl : l.length ≤ 140737488351232) (hsp : Sc.split l = some ss) : Ct Tryd.prog 15 [v] H (fun u H' => Old H H' ∧ ∃ vo, u = .tuple #[vo, .int .i64 0] ∧ Sl 2 ESec H' vo ss) :=
  (Split_or hs hT hl).mono fun u H' ⟨o, h⟩ => ⟨o, by
    rcases h with ⟨h, _⟩ | ⟨ss', vo, h, hu, hr⟩
    · rw [hsp] at h; cases h
    rw [hsp] at h; injection h with h; subst h; exact ⟨vo, hu, hr.sl⟩⟩
namespace Bn
section
variable {id : Int} {m : Mo}
theorem us_1 (h : id = 1) : unset id m = { m with types := [] } := by subst h; rfl
theorem us_2 (h : id = 2) : unset id m = { m with imports := [] } := by subst h; rfl
theorem us_4 (h : id = 4) : unset id m = { m with tables := [] } := by subst h; rfl
theorem us_5 (h : id = 5) : unset id m = { m with mems := [] } := by subst h; rfl
theorem us_6 (h : id = 6) : unset id m = { m with globs := [] } := by subst h; rfl
theorem us_7 (h : id = 7) : unset id m = { m with exports := [] } := by subst h; rfl
theorem us_8 (h : id = 8) : unset id m = { m with hasStart := false, start := 0 } := by subst h; rfl
theorem us_9 (h : id = 9) : unset id m = { m with elems := [] } := by subst h; rfl
theorem us_11 (h : id = 11) : unset id m = { m with datas := [] } := by subst h; rfl
theorem us_n (h1 : ¬ id = 1) (h2 : ¬ id = 2) (h4 : ¬ id = 4) (h5 : ¬ id = 5) (h6 : ¬ id = 6) (h7 : ¬ id = 7) (h8 : ¬ id = 8) (h9 : ¬ id = 9) (h11 : ¬ id = 11) : unset id m = m := by unfold unset; rw [if_neg h1, if_neg h2, if_neg h4, if_neg h5, if_neg h6, if_neg h7, if_neg h8, if_neg h9, if_neg h11]
end
end Bn
theorem BinSections_any {H : Heap} {v : Value} {l : List Int} (hs : Sl 1 (EInt .u8) H v l) (less : Int) (hr : InR .i64 less) (hT : TabU H) : Ct Tryd.prog 5 [v, .int .i64 less] H (fun u H' => u = .bool true ∧ Old H H') := by
  refine Ct.mk Tryd.func5 rfl Tryd.ntmps5 rfl ?_
  intro W0 hW0
  have o0 : Old H H := Old.refl H
  refine KC.sr (KL.fin 1 rfl (KQ.seq (KC.seq (KC.sr ?_))))
  refine KL.c rfl Tryd.call10 (bknown_any hT) ?_
  rintro _ H1 ⟨rfl, ox⟩
  have zc_H1 := (ox).1
  have o0 := o0.trans ox
  refine KL.fin 1 rfl (KQ.seq (KC.condF rfl (KC.skip (KQ.sr (KL.run 1 rfl ?_)))))
  refine KL.c rfl Tryd.call11 (Decode_any (hs.old o0) (hT.old o0)) ?_
  rintro _ H2 ⟨ox, t1, i1, f1, tb1, me1, g1, e1, el1, c1, d1, rfl, mv1⟩
  have zc_H2 := (ox).1
  have o0 := o0.trans ox
  have oX1 : Old H2 H2 := Old.refl _
  refine KL.run 3 rfl ?_
  refine KL.m (M.alloc rfl zr33 rfl) rfl ?_
  rintro _ H3 ⟨rfl, n3⟩
  have z3 := n3.2.1
  have o0 := o0.trans n3.1
  have oX1 := oX1.trans n3.1
  have b3 := n3.2.2
  have bm1 := b3
  refine KL.opS (S.storeAgg rfl sz33 rfl rfl (rfl) (by intro z hz; simp only [List.mem_cons, List.not_mem_nil, or_false] at hz; rcases hz with rfl | rfl | rfl | rfl | rfl | rfl | rfl | rfl | rfl | rfl | rfl | rfl <;> first | rfl | exact mv1.t.one | exact mv1.i.one | exact mv1.f.one | exact mv1.tb.one | exact mv1.me.one | exact mv1.g.one | exact mv1.e.one | exact mv1.el.one | exact mv1.c.one | exact mv1.d.one) bm1 (by simp)) rfl rfl ?_
  rintro H4 ⟨u4, b4⟩
  have o0 := o0.upd u4 (by omega)
  have zu4 := u4.1
  have oX1 := oX1.upd u4 (by omega)
  have bm1 := b4
  rw [over_all (by rfl)] at bm1
  refine KL.fin 1 rfl (KQ.seq (KC.seq (KC.sr (KL.run 1 rfl (KL.q (R.lenS rfl Tryd.underlying36 rfl hs) rfl (KL.run 2 rfl ?_))))))
  refine KL.cq 25 rfl ?_ ?_
  · intro hg25
    refine KL.fin 3 rfl (KQ.seq (KC.condT rfl (KC.sr (KL.fin 1 rfl (KQ.seq (KC.ret (KQ.retThen (KQ.ofRet (KQ.fin1 Tryd.results5 rfl ?_)))))))))
    exact ⟨rfl, o0⟩
  intro hg25
  refine KL.fin 3 rfl (KQ.seq ?_)
  refine KC.iq rfl ?_ ?_
  · intro hc28
    refine KC.sr (KL.fin 1 rfl (KQ.seq (KC.ret (KQ.retThen (KQ.ofRet (KQ.fin1 Tryd.results5 rfl ?_))))))
    exact ⟨rfl, o0⟩
  intro hc28
  have he0 : (Bn.decR l).2 = 0 := by omega
  have hl3 : l.length ≤ 3000 := by omega
  obtain ⟨ss, b1, hsp, hjn, hdb, hbl, hless⟩ := Bn.anew (m := (Bn.decR l).1) (Prod.ext rfl he0) hl3
  have hfew := Sc.split_few hsp
  refine KC.skip (KQ.sr (KL.run 1 rfl ?_))
  refine KL.c rfl Tryd.call15 (Split_is (hs.old o0) (hT.old o0) (by omega) hsp) ?_
  rintro _ H5 ⟨ox, vo, rfl, hss⟩
  have zc_H5 := (ox).1
  have o0 := o0.trans ox
  have oX1 := oX1.trans ox
  have bm1 := (ox).blk bm1
  have oS : Old H5 H5 := Old.refl _
  refine KL.fin 5 rfl (KQ.sr (KL.run 1 rfl ?_))
  refine KL.c rfl Tryd.call16 (Join_bin (hss.old oS) (by omega) hjn) ?_
  rintro _ H6 ⟨vb, rfl, hsb, ox⟩
  have zc_H6 := (ox).1
  have o0 := o0.trans ox
  have oX1 := oX1.trans ox
  have bm1 := (ox).blk bm1
  have oS := oS.trans ox
  refine KL.fin 5 rfl (KQ.sr (KL.run 1 rfl ?_))
  refine KL.c rfl Tryd.call11 (Decode_is hsb (hT.old o0) hdb) ?_
  rintro _ H7 ⟨ox, t2, i2, f2, tb2, me2, g2, e2, el2, c2, d2, rfl, mv2⟩
  have zc_H7 := (ox).1
  have o0 := o0.trans ox
  have oX1 := oX1.trans ox
  have bm1 := (ox).blk bm1
  have oS := oS.trans ox
  have hsb := hsb.old ox
  have oX2 : Old H7 H7 := Old.refl _
  refine KL.run 3 rfl ?_
  refine KL.m (M.alloc rfl zr33 rfl) rfl ?_
  rintro _ H8 ⟨rfl, n8⟩
  have z8 := n8.2.1
  have o0 := o0.trans n8.1
  have oX1 := oX1.trans n8.1
  have bm1 := (n8.1).blk bm1
  have oS := oS.trans n8.1
  have hsb := hsb.old n8.1
  have oX2 := oX2.trans n8.1
  have b8 := n8.2.2
  have bm2 := b8
  refine KL.opS (S.storeAgg rfl sz33 rfl rfl (rfl) (by intro z hz; simp only [List.mem_cons, List.not_mem_nil, or_false] at hz; rcases hz with rfl | rfl | rfl | rfl | rfl | rfl | rfl | rfl | rfl | rfl | rfl | rfl <;> first | rfl | exact mv2.t.one | exact mv2.i.one | exact mv2.f.one | exact mv2.tb.one | exact mv2.me.one | exact mv2.g.one | exact mv2.e.one | exact mv2.el.one | exact mv2.c.one | exact mv2.d.one) bm2 (by simp)) rfl rfl ?_
  rintro H9 ⟨u9, b9⟩
  have o0 := o0.upd u9 (by omega)
  have zu9 := u9.1
  have oX1 := oX1.upd u9 (by omega)
  have bm1 := ((u9).2 _ (by omega)).trans bm1
  have oS := oS.upd u9 (by omega)
  have oX2 := oX2.upd u9 (by omega)
  have bm2 := b9
  rw [over_all (by rfl)] at bm2
  refine KL.fin 1 rfl (KQ.seq (KC.seq (KC.sr (KL.run 1 rfl (KL.q ((R.neq rfl rfl rfl).val ((congrArg (fun b => Value.bool (!b)) (decide_eq_true rfl)))) rfl (KL.run 2 rfl (KL.q ((R.neq rfl rfl rfl).val ((congrArg (fun b => Value.bool (!b)) (decide_eq_true rfl)))) rfl (KL.run 3 rfl (KL.q ((R.neq rfl rfl rfl).val ((congrArg (fun b => Value.bool (!b)) (decide_eq_true rfl)))) rfl (KL.run 2 rfl (KL.lda rfl (cells_of bm1) rfl (KL.lda rfl (cells_of bm2) rfl ?_))))))))))))
  refine KL.c rfl Tryd.call12 (Same_refl (mv1.old oX1) (mv2.old oX2)) ?_
  rintro _ H10 ⟨rfl, ox⟩
  have zc_H10 := (ox).1
  have o0 := o0.trans ox
  have oX1 := oX1.trans ox
  have bm1 := (ox).blk bm1
  have oS := oS.trans ox
  have oX2 := oX2.trans ox
  have bm2 := (ox).blk bm2
  refine KL.fin 2 rfl (KQ.seq (KC.condF rfl (KC.skip (KQ.seq (KC.seq (KC.sr (KL.run 3 rfl ?_)))))))
  refine KL.cq 62 rfl ?_ ?_
  · intro hg62
    refine KL.fin 21 rfl (KQ.seq (KC.condT rfl (KC.sr (KL.fin 1 rfl (KQ.seq (KC.ret (KQ.retThen (KQ.ofRet (KQ.fin1 Tryd.results5 rfl ?_)))))))))
    exact ⟨rfl, o0⟩
  intro hg62
  refine KL.run 2 rfl (KL.q (R.lenS rfl Tryd.underlying66 rfl hss) rfl (KL.run 3 rfl ?_))
  refine KL.cq 68 rfl ?_ ?_
  · intro hg68
    refine KL.fin 15 rfl (KQ.seq (KC.condT rfl (KC.sr (KL.fin 1 rfl (KQ.seq (KC.ret (KQ.retThen (KQ.ofRet (KQ.fin1 Tryd.results5 rfl ?_)))))))))
    exact ⟨rfl, o0⟩
  intro hg68
  obtain ⟨k, rfl⟩ : ∃ k : Nat, less = (k : Int) := ⟨less.toNat, by omega⟩
  have hk2 : k < ss.length := by omega
  obtain ⟨u2, hcx, hu, hid⟩ := (hss.old oS).secAt k hk2
  refine KL.run 2 rfl ?_
  refine KL.q (R.index (j := k) rfl Tryd.underlying66 sz71 rfl rfl hss rfl (by omega)) rfl ?_
  refine KL.q (by first | exact R.fieldAddr rfl Tryd.underlying71 rfl rfl sz5 rfl | exact R.fieldAddrP rfl Tryd.underlying71 rfl rfl sz5 rfl) rfl ?_
  refine KL.ld rfl (hcx 0 _ rfl) (KL.run 3 rfl ?_)
  refine KL.cq 76 rfl ?_ ?_
  · intro hg76
    refine KL.fin 7 rfl (KQ.seq (KC.condT rfl (KC.sr (KL.fin 1 rfl (KQ.seq (KC.ret (KQ.retThen (KQ.ofRet (KQ.fin1 Tryd.results5 rfl ?_)))))))))
    exact ⟨rfl, o0⟩
  intro hg76
  refine KL.run 2 rfl ?_
  refine KL.q (R.index (j := k) rfl Tryd.underlying66 sz71 rfl rfl hss rfl (by omega)) rfl ?_
  refine KL.q (by first | exact R.fieldAddr rfl Tryd.underlying71 rfl rfl sz5 rfl | exact R.fieldAddrP rfl Tryd.underlying71 rfl rfl sz5 rfl) rfl ?_
  refine KL.ld rfl (hcx 0 _ rfl) (KL.fin 2 rfl (KQ.seq ?_))
  refine KC.iq rfl ?_ ?_
  · intro hc83
    refine KC.sr (KL.fin 1 rfl (KQ.seq (KC.ret (KQ.retThen (KQ.ofRet (KQ.fin1 Tryd.results5 rfl ?_))))))
    exact ⟨rfl, o0⟩
  intro hc83
  obtain ⟨b2, hjn2, hdb2, hbl2⟩ := hless k hk2 (by omega) (by omega)
  refine KC.skip (KQ.sr (KL.run 2 rfl ?_))
  refine KL.q (R.index (j := k) rfl Tryd.underlying66 sz71 rfl rfl hss rfl (by omega)) rfl ?_
  refine KL.q (by first | exact R.fieldAddr rfl Tryd.underlying71 rfl rfl sz5 rfl | exact R.fieldAddrP rfl Tryd.underlying71 rfl rfl sz5 rfl) rfl ?_
  refine KL.ld rfl (hcx 0 _ rfl) (KL.fin 1 rfl (KQ.seq (KC.seq ?_)))
  have hssF : Sl 2 (EFix ESec H10) H10 vo ss := hss.old oS
  have oF : Old H10 H10 := Old.refl _
  refine KC.text (clOf [(0, 2), (4, 2), (9, 2), (10, 2)]) (fun _ _ => True) (by kernel_rfl) (by kernel_rfl) (fun _ => trivial) ?_
  refine KP.opM rfl (M.lit rfl Tryd.underlying66 zs71 (by decide) rfl rfl rfl) rfl rfl rfl (fun _ _ _ _ _ _ => trivial) ?_
  rintro _ H11 ⟨rfl, n11⟩
  have z11 := n11.2.1
  have o0 := o0.trans n11.1
  have oX1 := oX1.trans n11.1
  have bm1 := (n11.1).blk bm1
  have oS := oS.trans n11.1
  have oX2 := oX2.trans n11.1
  have bm2 := (n11.1).blk bm2
  have oF := oF.trans n11.1
  have b11 := n11.2.2
  have ra : Own 2 (EFix ESec H10) 71 #[] H10.size H11 _ ([] : List Sec) := Own.litN (n := 2) (m := 0) (l := []) n11 (by omega) rfl (by unfold maxLen; omega) rfl (by simp [nth])
  refine KP.run 2 rfl rfl ?_
  refine KP.op rfl (fun Hg hg => R.slice (i := 0) (j := k) rfl Tryd.underlying66 sz71 rfl hss bnd.no (bnd.mk rfl rfl) (Nat.zero_le _) (by omega)) rfl rfl rfl ?_
  have lt12 := ra.lt
  refine KP.opM rfl (M.append rfl Tryd.underlying66 inf71 rfl (by decide) rfl rfl ra (by exact ((hssF.old oF).sub (lo := 0) (hi := k) (Nat.zero_le _) (by omega))) (fun _ _ h _ => h) (by omega) (by simp; omega) (by unfold maxLen; simp; omega)) rfl rfl rfl (fun _ _ _ _ _ _ => trivial) ?_
  rintro va1 H12 ⟨w12, g12⟩
  try dsimp only at g12
  have ob12 := g12.oldB ra (by omega)
  have o0 := o0.then ob12 (by omega)
  have z12 := ob12.1
  have oX1 := oX1.then ob12 (by omega)
  have bm1 := (g12.2 _ (blk_lt bm1) (by first | exact .inr (by omega) | exact .inl rfl | exact lt12.imp id (fun h => by omega))).trans bm1
  have oS := oS.then ob12 (by omega)
  have oX2 := oX2.then ob12 (by omega)
  have bm2 := (g12.2 _ (blk_lt bm2) (by first | exact .inr (by omega) | exact .inl rfl | exact lt12.imp id (fun h => by omega))).trans bm2
  have oF := oF.then ob12 (by omega)
  have ra := w12
  refine KP.run 2 rfl rfl ?_
  refine KP.op rfl (fun Hg hg => (R.add rfl rfl rfl (by have := hss.len; dsimp only [InR]; omega)).val (congrArg (Value.int .i64) (show (k : Int) + 1 = ((k + 1 : Nat) : Int) by omega))) rfl rfl rfl ?_
  refine KP.op rfl (fun Hg hg => R.slice (i := k + 1) (j := ss.length) rfl Tryd.underlying66 sz71 rfl hss (bnd.mk rfl (by omega)) bnd.no (by omega) (Nat.le_refl _)) rfl rfl rfl ?_
  have lt13 := ra.lt
  refine KP.opM rfl (M.append rfl Tryd.underlying66 inf71 rfl (by decide) rfl rfl ra (by exact ((hssF.old oF).sub (lo := k + 1) (hi := ss.length) (by omega) (Nat.le_refl _))) (fun _ _ h _ => h) (by omega) (by simp; omega) (by unfold maxLen; simp; omega)) rfl rfl rfl (fun _ _ _ _ _ _ => trivial) ?_
  rintro va2 H13 ⟨w13, g13⟩
  try dsimp only at g13
  have ob13 := g13.oldB ra (by omega)
  have o0 := o0.then ob13 (by omega)
  have z13 := ob13.1
  have oX1 := oX1.then ob13 (by omega)
  have bm1 := (g13.2 _ (blk_lt bm1) (by first | exact .inr (by omega) | exact .inl rfl | exact lt13.imp id (fun h => by omega))).trans bm1
  have oS := oS.then ob13 (by omega)
  have oX2 := oX2.then ob13 (by omega)
  have bm2 := (g13.2 _ (blk_lt bm2) (by first | exact .inr (by omega) | exact .inl rfl | exact lt13.imp id (fun h => by omega))).trans bm2
  have oF := oF.then ob13 (by omega)
  have ra := w13
  have hsc : Sl 2 ESec H13 va2 (ss.take k ++ ss.drop (k + 1)) := (by simpa using ra.sl (emptyOld _) (by omega) : Sl 2 (EFix ESec H10) H13 va2 (ss.take k ++ ss.drop (k + 1))).unfix oF
  refine KP.call rfl rfl rfl rfl rfl Tryd.call16 rfl rfl rfl (Join_bin hsc (by omega) hjn2) (fun _ _ _ _ _ _ => trivial) ?_
  rintro _ H14 ⟨vc, rfl, hsd, ox⟩
  have zc_H14 := (ox).1
  have o0 := o0.trans ox
  have oX1 := oX1.trans ox
  have bm1 := (ox).blk bm1
  have oS := oS.trans ox
  have oX2 := oX2.trans ox
  have bm2 := (ox).blk bm2
  have oF := oF.trans ox
  have ra := ra.old ox
  refine KP.fin 5 rfl rfl (KQ.sr (KL.run 1 rfl ?_))
  refine KL.c rfl Tryd.call11 (Decode_lasts hsd (hT.old o0) hdb2) ?_
  rintro _ H15 ⟨ox, t3, i3, f3, tb3, me3, g3, e3, el3, c3, d3, rfl, hst⟩
  have zc_H15 := (ox).1
  have o0 := o0.trans ox
  have oX1 := oX1.trans ox
  have bm1 := (ox).blk bm1
  have oS := oS.trans ox
  have oX2 := oX2.trans ox
  have bm2 := (ox).blk bm2
  have hsd := hsd.old ox
  have zN := ox.1
  have mv3 := hst _ (KeepX.refl _ _)
  refine KL.run 3 rfl ?_
  have zb2 := blk_lt bm2
  refine KL.opS (S.storeAgg rfl sz33 rfl rfl (rfl) (by intro z hz; simp only [List.mem_cons, List.not_mem_nil, or_false] at hz; rcases hz with rfl | rfl | rfl | rfl | rfl | rfl | rfl | rfl | rfl | rfl | rfl | rfl <;> first | rfl | exact mv3.t.one | exact mv3.i.one | exact mv3.f.one | exact mv3.tb.one | exact mv3.me.one | exact mv3.g.one | exact mv3.e.one | exact mv3.el.one | exact mv3.c.one | exact mv3.d.one) bm2 (by simp)) rfl rfl ?_
  rintro H16 ⟨u16, b16⟩
  have o0 := o0.upd u16 (by omega)
  have zu16 := u16.1
  have oX1 := oX1.upd u16 (by omega)
  have bm1 := ((u16).2 _ (by omega)).trans bm1
  have oS := oS.upd u16 (by omega)
  have oX2 := oX2.upd u16 (by omega)
  have bm2 := b16
  rw [over_all (by rfl)] at bm2
  have mv3 := hst _ ((RW.refl _ _).updT u16 (.inl (by omega))).k
  have oX3 : Old H16 H16 := Old.refl _
  refine KL.fin 1 rfl (KQ.seq (KC.seq (KC.sr (KL.run 1 rfl (KL.q ((R.neq rfl rfl rfl).val ((congrArg (fun b => Value.bool (!b)) (decide_eq_true rfl)))) rfl (KL.run 2 rfl (KL.q ((R.neq rfl rfl rfl).val ((congrArg (fun b => Value.bool (!b)) (decide_eq_true rfl)))) rfl (KL.fin 1 rfl (KQ.seq (KC.condF rfl (KC.skip (KQ.seq ?_))))))))))))
  refine KC.sr (KL.lda rfl (cells_of bm1) rfl ?_)
  refine KL.m (M.alloc rfl zr33 rfl) rfl ?_
  rintro _ H17 ⟨rfl, n17⟩
  have z17 := n17.2.1
  have o0 := o0.trans n17.1
  have oX1 := oX1.trans n17.1
  have bm1 := (n17.1).blk bm1
  have oS := oS.trans n17.1
  have oX2 := oX2.trans n17.1
  have bm2 := (n17.1).blk bm2
  have oX3 := oX3.trans n17.1
  have b17 := n17.2.2
  have bw := b17
  refine KL.opS (S.storeAgg rfl sz33 rfl rfl (rfl) (by intro z hz; simp only [List.mem_cons, List.not_mem_nil, or_false] at hz; rcases hz with rfl | rfl | rfl | rfl | rfl | rfl | rfl | rfl | rfl | rfl | rfl | rfl <;> first | rfl | exact mv1.t.one | exact mv1.i.one | exact mv1.f.one | exact mv1.tb.one | exact mv1.me.one | exact mv1.g.one | exact mv1.e.one | exact mv1.el.one | exact mv1.c.one | exact mv1.d.one) bw (by simp)) rfl rfl ?_
  rintro H18 ⟨u18, b18⟩
  have o0 := o0.upd u18 (by omega)
  have zu18 := u18.1
  have oX1 := oX1.upd u18 (by omega)
  have bm1 := ((u18).2 _ (by omega)).trans bm1
  have oS := oS.upd u18 (by omega)
  have oX2 := oX2.upd u18 (by omega)
  have bm2 := ((u18).2 _ (by omega)).trans bm2
  have oX3 := oX3.upd u18 (by omega)
  have bw := b18
  rw [over_all (by rfl)] at bw
  refine KL.nil (KQ.seq (KC.seq (KC.sr (KL.fin 1 rfl (KQ.seq (KC.block (KC.sr (KL.fin 2 rfl (KQ.seq ?_)))))))))
  refine KC.iq rfl ?_ ?_
  · intro hq1
    refine KC.region ?_
    refine KL.q (by first | exact R.fieldAddr rfl Tryd.underlying33 rfl rfl sz22 rfl | exact R.fieldAddrP rfl Tryd.underlying33 rfl rfl sz22 rfl) rfl ?_
    refine KL.opS (S.store rfl sz22 rfl rfl rfl rfl bw (by simp)) rfl rfl ?_
    rintro H19 ⟨u19, b19⟩
    have o0 := o0.upd u19 (by omega)
    have zu19 := u19.1
    have oX1 := oX1.upd u19 (by omega)
    have bm1 := ((u19).2 _ (by omega)).trans bm1
    have oS := oS.upd u19 (by omega)
    have oX2 := oX2.upd u19 (by omega)
    have bm2 := ((u19).2 _ (by omega)).trans bm2
    have oX3 := oX3.upd u19 (by omega)
    have bw := b19
    refine KL.nil (KQ.normBlock (KQ.seq (KC.seq ?_)))
    first | rw [Bn.us_1 hq1] at mv3 bm2 | rw [Bn.us_2 hq2] at mv3 bm2 | rw [Bn.us_4 hq4] at mv3 bm2 | rw [Bn.us_5 hq5] at mv3 bm2 | rw [Bn.us_6 hq6] at mv3 bm2 | rw [Bn.us_7 hq7] at mv3 bm2 | rw [Bn.us_8 hq8] at mv3 bm2 | rw [Bn.us_9 hq9] at mv3 bm2 | rw [Bn.us_11 hq11] at mv3 bm2 | rw [Bn.us_n hq1 hq2 hq4 hq5 hq6 hq7 hq8 hq9 hq11] at mv3 bm2
    refine KC.region (KL.lda rfl (cells_of bm2) rfl (KL.lda rfl (cells_of bw) rfl ?_))
    refine KL.c rfl Tryd.call12 (Same_refl (mv3.old oX3) (by first | exact { mv1.old oX1 with t := Sl.nil _ _ _ } | exact { mv1.old oX1 with i := Sl.nil _ _ _ } | exact { mv1.old oX1 with tb := Sl.nil _ _ _ } | exact { mv1.old oX1 with me := Sl.nil _ _ _ } | exact { mv1.old oX1 with g := Sl.nil _ _ _ } | exact { mv1.old oX1 with e := Sl.nil _ _ _ } | exact { mv1.old oX1 with s := (show InR .u32 0 by decide) } | exact { mv1.old oX1 with el := Sl.nil _ _ _ } | exact { mv1.old oX1 with d := Sl.nil _ _ _ } | exact mv1.old oX1)) ?_
    rintro _ H20 ⟨rfl, ox⟩
    have zc_H20 := (ox).1
    have o0 := o0.trans ox
    have oX1 := oX1.trans ox
    have bm1 := (ox).blk bm1
    have oS := oS.trans ox
    have oX2 := oX2.trans ox
    have bm2 := (ox).blk bm2
    have oX3 := oX3.trans ox
    have bw := (ox).blk bw
    refine KL.fin 1 rfl (KQ.seq (KC.ret (KQ.ofRet (KQ.fin1 Tryd.results5 rfl ?_))))
    exact ⟨rfl, o0⟩
  intro hq1
  refine KC.sr (KL.fin 2 rfl (KQ.seq ?_))
  refine KC.iq rfl ?_ ?_
  · intro hq2
    refine KC.region ?_
    refine KL.q (by first | exact R.fieldAddr rfl Tryd.underlying33 rfl rfl sz23 rfl | exact R.fieldAddrP rfl Tryd.underlying33 rfl rfl sz23 rfl) rfl ?_
    refine KL.opS (S.store rfl sz23 rfl rfl rfl rfl bw (by simp)) rfl rfl ?_
    rintro H21 ⟨u21, b21⟩
    have o0 := o0.upd u21 (by omega)
    have zu21 := u21.1
    have oX1 := oX1.upd u21 (by omega)
    have bm1 := ((u21).2 _ (by omega)).trans bm1
    have oS := oS.upd u21 (by omega)
    have oX2 := oX2.upd u21 (by omega)
    have bm2 := ((u21).2 _ (by omega)).trans bm2
    have oX3 := oX3.upd u21 (by omega)
    have bw := b21
    refine KL.nil (KQ.normBlock (KQ.seq (KC.seq ?_)))
    first | rw [Bn.us_1 hq1] at mv3 bm2 | rw [Bn.us_2 hq2] at mv3 bm2 | rw [Bn.us_4 hq4] at mv3 bm2 | rw [Bn.us_5 hq5] at mv3 bm2 | rw [Bn.us_6 hq6] at mv3 bm2 | rw [Bn.us_7 hq7] at mv3 bm2 | rw [Bn.us_8 hq8] at mv3 bm2 | rw [Bn.us_9 hq9] at mv3 bm2 | rw [Bn.us_11 hq11] at mv3 bm2 | rw [Bn.us_n hq1 hq2 hq4 hq5 hq6 hq7 hq8 hq9 hq11] at mv3 bm2
    refine KC.region (KL.lda rfl (cells_of bm2) rfl (KL.lda rfl (cells_of bw) rfl ?_))
    refine KL.c rfl Tryd.call12 (Same_refl (mv3.old oX3) (by first | exact { mv1.old oX1 with t := Sl.nil _ _ _ } | exact { mv1.old oX1 with i := Sl.nil _ _ _ } | exact { mv1.old oX1 with tb := Sl.nil _ _ _ } | exact { mv1.old oX1 with me := Sl.nil _ _ _ } | exact { mv1.old oX1 with g := Sl.nil _ _ _ } | exact { mv1.old oX1 with e := Sl.nil _ _ _ } | exact { mv1.old oX1 with s := (show InR .u32 0 by decide) } | exact { mv1.old oX1 with el := Sl.nil _ _ _ } | exact { mv1.old oX1 with d := Sl.nil _ _ _ } | exact mv1.old oX1)) ?_
    rintro _ H22 ⟨rfl, ox⟩
    have zc_H22 := (ox).1
    have o0 := o0.trans ox
    have oX1 := oX1.trans ox
    have bm1 := (ox).blk bm1
    have oS := oS.trans ox
    have oX2 := oX2.trans ox
    have bm2 := (ox).blk bm2
    have oX3 := oX3.trans ox
    have bw := (ox).blk bw
    refine KL.fin 1 rfl (KQ.seq (KC.ret (KQ.ofRet (KQ.fin1 Tryd.results5 rfl ?_))))
    exact ⟨rfl, o0⟩
  intro hq2
  refine KC.sr (KL.fin 2 rfl (KQ.seq ?_))
  refine KC.iq rfl ?_ ?_
  · intro hq4
    refine KC.region ?_
    refine KL.q (by first | exact R.fieldAddr rfl Tryd.underlying33 rfl rfl sz25 rfl | exact R.fieldAddrP rfl Tryd.underlying33 rfl rfl sz25 rfl) rfl ?_
    refine KL.opS (S.store rfl sz25 rfl rfl rfl rfl bw (by simp)) rfl rfl ?_
    rintro H23 ⟨u23, b23⟩
    have o0 := o0.upd u23 (by omega)
    have zu23 := u23.1
    have oX1 := oX1.upd u23 (by omega)
    have bm1 := ((u23).2 _ (by omega)).trans bm1
    have oS := oS.upd u23 (by omega)
    have oX2 := oX2.upd u23 (by omega)
    have bm2 := ((u23).2 _ (by omega)).trans bm2
    have oX3 := oX3.upd u23 (by omega)
    have bw := b23
    refine KL.nil (KQ.normBlock (KQ.seq (KC.seq ?_)))
    first | rw [Bn.us_1 hq1] at mv3 bm2 | rw [Bn.us_2 hq2] at mv3 bm2 | rw [Bn.us_4 hq4] at mv3 bm2 | rw [Bn.us_5 hq5] at mv3 bm2 | rw [Bn.us_6 hq6] at mv3 bm2 | rw [Bn.us_7 hq7] at mv3 bm2 | rw [Bn.us_8 hq8] at mv3 bm2 | rw [Bn.us_9 hq9] at mv3 bm2 | rw [Bn.us_11 hq11] at mv3 bm2 | rw [Bn.us_n hq1 hq2 hq4 hq5 hq6 hq7 hq8 hq9 hq11] at mv3 bm2
    refine KC.region (KL.lda rfl (cells_of bm2) rfl (KL.lda rfl (cells_of bw) rfl ?_))
    refine KL.c rfl Tryd.call12 (Same_refl (mv3.old oX3) (by first | exact { mv1.old oX1 with t := Sl.nil _ _ _ } | exact { mv1.old oX1 with i := Sl.nil _ _ _ } | exact { mv1.old oX1 with tb := Sl.nil _ _ _ } | exact { mv1.old oX1 with me := Sl.nil _ _ _ } | exact { mv1.old oX1 with g := Sl.nil _ _ _ } | exact { mv1.old oX1 with e := Sl.nil _ _ _ } | exact { mv1.old oX1 with s := (show InR .u32 0 by decide) } | exact { mv1.old oX1 with el := Sl.nil _ _ _ } | exact { mv1.old oX1 with d := Sl.nil _ _ _ } | exact mv1.old oX1)) ?_
    rintro _ H24 ⟨rfl, ox⟩
    have zc_H24 := (ox).1
    have o0 := o0.trans ox
    have oX1 := oX1.trans ox
    have bm1 := (ox).blk bm1
    have oS := oS.trans ox
    have oX2 := oX2.trans ox
    have bm2 := (ox).blk bm2
    have oX3 := oX3.trans ox
    have bw := (ox).blk bw
    refine KL.fin 1 rfl (KQ.seq (KC.ret (KQ.ofRet (KQ.fin1 Tryd.results5 rfl ?_))))
    exact ⟨rfl, o0⟩
  intro hq4
  refine KC.sr (KL.fin 2 rfl (KQ.seq ?_))
  refine KC.iq rfl ?_ ?_
  · intro hq5
    refine KC.region ?_
    refine KL.q (by first | exact R.fieldAddr rfl Tryd.underlying33 rfl rfl sz25 rfl | exact R.fieldAddrP rfl Tryd.underlying33 rfl rfl sz25 rfl) rfl ?_
    refine KL.opS (S.store rfl sz25 rfl rfl rfl rfl bw (by simp)) rfl rfl ?_
    rintro H25 ⟨u25, b25⟩
    have o0 := o0.upd u25 (by omega)
    have zu25 := u25.1
    have oX1 := oX1.upd u25 (by omega)
    have bm1 := ((u25).2 _ (by omega)).trans bm1
    have oS := oS.upd u25 (by omega)
    have oX2 := oX2.upd u25 (by omega)
    have bm2 := ((u25).2 _ (by omega)).trans bm2
    have oX3 := oX3.upd u25 (by omega)
    have bw := b25
    refine KL.nil (KQ.normBlock (KQ.seq (KC.seq ?_)))
    first | rw [Bn.us_1 hq1] at mv3 bm2 | rw [Bn.us_2 hq2] at mv3 bm2 | rw [Bn.us_4 hq4] at mv3 bm2 | rw [Bn.us_5 hq5] at mv3 bm2 | rw [Bn.us_6 hq6] at mv3 bm2 | rw [Bn.us_7 hq7] at mv3 bm2 | rw [Bn.us_8 hq8] at mv3 bm2 | rw [Bn.us_9 hq9] at mv3 bm2 | rw [Bn.us_11 hq11] at mv3 bm2 | rw [Bn.us_n hq1 hq2 hq4 hq5 hq6 hq7 hq8 hq9 hq11] at mv3 bm2
    refine KC.region (KL.lda rfl (cells_of bm2) rfl (KL.lda rfl (cells_of bw) rfl ?_))
    refine KL.c rfl Tryd.call12 (Same_refl (mv3.old oX3) (by first | exact { mv1.old oX1 with t := Sl.nil _ _ _ } | exact { mv1.old oX1 with i := Sl.nil _ _ _ } | exact { mv1.old oX1 with tb := Sl.nil _ _ _ } | exact { mv1.old oX1 with me := Sl.nil _ _ _ } | exact { mv1.old oX1 with g := Sl.nil _ _ _ } | exact { mv1.old oX1 with e := Sl.nil _ _ _ } | exact { mv1.old oX1 with s := (show InR .u32 0 by decide) } | exact { mv1.old oX1 with el := Sl.nil _ _ _ } | exact { mv1.old oX1 with d := Sl.nil _ _ _ } | exact mv1.old oX1)) ?_
    rintro _ H26 ⟨rfl, ox⟩
    have zc_H26 := (ox).1
    have o0 := o0.trans ox
    have oX1 := oX1.trans ox
    have bm1 := (ox).blk bm1
    have oS := oS.trans ox
    have oX2 := oX2.trans ox
    have bm2 := (ox).blk bm2
    have oX3 := oX3.trans ox
    have bw := (ox).blk bw
    refine KL.fin 1 rfl (KQ.seq (KC.ret (KQ.ofRet (KQ.fin1 Tryd.results5 rfl ?_))))
    exact ⟨rfl, o0⟩
  intro hq5
  refine KC.sr (KL.fin 2 rfl (KQ.seq ?_))
  refine KC.iq rfl ?_ ?_
  · intro hq6
    refine KC.region ?_
    refine KL.q (by first | exact R.fieldAddr rfl Tryd.underlying33 rfl rfl sz26 rfl | exact R.fieldAddrP rfl Tryd.underlying33 rfl rfl sz26 rfl) rfl ?_
    refine KL.opS (S.store rfl sz26 rfl rfl rfl rfl bw (by simp)) rfl rfl ?_
    rintro H27 ⟨u27, b27⟩
    have o0 := o0.upd u27 (by omega)
    have zu27 := u27.1
    have oX1 := oX1.upd u27 (by omega)
    have bm1 := ((u27).2 _ (by omega)).trans bm1
    have oS := oS.upd u27 (by omega)
    have oX2 := oX2.upd u27 (by omega)
    have bm2 := ((u27).2 _ (by omega)).trans bm2
    have oX3 := oX3.upd u27 (by omega)
    have bw := b27
    refine KL.nil (KQ.normBlock (KQ.seq (KC.seq ?_)))
    first | rw [Bn.us_1 hq1] at mv3 bm2 | rw [Bn.us_2 hq2] at mv3 bm2 | rw [Bn.us_4 hq4] at mv3 bm2 | rw [Bn.us_5 hq5] at mv3 bm2 | rw [Bn.us_6 hq6] at mv3 bm2 | rw [Bn.us_7 hq7] at mv3 bm2 | rw [Bn.us_8 hq8] at mv3 bm2 | rw [Bn.us_9 hq9] at mv3 bm2 | rw [Bn.us_11 hq11] at mv3 bm2 | rw [Bn.us_n hq1 hq2 hq4 hq5 hq6 hq7 hq8 hq9 hq11] at mv3 bm2
    refine KC.region (KL.lda rfl (cells_of bm2) rfl (KL.lda rfl (cells_of bw) rfl ?_))
    refine KL.c rfl Tryd.call12 (Same_refl (mv3.old oX3) (by first | exact { mv1.old oX1 with t := Sl.nil _ _ _ } | exact { mv1.old oX1 with i := Sl.nil _ _ _ } | exact { mv1.old oX1 with tb := Sl.nil _ _ _ } | exact { mv1.old oX1 with me := Sl.nil _ _ _ } | exact { mv1.old oX1 with g := Sl.nil _ _ _ } | exact { mv1.old oX1 with e := Sl.nil _ _ _ } | exact { mv1.old oX1 with s := (show InR .u32 0 by decide) } | exact { mv1.old oX1 with el := Sl.nil _ _ _ } | exact { mv1.old oX1 with d := Sl.nil _ _ _ } | exact mv1.old oX1)) ?_
    rintro _ H28 ⟨rfl, ox⟩
    have zc_H28 := (ox).1
    have o0 := o0.trans ox
    have oX1 := oX1.trans ox
    have bm1 := (ox).blk bm1
    have oS := oS.trans ox
    have oX2 := oX2.trans ox
    have bm2 := (ox).blk bm2
    have oX3 := oX3.trans ox
    have bw := (ox).blk bw
    refine KL.fin 1 rfl (KQ.seq (KC.ret (KQ.ofRet (KQ.fin1 Tryd.results5 rfl ?_))))
    exact ⟨rfl, o0⟩
  intro hq6
  refine KC.sr (KL.fin 2 rfl (KQ.seq ?_))
  refine KC.iq rfl ?_ ?_
  · intro hq7
    refine KC.region ?_
    refine KL.q (by first | exact R.fieldAddr rfl Tryd.underlying33 rfl rfl sz27 rfl | exact R.fieldAddrP rfl Tryd.underlying33 rfl rfl sz27 rfl) rfl ?_
    refine KL.opS (S.store rfl sz27 rfl rfl rfl rfl bw (by simp)) rfl rfl ?_
    rintro H29 ⟨u29, b29⟩
    have o0 := o0.upd u29 (by omega)
    have zu29 := u29.1
    have oX1 := oX1.upd u29 (by omega)
    have bm1 := ((u29).2 _ (by omega)).trans bm1
    have oS := oS.upd u29 (by omega)
    have oX2 := oX2.upd u29 (by omega)
    have bm2 := ((u29).2 _ (by omega)).trans bm2
    have oX3 := oX3.upd u29 (by omega)
    have bw := b29
    refine KL.nil (KQ.normBlock (KQ.seq (KC.seq ?_)))
    first | rw [Bn.us_1 hq1] at mv3 bm2 | rw [Bn.us_2 hq2] at mv3 bm2 | rw [Bn.us_4 hq4] at mv3 bm2 | rw [Bn.us_5 hq5] at mv3 bm2 | rw [Bn.us_6 hq6] at mv3 bm2 | rw [Bn.us_7 hq7] at mv3 bm2 | rw [Bn.us_8 hq8] at mv3 bm2 | rw [Bn.us_9 hq9] at mv3 bm2 | rw [Bn.us_11 hq11] at mv3 bm2 | rw [Bn.us_n hq1 hq2 hq4 hq5 hq6 hq7 hq8 hq9 hq11] at mv3 bm2
    refine KC.region (KL.lda rfl (cells_of bm2) rfl (KL.lda rfl (cells_of bw) rfl ?_))
    refine KL.c rfl Tryd.call12 (Same_refl (mv3.old oX3) (by first | exact { mv1.old oX1 with t := Sl.nil _ _ _ } | exact { mv1.old oX1 with i := Sl.nil _ _ _ } | exact { mv1.old oX1 with tb := Sl.nil _ _ _ } | exact { mv1.old oX1 with me := Sl.nil _ _ _ } | exact { mv1.old oX1 with g := Sl.nil _ _ _ } | exact { mv1.old oX1 with e := Sl.nil _ _ _ } | exact { mv1.old oX1 with s := (show InR .u32 0 by decide) } | exact { mv1.old oX1 with el := Sl.nil _ _ _ } | exact { mv1.old oX1 with d := Sl.nil _ _ _ } | exact mv1.old oX1)) ?_
    rintro _ H30 ⟨rfl, ox⟩
    have zc_H30 := (ox).1
    have o0 := o0.trans ox
    have oX1 := oX1.trans ox
    have bm1 := (ox).blk bm1
    have oS := oS.trans ox
    have oX2 := oX2.trans ox
    have bm2 := (ox).blk bm2
    have oX3 := oX3.trans ox
    have bw := (ox).blk bw
    refine KL.fin 1 rfl (KQ.seq (KC.ret (KQ.ofRet (KQ.fin1 Tryd.results5 rfl ?_))))
    exact ⟨rfl, o0⟩
  intro hq7
  refine KC.sr (KL.fin 2 rfl (KQ.seq ?_))
  refine KC.iq rfl ?_ ?_
  · intro hq8
    refine KC.region ?_
    refine KL.q (by first | exact R.fieldAddr rfl Tryd.underlying33 rfl rfl sz4 rfl | exact R.fieldAddrP rfl Tryd.underlying33 rfl rfl sz4 rfl) rfl ?_
    refine KL.opS (S.store rfl sz4 rfl rfl rfl rfl bw (by simp)) rfl rfl ?_
    rintro H31 ⟨u31, b31⟩
    have o0 := o0.upd u31 (by omega)
    have zu31 := u31.1
    have oX1 := oX1.upd u31 (by omega)
    have bm1 := ((u31).2 _ (by omega)).trans bm1
    have oS := oS.upd u31 (by omega)
    have oX2 := oX2.upd u31 (by omega)
    have bm2 := ((u31).2 _ (by omega)).trans bm2
    have oX3 := oX3.upd u31 (by omega)
    have bw := b31
    refine KL.q (by first | exact R.fieldAddr rfl Tryd.underlying33 rfl rfl sz28 rfl | exact R.fieldAddrP rfl Tryd.underlying33 rfl rfl sz28 rfl) rfl ?_
    refine KL.opS (S.store rfl sz28 rfl rfl rfl rfl bw (by simp)) rfl rfl ?_
    rintro H32 ⟨u32, b32⟩
    have o0 := o0.upd u32 (by omega)
    have zu32 := u32.1
    have oX1 := oX1.upd u32 (by omega)
    have bm1 := ((u32).2 _ (by omega)).trans bm1
    have oS := oS.upd u32 (by omega)
    have oX2 := oX2.upd u32 (by omega)
    have bm2 := ((u32).2 _ (by omega)).trans bm2
    have oX3 := oX3.upd u32 (by omega)
    have bw := b32
    refine KL.nil (KQ.normBlock (KQ.seq (KC.seq ?_)))
    first | rw [Bn.us_1 hq1] at mv3 bm2 | rw [Bn.us_2 hq2] at mv3 bm2 | rw [Bn.us_4 hq4] at mv3 bm2 | rw [Bn.us_5 hq5] at mv3 bm2 | rw [Bn.us_6 hq6] at mv3 bm2 | rw [Bn.us_7 hq7] at mv3 bm2 | rw [Bn.us_8 hq8] at mv3 bm2 | rw [Bn.us_9 hq9] at mv3 bm2 | rw [Bn.us_11 hq11] at mv3 bm2 | rw [Bn.us_n hq1 hq2 hq4 hq5 hq6 hq7 hq8 hq9 hq11] at mv3 bm2
    refine KC.region (KL.lda rfl (cells_of bm2) rfl (KL.lda rfl (cells_of bw) rfl ?_))
    refine KL.c rfl Tryd.call12 (Same_refl (mv3.old oX3) (by first | exact { mv1.old oX1 with t := Sl.nil _ _ _ } | exact { mv1.old oX1 with i := Sl.nil _ _ _ } | exact { mv1.old oX1 with tb := Sl.nil _ _ _ } | exact { mv1.old oX1 with me := Sl.nil _ _ _ } | exact { mv1.old oX1 with g := Sl.nil _ _ _ } | exact { mv1.old oX1 with e := Sl.nil _ _ _ } | exact { mv1.old oX1 with s := (show InR .u32 0 by decide) } | exact { mv1.old oX1 with el := Sl.nil _ _ _ } | exact { mv1.old oX1 with d := Sl.nil _ _ _ } | exact mv1.old oX1)) ?_
    rintro _ H33 ⟨rfl, ox⟩
    have zc_H33 := (ox).1
    have o0 := o0.trans ox
    have oX1 := oX1.trans ox
    have bm1 := (ox).blk bm1
    have oS := oS.trans ox
    have oX2 := oX2.trans ox
    have bm2 := (ox).blk bm2
    have oX3 := oX3.trans ox
    have bw := (ox).blk bw
    refine KL.fin 1 rfl (KQ.seq (KC.ret (KQ.ofRet (KQ.fin1 Tryd.results5 rfl ?_))))
    exact ⟨rfl, o0⟩
  intro hq8
  refine KC.sr (KL.fin 2 rfl (KQ.seq ?_))
  refine KC.iq rfl ?_ ?_
  · intro hq9
    refine KC.region ?_
    refine KL.q (by first | exact R.fieldAddr rfl Tryd.underlying33 rfl rfl sz29 rfl | exact R.fieldAddrP rfl Tryd.underlying33 rfl rfl sz29 rfl) rfl ?_
    refine KL.opS (S.store rfl sz29 rfl rfl rfl rfl bw (by simp)) rfl rfl ?_
    rintro H34 ⟨u34, b34⟩
    have o0 := o0.upd u34 (by omega)
    have zu34 := u34.1
    have oX1 := oX1.upd u34 (by omega)
    have bm1 := ((u34).2 _ (by omega)).trans bm1
    have oS := oS.upd u34 (by omega)
    have oX2 := oX2.upd u34 (by omega)
    have bm2 := ((u34).2 _ (by omega)).trans bm2
    have oX3 := oX3.upd u34 (by omega)
    have bw := b34
    refine KL.nil (KQ.normBlock (KQ.seq (KC.seq ?_)))
    first | rw [Bn.us_1 hq1] at mv3 bm2 | rw [Bn.us_2 hq2] at mv3 bm2 | rw [Bn.us_4 hq4] at mv3 bm2 | rw [Bn.us_5 hq5] at mv3 bm2 | rw [Bn.us_6 hq6] at mv3 bm2 | rw [Bn.us_7 hq7] at mv3 bm2 | rw [Bn.us_8 hq8] at mv3 bm2 | rw [Bn.us_9 hq9] at mv3 bm2 | rw [Bn.us_11 hq11] at mv3 bm2 | rw [Bn.us_n hq1 hq2 hq4 hq5 hq6 hq7 hq8 hq9 hq11] at mv3 bm2
    refine KC.region (KL.lda rfl (cells_of bm2) rfl (KL.lda rfl (cells_of bw) rfl ?_))
    refine KL.c rfl Tryd.call12 (Same_refl (mv3.old oX3) (by first | exact { mv1.old oX1 with t := Sl.nil _ _ _ } | exact { mv1.old oX1 with i := Sl.nil _ _ _ } | exact { mv1.old oX1 with tb := Sl.nil _ _ _ } | exact { mv1.old oX1 with me := Sl.nil _ _ _ } | exact { mv1.old oX1 with g := Sl.nil _ _ _ } | exact { mv1.old oX1 with e := Sl.nil _ _ _ } | exact { mv1.old oX1 with s := (show InR .u32 0 by decide) } | exact { mv1.old oX1 with el := Sl.nil _ _ _ } | exact { mv1.old oX1 with d := Sl.nil _ _ _ } | exact mv1.old oX1)) ?_
    rintro _ H35 ⟨rfl, ox⟩
    have zc_H35 := (ox).1
    have o0 := o0.trans ox
    have oX1 := oX1.trans ox
    have bm1 := (ox).blk bm1
    have oS := oS.trans ox
    have oX2 := oX2.trans ox
    have bm2 := (ox).blk bm2
    have oX3 := oX3.trans ox
    have bw := (ox).blk bw
    refine KL.fin 1 rfl (KQ.seq (KC.ret (KQ.ofRet (KQ.fin1 Tryd.results5 rfl ?_))))
    exact ⟨rfl, o0⟩
  intro hq9
  refine KC.sr (KL.fin 2 rfl (KQ.seq ?_))
  refine KC.iq rfl ?_ ?_
  · intro hq11
    refine KC.region ?_
    refine KL.q (by first | exact R.fieldAddr rfl Tryd.underlying33 rfl rfl sz31 rfl | exact R.fieldAddrP rfl Tryd.underlying33 rfl rfl sz31 rfl) rfl ?_
    refine KL.opS (S.store rfl sz31 rfl rfl rfl rfl bw (by simp)) rfl rfl ?_
    rintro H36 ⟨u36, b36⟩
    have o0 := o0.upd u36 (by omega)
    have zu36 := u36.1
    have oX1 := oX1.upd u36 (by omega)
    have bm1 := ((u36).2 _ (by omega)).trans bm1
    have oS := oS.upd u36 (by omega)
    have oX2 := oX2.upd u36 (by omega)
    have bm2 := ((u36).2 _ (by omega)).trans bm2
    have oX3 := oX3.upd u36 (by omega)
    have bw := b36
    refine KL.nil (KQ.normBlock (KQ.seq (KC.seq ?_)))
    first | rw [Bn.us_1 hq1] at mv3 bm2 | rw [Bn.us_2 hq2] at mv3 bm2 | rw [Bn.us_4 hq4] at mv3 bm2 | rw [Bn.us_5 hq5] at mv3 bm2 | rw [Bn.us_6 hq6] at mv3 bm2 | rw [Bn.us_7 hq7] at mv3 bm2 | rw [Bn.us_8 hq8] at mv3 bm2 | rw [Bn.us_9 hq9] at mv3 bm2 | rw [Bn.us_11 hq11] at mv3 bm2 | rw [Bn.us_n hq1 hq2 hq4 hq5 hq6 hq7 hq8 hq9 hq11] at mv3 bm2
    refine KC.region (KL.lda rfl (cells_of bm2) rfl (KL.lda rfl (cells_of bw) rfl ?_))
    refine KL.c rfl Tryd.call12 (Same_refl (mv3.old oX3) (by first | exact { mv1.old oX1 with t := Sl.nil _ _ _ } | exact { mv1.old oX1 with i := Sl.nil _ _ _ } | exact { mv1.old oX1 with tb := Sl.nil _ _ _ } | exact { mv1.old oX1 with me := Sl.nil _ _ _ } | exact { mv1.old oX1 with g := Sl.nil _ _ _ } | exact { mv1.old oX1 with e := Sl.nil _ _ _ } | exact { mv1.old oX1 with s := (show InR .u32 0 by decide) } | exact { mv1.old oX1 with el := Sl.nil _ _ _ } | exact { mv1.old oX1 with d := Sl.nil _ _ _ } | exact mv1.old oX1)) ?_
    rintro _ H37 ⟨rfl, ox⟩
    have zc_H37 := (ox).1
    have o0 := o0.trans ox
    have oX1 := oX1.trans ox
    have bm1 := (ox).blk bm1
    have oS := oS.trans ox
    have oX2 := oX2.trans ox
    have bm2 := (ox).blk bm2
    have oX3 := oX3.trans ox
    have bw := (ox).blk bw
    refine KL.fin 1 rfl (KQ.seq (KC.ret (KQ.ofRet (KQ.fin1 Tryd.results5 rfl ?_))))
    exact ⟨rfl, o0⟩
  intro hq11
  refine KC.skip (KQ.normBlock (KQ.seq (KC.seq ?_)))
  first | rw [Bn.us_1 hq1] at mv3 bm2 | rw [Bn.us_2 hq2] at mv3 bm2 | rw [Bn.us_4 hq4] at mv3 bm2 | rw [Bn.us_5 hq5] at mv3 bm2 | rw [Bn.us_6 hq6] at mv3 bm2 | rw [Bn.us_7 hq7] at mv3 bm2 | rw [Bn.us_8 hq8] at mv3 bm2 | rw [Bn.us_9 hq9] at mv3 bm2 | rw [Bn.us_11 hq11] at mv3 bm2 | rw [Bn.us_n hq1 hq2 hq4 hq5 hq6 hq7 hq8 hq9 hq11] at mv3 bm2
  refine KC.region (KL.lda rfl (cells_of bm2) rfl (KL.lda rfl (cells_of bw) rfl ?_))
  refine KL.c rfl Tryd.call12 (Same_refl (mv3.old oX3) (by first | exact { mv1.old oX1 with t := Sl.nil _ _ _ } | exact { mv1.old oX1 with i := Sl.nil _ _ _ } | exact { mv1.old oX1 with tb := Sl.nil _ _ _ } | exact { mv1.old oX1 with me := Sl.nil _ _ _ } | exact { mv1.old oX1 with g := Sl.nil _ _ _ } | exact { mv1.old oX1 with e := Sl.nil _ _ _ } | exact { mv1.old oX1 with s := (show InR .u32 0 by decide) } | exact { mv1.old oX1 with el := Sl.nil _ _ _ } | exact { mv1.old oX1 with d := Sl.nil _ _ _ } | exact mv1.old oX1)) ?_
  rintro _ H38 ⟨rfl, ox⟩
  have zc_H38 := (ox).1
  have o0 := o0.trans ox
  have oX1 := oX1.trans ox
  have bm1 := (ox).blk bm1
  have oS := oS.trans ox
  have oX2 := oX2.trans ox
  have bm2 := (ox).blk bm2
  have oX3 := oX3.trans ox
  have bw := (ox).blk bw
  refine KL.fin 1 rfl (KQ.seq (KC.ret (KQ.ofRet (KQ.fin1 Tryd.results5 rfl ?_))))
  exact ⟨rfl, o0⟩
end Go.Proofs.YtldmfchamcpmmaaDoor
