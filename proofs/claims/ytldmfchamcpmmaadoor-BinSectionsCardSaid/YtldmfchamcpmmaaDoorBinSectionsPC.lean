/- What the proof of BinSections leans on, part 3. No condition but those that each law states. -/
import Derived.Test.YtldmfchamcpmmaaDoorRows
import Derived.WalkKit
import Derived.Deep.Quiet
import Derived.Below
import Derived.WalkLawsBesides
import Derived.Lib.Hide
import Derived.Laws.AppendOwnNone
import Derived.Laws.CopyRow
import Derived.Laws.Tables
import Derived.Orders
import Derived.Deep.Slices
import Derived.Deep.Fields
import Derived.OpenShut
import Derived.ProofKit
import Derived.Lib.AppendZerosOnto
import Derived.Laws.BytesString
import Derived.Lib.SlBytesConst
import Derived.Laws.IdiomStrings
import Derived.Lib.AppendStr
import Derived.Lib.EndianZ
import Derived.Lib.DecodeN
import Derived.Lib.ValidLaws
import Derived.Lib.EndianBits
import Derived.Maps.AppendAt
import Derived.ChangeKeysEq
import Derived.Lib.LaidTab
import Derived.Lib.LaidU8
import Derived.LaidMore
import Derived.WalkSpells
import Derived.Lib.ItoaNum
import Derived.Defers
import Derived.Recover
import Derived.Scope
import Derived.Laws.StructEq
import Derived.ArgAppend
import Derived.Test.YtldmfchamcpmmaaDoorBinSectionsPB
set_option maxHeartbeats 10000000
set_option maxRecDepth 100000
namespace Go.Proofs.YtldmfchamcpmmaaDoor
open Go Go.RowKit
set_option linter.unusedVariables false
set_option linter.unusedSimpArgs false
set_option linter.unnecessarySimpa false
theorem cloE_ret {H : Heap} {g1 g2 g3 : Nat} : CtDef Tryd.prog 161 [.pointer (some ⟨g1, 0, none⟩), .pointer (some ⟨g2, 0, none⟩), .pointer (some ⟨g3, 0, none⟩)] H (.returning) (fun u' H' => settle u' = .returning ∧ H' = H) := by
  refine CtDef.mk (u' := .returning) (r := .nilIface) Tryd.func161 rfl Tryd.ntmps161 rfl rfl rfl rfl rfl rfl rfl rfl rfl (⟨rfl, rfl⟩) ?_
  intro W0 hW0
  have o0 : Old H H := Old.refl H
  refine KC.sr (KL.run 1 rfl ?_)
  refine KL.q ((R.neqNilI rfl Tryd.underlying20 rfl rfl (by exact .inl rfl)).val (show _ = Value.bool false from rfl)) rfl ?_
  refine KL.nil (KQ.seq (KC.condF rfl (KC.skip (KQ.fin0 Tryd.results161 ?_))))
  exact ⟨rfl, rfl⟩
theorem cloE_pan {H : Heap} {g1 g2 g3 : Nat} {e : Int} {c1 : Value} {c2 c3 : Value} (ba : H[g1]? = some (.cells [c1].toArray 52 (0, 0))) (bb : H[g2]? = some (.cells [c2].toArray 3 (0, 0))) (bc : H[g3]? = some (.cells [c3].toArray 37 (0, 0))) (h12 : g1 < g2) (h23 : g2 < g3) : CtDef Tryd.prog 161 [.pointer (some ⟨g1, 0, none⟩), .pointer (some ⟨g2, 0, none⟩), .pointer (some ⟨g3, 0, none⟩)] H (.panicking (Pan (failV e))) (fun u' H' => settle u' = .returning ∧ OldB g1 H H' ∧ H'[g1]? = some (.cells [.slice none 0 0].toArray 52 (0, 0)) ∧ H'[g2]? = some (.cells [.int .i64 0].toArray 3 (0, 0)) ∧ H'[g3]? = some (.cells [.int .i64 e].toArray 37 (0, 0))) := by
  refine CtDef.mk (u' := .panicking [{ v := failV e, recovered := true }]) (r := failV e) Tryd.func161 rfl Tryd.ntmps161 rfl rfl rfl rfl rfl rfl rfl rfl rfl (⟨rfl, rfl⟩) ?_
  intro W0 hW0
  have o0 : OldB g1 H H := OldB.refl _ H
  have hlt1 := blk_lt ba
  have hlt2 := blk_lt bb
  have hlt3 := blk_lt bc
  unfold failV
  refine KC.sr (KL.run 1 rfl ?_)
  refine KL.q ((R.neqNilI rfl Tryd.underlying20 rfl rfl (by exact .inr ⟨_, _, rfl⟩)).val (show _ = Value.bool true from rfl)) rfl ?_
  refine KL.nil (KQ.seq (KC.condT rfl (KC.sr (KL.run 1 rfl (KL.q (R.assertIs rfl Tryd.underlying249 rfl rfl) rfl (KL.run 3 rfl ?_))))))
  refine KL.m (M.alloc rfl zr249 rfl) rfl ?_
  rintro _ H1 ⟨rfl, n1⟩
  have z1 := n1.2.1
  have o0 := o0.trans ((n1.1).b (by omega))
  have ba := (n1.1).blk ba
  have bb := (n1.1).blk bb
  have bc := (n1.1).blk bc
  have b1 := n1.2.2
  have bf := b1
  refine KL.opS (S.storeAgg rfl sz249 rfl rfl (rfl) (by intro u hu; simp only [List.mem_cons, List.not_mem_nil, or_false] at hu; subst hu; rfl) bf (by simp)) rfl rfl ?_
  rintro H2 ⟨u2, b2⟩
  have o0 := o0.trans (OldB.upd u2 (by omega))
  have zu2 := u2.1
  have ba := ((u2).2 _ (by omega)).trans ba
  have bb := ((u2).2 _ (by omega)).trans bb
  have bc := ((u2).2 _ (by omega)).trans bc
  have bf := b2
  rw [over_all (by rfl)] at bf
  refine KL.fin 1 rfl (KQ.seq (KC.seq (KC.sr (KL.fin 2 rfl (KQ.seq (KC.condF rfl (KC.skip (KQ.sr (KL.fin 1 rfl (KQ.seq ?_))))))))))
  refine KC.text (clOf [(3, 2), (4, 2), (5, 2)]) (fun _ Hc => Hc[_]? = some _) (by kernel_rfl) (by kernel_rfl) (fun _ => bf) ?_
  refine KP.run 2 rfl rfl ?_
  refine KP.op rfl (fun Hg hg => R.load rfl Tryd.underlying37 rfl rfl (cell_of hg rfl)) rfl rfl rfl ?_
  refine KP.opS rfl (S.store rfl sz52 rfl rfl rfl rfl ba (by simp)) rfl rfl (fun _ h _ _ _ => (h.1.2 _ (by omega)).trans bf) ?_
  rintro H3 ⟨u3, b3⟩
  have o0 := o0.trans (OldB.upd u3 (by omega))
  have zu3 := u3.1
  have bb := ((u3).2 _ (by omega)).trans bb
  have bc := ((u3).2 _ (by omega)).trans bc
  have bf := ((u3).2 _ (by omega)).trans bf
  have ba := b3
  refine KP.opS rfl (S.store rfl sz3 rfl rfl rfl rfl bb (by simp)) rfl rfl (fun _ h _ _ _ => (h.1.2 _ (by omega)).trans bf) ?_
  rintro H4 ⟨u4, b4⟩
  have o0 := o0.trans (OldB.upd u4 (by omega))
  have zu4 := u4.1
  have ba := ((u4).2 _ (by omega)).trans ba
  have bc := ((u4).2 _ (by omega)).trans bc
  have bf := ((u4).2 _ (by omega)).trans bf
  have bb := b4
  refine KP.opS rfl (S.store rfl sz37 rfl rfl rfl rfl bc (by simp)) rfl rfl (fun _ h _ _ _ => (h.1.2 _ (by omega)).trans bf) ?_
  rintro H5 ⟨u5, b5⟩
  have o0 := o0.trans (OldB.upd u5 (by omega))
  have zu5 := u5.1
  have ba := ((u5).2 _ (by omega)).trans ba
  have bb := ((u5).2 _ (by omega)).trans bb
  have bf := ((u5).2 _ (by omega)).trans bf
  have bc := b5
  refine KP.nil (KQ.fin0 Tryd.results161 ?_)
  exact ⟨rfl, o0, ba, bb, bc⟩
end Go.Proofs.YtldmfchamcpmmaaDoor
namespace Go.Proofs.YtldmfchamcpmmaaDoor
open Go Go.RowKit
set_option linter.unusedVariables false
set_option linter.unusedSimpArgs false
set_option linter.unnecessarySimpa false
theorem KeepX.upd0 {gs : List Nat} {A B C : Heap} {g : Nat} (h : KeepX gs A B) (u : Upd g B C) (hg : g ∈ gs) : KeepX gs A C :=
  ⟨by have := u.1; have := h.1; omega, fun k hk hn => (u.2 k (fun e => hn (e ▸ hg))).trans (h.2 k hk hn)⟩
theorem KeepX.chain {gs gs' : List Nat} {A B C : Heap} (h : KeepX gs A B) (k : KeepX gs' B C) (hs : ∀ y ∈ gs', y ∈ gs) : KeepX gs A C :=
  ⟨Nat.le_trans h.1 k.1, fun i hi hn => (k.2 i (by have := h.1; omega) (fun hm => hn (hs _ hm))).trans (h.2 i hi hn)⟩
theorem readE_any {H : Heap} {v : Value} {l : List Int} (hs0 : Sl 1 (EInt .u8) H v l) (hl : l.length ≤ 1000000) : Ct Tryd.prog 159 [v, .func (.func 160) #[] #[]] H (fun u H' => Old H H' ∧ match Isp.exprP (l.length + 1) [] l with | .error e => u = .tuple #[.slice none 0 0, .int .i64 0, .int .i64 e] | .ok (x, n) => ∃ c, u = .tuple #[c, .int .i64 (n : Nat), .int .i64 0] ∧ ∀ H2, KeepX (List.range H.size) H' H2 → Sl 5 EIns H2 c x) := by
  refine Ct.mkD Tryd.func159 rfl Tryd.ntmps159 rfl ?_
  intro W0 hW0
  have o0 : Old H H := Old.refl H
  have hs := hs0
  refine KC.sr ?_
  refine KL.m (M.alloc rfl zr52 rfl) rfl ?_
  rintro _ H1 ⟨rfl, n1⟩
  have z1 := n1.2.1
  have o0 := o0.trans n1.1
  have hs := hs.old n1.1
  have b1 := n1.2.2
  have ba := b1
  refine KL.m (M.alloc rfl zr3 rfl) rfl ?_
  rintro _ H2 ⟨rfl, n2⟩
  have z2 := n2.2.1
  have o0 := o0.trans n2.1
  have hs := hs.old n2.1
  have ba := (n2.1).blk ba
  have b2 := n2.2.2
  have bb := b2
  refine KL.m (M.alloc rfl zr37 rfl) rfl ?_
  rintro _ H3 ⟨rfl, n3⟩
  have z3 := n3.2.1
  have o0 := o0.trans n3.1
  have hs := hs.old n3.1
  have ba := (n3.1).blk ba
  have bb := (n3.1).blk bb
  have b3 := n3.2.2
  have bc := b3
  refine KL.nil (KQ.sr (KL.run 1 rfl ?_))
  refine KL.defer rfl rfl rfl rfl ?_
  refine KQD.seq ?_
  refine KCD.seq ?_
  refine KCD.region ?_
  refine KL.run 1 rfl (KL.bd bt252 rfl ⟨hs.cells1, trivial⟩ ?_)
  refine KL.m (M.box rfl rfl rfl) rfl ?_
  rintro _ H4 ⟨rfl, n4⟩
  have z4 := n4.2.1
  have o0 := o0.trans n4.1
  have hs := hs.old n4.1
  have ba := (n4.1).blk ba
  have bb := (n4.1).blk bb
  have bc := (n4.1).blk bc
  have b4 := n4.2.2
  have bx := b4
  have rd : RD H4 _ v l 0 := ⟨bx, fun H2 k => hs0.old (o0.then k (by omega)), Nat.zero_le _⟩
  have zrd := rd.lt
  refine KL.fin 1 rfl ?_
  refine KQD.seq ?_
  refine KCD.seq ?_
  refine KCD.region ?_
  refine KL.run 2 rfl ?_
  refine KL.callX rfl rfl rfl rfl Tryd.call160 rfl rfl rfl (expr_any rd hl) ?_ ?_
  · rintro vx H5 ⟨ex, hx1, hx2, hx3⟩
    have ba := hx3.at_ ba (by omega)
    have bb := hx3.at_ bb (by omega)
    have bc := hx3.at_ bc (by omega)
    have o0 := o0.then (hx3.low (B0 := Array.size H) (by omega) (by omega)) (Nat.le_refl _)
    have zx3 := hx3.1
    subst hx2
    refine KQD.panThen ?_
    refine KQD.fin_pan (R1 := fun H' => OldB (Array.size H) _ H' ∧ _ ∧ _ ∧ _) Tryd.call161 (cloE_pan ba bb bc (by omega) (by omega)) ?_
    rintro HR ⟨f0, d4, d5, d6⟩
    refine ⟨_, fun ar wr har hwr => results_cells har Tryd.results159 rfl rfl rfl (loadVar_one Tryd.underlying52 rfl (by rw [hwr]; exact cell_of d4 rfl)) (loadVar_one Tryd.underlying3 rfl (by rw [hwr]; exact cell_of d5 rfl)) (loadVar_one Tryd.underlying37 rfl (by rw [hwr]; exact cell_of d6 rfl)), o0.then f0 (by omega), ?_⟩
    have hx1' : Isp.exprP (l.length + 1) [] l = .error ex := by simpa using hx1
    rw [hx1']
  rintro c H6 ⟨x, n, hp, hK, rd2, f1⟩
  have zf_H6 := f1.1
  have o0 := o0.then (f1.low (B0 := H.size) (by omega) (by omega)) (Nat.le_refl _)
  have ba := f1.at_ ba (by omega)
  have bb := f1.at_ bb (by omega)
  have bc := f1.at_ bc (by omega)
  have bx := rd2.b
  have zrd := rd2.lt
  have kx := KeepX.refl (List.range (Array.size H3 + 1)) H6
  have fs := hK _ kx
  refine KL.opS (S.store rfl sz52 rfl rfl (fs.cells1) (fs.one) ba (by simp)) rfl rfl ?_
  rintro H7 ⟨u7, b7⟩
  have o0 := o0.upd u7 (by omega)
  have zu7 := u7.1
  have bb := ((u7).2 _ (by omega)).trans bb
  have bc := ((u7).2 _ (by omega)).trans bc
  have bx := ((u7).2 _ (by omega)).trans bx
  have ba := b7
  have kx := kx.upd0 u7 (List.mem_range.2 (by omega))
  refine KL.nil ?_
  refine KQD.seq ?_
  refine KCD.seq ?_
  refine KCD.order [0, 1, 2, 3, 4, 5, 6, 7] (clOf [(5, 2), (6, 2), (7, 2)]) (fun i Hc => (i = 0 → Hc[(Array.size H)]? = some _) ∧ (i = 4 → Hc[_]? = some _)) (fun _ _ => False) (by kernel_rfl) (by kernel_rfl) (by kernel_rfl) rfl (fun _ => ⟨fun _ => ba, fun _ => bx⟩) (fun _ _ h => h.elim) ?_
  refine KO.op rfl rfl (fun Hg hg => R.load rfl Tryd.underlying52 rfl rfl (cell_of (hg.1 rfl) rfl)) rfl rfl rfl ?_
  refine KO.op rfl rfl (fun Hg hg => R.move rfl rfl) rfl rfl rfl ?_
  refine KO.op rfl rfl (fun Hg hg => R.nilCheck rfl rfl) rfl rfl rfl ?_
  refine KO.op rfl rfl (fun Hg hg => (R.fieldAddr rfl Tryd.underlying252 rfl rfl sz3 rfl)) rfl rfl rfl ?_
  refine KO.op rfl rfl (fun Hg hg => R.load rfl Tryd.underlying3 rfl rfl (cell_of (hg.2 rfl) rfl)) rfl rfl rfl ?_
  refine KO.opS rfl rfl (S.store rfl sz52 rfl rfl (fs.cells1) (fs.one) ba (by simp)) rfl rfl (fun _ h j hj1 hj2 => ⟨fun hj => by subst hj; exact absurd (by decide +kernel) hj2, fun _ => (h.1.2 _ (by omega)).trans bx⟩) ?_
  rintro H8 ⟨u8, b8⟩
  have o0 := o0.upd u8 (by omega)
  have zu8 := u8.1
  have bb := ((u8).2 _ (by omega)).trans bb
  have bc := ((u8).2 _ (by omega)).trans bc
  have bx := ((u8).2 _ (by omega)).trans bx
  have ba := b8
  have kx := kx.upd0 u8 (List.mem_range.2 (by omega))
  refine KO.opS rfl rfl (S.store rfl sz3 rfl rfl rfl rfl bb (by simp)) rfl rfl (fun _ h _ _ _ => ⟨fun _ => (h.1.2 _ (by omega)).trans ba, fun _ => (h.1.2 _ (by omega)).trans bx⟩) ?_
  rintro H9 ⟨u9, b9⟩
  have o0 := o0.upd u9 (by omega)
  have zu9 := u9.1
  have ba := ((u9).2 _ (by omega)).trans ba
  have bc := ((u9).2 _ (by omega)).trans bc
  have bx := ((u9).2 _ (by omega)).trans bx
  have bb := b9
  have kx := kx.upd0 u9 (List.mem_range.2 (by omega))
  refine KO.opS rfl rfl (S.store rfl sz37 rfl rfl rfl rfl bc (by simp)) rfl rfl (fun _ h _ _ _ => ⟨fun _ => (h.1.2 _ (by omega)).trans ba, fun _ => (h.1.2 _ (by omega)).trans bx⟩) ?_
  rintro H10 ⟨u10, b10⟩
  have o0 := o0.upd u10 (by omega)
  have zu10 := u10.1
  have ba := ((u10).2 _ (by omega)).trans ba
  have bb := ((u10).2 _ (by omega)).trans bb
  have bx := ((u10).2 _ (by omega)).trans bx
  have bc := b10
  have kx := kx.upd0 u10 (List.mem_range.2 (by omega))
  refine KO.nil ?_
  refine KQD.seq ?_
  refine KCD.ret ?_
  have fin_e := fun H2 (k2 : KeepX (List.range (Array.size H)) H10 H2) => hK H2 (kx.chain k2 (fun y hy => List.mem_range.2 (by have := List.mem_range.1 hy; omega)))
  refine KQD.fin_ret (R1 := fun H' => H' = H10) Tryd.call161 (cloE_ret) ?_
  rintro HR rfl
  refine ⟨_, fun ar wr har hwr => results_cells har Tryd.results159 rfl rfl rfl (loadVar_one Tryd.underlying52 rfl (by rw [hwr]; exact cell_of ba rfl)) (loadVar_one Tryd.underlying3 rfl (by rw [hwr]; exact cell_of bb rfl)) (loadVar_one Tryd.underlying37 rfl (by rw [hwr]; exact cell_of bc rfl)), o0, ?_⟩
  have hp' : Isp.exprP (l.length + 1) [] l = .ok (x, n) := by simpa using hp
  rw [hp']
  exact ⟨_, by rw [Nat.zero_add], fin_e⟩
theorem TakeExpr_any {H : Heap} {v : Value} {l : List Int} (hs0 : Sl 1 (EInt .u8) H v l) (hl : l.length ≤ 1000000) : Ct Tryd.prog 151 [v] H (fun u H' => Old H H' ∧ match Isp.exprP (l.length + 1) [] l with | .error e => u = .tuple #[.slice none 0 0, .int .i64 0, .int .i64 e] | .ok (x, n) => ∃ c, u = .tuple #[c, .int .i64 (n : Nat), .int .i64 0] ∧ ∀ H2, KeepX (List.range H.size) H' H2 → Sl 5 EIns H2 c x) := by
  refine Ct.mk Tryd.func151 rfl Tryd.ntmps151 rfl ?_
  intro W0 hW0
  have o0 : Old H H := Old.refl H
  refine KC.sr (KL.fin 3 rfl (KQ.sr (KL.run 1 rfl ?_)))
  refine KL.c rfl Tryd.call159 (readE_any hs0 hl) ?_
  rintro u H1 ⟨g6, hm⟩
  have zc_H1 := (g6).1
  have o0 := o0.trans g6
  have hu : ∃ x1 x2 x3, u = .tuple #[x1, x2, x3] ∧ x1.cells = #[x1] := by
    split at hm
    · exact ⟨_, _, _, hm, rfl⟩
    obtain ⟨c, hc, hs⟩ := hm; exact ⟨_, _, _, hc, (hs _ (KeepX.refl _ _)).cells1⟩
  obtain ⟨x1, x2, x3, rfl, hx1⟩ := hu
  refine KL.fin 6 rfl (KQ.seq (KC.ret (KQ.ofRet (KQ.fin3 Tryd.results151 rfl rfl rfl ?_))))
  exact ⟨o0, hm⟩
end Go.Proofs.YtldmfchamcpmmaaDoor
namespace Go.Proofs.YtldmfchamcpmmaaDoor
open Go Go.RowKit
set_option linter.unusedVariables false
set_option linter.unusedSimpArgs false
section
variable {H H' : Heap} {g : Nat} {v v' : Value} {l l' : List Int} {bad bad' : Bool}
end
section
variable {H H' H1 A B C Hb : Heap} {g k : Nat} {v v' v1 v2 : Value} {l : List Int} {bad : Bool} {o : Obj}
end
end Go.Proofs.YtldmfchamcpmmaaDoor
namespace Go.Proofs.YtldmfchamcpmmaaDoor
open Go Go.RowKit
set_option linter.unusedVariables false
set_option linter.unusedSimpArgs false
set_option linter.unnecessarySimpa false
theorem Nx.le {A B : Heap} {v v' : Value} (h : Nx A v v') (hs : B.size ≤ A.size) : Nx B v v' := h.imp id (fun h => h.imp id (fun h => by omega))
end Go.Proofs.YtldmfchamcpmmaaDoor
namespace Go.Proofs.YtldmfchamcpmmaaDoor
open Go Go.RowKit
set_option linter.unusedVariables false
set_option linter.unusedSimpArgs false
set_option linter.unnecessarySimpa false
end Go.Proofs.YtldmfchamcpmmaaDoor
namespace Go.Proofs.YtldmfchamcpmmaaDoor
open Go Go.RowKit
set_option linter.unusedVariables false
set_option linter.unusedSimpArgs false
set_option linter.unnecessarySimpa false
end Go.Proofs.YtldmfchamcpmmaaDoor
namespace Go.Proofs.YtldmfchamcpmmaaDoor
open Go Go.RowKit
set_option linter.unusedVariables false
set_option linter.unusedSimpArgs false
set_option linter.unnecessarySimpa false
instance keepsLim : Keeps ELim := ⟨fun _ h => h⟩
instance oneLim : One ELim := ⟨fun h u hu => by
  obtain ⟨rfl, _⟩ := h
  simp only [List.mem_cons, List.not_mem_nil, or_false] at hu
  rcases hu with rfl | rfl <;> rfl⟩
theorem Sl.limAt {H : Heap} {v : Value} {l : List (Int × Int)} (h : Sl 2 ELim H v l) (j : Nat) (hj : j < l.length) : CellsH H ((vbase v).add (j * 2)) [.int .u32 (l.getD j default).1, .int .i64 (l.getD j default).2] ∧ InR .u32 (l.getD j default).1 ∧ InR .i64 (l.getD j default).2 := by
  obtain ⟨cs, hl, hc, rfl, h1, h2⟩ := h.at j hj
  exact ⟨hc, h1, h2⟩
def ELoc : El (Int × Int) := fun _ cs x => cs = [.int .u32 x.1, .int .u8 x.2] ∧ InR .u32 x.1 ∧ InR .u8 x.2
instance keepsLoc : Keeps ELoc := ⟨fun _ h => h⟩
instance oneLoc : One ELoc := ⟨fun h u hu => by
  obtain ⟨rfl, _⟩ := h
  simp only [List.mem_cons, List.not_mem_nil, or_false] at hu
  rcases hu with rfl | rfl <;> rfl⟩
theorem Sl.locAt {H : Heap} {v : Value} {l : List (Int × Int)} (h : Sl 2 ELoc H v l) (j : Nat) (hj : j < l.length) : CellsH H ((vbase v).add (j * 2)) [.int .u32 (l.getD j default).1, .int .u8 (l.getD j default).2] ∧ InR .u32 (l.getD j default).1 ∧ InR .u8 (l.getD j default).2 := by
  obtain ⟨cs, hl, hc, rfl, h1, h2⟩ := h.at j hj
  exact ⟨hc, h1, h2⟩
end Go.Proofs.YtldmfchamcpmmaaDoor
namespace Go.Proofs.YtldmfchamcpmmaaDoor
open Go Go.RowKit
set_option linter.unusedVariables false
set_option linter.unusedSimpArgs false
set_option linter.unnecessarySimpa false
end Go.Proofs.YtldmfchamcpmmaaDoor
namespace Go.Proofs.YtldmfchamcpmmaaDoor
open Go Go.RowKit
set_option linter.unusedVariables false
set_option linter.unusedSimpArgs false
set_option linter.unnecessarySimpa false
end Go.Proofs.YtldmfchamcpmmaaDoor
namespace Go.Proofs.YtldmfchamcpmmaaDoor
open Go Go.RowKit
set_option linter.unusedVariables false
set_option linter.unusedSimpArgs false
section
variable {P : Program} {E : Env} {H : Heap} {o : Oper}
/-- two structs' fields are alike, or not -/
inductive EqFs (P : Program) (xs ys : Array Value) : List Field → Bool → Prop
  | nil : EqFs P xs ys [] true
  | int {f : Field} {fs : List Field} {k k' : IntKind} {a b : Int} {r : Bool} (hn : f.name ≠ "_") (hu : P.underlying f.type = some (.int k')) (hx : nth xs.toList f.offset = some (.int k a)) (hy : nth ys.toList f.offset = some (.int k b)) (h : EqFs P xs ys fs r) : EqFs P xs ys (f :: fs) (decide (a = b) && r)
  | bool {f : Field} {fs : List Field} {a b : Bool} {r : Bool} (hn : f.name ≠ "_") (hu : P.underlying f.type = some .bool) (hx : nth xs.toList f.offset = some (.bool a)) (hy : nth ys.toList f.offset = some (.bool b)) (h : EqFs P xs ys fs r) : EqFs P xs ys (f :: fs) ((a == b) && r)
theorem part_one {t : TypeId} {ds : TypeDesc} {cs : Array Value} {i : Nat} {v : Value} (hu : P.underlying t = some ds) (hd : isAggD ds = false) (hv : nth cs.toList i = some v) (w : World) : (part t cs i).run P w = .ok v w := by
  have h2 : (isAgg t).run P w = .ok false w := by
    cases ds <;> simp [isAggD] at hd <;> simp [isAgg, underlying, program, hu, Sem.run_bind, Sem.run_pure, Result.andThen, Sem.run]
  rw [nth_eq] at hv
  have hv' : cs[i]? = some v := by simpa using hv
  simp [part, h2, hv', Sem.run_bind, Sem.run_pure, Result.andThen]
theorem EqFs.run {xs ys : Array Value} {fs : List Field} {r : Bool} (h : EqFs P xs ys fs r) (d : Nat) (w : World) : (Op.eqFields (d + 1) xs ys fs).run P w = .ok r w := by
  induction h with
  | nil => simp [Op.eqFields, Sem.run_pure]
  | @int f fs k k' a b r hn hu hx hy h ih =>
    have e : (a == b) = decide (a = b) := rfl
    simp only [Op.eqFields, hn, ne_eq, not_false_eq_true, if_true, Sem.run_bind, part_one hu rfl hx, part_one hu rfl hy, run_equalIn_int w d _ k k' a b hu, Result.andThen_ok, e]
    by_cases hc : a = b
    · simp [hc, ih]
    simp [hc, Sem.run_pure]
  | @bool f fs a b r hn hu hx hy h ih =>
    simp only [Op.eqFields, hn, ne_eq, not_false_eq_true, if_true, Sem.run_bind, part_one hu rfl hx, part_one hu rfl hy, run_equalIn_bool' w d _ a b hu, Result.andThen_ok]
    cases hc : (a == b)
    · simp [Sem.run_pure]
    simp [ih]
theorem R.eqlSt {T T' : TypeId} {x y : Operand} {xs ys : Array Value} {fs : Array Field} {r : Bool} (ho : o.op = .binOp .eql T x y T') (ht : P.underlying T = some (.struct fs)) (hst : P.stoodInHeld T = false) (hG : P.eqGuardType P.depth T = false) (hx : ev E x = some (.agg xs)) (hy : ev E y = some (.agg ys)) (hf : EqFs P xs ys fs.toList r) : Run P E H o (.bool r) := by
  intro ρ w ha hw
  have e : P.fieldsOf T = fs := by simp [Program.fieldsOf, ht]
  have h1 : (Op.equal T (.agg xs) (.agg ys)).run P w = .ok r w := by
    show (Op.equalIn (9999 + 1) T _ _).run P w = _
    rw [run_equalIn_struct w 9999 T xs ys (by rw [e]; exact ht) hst, e]
    exact hf.run 9998 w
  simp [execOp, ho, ha x _ hx, ha y _ hy, run_eqGuard_agg w _ T x y xs ys hG, binOp, program, h1, Sem.run_bind, Sem.run_pure, Result.andThen, Sem.run]
end
end Go.Proofs.YtldmfchamcpmmaaDoor
namespace Go.Proofs.YtldmfchamcpmmaaDoor
open Go Go.RowKit
set_option linter.unusedVariables false
set_option linter.unusedSimpArgs false
set_option linter.unnecessarySimpa false
end Go.Proofs.YtldmfchamcpmmaaDoor
namespace Go.Proofs.YtldmfchamcpmmaaDoor
open Go Go.RowKit
set_option linter.unusedVariables false
set_option linter.unusedSimpArgs false
set_option linter.unnecessarySimpa false
def EFTy : El FTy := fun H cs x => ∃ v w, cs = [v, w] ∧ Sl 1 (EInt .u8) H v x.1 ∧ Sl 1 (EInt .u8) H w x.2
def EImp : El Imp := fun _ cs x => cs = [.string x.mod, .string x.nam, .int .u8 x.kind, .int .u32 x.typ, .int .u32 x.lim.1, .int .i64 x.lim.2, .int .u8 x.glob.1, .bool x.glob.2] ∧ InR .u8 x.kind ∧ InR .u32 x.typ ∧ InR .u32 x.lim.1 ∧ InR .i64 x.lim.2 ∧ InR .u8 x.glob.1
def EGlo : El Glo := fun H cs x => ∃ v, cs = [.int .u8 x.1.1, .bool x.1.2, v] ∧ Sl 5 EIns H v x.2 ∧ InR .u8 x.1.1
def EExp : El Exp := fun _ cs x => cs = [.string x.nam, .int .u8 x.kind, .int .u32 x.idx] ∧ InR .u8 x.kind ∧ InR .u32 x.idx
def EElm : El Elm := fun H cs x => ∃ v w, cs = [.int .u32 x.1, v, w] ∧ Sl 5 EIns H v x.2.1 ∧ Sl 1 (EInt .u32) H w x.2.2 ∧ InR .u32 x.1
def EDat : El Elm := fun H cs x => ∃ v w, cs = [.int .u32 x.1, v, w] ∧ Sl 5 EIns H v x.2.1 ∧ Sl 1 (EInt .u8) H w x.2.2 ∧ InR .u32 x.1
def ECod : El Cod := fun H cs x => ∃ v w, cs = [v, w] ∧ Sl 2 ELoc H v x.1 ∧ Sl 5 EIns H w x.2
instance : Keeps EFTy := ⟨fun ho h => by obtain ⟨v, w, e, a, b⟩ := h; exact ⟨v, w, e, a.old ho, b.old ho⟩⟩
instance : Keeps EImp := ⟨fun _ h => h⟩
instance : Keeps EGlo := ⟨fun ho h => by obtain ⟨v, e, a, b⟩ := h; exact ⟨v, e, a.old ho, b⟩⟩
instance : Keeps EExp := ⟨fun _ h => h⟩
instance : Keeps EElm := ⟨fun ho h => by obtain ⟨v, w, e, a, b, c⟩ := h; exact ⟨v, w, e, a.old ho, b.old ho, c⟩⟩
instance : Keeps EDat := ⟨fun ho h => by obtain ⟨v, w, e, a, b, c⟩ := h; exact ⟨v, w, e, a.old ho, b.old ho, c⟩⟩
instance : Keeps ECod := ⟨fun ho h => by obtain ⟨v, w, e, a, b⟩ := h; exact ⟨v, w, e, a.old ho, b.old ho⟩⟩
end Go.Proofs.YtldmfchamcpmmaaDoor
namespace Go.Proofs.YtldmfchamcpmmaaDoor
open Go Go.RowKit
set_option linter.unusedVariables false
set_option linter.unusedSimpArgs false
section
variable {P : Program} {n d : Nat} {W0 : World} {Q : Exit → Act → World → Prop} {ops rest : List Oper} {o : Oper} {E : Env} {H : Heap} {v : Value} {D : List Deferred}
theorem results_cells2 {fn : Func} {a : Act} {w : World} {t1 t2 : Nat} {T1 T2 : TypeId} {p1 p2 : Addr} {v1 v2 : Value} (ha : Rep n E a) (hr : fn.results = #[.cell t1 T1, .cell t2 T2])
    (g1 : get E t1 = some (.pointer (some p1))) (g2 : get E t2 = some (.pointer (some p2)))
    (l1 : (loadVar T1 p1).run P w = .ok v1 w) (l2 : (loadVar T2 p2).run P w = .ok v2 w) : (results fn a.tmps).run P w = .ok (.tuple #[v1, v2]) w := by
  have h1 := ha.val t1 _ g1
  have h2 := ha.val t2 _ g2
  simp [results, hr, List.mapM_toArray, Array.getD_eq_getD_getElem?, h1, h2, asAddr, Sem.run_bind, Sem.run_pure, Sem.run_map, Result.andThen, l1, l2]
end
end Go.Proofs.YtldmfchamcpmmaaDoor
namespace Go.Proofs.YtldmfchamcpmmaaDoor
open Go Go.RowKit
set_option linter.unusedVariables false
set_option linter.unusedSimpArgs false
/-- why there is no module, as it is thrown -/
def failB (e : Int) : Value := .iface 117 (.agg #[.int .i64 e])
/-- a reader in memory: what is left -/
structure RB (H : Heap) (g : Nat) (v : Value) (l : List Int) : Prop where
  b : H[g]? = some (.cells [v].toArray 168 (0, 0))
  s : ∀ H2, OldB g H H2 → Sl 1 (EInt .u8) H2 v l
  le : l.length ≤ 1000000
section
variable {H H' : Heap} {g g2 : Nat} {v : Value} {l l' : List Int}
theorem RB.sl (h : RB H g v l) : Sl 1 (EInt .u8) H v l := h.s H (OldB.refl _ _)
theorem RB.lt (h : RB H g v l) : g < H.size := blk_lt h.b
theorem RB.cast (h : RB H g v l) (e : l = l') : RB H g v l' := e ▸ h
theorem RB.oldB (h : RB H g v l) (o : OldB g H H') (hb : H'[g]? = H[g]?) : RB H' g v l := ⟨hb.trans h.b, fun H2 k => h.s H2 (o.trans k), h.le⟩
theorem RB.old (h : RB H g v l) (o : Old H H') : RB H' g v l := h.oldB (o.b (Nat.le_of_lt h.lt)) (o.2 _ h.lt)
theorem RB.updT (h : RB H g v l) (u : Upd g2 H H') (hne : g < g2) : RB H' g v l := h.oldB (OldB.upd u (by omega)) (u.2 g (by omega))
theorem RB.frT (h : RB H g v l) (f : Fr g2 (.slice none 0 0) H H') (hne : g < g2) : RB H' g v l := h.oldB (f.low (Nat.le_of_lt h.lt) (by omega)) (f.2 g h.lt (by omega) (.inl rfl))
theorem RB.grownT {x : Value} (h : RB H g v l) (gr : Grown x H H') (hlt : x = .slice none 0 0 ∨ g < vblock x) : RB H' g v l :=
  h.oldB ⟨gr.1, fun j hj => gr.2 j (by have := h.lt; omega) (hlt.imp id (fun k => by omega))⟩ (gr.2 g h.lt (hlt.imp id (fun k => by omega)))
/-- some is read -/
theorem RB.skip (h : RB H g v l) {n : Nat} (u : Upd g H H') (hb : H'[g]? = some (.cells [subV 1 v n l.length].toArray 168 (0, 0))) (hn : n ≤ l.length) : RB H' g (subV 1 v n l.length) (l.drop n) :=
  ⟨hb, fun H2 k => (h.s H2 ((OldB.upd u (Nat.le_refl _)).trans k)).tail hn, by have := h.le; rw [List.length_drop]; omega⟩
/-- what was made in A, above N, is as it was -/
structure RW (N : Nat) (A H : Heap) : Prop where
  k : KeepX (List.range N) A H
theorem RW.refl (N : Nat) (A : Heap) : RW N A A := ⟨KeepX.refl _ _⟩
variable {N N0 : Nat} {A H2 : Heap}
theorem RW.old (h : RW N A H) (o : Old H H') : RW N A H' := ⟨⟨Nat.le_trans h.k.1 o.1, fun i hi hn => (o.2 i (by have := h.k.1; omega)).trans (h.k.2 i hi hn)⟩⟩
theorem RW.frT (h : RW N A H) (f : Fr g (.slice none 0 0) H H') (hg : g < N ∨ A.size ≤ g) : RW N A H' := ⟨⟨Nat.le_trans h.k.1 f.1, fun i hi hn => (f.2 i (by have := h.k.1; omega) (fun e => hn (List.mem_range.2 (by omega))) (.inl rfl)).trans (h.k.2 i hi hn)⟩⟩
theorem RW.updT (h : RW N A H) (u : Upd g H H') (hg : g < N ∨ A.size ≤ g) : RW N A H' := ⟨⟨by rw [u.1]; exact h.k.1, fun i hi hn => (u.2 i (fun e => hn (List.mem_range.2 (by omega)))).trans (h.k.2 i hi hn)⟩⟩
theorem RW.go (h : RW N A H) (k : KeepX (List.range N0) H H2) (hN : N0 ≤ N) : KeepX (List.range N) A H2 := h.k.chain k (fun y hy => List.mem_range.2 (by have := List.mem_range.1 hy; omega))
/-- a row that lasts -/
def RowS {α : Type} (n : Nat) (E : El α) (N : Nat) (H : Heap) (v : Value) (l : List α) : Prop := ∀ H2, KeepX (List.range N) H H2 → Sl n E H2 v l
theorem RowS.sl {α : Type} {n : Nat} {E : El α} {l : List α} (h : RowS n E N H v l) : Sl n E H v l := h H (KeepX.refl _ _)
theorem RowS.to {α : Type} {n : Nat} {E : El α} {l : List α} (h : RowS n E N A v l) (r : RW N A H) (hN : N0 ≤ N) : RowS n E N0 H v l := fun H2 k => h H2 (r.go k hN)
theorem RowS.one {α : Type} {n : Nat} {E : El α} {l : List α} (h : RowS n E N H v l) : v.oneCell' = true := h.sl.one
theorem RowS.cells1 {α : Type} {n : Nat} {E : El α} {l : List α} (h : RowS n E N H v l) : v.cells = #[v] := h.sl.cells1
/-- a row that grows in a loop -/
structure LS {α : Type} (n : Nat) (E : El α) (e : TypeId) (N : Nat) (H : Heap) (v : Value) (l : List α) : Prop where
  w : OwnE n E e N H v (List.range N) l
variable {α : Type} {n : Nat} {E : El α} {e : TypeId} {ls : List α}
theorem LS.nil (n : Nat) (E : El α) (e : TypeId) (N : Nat) (H : Heap) : LS n E e N H (.slice none 0 0) ([] : List α) := ⟨OwnE.nil _ _ _ _ _ _⟩
theorem LS.old (h : LS n E e N H v ls) (o : Old H H') : LS n E e N H' v ls := ⟨h.w.old o⟩
theorem LS.frT (h : LS n E e N H v ls) (f : Fr g (.slice none 0 0) H H') (hg : g < N) : LS n E e N H' v ls :=
  ⟨(Own.frK h.w.own f hg).mapE fun cs x hf H2 k => hf H2 (KeepX.fr f (List.mem_cons_of_mem _ (List.mem_range.2 hg)) k)⟩
theorem LS.row (h : LS n E e N H v ls) (hn : 0 < n) : RowS n E N H v ls := h.w.outliveN hn (Nat.le_refl _) (Nat.le_refl _)
/-- one more, made meanwhile -/
theorem fk_row {β : Type} {m : Nat} {F : El β} {c : Value} {xs : List β} {M : Nat} (h : RowS m F M A c xs) (o : RW M A H) (hv : v = .slice none 0 0 ∨ vblock v < M) (h0 : 0 < M) (hN : N ≤ M) : ∀ H2, KeepX (vblock v :: List.range N) H H2 → Sl m F H2 c xs :=
  fun H2 k => h H2 (o.k.chain k (fun y hy => by
    rcases List.mem_cons.1 hy with rfl | hy
    · rcases hv with e | e
      · subst e; exact List.mem_range.2 h0
      exact List.mem_range.2 e
    exact List.mem_range.2 (by have := List.mem_range.1 hy; omega)))
end
namespace Bn
open Isp
section
variable {α β : Type} {p : Prs α} {q : α → Prs β} {f : α → β} {r : List Int} {x : α} {y : β} {k m : Nat} {e : Int}
theorem b_ok (h1 : p r = .ok (x, k)) (h2 : q x (r.drop k) = .ok (y, m)) : bindP p q r = .ok ((x, y), k + m) := by unfold bindP; rw [h1]; simp only [h2]
theorem b_e1 (h1 : p r = .error e) : bindP p q r = .error e := by unfold bindP; rw [h1]
theorem b_e2 (h1 : p r = .ok (x, k)) (h2 : q x (r.drop k) = .error e) : bindP p q r = .error e := by unfold bindP; rw [h1]; simp only [h2]
theorem m_ok (h : p r = .ok (x, k)) : mapP f p r = .ok (f x, k) := by unfold mapP; rw [h]
theorem m_e (h : p r = .error e) : mapP f p r = .error e := by unfold mapP; rw [h]
theorem byte_nil (h : r.length = 0) : byteP r = .error 60 := by rw [List.eq_nil_of_length_eq_zero h]; rfl
theorem byte_ok (h : 0 < r.length) : byteP r = .ok (r.getD 0 default, 1) := by
  cases r with
  | nil => simp at h
  | cons z r => rfl
/-- what is asked of a byte that was read -/
theorem one_of {f : Int → Except Int α} {z : Int} (h : byteP r = .ok (z, k)) (he : f z = .ok x) : oneP f r = .ok (x, k) := by
  cases r with
  | nil => cases h
  | cons z r => simp only [byteP] at h; injection h with h; injection h with h1 h2; subst h1; subst h2; unfold oneP; simp only [he]
theorem one_of_e {f : Int → Except Int α} {z : Int} (h : byteP r = .ok (z, k)) (he : f z = .error e) : oneP f r = .error e := by
  cases r with
  | nil => cases h
  | cons z r => simp only [byteP] at h; injection h with h; injection h with h1 h2; subst h1; subst h2; unfold oneP; simp only [he]
theorem one_er {f : Int → Except Int α} (h : byteP r = .error e) : oneP f r = .error e := by
  cases r with
  | nil => simp only [byteP] at h; injection h with h; subst h; rfl
  | cons z r => cases h
theorem u32_none (h : Lb.tk r 32 = none) : u32P r = .error 60 := by unfold u32P numP; rw [show Leb.tk false (r.map Lib.byteOf) ((32 : Nat) : Int) = none from h]
theorem u32_some {z : Int} (h : Lb.tk r 32 = some (z, k)) : u32P r = .ok (z, k) := by unfold u32P numP; rw [show Leb.tk false (r.map Lib.byteOf) ((32 : Nat) : Int) = some (z, k) from h]
theorem nam_none (h : Nm.nt r = none) : namP r = .error 60 := by unfold namP; rw [h]
theorem nam_some {t : List Int} (h : Nm.nt r = some (t, k)) (hr : ∀ x ∈ r, InR .u8 x) : namP r = .ok (bstr t, k) := by
  unfold namP; rw [h]
  simp only
  rw [if_pos (List.all_eq_true.2 fun x hx => by have := Nm.range hr h x hx; dsimp only [InR] at this; exact decide_eq_true this)]
theorem nt_le {t : List Int} (h : Nm.nt r = some (t, k)) : k ≤ r.length := by
  unfold Nm.nt at h
  split at h
  · cases h
  next n k' ht =>
  have := Lb.tk32 ht
  split at h
  · injection h with h; injection h with h1 h2; omega
  cases h
theorem u32_le {z : Int} (h : u32P r = .ok (z, k)) : 1 ≤ k ∧ k ≤ r.length ∧ 0 ≤ z ∧ z < 4294967296 := by
  have h1 := cod_u32.sound _ _ _ h
  have h2 := apN_len (b := 32) (by omega) ((okU_iff z).1 h1.1)
  exact ⟨by omega, h1.2.2, h1.1⟩
theorem byt_e {z : Int} (h : u32P r = .ok (z, k)) (hl : ¬ z.toNat ≤ r.length - k) : bytP r = .error 60 := by unfold bytP; rw [h]; simp only; rw [if_neg hl]
theorem byt_ok {z : Int} (h : u32P r = .ok (z, k)) (hl : z.toNat ≤ r.length - k) : bytP r = .ok ((r.drop k).take z.toNat, k + z.toNat) := by unfold bytP; rw [h]; simp only; rw [if_pos hl]
theorem byt_e1 (h : u32P r = .error e) : bytP r = .error e := by unfold bytP; rw [h]
theorem many_er {V : Int → Prop} {p : Prs α} (hp : ∀ r e, p r = .error e → V e) : ∀ (n : Nat) (r : List Int) (e : Int), manyP p n r = .error e → V e
  | 0, r, e, h => by cases h
  | n + 1, r, e, h => by
    simp only [manyP, mapP, bindP] at h
    split at h
    · next e' h' =>
      injection h with h; subst h
      split at h'
      · next e2 h2 => injection h' with h'; subst h'; exact hp _ _ h2
      split at h'
      · next e2 h2 => injection h' with h'; subst h'; exact many_er hp n _ _ h2
      cases h'
    cases h
theorem num_er {sg : Bool} {b : Nat} (h : numP sg b r = .error e) : e = 60 := by
  unfold numP at h
  split at h
  · injection h with h; exact h.symm
  cases h
theorem map_er {V : Int → Prop} {γ δ : Type} {p : Prs γ} {f : γ → δ} (hp : ∀ r e, p r = .error e → V e) : ∀ r e, mapP f p r = .error e → V e := fun r e h => by
  unfold mapP at h
  split at h
  · next e2 h2 => injection h with h; subst h; exact hp _ _ h2
  cases h
theorem bind_er {V : Int → Prop} {γ δ : Type} {p : Prs γ} {q : γ → Prs δ} (hp : ∀ r e, p r = .error e → V e) (hq : ∀ x r e, q x r = .error e → V e) : ∀ r e, bindP p q r = .error e → V e := fun r e h => by
  unfold bindP at h
  split at h
  · next e2 h2 => injection h with h; subst h; exact hp _ _ h2
  split at h
  · next e2 h2 => injection h with h; subst h; exact hq _ _ _ h2
  cases h
def E6 (e : Int) : Prop := e = 60 ∨ e = 61
theorem u32_er : ∀ r e, u32P r = .error e → E6 e := fun r e h => .inl (num_er h)
theorem ins_er (r : List Int) (e : Int) (h : insP r = .error e) : E6 e := by
  cases r with
  | nil => simp only [insP] at h; injection h with h; exact .inl h.symm
  | cons x r =>
    simp only [insP] at h
    split at h
    · injection h with h; exact .inr h.symm
    split at h
    · injection h with h; exact .inl h.symm
    split at h
    · next e2 h2 =>
      injection h with h; subst h
      unfold bodyP at h2
      have hb : ∀ r e, blockP r = .error e → E6 e := fun r e h => by
        cases r with
        | nil => simp only [blockP] at h; injection h with h; exact .inl h.symm
        | cons x r =>
          simp only [blockP] at h
          split at h
          · cases h
          split at h
          · injection h with h; exact .inr h.symm
          injection h with h; exact .inl h.symm
      have hz : ∀ r e, zeroP r = .error e → E6 e := fun r e h => by
        cases r with
        | nil => simp only [zeroP] at h; injection h with h; exact .inl h.symm
        | cons x r =>
          simp only [zeroP] at h
          split at h
          · cases h
          injection h with h; exact .inl h.symm
      have hn : ∀ (sg : Bool) (b : Nat) r e, numP sg b r = .error e → E6 e := fun sg b r e h => .inl (num_er h)
      have hl : ∀ r e, labsP r = .error e → E6 e := map_er (bind_er (bind_er u32_er fun x => many_er u32_er _) fun _ => u32_er)
      split at h2
      · exact map_er hb _ _ h2
      split at h2
      · exact map_er u32_er _ _ h2
      split at h2
      · exact map_er hl _ _ h2
      split at h2
      · exact map_er (bind_er u32_er fun _ => hz) _ _ h2
      split at h2
      · exact map_er (bind_er u32_er fun _ => u32_er) _ _ h2
      split at h2
      · exact map_er hz _ _ h2
      split at h2
      · exact map_er (hn true 32) _ _ h2
      split at h2
      · exact map_er (hn true 64) _ _ h2
      cases h2
    cases h
theorem expr_er : ∀ (f : Nat) (m r : List Int) (e : Int), exprP f m r = .error e → E6 e
  | 0, m, r, e, h => by simp only [exprP] at h; injection h with h; exact .inl h.symm
  | f + 1, m, r, e, h => by
    simp only [exprP] at h
    split at h
    · next e2 h2 => injection h with h; subst h; exact ins_er _ _ h2
    split at h
    · injection h with h; exact .inl h.symm
    · cases h
    split at h
    · next e2 h2 => injection h with h; subst h; exact expr_er f _ _ _ h2
    cases h
theorem xpr_le {xs : List Ins} (h : xprP r = .ok (xs, k)) : k ≤ r.length := (expr_sound _ _ _ _ _ h).2.2.2
end
end Bn
theorem TakeExpr_or {H : Heap} {v : Value} {l : List Int} (hs : Sl 1 (EInt .u8) H v l) (hl : l.length ≤ 1000000) : Ct Tryd.prog 151 [v] H (fun u H' => Old H H' ∧ ((∃ e, Bn.xprP l = .error e ∧ Bn.E6 e ∧ u = .tuple #[.slice none 0 0, .int .i64 0, .int .i64 e]) ∨ ∃ x n c, Bn.xprP l = .ok (x, n) ∧ n ≤ l.length ∧ u = .tuple #[c, .int .i64 (n : Nat), .int .i64 0] ∧ RowS 5 EIns H.size H' c x)) :=
  (TakeExpr_any hs hl).mono fun u H' ⟨o, h⟩ => ⟨o, by
    cases hp : Isp.exprP (l.length + 1) [] l with
    | error e => rw [hp] at h; exact .inl ⟨e, hp, Bn.expr_er _ _ _ _ hp, h⟩
    | ok y =>
      obtain ⟨x, n⟩ := y
      rw [hp] at h
      obtain ⟨c, h1, h2⟩ := h
      exact .inr ⟨x, n, c, hp, Bn.xpr_le hp, h1, h2⟩⟩
end Go.Proofs.YtldmfchamcpmmaaDoor
namespace Go.Proofs.YtldmfchamcpmmaaDoor
open Go Go.RowKit
set_option linter.unusedVariables false
set_option linter.unusedSimpArgs false
set_option linter.unnecessarySimpa false
theorem must_any {H : Heap} (b : Bool) : CtX Tryd.prog 55 [.bool b] H (fun u H' => u = .tuple #[] ∧ b = true ∧ H = H') (fun q H' => q = failB 60 ∧ b = false ∧ H = H') := by
  refine CtX.mk Tryd.func55 rfl Tryd.ntmps55 rfl ?_
  intro W0 hW0
  have o0 : Old H H := Old.refl H
  refine KC.sr (KL.fin 2 rfl (KQ.seq ?_))
  refine KC.iq rfl ?_ ?_
  · intro hb
    refine KC.region (KL.b0 bt117 rfl rfl (KL.q (R.makeIface rfl Tryd.underlying117 rfl rfl) rfl ?_))
    refine KL.panic rfl rfl rfl ?_
    exact KQ.pan (⟨rfl, hb, rfl⟩)
  intro hb
  refine KC.skip (KQ.toX (KQ.fin0 Tryd.results55 ?_))
  exact ⟨rfl, hb, rfl⟩
theorem skip_any {H : Heap} {g : Nat} {v : Value} {l : List Int} (rb : RB H g v l) (n : Nat) (hn : n ≤ l.length) : Ct Tryd.prog 136 [.pointer (some ⟨g, 0, none⟩), .int .i64 (n : Nat)] H (fun u H' => u = sub3 1 v 0 n n ∧ RB H' g (subV 1 v n l.length) (l.drop n) ∧ Upd g H H') := by
  refine Ct.mk Tryd.func136 rfl Tryd.ntmps136 rfl ?_
  intro W0 hW0
  have o0 : OldB 0 H H := OldB.refl _ H
  have bb := rb.b
  have hg := rb.lt
  refine KC.sr (KL.fin 1 rfl (KQ.sr (KL.run 3 rfl (KL.ld rfl (cell_of bb rfl) (KL.run 2 rfl (KL.q (R.slice3 rfl Tryd.underlying36 sz5 rfl rb.sl bnd.no rfl rfl rfl rfl (Nat.zero_le _) hn) rfl (KL.fin 1 rfl (KQ.sr ?_))))))))
  refine KL.run 4 rfl (KL.ld rfl (cell_of bb rfl) (KL.run 1 rfl (KL.q (R.slice rfl Tryd.underlying36 sz5 rfl rb.sl (bnd.mk (r := n) rfl rfl) bnd.no hn (Nat.le_refl _)) rfl (KL.run 2 rfl ?_))))
  refine KL.opS (S.store rfl sz36 rfl rfl (rb.sl.tail hn).cells1 (rb.sl.tail hn).one bb (by simp)) rfl rfl ?_
  rintro H1 ⟨u1, b1⟩
  have o0 := o0.trans (OldB.upd u1 (by omega))
  have zu1 := u1.1
  have bb := b1
  have uu := u1
  refine KL.nil (KQ.sr (KL.fin 2 rfl (KQ.seq (KC.ret (KQ.ofRet (KQ.fin1 Tryd.results136 rfl ?_))))))
  exact ⟨rfl, rb.skip uu bb hn, uu⟩
theorem bbyte_any {H : Heap} {g : Nat} {v : Value} {l : List Int} (rb : RB H g v l) : CtX Tryd.prog 131 [.pointer (some ⟨g, 0, none⟩)] H (fun u H' => ∃ x k v', Isp.byteP l = .ok (x, k) ∧ u = .int .u8 x ∧ InR .u8 x ∧ RB H' g v' (l.drop k) ∧ Fr g (.slice none 0 0) H H') (fun q H' => ∃ e, Isp.byteP l = .error e ∧ q = failB e ∧ Fr g (.slice none 0 0) H H') := by
  refine CtX.mk Tryd.func131 rfl Tryd.ntmps131 rfl ?_
  intro W0 hW0
  have o0 : OldB 0 H H := OldB.refl _ H
  have hg := rb.lt
  have fr : Fr g (.slice none 0 0) H H := Fr.refl _ _ _
  have hle := rb.le
  refine KC.sr (KL.fin 1 rfl (KQ.sr (KL.run 3 rfl (KL.ld rfl (cell_of rb.b rfl) (KL.q (R.lenS rfl Tryd.underlying36 rfl rb.sl) rfl (KL.run 1 rfl ?_))))))
  refine KL.callX rfl rfl rfl rfl Tryd.call55 rfl rfl rfl (must_any _) ?_ ?_
  · rintro vx _ ⟨rfl, hb, rfl⟩
    simp only [sd] at hb
    refine KQ.panThen ?_
    exact KQ.pan (⟨_, Bn.byte_nil (by omega), rfl, fr⟩)
  rintro _ _ ⟨rfl, hb, rfl⟩
  simp only [sd] at hb
  refine KL.nil (KQ.sr (KL.run 1 rfl ?_))
  refine KL.c rfl Tryd.call136 (skip_any rb 1 (by omega)) ?_
  rintro _ H2 ⟨rfl, rb2, uu⟩
  have f1_ := Fr.ofU uu
  have zf_H2 := f1_.1
  have o0 := o0.trans (f1_.low (Nat.zero_le _) (Nat.zero_le _))
  have fr := fr.thenN f1_
  have rb0 := rb
  have rb := rb2
  have zrd := rb.lt
  have sU : Sl 1 (EInt .u8) H2 (sub3 1 v 0 1 1) (l.take 1) := (rb0.s _ (OldB.upd uu (Nat.le_refl _))).sub3 (Nat.zero_le _) (by omega)
  refine KL.q (R.index1 (j := 0) rfl Tryd.underlying36 sz5 rfl rfl sU rfl (by rw [List.length_take]; omega)) rfl ?_
  refine KL.q ((R.load rfl Tryd.underlying5 rfl rfl (sU.int 0 (by rw [List.length_take]; omega)).1).val (congrArg (Value.int .u8) (Utf.getD_take (by decide)))) rfl ?_
  refine KL.fin 1 rfl (KQ.seq (KC.ret (KQ.ofRetX (KQ.toX (KQ.fin1 Tryd.results131 rfl ?_)))))
  exact ⟨_, 1, _, Bn.byte_ok (by omega), rfl, (rb0.sl.int 0 (by omega)).2, rb, fr⟩
theorem bu32_any {H : Heap} {g : Nat} {v : Value} {l : List Int} (rb : RB H g v l) : CtX Tryd.prog 100 [.pointer (some ⟨g, 0, none⟩)] H (fun u H' => ∃ x k v', Isp.u32P l = .ok (x, k) ∧ u = .int .u32 x ∧ InR .u32 x ∧ RB H' g v' (l.drop k) ∧ Fr g (.slice none 0 0) H H') (fun q H' => ∃ e, Isp.u32P l = .error e ∧ q = failB e ∧ Fr g (.slice none 0 0) H H') := by
  refine CtX.mk Tryd.func100 rfl Tryd.ntmps100 rfl ?_
  intro W0 hW0
  have o0 : OldB 0 H H := OldB.refl _ H
  have hg := rb.lt
  have fr : Fr g (.slice none 0 0) H H := Fr.refl _ _ _
  have hle := rb.le
  refine KC.sr (KL.fin 1 rfl (KQ.sr (KL.run 3 rfl (KL.ld rfl (cell_of rb.b rfl) ?_))))
  refine KL.c rfl Tryd.call64 (TakeU_or _ _ rb.sl) ?_
  rintro u9 _ ⟨rfl, hR⟩
  rcases hR with ⟨ht, rfl⟩ | ⟨n, k, ht, rfl⟩
  · skip
    refine KL.fin 7 rfl (KQ.sr (KL.run 1 rfl ?_))
    refine KL.callX rfl rfl rfl rfl Tryd.call55 rfl rfl rfl (must_any false) ?_ ?_
    · rintro vx _ ⟨rfl, _, rfl⟩
      refine KQ.panThen ?_
      exact KQ.pan (⟨_, Bn.u32_none ht, rfl, fr⟩)
    rintro _ _ ⟨_, hb, _⟩
    exact absurd hb (by decide)
  have hb0 := Lb.tk32 ht
  refine KL.fin 7 rfl (KQ.sr (KL.run 1 rfl ?_))
  refine KL.callX rfl rfl rfl rfl Tryd.call55 rfl rfl rfl (must_any true) ?_ ?_
  · rintro vx _ ⟨_, hb, _⟩
    refine KQ.panThen ?_
    exact KQ.pan (absurd hb (by decide))
  rintro _ _ ⟨rfl, _, rfl⟩
  refine KL.nil (KQ.sr (KL.run 2 rfl ?_))
  refine KL.c rfl Tryd.call136 (skip_any rb k (by omega)) ?_
  rintro _ H3 ⟨rfl, rb2, uu⟩
  have f1_ := Fr.ofU uu
  have zf_H3 := f1_.1
  have o0 := o0.trans (f1_.low (Nat.zero_le _) (Nat.zero_le _))
  have fr := fr.thenN f1_
  have rb0 := rb
  have rb := rb2
  have zrd := rb.lt
  refine KL.nil (KQ.sr (KL.run 1 rfl ?_))
  refine KL.q (R.convI rfl Tryd.underlying101 Tryd.underlying28 rfl (by dsimp only [InR]; omega)) rfl ?_
  refine KL.fin 1 rfl (KQ.seq (KC.ret (KQ.ofRetX (KQ.toX (KQ.fin1 Tryd.results100 rfl ?_)))))
  exact ⟨_, _, _, Bn.u32_some ht, rfl, by dsimp only [InR]; omega, rb, fr⟩
theorem bbytes_any {H : Heap} {g : Nat} {v : Value} {l : List Int} (rb : RB H g v l) : CtX Tryd.prog 139 [.pointer (some ⟨g, 0, none⟩)] H (fun u H' => ∃ x k v', Bn.bytP l = .ok (x, k) ∧ (∀ H2, OldB g H' H2 → Sl 1 (EInt .u8) H2 u x) ∧ RB H' g v' (l.drop k) ∧ Fr g (.slice none 0 0) H H') (fun q H' => ∃ e, Bn.bytP l = .error e ∧ q = failB e ∧ Fr g (.slice none 0 0) H H') := by
  refine CtX.mk Tryd.func139 rfl Tryd.ntmps139 rfl ?_
  intro W0 hW0
  have o0 : OldB 0 H H := OldB.refl _ H
  have hg := rb.lt
  have fr : Fr g (.slice none 0 0) H H := Fr.refl _ _ _
  have hle := rb.le
  refine KC.sr (KL.fin 1 rfl (KQ.sr (KL.run 1 rfl ?_)))
  refine KL.callX rfl rfl rfl rfl Tryd.call100 rfl rfl rfl (bu32_any rb) ?_ ?_
  · rintro vx H1 ⟨ex, hx1, hx2, hx3⟩
    refine KQ.panThen ?_
    exact KQ.pan (⟨_, Bn.byt_e1 hx1, hx2, fr.thenN hx3⟩)
  rintro _ H2 ⟨n, k, v1, hp, rfl, hn, rb2, f1_⟩
  have zf_H2 := f1_.1
  have o0 := o0.trans (f1_.low (Nat.zero_le _) (Nat.zero_le _))
  have fr := fr.thenN f1_
  have rb := rb2
  have zrd := rb.lt
  have fn1 := f1_
  refine KL.fin 1 rfl (KQ.sr (KL.run 1 rfl ?_))
  refine KL.q (R.convI rfl Tryd.underlying28 Tryd.underlying101 rfl (by dsimp only [InR] at *; omega)) rfl ?_
  refine KL.run 3 rfl (KL.ld rfl (cell_of rb.b rfl) (KL.q (R.lenS rfl Tryd.underlying36 rfl rb.sl) rfl ?_))
  refine KL.q (R.convI rfl Tryd.underlying3 Tryd.underlying101 rfl (by have := rb.sl.len; dsimp only [InR]; omega)) rfl ?_
  refine KL.run 1 rfl ?_
  refine KL.callX rfl rfl rfl rfl Tryd.call55 rfl rfl rfl (must_any _) ?_ ?_
  · rintro vx _ ⟨rfl, hb, rfl⟩
    simp only [sd] at hb
    refine KQ.panThen ?_
    exact KQ.pan (⟨_, Bn.byt_e hp (by rw [← List.length_drop]; dsimp only [InR] at hn; omega), rfl, fr⟩)
  rintro _ _ ⟨rfl, hb, rfl⟩
  simp only [sd] at hb
  refine KL.nil (KQ.sr (KL.run 2 rfl ?_))
  refine KL.q ((R.convI rfl Tryd.underlying28 Tryd.underlying3 rfl (by dsimp only [InR] at *; omega)).val (congrArg (Value.int .i64) (show n = ((n.toNat : Nat) : Int) by dsimp only [InR] at hn; omega))) rfl ?_
  refine KL.c rfl Tryd.call136 (skip_any rb n.toNat (by dsimp only [InR] at hn; omega)) ?_
  rintro _ H4 ⟨rfl, rb2, uu⟩
  have f1_ := Fr.ofU uu
  have zf_H4 := f1_.1
  have o0 := o0.trans (f1_.low (Nat.zero_le _) (Nat.zero_le _))
  have fr := fr.thenN f1_
  have rb0 := rb
  have rb := rb2
  have zrd := rb.lt
  have sU : ∀ Hx, OldB g H2 Hx → Sl 1 (EInt .u8) Hx (sub3 1 v1 0 n.toNat n.toNat) ((l.drop k).take n.toNat) := fun Hx o => (rb0.s Hx o).sub3 (Nat.zero_le _) (by dsimp only [InR] at hn; omega)
  refine KL.fin 1 rfl (KQ.seq (KC.ret (KQ.ofRetX (KQ.toX (KQ.fin1 Tryd.results139 rfl ?_)))))
  exact ⟨_, _, _, Bn.byt_ok hp (by rw [← List.length_drop]; dsimp only [InR] at hn; omega), fun Hx o => sU Hx ((OldB.upd uu (Nat.le_refl _)).trans o), rb.cast (by rw [List.drop_drop]), fr⟩
end Go.Proofs.YtldmfchamcpmmaaDoor
namespace Go.Proofs.YtldmfchamcpmmaaDoor
open Go Go.RowKit
set_option linter.unusedVariables false
set_option linter.unusedSimpArgs false
set_option linter.unnecessarySimpa false
namespace Bn
theorem val_f {x : Int} (h : x = 125 ∨ x = 124) : valF x = .error 61 := by unfold valF; rw [if_pos h]
theorem val_ok {x : Int} (h : x = 127 ∨ x = 126) : valF x = .ok x := by unfold valF; rw [if_neg (by omega), if_pos h]
theorem val_b {x : Int} (h : ¬ (x = 125 ∨ x = 124)) (h2 : ¬ (x = 127 ∨ x = 126)) : valF x = .error 60 := by unfold valF; rw [if_neg h, if_neg h2]
theorem flg_ok {x : Int} (h : x ≤ 1) : flgF x = .ok (decide (x = 1)) := by unfold flgF; rw [if_pos h]
theorem flg_b {x : Int} (h : 1 < x) : flgF x = .error 60 := by unfold flgF; rw [if_neg (by omega)]
theorem tag_ok {x b : Int} (h : x = b) : tagF b x = .ok () := by unfold tagF; rw [if_pos h]
theorem tag_b {x b : Int} (h : ¬ x = b) : tagF b x = .error 60 := by unfold tagF; rw [if_neg h]
theorem lf_e {r : List Int} {e : Int} (h : Isp.u32P r = .error e) : limR false r = .error e := by unfold limR; exact b_e1 h
theorem lf_ok {r : List Int} {x : Int} {k : Nat} (h : Isp.u32P r = .ok (x, k)) : limR false r = .ok ((x, -1), k) := by unfold limR; exact b_ok (q := fun _ => retP (-1)) h rfl
theorem knd_ok {x : Int} (h : x ≤ 3) : kndF x = .ok x := by unfold kndF; rw [if_pos h]
theorem knd_b {x : Int} (h : 3 < x) : kndF x = .error 60 := by unfold kndF; rw [if_neg (by omega)]
end Bn
theorem bname_any {H : Heap} {g : Nat} {v : Value} {l : List Int} (rb : RB H g v l) {Hb : Heap} (hT : TabU Hb) (oB : Old Hb H) (hgB : Hb.size ≤ g) : CtX Tryd.prog 134 [.pointer (some ⟨g, 0, none⟩)] H (fun u H' => ∃ x k v', Bn.namP l = .ok (x, k) ∧ u = .string x ∧ RB H' g v' (l.drop k) ∧ Fr g (.slice none 0 0) H H') (fun q H' => ∃ e, Bn.namP l = .error e ∧ q = failB e ∧ Fr g (.slice none 0 0) H H') := by
  refine CtX.mk Tryd.func134 rfl Tryd.ntmps134 rfl ?_
  intro W0 hW0
  have o0 : OldB 0 H H := OldB.refl _ H
  have hg := rb.lt
  have fr : Fr g (.slice none 0 0) H H := Fr.refl _ _ _
  have hle := rb.le
  have hrg := rb.sl.rng
  refine KC.sr (KL.fin 1 rfl (KQ.sr (KL.run 3 rfl (KL.ld rfl (cell_of rb.b rfl) ?_))))
  refine KL.c rfl Tryd.call65 (NTake_or _ _ rb.sl (hT.old oB)) ?_
  rintro u9 H1 ⟨ox, hR⟩
  have zc_H1 := (ox).1
  have o0 := o0.trans ((ox).b (by omega))
  have rb := rb.old ox
  have fr := fr.old ox
  have oB := oB.trans ox
  rcases hR with ⟨hnt, rfl⟩ | ⟨t, k, hnt, rfl⟩
  · skip
    refine KL.fin 7 rfl (KQ.sr (KL.run 1 rfl ?_))
    refine KL.callX rfl rfl rfl rfl Tryd.call55 rfl rfl rfl (must_any false) ?_ ?_
    · rintro vx _ ⟨rfl, _, rfl⟩
      refine KQ.panThen ?_
      exact KQ.pan (⟨_, Bn.nam_none hnt, rfl, fr⟩)
    rintro _ _ ⟨_, hb, _⟩
    exact absurd hb (by decide)
  have hkl := Bn.nt_le hnt
  refine KL.fin 7 rfl (KQ.sr (KL.run 1 rfl ?_))
  refine KL.callX rfl rfl rfl rfl Tryd.call55 rfl rfl rfl (must_any true) ?_ ?_
  · rintro vx _ ⟨_, hb, _⟩
    refine KQ.panThen ?_
    exact KQ.pan (absurd hb (by decide))
  rintro _ _ ⟨rfl, _, rfl⟩
  refine KL.nil (KQ.sr (KL.run 2 rfl ?_))
  refine KL.c rfl Tryd.call136 (skip_any rb k hkl) ?_
  rintro _ H4 ⟨rfl, rb2, uu⟩
  have f1_ := Fr.ofU uu
  have zf_H4 := f1_.1
  have o0 := o0.trans (f1_.low (Nat.zero_le _) (Nat.zero_le _))
  have fr := fr.thenN f1_
  have oB := oB.then (f1_.low (by omega) (by omega)) (Nat.le_refl _)
  have rb0 := rb
  have rb := rb2
  have zrd := rb.lt
  refine KL.nil (KQ.sr (KL.fin 2 rfl (KQ.seq (KC.ret (KQ.ofRetX (KQ.toX (KQ.fin1 Tryd.results134 rfl ?_)))))))
  exact ⟨_, _, _, Bn.nam_some hnt hrg, rfl, rb, fr⟩
theorem bflag_any {H : Heap} {g : Nat} {v : Value} {l : List Int} (rb : RB H g v l) : CtX Tryd.prog 137 [.pointer (some ⟨g, 0, none⟩)] H (fun u H' => ∃ x k v', Bn.flgP l = .ok (x, k) ∧ u = .bool x ∧ RB H' g v' (l.drop k) ∧ Fr g (.slice none 0 0) H H') (fun q H' => ∃ e, Bn.flgP l = .error e ∧ q = failB e ∧ Fr g (.slice none 0 0) H H') := by
  refine CtX.mk Tryd.func137 rfl Tryd.ntmps137 rfl ?_
  intro W0 hW0
  have o0 : OldB 0 H H := OldB.refl _ H
  have hg := rb.lt
  have fr : Fr g (.slice none 0 0) H H := Fr.refl _ _ _
  have hle := rb.le
  refine KC.sr (KL.fin 1 rfl (KQ.sr (KL.run 1 rfl ?_)))
  refine KL.callX rfl rfl rfl rfl Tryd.call131 rfl rfl rfl (bbyte_any rb) ?_ ?_
  · rintro vx H1 ⟨ex, hx1, hx2, hx3⟩
    refine KQ.panThen ?_
    exact KQ.pan (⟨_, Bn.one_er hx1, hx2, fr.thenN hx3⟩)
  rintro _ H2 ⟨x, k, v1, hp, rfl, hx, rb2, f1_⟩
  have zf_H2 := f1_.1
  have o0 := o0.trans (f1_.low (Nat.zero_le _) (Nat.zero_le _))
  have fr := fr.thenN f1_
  have rb := rb2
  have zrd := rb.lt
  have fn1 := f1_
  refine KL.fin 1 rfl (KQ.sr (KL.run 2 rfl ?_))
  refine KL.callX rfl rfl rfl rfl Tryd.call55 rfl rfl rfl (must_any _) ?_ ?_
  · rintro vx _ ⟨rfl, hb, rfl⟩
    simp only [sd] at hb
    refine KQ.panThen ?_
    exact KQ.pan (⟨_, Bn.one_of_e hp (Bn.flg_b (by omega)), rfl, fr⟩)
  rintro _ _ ⟨rfl, hb, rfl⟩
  simp only [sd] at hb
  refine KL.nil (KQ.sr (KL.fin 3 rfl (KQ.seq (KC.ret (KQ.ofRetX (KQ.toX (KQ.fin1 Tryd.results137 rfl ?_)))))))
  exact ⟨_, _, _, Bn.one_of hp (Bn.flg_ok hb), rfl, rb, fr⟩
theorem bvalue_any {H : Heap} {g : Nat} {v : Value} {l : List Int} (rb : RB H g v l) : CtX Tryd.prog 133 [.pointer (some ⟨g, 0, none⟩)] H (fun u H' => ∃ x k v', Bn.valP l = .ok (x, k) ∧ u = .int .u8 x ∧ InR .u8 x ∧ RB H' g v' (l.drop k) ∧ Fr g (.slice none 0 0) H H') (fun q H' => ∃ e, Bn.valP l = .error e ∧ q = failB e ∧ Fr g (.slice none 0 0) H H') := by
  refine CtX.mk Tryd.func133 rfl Tryd.ntmps133 rfl ?_
  intro W0 hW0
  have o0 : OldB 0 H H := OldB.refl _ H
  have hg := rb.lt
  have fr : Fr g (.slice none 0 0) H H := Fr.refl _ _ _
  have hle := rb.le
  refine KC.sr (KL.fin 1 rfl (KQ.sr (KL.run 1 rfl ?_)))
  refine KL.callX rfl rfl rfl rfl Tryd.call131 rfl rfl rfl (bbyte_any rb) ?_ ?_
  · rintro vx H1 ⟨ex, hx1, hx2, hx3⟩
    refine KQ.panThen ?_
    exact KQ.pan (⟨_, Bn.one_er hx1, hx2, fr.thenN hx3⟩)
  rintro _ H2 ⟨x, k, v1, hp, rfl, hx, rb2, f2_⟩
  have zf_H2 := f2_.1
  have o0 := o0.trans (f2_.low (Nat.zero_le _) (Nat.zero_le _))
  have fr := fr.thenN f2_
  have rb := rb2
  have zrd := rb.lt
  have fn2 := f2_
  refine KL.fin 1 rfl (KQ.seq (KC.seq (KC.sr (KL.run 3 rfl ?_))))
  refine KL.cq 8 rfl ?_ ?_
  · intro hg8
    refine KL.fin 3 rfl (KQ.seq (KC.condT rfl (KC.region (KL.b0 bt117 rfl rfl (KL.q (R.makeIface rfl Tryd.underlying117 rfl rfl) rfl ?_)))))
    refine KL.panic rfl rfl rfl ?_
    refine KQ.panThen ?_
    exact KQ.pan (⟨_, Bn.one_of_e hp (Bn.val_f (by omega)), rfl, fr⟩)
  intro hg8
  refine KL.fin 3 rfl (KQ.seq ?_)
  refine KC.iq rfl ?_ ?_
  · intro hc11
    refine KC.region (KL.b0 bt117 rfl rfl (KL.q (R.makeIface rfl Tryd.underlying117 rfl rfl) rfl ?_))
    refine KL.panic rfl rfl rfl ?_
    refine KQ.panThen ?_
    exact KQ.pan (⟨_, Bn.one_of_e hp (Bn.val_f (by omega)), rfl, fr⟩)
  intro hc11
  refine KC.skip (KQ.sr (KL.run 3 rfl ?_))
  refine KL.cq 16 rfl ?_ ?_
  · intro hg16
    refine KL.run 3 rfl ?_
    refine KL.callX rfl rfl rfl rfl Tryd.call55 rfl rfl rfl (must_any true) ?_ ?_
    · rintro vx _ ⟨_, hb, _⟩
      refine KQ.panThen ?_
      exact KQ.pan (absurd hb (by decide))
    rintro _ _ ⟨rfl, _, rfl⟩
    refine KL.nil (KQ.sr (KL.fin 2 rfl (KQ.seq (KC.ret (KQ.ofRetX (KQ.toX (KQ.fin1 Tryd.results133 rfl ?_)))))))
    exact ⟨_, _, _, Bn.one_of hp (Bn.val_ok (by omega)), rfl, hx, rb, fr⟩
  intro hg16
  refine KL.run 3 rfl ?_
  refine KL.callX rfl rfl rfl rfl Tryd.call55 rfl rfl rfl (must_any _) ?_ ?_
  · rintro vx _ ⟨rfl, hb, rfl⟩
    simp only [sd] at hb
    refine KQ.panThen ?_
    exact KQ.pan (⟨_, Bn.one_of_e hp (Bn.val_b (by omega) (by omega)), rfl, fr⟩)
  rintro _ _ ⟨rfl, hb, rfl⟩
  simp only [sd] at hb
  refine KL.nil (KQ.sr (KL.fin 2 rfl (KQ.seq (KC.ret (KQ.ofRetX (KQ.toX (KQ.fin1 Tryd.results133 rfl ?_)))))))
  exact ⟨_, _, _, Bn.one_of hp (Bn.val_ok (by omega)), rfl, hx, rb, fr⟩
theorem blimits_any {H : Heap} {g : Nat} {v : Value} {l : List Int} (rb : RB H g v l) : CtX Tryd.prog 103 [.pointer (some ⟨g, 0, none⟩)] H (fun u H' => ∃ x k v', Bn.limP l = .ok (x, k) ∧ u = .agg [.int .u32 x.1, .int .i64 x.2].toArray ∧ InR .u32 x.1 ∧ InR .i64 x.2 ∧ RB H' g v' (l.drop k) ∧ Fr g (.slice none 0 0) H H') (fun q H' => ∃ e, Bn.limP l = .error e ∧ q = failB e ∧ Fr g (.slice none 0 0) H H') := by
  refine CtX.mk Tryd.func103 rfl Tryd.ntmps103 rfl ?_
  intro W0 hW0
  have o0 : OldB 0 H H := OldB.refl _ H
  have hg := rb.lt
  have fr : Fr g (.slice none 0 0) H H := Fr.refl _ _ _
  have hle := rb.le
  refine KC.sr ?_
  refine KL.m (M.alloc rfl zr47 rfl) rfl ?_
  rintro _ H1 ⟨rfl, n1⟩
  have z1 := n1.2.1
  have o0 := o0.trans ((n1.1).b (by omega))
  have rb := rb.old n1.1
  have fr := fr.old n1.1
  have b1 := n1.2.2
  have br := b1
  refine KL.nil (KQ.seq (KC.seq (KC.sr (KL.run 1 rfl ?_))))
  refine KL.callX rfl rfl rfl rfl Tryd.call137 rfl rfl rfl (bflag_any rb) ?_ ?_
  · rintro vx H2 ⟨ex, hx1, hx2, hx3⟩
    refine KQ.panThen ?_
    refine KQ.panThen ?_
    exact KQ.pan (⟨_, Bn.m_e (Bn.b_e1 hx1), hx2, fr.thenN hx3⟩)
  rintro _ H3 ⟨b, k0, v0, hp0, rfl, rb2, f3_⟩
  have zf_H3 := f3_.1
  have o0 := o0.trans (f3_.low (Nat.zero_le _) (Nat.zero_le _))
  have fr := fr.thenN f3_
  have br := f3_.at_ br (by omega)
  have rb := rb2
  have zrd := rb.lt
  have fn3 := f3_
  refine KL.nil (KQ.seq ?_)
  refine KC.iq rfl ?_ ?_
  · intro hb5
    subst hb5
    refine KC.sr (KL.run 1 rfl ?_)
    refine KL.callX rfl rfl rfl rfl Tryd.call100 rfl rfl rfl (bu32_any rb) ?_ ?_
    · rintro vx H4 ⟨ex, hx1, hx2, hx3⟩
      refine KQ.panThen ?_
      refine KQ.panThen ?_
      exact KQ.pan (⟨_, Bn.m_e (Bn.b_e2 hp0 (Bn.b_e1 hx1)), hx2, fr.thenN hx3⟩)
    rintro _ H5 ⟨a1, k1, v1, hp1, rfl, ha1, rb2, f4_⟩
    have zf_H5 := f4_.1
    have o0 := o0.trans (f4_.low (Nat.zero_le _) (Nat.zero_le _))
    have fr := fr.thenN f4_
    have br := f4_.at_ br (by omega)
    have rb := rb2
    have zrd := rb.lt
    have fn4 := f4_
    refine KL.fin 1 rfl (KQ.sr (KL.run 2 rfl ?_))
    refine KL.callX rfl rfl rfl rfl Tryd.call100 rfl rfl rfl (bu32_any rb) ?_ ?_
    · rintro vx H6 ⟨ex, hx1, hx2, hx3⟩
      refine KQ.panThen ?_
      refine KQ.panThen ?_
      exact KQ.pan (⟨_, Bn.m_e (Bn.b_e2 hp0 (Bn.b_e2 hp1 hx1)), hx2, fr.thenN hx3⟩)
    rintro _ H7 ⟨a2, k2, v2, hp2, rfl, ha2, rb2, f5_⟩
    have zf_H7 := f5_.1
    have o0 := o0.trans (f5_.low (Nat.zero_le _) (Nat.zero_le _))
    have fr := fr.thenN f5_
    have br := f5_.at_ br (by omega)
    have rb := rb2
    have zrd := rb.lt
    have fn5 := f5_
    refine KL.q (R.convI rfl Tryd.underlying28 Tryd.underlying2 rfl (by dsimp only [InR] at *; omega)) rfl ?_
    refine KL.b0 bt47 rfl rfl ?_
    refine KL.opS (S.storeAgg rfl sz47 rfl rfl (rfl) (by intro z hz; simp only [List.mem_cons, List.not_mem_nil, or_false] at hz; rcases hz with rfl | rfl <;> rfl) br (by simp)) rfl rfl ?_
    rintro H8 ⟨u8, b8⟩
    have o0 := o0.trans (OldB.upd u8 (by omega))
    have zu8 := u8.1
    have fr := (by exact fr.updN u8 (by omega))
    have rb := rb.updT u8 (by omega)
    have br := b8
    rw [over_all (by rfl)] at br
    have hfin : Bn.limP l = .ok ((a1, a2), _) := Bn.m_ok (Bn.b_ok hp0 (Bn.b_ok hp1 hp2))
    have hra : InR .u32 a1 ∧ InR .i64 a2 := ⟨ha1, by dsimp only [InR] at *; omega⟩
    refine KL.nil (KQ.seq (KC.ret (KQ.retThen (KQ.ofRetX (KQ.toX ?_)))))
    refine KQ.finCell Tryd.results103 rfl Tryd.underlying47 rfl sz47 (cells_of br) (rfl) ?_
    exact ⟨_, _, _, hfin, rfl, hra.1, hra.2, rb.cast (by simp only [List.drop_drop, Nat.add_assoc, Nat.add_zero]), fr⟩
  intro hb5
  subst hb5
  refine KC.skip (KQ.sr (KL.run 1 rfl ?_))
  refine KL.callX rfl rfl rfl rfl Tryd.call100 rfl rfl rfl (bu32_any rb) ?_ ?_
  · rintro vx H9 ⟨ex, hx1, hx2, hx3⟩
    refine KQ.panThen ?_
    exact KQ.pan (⟨_, Bn.m_e (Bn.b_e2 hp0 (Bn.lf_e hx1)), hx2, fr.thenN hx3⟩)
  rintro _ H10 ⟨a1, k1, v1, hp1, rfl, ha1, rb2, f6_⟩
  have zf_H10 := f6_.1
  have o0 := o0.trans (f6_.low (Nat.zero_le _) (Nat.zero_le _))
  have fr := fr.thenN f6_
  have br := f6_.at_ br (by omega)
  have rb := rb2
  have zrd := rb.lt
  have fn6 := f6_
  refine KL.b0 bt47 rfl rfl ?_
  refine KL.opS (S.storeAgg rfl sz47 rfl rfl (rfl) (by intro z hz; simp only [List.mem_cons, List.not_mem_nil, or_false] at hz; rcases hz with rfl | rfl <;> rfl) br (by simp)) rfl rfl ?_
  rintro H11 ⟨u11, b11⟩
  have o0 := o0.trans (OldB.upd u11 (by omega))
  have zu11 := u11.1
  have fr := (by exact fr.updN u11 (by omega))
  have rb := rb.updT u11 (by omega)
  have br := b11
  rw [over_all (by rfl)] at br
  have hfin : Bn.limP l = .ok ((a1, -1), _) := Bn.m_ok (Bn.b_ok hp0 (Bn.lf_ok hp1))
  have hra : InR .u32 a1 ∧ InR .i64 (-1) := ⟨ha1, by decide⟩
  refine KL.nil (KQ.seq (KC.ret (KQ.ofRetX (KQ.toX ?_))))
  refine KQ.finCell Tryd.results103 rfl Tryd.underlying47 rfl sz47 (cells_of br) (rfl) ?_
  exact ⟨_, _, _, hfin, rfl, hra.1, hra.2, rb.cast (by simp only [List.drop_drop, Nat.add_assoc, Nat.add_zero]), fr⟩
theorem btable_any {H : Heap} {g : Nat} {v : Value} {l : List Int} (rb : RB H g v l) : CtX Tryd.prog 102 [.pointer (some ⟨g, 0, none⟩)] H (fun u H' => ∃ x k v', Bn.tabP l = .ok (x, k) ∧ u = .agg [.int .u32 x.1, .int .i64 x.2].toArray ∧ InR .u32 x.1 ∧ InR .i64 x.2 ∧ RB H' g v' (l.drop k) ∧ Fr g (.slice none 0 0) H H') (fun q H' => ∃ e, Bn.tabP l = .error e ∧ q = failB e ∧ Fr g (.slice none 0 0) H H') := by
  refine CtX.mk Tryd.func102 rfl Tryd.ntmps102 rfl ?_
  intro W0 hW0
  have o0 : OldB 0 H H := OldB.refl _ H
  have hg := rb.lt
  have fr : Fr g (.slice none 0 0) H H := Fr.refl _ _ _
  have hle := rb.le
  refine KC.sr ?_
  refine KL.m (M.alloc rfl zr47 rfl) rfl ?_
  rintro _ H1 ⟨rfl, n1⟩
  have z1 := n1.2.1
  have o0 := o0.trans ((n1.1).b (by omega))
  have rb := rb.old n1.1
  have fr := fr.old n1.1
  have b1 := n1.2.2
  have br := b1
  refine KL.nil (KQ.sr (KL.run 1 rfl ?_))
  refine KL.callX rfl rfl rfl rfl Tryd.call131 rfl rfl rfl (bbyte_any rb) ?_ ?_
  · rintro vx H2 ⟨ex, hx1, hx2, hx3⟩
    refine KQ.panThen ?_
    exact KQ.pan (⟨_, Bn.m_e (Bn.b_e1 (Bn.one_er hx1)), hx2, fr.thenN hx3⟩)
  rintro _ H3 ⟨x0, k0, v0, hp0, rfl, hx0, rb2, f7_⟩
  have zf_H3 := f7_.1
  have o0 := o0.trans (f7_.low (Nat.zero_le _) (Nat.zero_le _))
  have fr := fr.thenN f7_
  have br := f7_.at_ br (by omega)
  have rb := rb2
  have zrd := rb.lt
  have fn7 := f7_
  refine KL.run 1 rfl ?_
  refine KL.callX rfl rfl rfl rfl Tryd.call55 rfl rfl rfl (must_any _) ?_ ?_
  · rintro vx _ ⟨rfl, hb, rfl⟩
    simp only [sd] at hb
    refine KQ.panThen ?_
    exact KQ.pan (⟨_, Bn.m_e (Bn.b_e1 (Bn.one_of_e hp0 (Bn.tag_b hb))), rfl, fr⟩)
  rintro _ _ ⟨rfl, hb, rfl⟩
  simp only [sd] at hb
  refine KL.nil (KQ.sr (KL.run 1 rfl ?_))
  refine KL.callX rfl rfl rfl rfl Tryd.call103 rfl rfl rfl (blimits_any rb) ?_ ?_
  · rintro vx H5 ⟨ex, hx1, hx2, hx3⟩
    refine KQ.panThen ?_
    exact KQ.pan (⟨_, Bn.m_e (Bn.b_e2 (Bn.one_of hp0 (Bn.tag_ok hb)) hx1), hx2, fr.thenN hx3⟩)
  rintro _ H6 ⟨y, k1, v1, hp1, rfl, ha1, ha2, rb2, f8_⟩
  have zf_H6 := f8_.1
  have o0 := o0.trans (f8_.low (Nat.zero_le _) (Nat.zero_le _))
  have fr := fr.thenN f8_
  have br := f8_.at_ br (by omega)
  have rb := rb2
  have zrd := rb.lt
  have fn8 := f8_
  refine KL.opS (S.storeAgg rfl sz47 rfl rfl (rfl) (by intro z hz; simp only [List.mem_cons, List.not_mem_nil, or_false] at hz; rcases hz with rfl | rfl <;> rfl) br (by simp)) rfl rfl ?_
  rintro H7 ⟨u7, b7⟩
  have o0 := o0.trans (OldB.upd u7 (by omega))
  have zu7 := u7.1
  have fr := (by exact fr.updN u7 (by omega))
  have rb := rb.updT u7 (by omega)
  have br := b7
  rw [over_all (by rfl)] at br
  refine KL.nil (KQ.seq (KC.ret (KQ.ofRetX (KQ.toX ?_))))
  refine KQ.finCell Tryd.results102 rfl Tryd.underlying47 rfl sz47 (cells_of br) (rfl) ?_
  exact ⟨_, _, _, Bn.m_ok (Bn.b_ok (Bn.one_of hp0 (Bn.tag_ok hb)) hp1), rfl, ha1, ha2, rb.cast (by simp only [List.drop_drop]), fr⟩
theorem bglob_any {H : Heap} {g : Nat} {v : Value} {l : List Int} (rb : RB H g v l) : CtX Tryd.prog 135 [.pointer (some ⟨g, 0, none⟩)] H (fun u H' => ∃ x k v', Bn.glbP l = .ok (x, k) ∧ u = .agg [.int .u8 x.1, .bool x.2].toArray ∧ InR .u8 x.1 ∧ RB H' g v' (l.drop k) ∧ Fr g (.slice none 0 0) H H') (fun q H' => ∃ e, Bn.glbP l = .error e ∧ q = failB e ∧ Fr g (.slice none 0 0) H H') := by
  refine CtX.mk Tryd.func135 rfl Tryd.ntmps135 rfl ?_
  intro W0 hW0
  have o0 : OldB 0 H H := OldB.refl _ H
  have hg := rb.lt
  have fr : Fr g (.slice none 0 0) H H := Fr.refl _ _ _
  have hle := rb.le
  refine KC.sr ?_
  refine KL.m (M.alloc rfl zr49 rfl) rfl ?_
  rintro _ H1 ⟨rfl, n1⟩
  have z1 := n1.2.1
  have o0 := o0.trans ((n1.1).b (by omega))
  have rb := rb.old n1.1
  have fr := fr.old n1.1
  have b1 := n1.2.2
  have br := b1
  refine KL.nil (KQ.sr (KL.run 1 rfl ?_))
  refine KL.callX rfl rfl rfl rfl Tryd.call133 rfl rfl rfl (bvalue_any rb) ?_ ?_
  · rintro vx H2 ⟨ex, hx1, hx2, hx3⟩
    refine KQ.panThen ?_
    exact KQ.pan (⟨_, Bn.b_e1 hx1, hx2, fr.thenN hx3⟩)
  rintro _ H3 ⟨x0, k0, v0, hp0, rfl, hx0, rb2, f9_⟩
  have zf_H3 := f9_.1
  have o0 := o0.trans (f9_.low (Nat.zero_le _) (Nat.zero_le _))
  have fr := fr.thenN f9_
  have br := f9_.at_ br (by omega)
  have rb := rb2
  have zrd := rb.lt
  have fn9 := f9_
  refine KL.fin 1 rfl (KQ.sr (KL.run 2 rfl ?_))
  refine KL.callX rfl rfl rfl rfl Tryd.call137 rfl rfl rfl (bflag_any rb) ?_ ?_
  · rintro vx H4 ⟨ex, hx1, hx2, hx3⟩
    refine KQ.panThen ?_
    exact KQ.pan (⟨_, Bn.b_e2 hp0 hx1, hx2, fr.thenN hx3⟩)
  rintro _ H5 ⟨b, k1, v1, hp1, rfl, rb2, f10_⟩
  have zf_H5 := f10_.1
  have o0 := o0.trans (f10_.low (Nat.zero_le _) (Nat.zero_le _))
  have fr := fr.thenN f10_
  have br := f10_.at_ br (by omega)
  have rb := rb2
  have zrd := rb.lt
  have fn10 := f10_
  refine KL.b0 bt49 rfl rfl ?_
  refine KL.opS (S.storeAgg rfl sz49 rfl rfl (rfl) (by intro z hz; simp only [List.mem_cons, List.not_mem_nil, or_false] at hz; rcases hz with rfl | rfl <;> rfl) br (by simp)) rfl rfl ?_
  rintro H6 ⟨u6, b6⟩
  have o0 := o0.trans (OldB.upd u6 (by omega))
  have zu6 := u6.1
  have fr := (by exact fr.updN u6 (by omega))
  have rb := rb.updT u6 (by omega)
  have br := b6
  rw [over_all (by rfl)] at br
  refine KL.nil (KQ.seq (KC.ret (KQ.ofRetX (KQ.toX ?_))))
  refine KQ.finCell Tryd.results135 rfl Tryd.underlying49 rfl sz49 (cells_of br) (rfl) ?_
  exact ⟨_, _, _, Bn.b_ok hp0 hp1, rfl, hx0, rb.cast (by simp only [List.drop_drop]), fr⟩
theorem bexpr_any {H : Heap} {g : Nat} {v : Value} {l : List Int} (rb : RB H g v l) : CtX Tryd.prog 138 [.pointer (some ⟨g, 0, none⟩)] H (fun u H' => ∃ x k v', Bn.xprP l = .ok (x, k) ∧ RowS 5 EIns H.size H' u x ∧ RB H' g v' (l.drop k) ∧ Fr g (.slice none 0 0) H H') (fun q H' => ∃ e, Bn.xprP l = .error e ∧ q = failB e ∧ Fr g (.slice none 0 0) H H') := by
  refine CtX.mk Tryd.func138 rfl Tryd.ntmps138 rfl ?_
  intro W0 hW0
  have o0 : OldB 0 H H := OldB.refl _ H
  have hg := rb.lt
  have fr : Fr g (.slice none 0 0) H H := Fr.refl _ _ _
  have hle := rb.le
  refine KC.sr (KL.fin 1 rfl (KQ.sr (KL.run 3 rfl (KL.ld rfl (cell_of rb.b rfl) ?_))))
  refine KL.c rfl Tryd.call151 (TakeExpr_or rb.sl hle) ?_
  rintro u9 H1 ⟨ox, hR⟩
  have zc_H1 := (ox).1
  have o0 := o0.trans ((ox).b (by omega))
  have rb := rb.old ox
  have fr := fr.old ox
  rcases hR with ⟨e, hx1, he6, rfl⟩ | ⟨x, n, c, hp, hnl, rfl, hrow⟩
  · skip
    refine KL.fin 7 rfl (KQ.seq (KC.seq (KC.sr (KL.run 1 rfl ?_))))
    refine KL.q ((R.neq rfl rfl rfl).val (congrArg (fun b => Value.bool (!b)) (decide_eq_false (by rcases he6 with h | h <;> rw [h] <;> decide)))) rfl ?_
    refine KL.nil (KQ.seq (KC.condT rfl (KC.region (KL.run 1 rfl (KL.b0 bt117 rfl rfl (KL.q (R.makeIface rfl Tryd.underlying117 rfl rfl) rfl ?_))))))
    refine KL.panic rfl rfl rfl ?_
    refine KQ.panThen ?_
    exact KQ.pan (⟨_, hx1, rfl, fr⟩)
  have rw_ := RW.refl (Array.size H) H1
  refine KL.fin 7 rfl (KQ.seq (KC.seq (KC.sr (KL.run 1 rfl (KL.q ((R.neq rfl rfl rfl).val (congrArg (fun b => Value.bool (!b)) (decide_eq_true (by decide)))) rfl (KL.nil (KQ.seq (KC.condF rfl (KC.skip (KQ.sr ?_))))))))))
  refine KL.run 2 rfl ?_
  refine KL.c rfl Tryd.call136 (skip_any rb n hnl) ?_
  rintro _ H2 ⟨rfl, rb2, uu⟩
  have f1_ := Fr.ofU uu
  have zf_H2 := f1_.1
  have o0 := o0.trans (f1_.low (Nat.zero_le _) (Nat.zero_le _))
  have fr := fr.thenN f1_
  have rw_ := rw_.frT f1_ (by omega)
  have rb0 := rb
  have rb := rb2
  have zrd := rb.lt
  refine KL.nil (KQ.sr (KL.fin 2 rfl (KQ.seq (KC.ret (KQ.ofRetX (KQ.toX (KQ.fin1 Tryd.results138 rfl ?_)))))))
  exact ⟨_, _, _, hp, hrow.to rw_ (Nat.le_refl _), rb, fr⟩
end Go.Proofs.YtldmfchamcpmmaaDoor
namespace Go.Proofs.YtldmfchamcpmmaaDoor
open Go Go.RowKit
set_option linter.unusedVariables false
set_option linter.unusedSimpArgs false
set_option linter.unnecessarySimpa false
theorem listV_any {H : Heap} {g : Nat} {v : Value} {l : List Int} (rb : RB H g v l) : CtX Tryd.prog 132 [.pointer (some ⟨g, 0, none⟩), .func (.func 133) #[] #[]] H (fun u H' => ∃ x k v', Bn.lstP Bn.valP l = .ok (x, k) ∧ RowS 1 (EInt .u8) H.size H' u x ∧ RB H' g v' (l.drop k) ∧ Fr g (.slice none 0 0) H H') (fun q H' => ∃ e, Bn.lstP Bn.valP l = .error e ∧ q = failB e ∧ Fr g (.slice none 0 0) H H') := by
  refine CtX.mk Tryd.func132 rfl Tryd.ntmps132 rfl ?_
  intro W0 hW0
  have o0 : OldB 0 H H := OldB.refl _ H
  have hg := rb.lt
  have fr : Fr g (.slice none 0 0) H H := Fr.refl _ _ _
  have hle := rb.le
  refine KC.sr (KL.fin 1 rfl (KQ.sr (KL.fin 1 rfl (KQ.seq (KC.seq (KC.sr (KL.run 1 rfl ?_)))))))
  refine KL.callX rfl rfl rfl rfl Tryd.call100 rfl rfl rfl (bu32_any rb) ?_ ?_
  · rintro vx H1 ⟨ex, hx1, hx2, hx3⟩
    refine KQ.panThen ?_
    refine KQ.panThen ?_
    exact KQ.pan (⟨_, Bn.m_e (Bn.b_e1 hx1), hx2, fr.thenN hx3⟩)
  rintro _ H2 ⟨n0, k0, v0, hp0, rfl, hn0, rb2, f1_⟩
  have zf_H2 := f1_.1
  have o0 := o0.trans (f1_.low (Nat.zero_le _) (Nat.zero_le _))
  have fr := fr.thenN f1_
  have rb := rb2
  have zrd := rb.lt
  have fn1 := f1_
  dsimp only [InR] at hn0
  refine KL.fin 1 rfl (KQ.seq (KC.block ?_))
  refine KC.loopD (κ := List Int × Nat × Int × Value × Value) [9, 10, 13, 14, 15, 16, 17, 18, 5, 11, 12, 6] (fun k => [(5, k.2.2.2.1), (6, .int .u32 k.2.2.1)]) (fun k Hl => RB Hl g k.2.2.2.2 (l.drop (k0 + k.2.1)) ∧ LS 1 (EInt .u8) 5 (Array.size H) Hl k.2.2.2.1 k.1 ∧ Isp.Pre Bn.valP n0.toNat (l.drop k0) k.2.2.1.toNat k.1 k.2.1 ∧ Fr g (.slice none 0 0) H Hl ∧ 0 ≤ k.2.2.1 ∧ k.1.length + k.2.2.1.toNat = n0.toNat) (fun k => k.2.2.1.toNat) ([], 0, n0, .slice none 0 0, v0) ?_ ?_ ?_
  · exact Sub.all rfl
  · exact ⟨rb.cast (by simp only [List.drop_drop, Nat.add_assoc, Nat.add_zero]), LS.nil _ _ _ _ _, Isp.Pre.start _ _ _, fr, hn0.1, by simp⟩
  rintro ⟨acc, k, m, vo, vr⟩ H3 ⟨rb, ls, hpre, fr, hm0, hlen⟩
  dsimp only at rb ls hpre hm0 hlen
  have zrd := rb.lt
  have zfr := fr.1
  have o0 : OldB 0 H H3 := fr.low (Nat.zero_le _) (Nat.zero_le _)
  refine KC.seq (KC.sr (KL.fin 2 rfl (KQ.seq ?_)))
  refine KC.iq rfl ?_ ?_
  · intro hc10
    try dsimp only at hc10
    refine KC.skip (KQ.seq (KC.seq (KC.block (KC.region (KL.run 3 rfl ?_)))))
    have hvo := ls.w.lt.imp id (fun h => h.2)
    have hm : m.toNat = (m - 1).toNat + 1 := by omega
    rw [hm] at hpre
    refine KL.callX rfl rfl rfl rfl Tryd.call133 rfl rfl rfl (bvalue_any rb) ?_ ?_
    · rintro vx H4 ⟨ex, hx1, hx2, hx3⟩
      refine KQ.panBlock ?_
      refine KQ.panThen ?_
      refine KQ.panThen ?_
      refine KQ.panBlock ?_
      refine KQ.panThen ?_
      exact KQ.pan (⟨_, Bn.m_e (Bn.b_e2 hp0 (hpre.fail (by rw [List.drop_drop]; exact hx1))), hx2, fr.thenN hx3⟩)
    rintro _ H5 ⟨x, kx, vx, hpx, rfl, hxr, rb2, f2_⟩
    have zf_H5 := f2_.1
    have o0 := o0.trans (f2_.low (Nat.zero_le _) (Nat.zero_le _))
    have ls := ls.frT f2_ (by omega)
    have fr := fr.thenN f2_
    have rb := rb2
    have zrd := rb.lt
    have fn2 := f2_
    refine KL.m (M.lit rfl Tryd.underlying36 zs5 (by decide) rfl rfl rfl) rfl ?_
    rintro _ H6 ⟨rfl, n6⟩
    have z6 := n6.2.1
    have o0 := o0.trans ((n6.1).b (by omega))
    have ls := ls.old n6.1
    have fr := fr.old n6.1
    have rb := rb.old n6.1
    have b6 := n6.2.2
    have wo := ls.w
    have se : Sl 1 (FK (EInt .u8) H6 (vblock vo :: List.range (Array.size H))) H6 _ [x] := Sl.lit1N n6 rfl (by decide) (fun Hx kx_ => ⟨rfl, hxr⟩)
    have lt7 := wo.lt
    refine KL.m (M.appendE rfl Tryd.underlying36 inf5 rfl (by decide) rfl rfl wo (se) (by omega) (by simp only [List.length_cons, List.length_nil]; omega) (by unfold maxLen; simp only [List.length_cons, List.length_nil]; omega)) rfl ?_
    rintro vn H7 ⟨w7, g7, nx7⟩
    try dsimp only at g7 nx7
    have ob7 := g7.oldBE wo (by omega)
    have o0 := o0.trans (ob7.mono (by omega))
    have z7 := ob7.1
    have fr := (by exact fr.grownN g7 (lt7.imp id (fun h => by omega)))
    have rb := rb.grownT g7 (lt7.imp id (fun h => by omega))
    have wo := w7
    have ls : LS 1 (EInt .u8) 5 (Array.size H) H7 vn (acc ++ [x]) := ⟨wo⟩
    refine KL.fin 1 rfl (KQ.normBlock (KQ.r (KL.run 1 rfl ?_)))
    refine KL.q (R.sub rfl rfl rfl (by dsimp only [InR]; omega)) rfl ?_
    refine KL.fin 1 rfl ?_
    refine KQ.again ((acc ++ [x], k + kx, m - 1, vn, vx)) ?_ ?_ ?_
    · exact Sub.all rfl
    · show (m - 1).toNat < m.toNat; omega
    exact ⟨rb.cast (by simp only [List.drop_drop, Nat.add_assoc, Nat.add_zero]), ls, hpre.step (by rw [List.drop_drop]; exact hpx), fr, by show 0 ≤ m - 1; omega, by show (acc ++ [x]).length + (m - 1).toNat = _; rw [List.length_append, List.length_singleton]; omega⟩
  intro hc10
  try dsimp only at hc10
  refine KC.exit (KQ.exitThen (KQ.exitThen (KQ.hit (KQ.sr (KL.fin 2 rfl (KQ.seq (KC.ret (KQ.ofRetX (KQ.toX (KQ.fin1 Tryd.results132 rfl ?_))))))))))
  have h0 : m.toNat = 0 := by omega
  rw [h0] at hpre
  exact ⟨_, _, _, Bn.m_ok (Bn.b_ok hp0 hpre.done), ls.row (by decide), rb, fr⟩
theorem listU_any {H : Heap} {g : Nat} {v : Value} {l : List Int} (rb : RB H g v l) : CtX Tryd.prog 99 [.pointer (some ⟨g, 0, none⟩), .func (.func 100) #[] #[]] H (fun u H' => ∃ x k v', Bn.lstP Isp.u32P l = .ok (x, k) ∧ RowS 1 (EInt .u32) H.size H' u x ∧ RB H' g v' (l.drop k) ∧ Fr g (.slice none 0 0) H H') (fun q H' => ∃ e, Bn.lstP Isp.u32P l = .error e ∧ q = failB e ∧ Fr g (.slice none 0 0) H H') := by
  refine CtX.mk Tryd.func99 rfl Tryd.ntmps99 rfl ?_
  intro W0 hW0
  have o0 : OldB 0 H H := OldB.refl _ H
  have hg := rb.lt
  have fr : Fr g (.slice none 0 0) H H := Fr.refl _ _ _
  have hle := rb.le
  refine KC.sr (KL.fin 1 rfl (KQ.sr (KL.fin 1 rfl (KQ.seq (KC.seq (KC.sr (KL.run 1 rfl ?_)))))))
  refine KL.callX rfl rfl rfl rfl Tryd.call100 rfl rfl rfl (bu32_any rb) ?_ ?_
  · rintro vx H1 ⟨ex, hx1, hx2, hx3⟩
    refine KQ.panThen ?_
    refine KQ.panThen ?_
    exact KQ.pan (⟨_, Bn.m_e (Bn.b_e1 hx1), hx2, fr.thenN hx3⟩)
  rintro _ H2 ⟨n0, k0, v0, hp0, rfl, hn0, rb2, f3_⟩
  have zf_H2 := f3_.1
  have o0 := o0.trans (f3_.low (Nat.zero_le _) (Nat.zero_le _))
  have fr := fr.thenN f3_
  have rb := rb2
  have zrd := rb.lt
  have fn3 := f3_
  dsimp only [InR] at hn0
  refine KL.fin 1 rfl (KQ.seq (KC.block ?_))
  refine KC.loopD (κ := List Int × Nat × Int × Value × Value) [9, 10, 13, 14, 15, 16, 17, 18, 5, 11, 12, 6] (fun k => [(5, k.2.2.2.1), (6, .int .u32 k.2.2.1)]) (fun k Hl => RB Hl g k.2.2.2.2 (l.drop (k0 + k.2.1)) ∧ LS 1 (EInt .u32) 28 (Array.size H) Hl k.2.2.2.1 k.1 ∧ Isp.Pre Isp.u32P n0.toNat (l.drop k0) k.2.2.1.toNat k.1 k.2.1 ∧ Fr g (.slice none 0 0) H Hl ∧ 0 ≤ k.2.2.1 ∧ k.1.length + k.2.2.1.toNat = n0.toNat) (fun k => k.2.2.1.toNat) ([], 0, n0, .slice none 0 0, v0) ?_ ?_ ?_
  · exact Sub.all rfl
  · exact ⟨rb.cast (by simp only [List.drop_drop, Nat.add_assoc, Nat.add_zero]), LS.nil _ _ _ _ _, Isp.Pre.start _ _ _, fr, hn0.1, by simp⟩
  rintro ⟨acc, k, m, vo, vr⟩ H3 ⟨rb, ls, hpre, fr, hm0, hlen⟩
  dsimp only at rb ls hpre hm0 hlen
  have zrd := rb.lt
  have zfr := fr.1
  have o0 : OldB 0 H H3 := fr.low (Nat.zero_le _) (Nat.zero_le _)
  refine KC.seq (KC.sr (KL.fin 2 rfl (KQ.seq ?_)))
  refine KC.iq rfl ?_ ?_
  · intro hc10
    try dsimp only at hc10
    refine KC.skip (KQ.seq (KC.seq (KC.block (KC.region (KL.run 3 rfl ?_)))))
    have hvo := ls.w.lt.imp id (fun h => h.2)
    have hm : m.toNat = (m - 1).toNat + 1 := by omega
    rw [hm] at hpre
    refine KL.callX rfl rfl rfl rfl Tryd.call100 rfl rfl rfl (bu32_any rb) ?_ ?_
    · rintro vx H4 ⟨ex, hx1, hx2, hx3⟩
      refine KQ.panBlock ?_
      refine KQ.panThen ?_
      refine KQ.panThen ?_
      refine KQ.panBlock ?_
      refine KQ.panThen ?_
      exact KQ.pan (⟨_, Bn.m_e (Bn.b_e2 hp0 (hpre.fail (by rw [List.drop_drop]; exact hx1))), hx2, fr.thenN hx3⟩)
    rintro _ H5 ⟨x, kx, vx, hpx, rfl, hxr, rb2, f4_⟩
    have zf_H5 := f4_.1
    have o0 := o0.trans (f4_.low (Nat.zero_le _) (Nat.zero_le _))
    have ls := ls.frT f4_ (by omega)
    have fr := fr.thenN f4_
    have rb := rb2
    have zrd := rb.lt
    have fn4 := f4_
    refine KL.m (M.lit rfl Tryd.underlying24 zs28 (by decide) rfl rfl rfl) rfl ?_
    rintro _ H6 ⟨rfl, n6⟩
    have z6 := n6.2.1
    have o0 := o0.trans ((n6.1).b (by omega))
    have ls := ls.old n6.1
    have fr := fr.old n6.1
    have rb := rb.old n6.1
    have b6 := n6.2.2
    have wo := ls.w
    have se : Sl 1 (FK (EInt .u32) H6 (vblock vo :: List.range (Array.size H))) H6 _ [x] := Sl.lit1N n6 rfl (by decide) (fun Hx kx_ => ⟨rfl, hxr⟩)
    have lt7 := wo.lt
    refine KL.m (M.appendE rfl Tryd.underlying24 inf28 rfl (by decide) rfl rfl wo (se) (by omega) (by simp only [List.length_cons, List.length_nil]; omega) (by unfold maxLen; simp only [List.length_cons, List.length_nil]; omega)) rfl ?_
    rintro vn H7 ⟨w7, g7, nx7⟩
    try dsimp only at g7 nx7
    have ob7 := g7.oldBE wo (by omega)
    have o0 := o0.trans (ob7.mono (by omega))
    have z7 := ob7.1
    have fr := (by exact fr.grownN g7 (lt7.imp id (fun h => by omega)))
    have rb := rb.grownT g7 (lt7.imp id (fun h => by omega))
    have wo := w7
    have ls : LS 1 (EInt .u32) 28 (Array.size H) H7 vn (acc ++ [x]) := ⟨wo⟩
    refine KL.fin 1 rfl (KQ.normBlock (KQ.r (KL.run 1 rfl ?_)))
    refine KL.q (R.sub rfl rfl rfl (by dsimp only [InR]; omega)) rfl ?_
    refine KL.fin 1 rfl ?_
    refine KQ.again ((acc ++ [x], k + kx, m - 1, vn, vx)) ?_ ?_ ?_
    · exact Sub.all rfl
    · show (m - 1).toNat < m.toNat; omega
    exact ⟨rb.cast (by simp only [List.drop_drop, Nat.add_assoc, Nat.add_zero]), ls, hpre.step (by rw [List.drop_drop]; exact hpx), fr, by show 0 ≤ m - 1; omega, by show (acc ++ [x]).length + (m - 1).toNat = _; rw [List.length_append, List.length_singleton]; omega⟩
  intro hc10
  try dsimp only at hc10
  refine KC.exit (KQ.exitThen (KQ.exitThen (KQ.hit (KQ.sr (KL.fin 2 rfl (KQ.seq (KC.ret (KQ.ofRetX (KQ.toX (KQ.fin1 Tryd.results99 rfl ?_))))))))))
  have h0 : m.toNat = 0 := by omega
  rw [h0] at hpre
  exact ⟨_, _, _, Bn.m_ok (Bn.b_ok hp0 hpre.done), ls.row (by decide), rb, fr⟩
theorem listT_any {H : Heap} {g : Nat} {v : Value} {l : List Int} (rb : RB H g v l) : CtX Tryd.prog 101 [.pointer (some ⟨g, 0, none⟩), .func (.func 102) #[] #[]] H (fun u H' => ∃ x k v', Bn.lstP Bn.tabP l = .ok (x, k) ∧ RowS 2 ELim H.size H' u x ∧ RB H' g v' (l.drop k) ∧ Fr g (.slice none 0 0) H H') (fun q H' => ∃ e, Bn.lstP Bn.tabP l = .error e ∧ q = failB e ∧ Fr g (.slice none 0 0) H H') := by
  refine CtX.mk Tryd.func101 rfl Tryd.ntmps101 rfl ?_
  intro W0 hW0
  have o0 : OldB 0 H H := OldB.refl _ H
  have hg := rb.lt
  have fr : Fr g (.slice none 0 0) H H := Fr.refl _ _ _
  have hle := rb.le
  refine KC.sr (KL.fin 1 rfl (KQ.sr (KL.fin 1 rfl (KQ.seq (KC.seq (KC.sr (KL.run 1 rfl ?_)))))))
  refine KL.callX rfl rfl rfl rfl Tryd.call100 rfl rfl rfl (bu32_any rb) ?_ ?_
  · rintro vx H1 ⟨ex, hx1, hx2, hx3⟩
    refine KQ.panThen ?_
    refine KQ.panThen ?_
    exact KQ.pan (⟨_, Bn.m_e (Bn.b_e1 hx1), hx2, fr.thenN hx3⟩)
  rintro _ H2 ⟨n0, k0, v0, hp0, rfl, hn0, rb2, f5_⟩
  have zf_H2 := f5_.1
  have o0 := o0.trans (f5_.low (Nat.zero_le _) (Nat.zero_le _))
  have fr := fr.thenN f5_
  have rb := rb2
  have zrd := rb.lt
  have fn5 := f5_
  dsimp only [InR] at hn0
  refine KL.fin 1 rfl (KQ.seq (KC.block ?_))
  refine KC.loopD (κ := List (Int × Int) × Nat × Int × Value × Value) [9, 10, 13, 14, 15, 16, 17, 18, 5, 11, 12, 6] (fun k => [(5, k.2.2.2.1), (6, .int .u32 k.2.2.1)]) (fun k Hl => RB Hl g k.2.2.2.2 (l.drop (k0 + k.2.1)) ∧ LS 2 ELim 47 (Array.size H) Hl k.2.2.2.1 k.1 ∧ Isp.Pre Bn.tabP n0.toNat (l.drop k0) k.2.2.1.toNat k.1 k.2.1 ∧ Fr g (.slice none 0 0) H Hl ∧ 0 ≤ k.2.2.1 ∧ k.1.length + k.2.2.1.toNat = n0.toNat) (fun k => k.2.2.1.toNat) ([], 0, n0, .slice none 0 0, v0) ?_ ?_ ?_
  · exact Sub.all rfl
  · exact ⟨rb.cast (by simp only [List.drop_drop, Nat.add_assoc, Nat.add_zero]), LS.nil _ _ _ _ _, Isp.Pre.start _ _ _, fr, hn0.1, by simp⟩
  rintro ⟨acc, k, m, vo, vr⟩ H3 ⟨rb, ls, hpre, fr, hm0, hlen⟩
  dsimp only at rb ls hpre hm0 hlen
  have zrd := rb.lt
  have zfr := fr.1
  have o0 : OldB 0 H H3 := fr.low (Nat.zero_le _) (Nat.zero_le _)
  refine KC.seq (KC.sr (KL.fin 2 rfl (KQ.seq ?_)))
  refine KC.iq rfl ?_ ?_
  · intro hc10
    try dsimp only at hc10
    refine KC.skip (KQ.seq (KC.seq (KC.block (KC.region (KL.run 3 rfl ?_)))))
    have hvo := ls.w.lt.imp id (fun h => h.2)
    have hm : m.toNat = (m - 1).toNat + 1 := by omega
    rw [hm] at hpre
    refine KL.callX rfl rfl rfl rfl Tryd.call102 rfl rfl rfl (btable_any rb) ?_ ?_
    · rintro vx H4 ⟨ex, hx1, hx2, hx3⟩
      refine KQ.panBlock ?_
      refine KQ.panThen ?_
      refine KQ.panThen ?_
      refine KQ.panBlock ?_
      refine KQ.panThen ?_
      exact KQ.pan (⟨_, Bn.m_e (Bn.b_e2 hp0 (hpre.fail (by rw [List.drop_drop]; exact hx1))), hx2, fr.thenN hx3⟩)
    rintro _ H5 ⟨x, kx, vx, hpx, rfl, hr1, hr2, rb2, f6_⟩
    have zf_H5 := f6_.1
    have o0 := o0.trans (f6_.low (Nat.zero_le _) (Nat.zero_le _))
    have ls := ls.frT f6_ (by omega)
    have fr := fr.thenN f6_
    have rb := rb2
    have zrd := rb.lt
    have fn6 := f6_
    refine KL.m (M.lit rfl Tryd.underlying25 zs47 (by decide) rfl rfl rfl) rfl ?_
    rintro _ H6 ⟨rfl, n6⟩
    have z6 := n6.2.1
    have o0 := o0.trans ((n6.1).b (by omega))
    have ls := ls.old n6.1
    have fr := fr.old n6.1
    have rb := rb.old n6.1
    have b6 := n6.2.2
    have wo := ls.w
    have se : Sl 2 (FK ELim H6 (vblock vo :: List.range (Array.size H))) H6 _ [x] := Sl.lit1N n6 rfl (by decide) (fun Hx kx_ => ⟨rfl, hr1, hr2⟩)
    have lt7 := wo.lt
    refine KL.m (M.appendE rfl Tryd.underlying25 inf47 rfl (by decide) rfl rfl wo (se) (by omega) (by simp only [List.length_cons, List.length_nil]; omega) (by unfold maxLen; simp only [List.length_cons, List.length_nil]; omega)) rfl ?_
    rintro vn H7 ⟨w7, g7, nx7⟩
    try dsimp only at g7 nx7
    have ob7 := g7.oldBE wo (by omega)
    have o0 := o0.trans (ob7.mono (by omega))
    have z7 := ob7.1
    have fr := (by exact fr.grownN g7 (lt7.imp id (fun h => by omega)))
    have rb := rb.grownT g7 (lt7.imp id (fun h => by omega))
    have wo := w7
    have ls : LS 2 ELim 47 (Array.size H) H7 vn (acc ++ [x]) := ⟨wo⟩
    refine KL.fin 1 rfl (KQ.normBlock (KQ.r (KL.run 1 rfl ?_)))
    refine KL.q (R.sub rfl rfl rfl (by dsimp only [InR]; omega)) rfl ?_
    refine KL.fin 1 rfl ?_
    refine KQ.again ((acc ++ [x], k + kx, m - 1, vn, vx)) ?_ ?_ ?_
    · exact Sub.all rfl
    · show (m - 1).toNat < m.toNat; omega
    exact ⟨rb.cast (by simp only [List.drop_drop, Nat.add_assoc, Nat.add_zero]), ls, hpre.step (by rw [List.drop_drop]; exact hpx), fr, by show 0 ≤ m - 1; omega, by show (acc ++ [x]).length + (m - 1).toNat = _; rw [List.length_append, List.length_singleton]; omega⟩
  intro hc10
  try dsimp only at hc10
  refine KC.exit (KQ.exitThen (KQ.exitThen (KQ.hit (KQ.sr (KL.fin 2 rfl (KQ.seq (KC.ret (KQ.ofRetX (KQ.toX (KQ.fin1 Tryd.results101 rfl ?_))))))))))
  have h0 : m.toNat = 0 := by omega
  rw [h0] at hpre
  exact ⟨_, _, _, Bn.m_ok (Bn.b_ok hp0 hpre.done), ls.row (by decide), rb, fr⟩
theorem listM_any {H : Heap} {g : Nat} {v : Value} {l : List Int} (rb : RB H g v l) : CtX Tryd.prog 101 [.pointer (some ⟨g, 0, none⟩), .func (.func 103) #[] #[]] H (fun u H' => ∃ x k v', Bn.lstP Bn.limP l = .ok (x, k) ∧ RowS 2 ELim H.size H' u x ∧ RB H' g v' (l.drop k) ∧ Fr g (.slice none 0 0) H H') (fun q H' => ∃ e, Bn.lstP Bn.limP l = .error e ∧ q = failB e ∧ Fr g (.slice none 0 0) H H') := by
  refine CtX.mk Tryd.func101 rfl Tryd.ntmps101 rfl ?_
  intro W0 hW0
  have o0 : OldB 0 H H := OldB.refl _ H
  have hg := rb.lt
  have fr : Fr g (.slice none 0 0) H H := Fr.refl _ _ _
  have hle := rb.le
  refine KC.sr (KL.fin 1 rfl (KQ.sr (KL.fin 1 rfl (KQ.seq (KC.seq (KC.sr (KL.run 1 rfl ?_)))))))
  refine KL.callX rfl rfl rfl rfl Tryd.call100 rfl rfl rfl (bu32_any rb) ?_ ?_
  · rintro vx H1 ⟨ex, hx1, hx2, hx3⟩
    refine KQ.panThen ?_
    refine KQ.panThen ?_
    exact KQ.pan (⟨_, Bn.m_e (Bn.b_e1 hx1), hx2, fr.thenN hx3⟩)
  rintro _ H2 ⟨n0, k0, v0, hp0, rfl, hn0, rb2, f7_⟩
  have zf_H2 := f7_.1
  have o0 := o0.trans (f7_.low (Nat.zero_le _) (Nat.zero_le _))
  have fr := fr.thenN f7_
  have rb := rb2
  have zrd := rb.lt
  have fn7 := f7_
  dsimp only [InR] at hn0
  refine KL.fin 1 rfl (KQ.seq (KC.block ?_))
  refine KC.loopD (κ := List (Int × Int) × Nat × Int × Value × Value) [9, 10, 13, 14, 15, 16, 17, 18, 5, 11, 12, 6] (fun k => [(5, k.2.2.2.1), (6, .int .u32 k.2.2.1)]) (fun k Hl => RB Hl g k.2.2.2.2 (l.drop (k0 + k.2.1)) ∧ LS 2 ELim 47 (Array.size H) Hl k.2.2.2.1 k.1 ∧ Isp.Pre Bn.limP n0.toNat (l.drop k0) k.2.2.1.toNat k.1 k.2.1 ∧ Fr g (.slice none 0 0) H Hl ∧ 0 ≤ k.2.2.1 ∧ k.1.length + k.2.2.1.toNat = n0.toNat) (fun k => k.2.2.1.toNat) ([], 0, n0, .slice none 0 0, v0) ?_ ?_ ?_
  · exact Sub.all rfl
  · exact ⟨rb.cast (by simp only [List.drop_drop, Nat.add_assoc, Nat.add_zero]), LS.nil _ _ _ _ _, Isp.Pre.start _ _ _, fr, hn0.1, by simp⟩
  rintro ⟨acc, k, m, vo, vr⟩ H3 ⟨rb, ls, hpre, fr, hm0, hlen⟩
  dsimp only at rb ls hpre hm0 hlen
  have zrd := rb.lt
  have zfr := fr.1
  have o0 : OldB 0 H H3 := fr.low (Nat.zero_le _) (Nat.zero_le _)
  refine KC.seq (KC.sr (KL.fin 2 rfl (KQ.seq ?_)))
  refine KC.iq rfl ?_ ?_
  · intro hc10
    try dsimp only at hc10
    refine KC.skip (KQ.seq (KC.seq (KC.block (KC.region (KL.run 3 rfl ?_)))))
    have hvo := ls.w.lt.imp id (fun h => h.2)
    have hm : m.toNat = (m - 1).toNat + 1 := by omega
    rw [hm] at hpre
    refine KL.callX rfl rfl rfl rfl Tryd.call103 rfl rfl rfl (blimits_any rb) ?_ ?_
    · rintro vx H4 ⟨ex, hx1, hx2, hx3⟩
      refine KQ.panBlock ?_
      refine KQ.panThen ?_
      refine KQ.panThen ?_
      refine KQ.panBlock ?_
      refine KQ.panThen ?_
      exact KQ.pan (⟨_, Bn.m_e (Bn.b_e2 hp0 (hpre.fail (by rw [List.drop_drop]; exact hx1))), hx2, fr.thenN hx3⟩)
    rintro _ H5 ⟨x, kx, vx, hpx, rfl, hr1, hr2, rb2, f8_⟩
    have zf_H5 := f8_.1
    have o0 := o0.trans (f8_.low (Nat.zero_le _) (Nat.zero_le _))
    have ls := ls.frT f8_ (by omega)
    have fr := fr.thenN f8_
    have rb := rb2
    have zrd := rb.lt
    have fn8 := f8_
    refine KL.m (M.lit rfl Tryd.underlying25 zs47 (by decide) rfl rfl rfl) rfl ?_
    rintro _ H6 ⟨rfl, n6⟩
    have z6 := n6.2.1
    have o0 := o0.trans ((n6.1).b (by omega))
    have ls := ls.old n6.1
    have fr := fr.old n6.1
    have rb := rb.old n6.1
    have b6 := n6.2.2
    have wo := ls.w
    have se : Sl 2 (FK ELim H6 (vblock vo :: List.range (Array.size H))) H6 _ [x] := Sl.lit1N n6 rfl (by decide) (fun Hx kx_ => ⟨rfl, hr1, hr2⟩)
    have lt7 := wo.lt
    refine KL.m (M.appendE rfl Tryd.underlying25 inf47 rfl (by decide) rfl rfl wo (se) (by omega) (by simp only [List.length_cons, List.length_nil]; omega) (by unfold maxLen; simp only [List.length_cons, List.length_nil]; omega)) rfl ?_
    rintro vn H7 ⟨w7, g7, nx7⟩
    try dsimp only at g7 nx7
    have ob7 := g7.oldBE wo (by omega)
    have o0 := o0.trans (ob7.mono (by omega))
    have z7 := ob7.1
    have fr := (by exact fr.grownN g7 (lt7.imp id (fun h => by omega)))
    have rb := rb.grownT g7 (lt7.imp id (fun h => by omega))
    have wo := w7
    have ls : LS 2 ELim 47 (Array.size H) H7 vn (acc ++ [x]) := ⟨wo⟩
    refine KL.fin 1 rfl (KQ.normBlock (KQ.r (KL.run 1 rfl ?_)))
    refine KL.q (R.sub rfl rfl rfl (by dsimp only [InR]; omega)) rfl ?_
    refine KL.fin 1 rfl ?_
    refine KQ.again ((acc ++ [x], k + kx, m - 1, vn, vx)) ?_ ?_ ?_
    · exact Sub.all rfl
    · show (m - 1).toNat < m.toNat; omega
    exact ⟨rb.cast (by simp only [List.drop_drop, Nat.add_assoc, Nat.add_zero]), ls, hpre.step (by rw [List.drop_drop]; exact hpx), fr, by show 0 ≤ m - 1; omega, by show (acc ++ [x]).length + (m - 1).toNat = _; rw [List.length_append, List.length_singleton]; omega⟩
  intro hc10
  try dsimp only at hc10
  refine KC.exit (KQ.exitThen (KQ.exitThen (KQ.hit (KQ.sr (KL.fin 2 rfl (KQ.seq (KC.ret (KQ.ofRetX (KQ.toX (KQ.fin1 Tryd.results101 rfl ?_))))))))))
  have h0 : m.toNat = 0 := by omega
  rw [h0] at hpre
  exact ⟨_, _, _, Bn.m_ok (Bn.b_ok hp0 hpre.done), ls.row (by decide), rb, fr⟩
end Go.Proofs.YtldmfchamcpmmaaDoor
namespace Go.Proofs.YtldmfchamcpmmaaDoor
open Go Go.RowKit
set_option linter.unusedVariables false
set_option linter.unusedSimpArgs false
set_option linter.unnecessarySimpa false
namespace Bn
section
variable {r : List Int} {kd e : Int} {k : Nat}
theorem ir0 (h : kd = 0) : impR kd = Isp.mapP (fun t => (t, (0, 0), (0, false))) Isp.u32P := by unfold impR; rw [if_pos h]
theorem ir1 (h0 : ¬ kd = 0) (h : kd = 1) : impR kd = Isp.mapP (fun l => (0, l, (0, false))) tabP := by unfold impR; rw [if_neg h0, if_pos h]
theorem ir2 (h0 : ¬ kd = 0) (h1 : ¬ kd = 1) (h : kd = 2) : impR kd = Isp.mapP (fun l => (0, l, (0, false))) limP := by unfold impR; rw [if_neg h0, if_neg h1, if_pos h]
theorem ir3 (h0 : ¬ kd = 0) (h1 : ¬ kd = 1) (h2 : ¬ kd = 2) (h : kd = 3) : impR kd = Isp.mapP (fun g => (0, (0, 0), g)) glbP := by unfold impR; rw [if_neg h0, if_neg h1, if_neg h2, if_pos h]
theorem irb (h0 : ¬ kd = 0) (h1 : ¬ kd = 1) (h2 : ¬ kd = 2) (h : ¬ kd = 3) : impR kd r = .error 60 := by unfold impR; rw [if_neg h0, if_neg h1, if_neg h2, if_neg h]
theorem imp_ok {s1 s2 : ByteArray} {kd t : Int} {lm : Int × Int} {gl : Glb} {l : List Int} {k0 k1 k2 k3 : Nat} (h0 : namP l = .ok (s1, k0)) (h1 : namP (l.drop k0) = .ok (s2, k1)) (h2 : Isp.byteP ((l.drop k0).drop k1) = .ok (kd, k2)) (h3 : impR kd (((l.drop k0).drop k1).drop k2) = .ok ((t, lm, gl), k3)) : impP l = .ok (⟨s1, s2, kd, t, lm, gl⟩, k0 + (k1 + (k2 + k3))) := by
  have h := b_ok (q := fun _ => Isp.bindP namP fun _ => Isp.bindP Isp.byteP impR) h0 (b_ok (q := fun _ => Isp.bindP Isp.byteP impR) h1 (b_ok (q := impR) h2 h3))
  exact m_ok h
end
end Bn
instance oneFTy : One EFTy := ⟨fun h u hu => by
  obtain ⟨a, b, rfl, h1, h2⟩ := h
  simp only [List.mem_cons, List.not_mem_nil, or_false] at hu
  rcases hu with rfl | rfl
  · exact h1.one
  exact h2.one⟩
instance oneImp : One EImp := ⟨fun h u hu => by
  obtain ⟨rfl, _⟩ := h
  simp only [List.mem_cons, List.not_mem_nil, or_false] at hu
  rcases hu with rfl | rfl | rfl | rfl | rfl | rfl | rfl | rfl <;> rfl⟩
instance oneExp : One EExp := ⟨fun h u hu => by
  obtain ⟨rfl, _⟩ := h
  simp only [List.mem_cons, List.not_mem_nil, or_false] at hu
  rcases hu with rfl | rfl | rfl <;> rfl⟩
theorem blocal_any {H : Heap} {g : Nat} {v : Value} {l : List Int} (rb : RB H g v l) : CtX Tryd.prog 141 [.pointer (some ⟨g, 0, none⟩)] H (fun u H' => ∃ x k v', Bn.locP l = .ok (x, k) ∧ u = .agg [.int .u32 x.1, .int .u8 x.2].toArray ∧ InR .u32 x.1 ∧ InR .u8 x.2 ∧ RB H' g v' (l.drop k) ∧ Fr g (.slice none 0 0) H H') (fun q H' => ∃ e, Bn.locP l = .error e ∧ q = failB e ∧ Fr g (.slice none 0 0) H H') := by
  refine CtX.mk Tryd.func141 rfl Tryd.ntmps141 rfl ?_
  intro W0 hW0
  have o0 : OldB 0 H H := OldB.refl _ H
  have hg := rb.lt
  have fr : Fr g (.slice none 0 0) H H := Fr.refl _ _ _
  have hle := rb.le
  refine KC.sr ?_
  refine KL.m (M.alloc rfl zr60 rfl) rfl ?_
  rintro _ H1 ⟨rfl, n1⟩
  have z1 := n1.2.1
  have o0 := o0.trans ((n1.1).b (by omega))
  have rb := rb.old n1.1
  have fr := fr.old n1.1
  have b1 := n1.2.2
  have br := b1
  refine KL.nil (KQ.sr (KL.run 1 rfl ?_))
  refine KL.callX rfl rfl rfl rfl Tryd.call100 rfl rfl rfl (bu32_any rb) ?_ ?_
  · rintro vx H2 ⟨ex, hx1, hx2, hx3⟩
    refine KQ.panThen ?_
    exact KQ.pan (⟨_, Bn.b_e1 hx1, hx2, fr.thenN hx3⟩)
  rintro _ H3 ⟨a, k0, v0, hp0, rfl, ha, rb2, f1_⟩
  have zf_H3 := f1_.1
  have o0 := o0.trans (f1_.low (Nat.zero_le _) (Nat.zero_le _))
  have fr := fr.thenN f1_
  have br := f1_.at_ br (by omega)
  have rb := rb2
  have zrd := rb.lt
  have fn1 := f1_
  refine KL.fin 1 rfl (KQ.sr (KL.run 2 rfl ?_))
  refine KL.callX rfl rfl rfl rfl Tryd.call133 rfl rfl rfl (bvalue_any rb) ?_ ?_
  · rintro vx H4 ⟨ex, hx1, hx2, hx3⟩
    refine KQ.panThen ?_
    exact KQ.pan (⟨_, Bn.b_e2 hp0 hx1, hx2, fr.thenN hx3⟩)
  rintro _ H5 ⟨t, k1, v1, hp1, rfl, ht, rb2, f2_⟩
  have zf_H5 := f2_.1
  have o0 := o0.trans (f2_.low (Nat.zero_le _) (Nat.zero_le _))
  have fr := fr.thenN f2_
  have br := f2_.at_ br (by omega)
  have rb := rb2
  have zrd := rb.lt
  have fn2 := f2_
  refine KL.b0 bt60 rfl rfl ?_
  refine KL.opS (S.storeAgg rfl sz60 rfl rfl (rfl) (by intro z hz; simp only [List.mem_cons, List.not_mem_nil, or_false] at hz; rcases hz with rfl | rfl <;> first | rfl) br (by simp)) rfl rfl ?_
  rintro H6 ⟨u6, b6⟩
  have o0 := o0.trans (OldB.upd u6 (by omega))
  have zu6 := u6.1
  have fr := (by exact fr.updN u6 (by omega))
  have rb := rb.updT u6 (by omega)
  have br := b6
  rw [over_all (by rfl)] at br
  refine KL.nil (KQ.seq (KC.ret (KQ.ofRetX (KQ.toX ?_))))
  refine KQ.finCell Tryd.results141 rfl Tryd.underlying60 rfl sz60 (cells_of br) (rfl) ?_
  exact ⟨_, _, _, Bn.b_ok hp0 hp1, rfl, ha, ht, rb.cast (by simp only [List.drop_drop, Nat.add_assoc, Nat.add_zero]), fr⟩
theorem listL_any {H : Heap} {g : Nat} {v : Value} {l : List Int} (rb : RB H g v l) : CtX Tryd.prog 140 [.pointer (some ⟨g, 0, none⟩), .func (.func 141) #[] #[]] H (fun u H' => ∃ x k v', Bn.lstP Bn.locP l = .ok (x, k) ∧ RowS 2 ELoc H.size H' u x ∧ RB H' g v' (l.drop k) ∧ Fr g (.slice none 0 0) H H') (fun q H' => ∃ e, Bn.lstP Bn.locP l = .error e ∧ q = failB e ∧ Fr g (.slice none 0 0) H H') := by
  refine CtX.mk Tryd.func140 rfl Tryd.ntmps140 rfl ?_
  intro W0 hW0
  have o0 : OldB 0 H H := OldB.refl _ H
  have hg := rb.lt
  have fr : Fr g (.slice none 0 0) H H := Fr.refl _ _ _
  have hle := rb.le
  refine KC.sr (KL.fin 1 rfl (KQ.sr (KL.fin 1 rfl (KQ.seq (KC.seq (KC.sr (KL.run 1 rfl ?_)))))))
  refine KL.callX rfl rfl rfl rfl Tryd.call100 rfl rfl rfl (bu32_any rb) ?_ ?_
  · rintro vx H1 ⟨ex, hx1, hx2, hx3⟩
    refine KQ.panThen ?_
    refine KQ.panThen ?_
    exact KQ.pan (⟨_, Bn.m_e (Bn.b_e1 hx1), hx2, fr.thenN hx3⟩)
  rintro _ H2 ⟨n0, k0, v0, hp0, rfl, hn0, rb2, f3_⟩
  have zf_H2 := f3_.1
  have o0 := o0.trans (f3_.low (Nat.zero_le _) (Nat.zero_le _))
  have fr := fr.thenN f3_
  have rb := rb2
  have zrd := rb.lt
  have fn3 := f3_
  dsimp only [InR] at hn0
  refine KL.fin 1 rfl (KQ.seq (KC.block ?_))
  refine KC.loopD (κ := List (Int × Int) × Nat × Int × Value × Value) [9, 10, 13, 14, 15, 16, 17, 18, 5, 11, 12, 6] (fun k => [(5, k.2.2.2.1), (6, .int .u32 k.2.2.1)]) (fun k Hl => RB Hl g k.2.2.2.2 (l.drop (k0 + k.2.1)) ∧ LS 2 ELoc 60 (Array.size H) Hl k.2.2.2.1 k.1 ∧ Isp.Pre Bn.locP n0.toNat (l.drop k0) k.2.2.1.toNat k.1 k.2.1 ∧ Fr g (.slice none 0 0) H Hl ∧ 0 ≤ k.2.2.1 ∧ k.1.length + k.2.2.1.toNat = n0.toNat) (fun k => k.2.2.1.toNat) ([], 0, n0, .slice none 0 0, v0) ?_ ?_ ?_
  · exact Sub.all rfl
  · exact ⟨rb.cast (by simp only [List.drop_drop, Nat.add_assoc, Nat.add_zero]), LS.nil _ _ _ _ _, Isp.Pre.start _ _ _, fr, hn0.1, by simp⟩
  rintro ⟨acc, k, m, vo, vr⟩ H3 ⟨rb, ls, hpre, fr, hm0, hlen⟩
  dsimp only at rb ls hpre hm0 hlen
  have zrd := rb.lt
  have zfr := fr.1
  have o0 : OldB 0 H H3 := fr.low (Nat.zero_le _) (Nat.zero_le _)
  refine KC.seq (KC.sr (KL.fin 2 rfl (KQ.seq ?_)))
  refine KC.iq rfl ?_ ?_
  · intro hc10
    try dsimp only at hc10
    refine KC.skip (KQ.seq (KC.seq (KC.block (KC.region (KL.run 3 rfl ?_)))))
    have hvo := ls.w.lt.imp id (fun h => h.2)
    have hm : m.toNat = (m - 1).toNat + 1 := by omega
    rw [hm] at hpre
    refine KL.callX rfl rfl rfl rfl Tryd.call141 rfl rfl rfl (blocal_any rb) ?_ ?_
    · rintro vx H4 ⟨ex, hx1, hx2, hx3⟩
      refine KQ.panBlock ?_
      refine KQ.panThen ?_
      refine KQ.panThen ?_
      refine KQ.panBlock ?_
      refine KQ.panThen ?_
      exact KQ.pan (⟨_, Bn.m_e (Bn.b_e2 hp0 (hpre.fail (by rw [List.drop_drop]; exact hx1))), hx2, fr.thenN hx3⟩)
    rintro _ H5 ⟨x, kx, vx, hpx, rfl, hr1, hr2, rb2, f4_⟩
    have zf_H5 := f4_.1
    have o0 := o0.trans (f4_.low (Nat.zero_le _) (Nat.zero_le _))
    have ls := ls.frT f4_ (by omega)
    have fr := fr.thenN f4_
    have rb := rb2
    have zrd := rb.lt
    have fn4 := f4_
    refine KL.m (M.lit rfl Tryd.underlying56 zs60 (by decide) rfl rfl rfl) rfl ?_
    rintro _ H6 ⟨rfl, n6⟩
    have z6 := n6.2.1
    have o0 := o0.trans ((n6.1).b (by omega))
    have ls := ls.old n6.1
    have fr := fr.old n6.1
    have rb := rb.old n6.1
    have b6 := n6.2.2
    have wo := ls.w
    have se : Sl 2 (FK ELoc H6 (vblock vo :: List.range (Array.size H))) H6 _ [x] := Sl.lit1N n6 rfl (by decide) (fun Hx kx_ => ⟨rfl, hr1, hr2⟩)
    have lt7 := wo.lt
    refine KL.m (M.appendE rfl Tryd.underlying56 inf60 rfl (by decide) rfl rfl wo (se) (by omega) (by simp only [List.length_cons, List.length_nil]; omega) (by unfold maxLen; simp only [List.length_cons, List.length_nil]; omega)) rfl ?_
    rintro vn H7 ⟨w7, g7, nx7⟩
    try dsimp only at g7 nx7
    have ob7 := g7.oldBE wo (by omega)
    have o0 := o0.trans (ob7.mono (by omega))
    have z7 := ob7.1
    have fr := (by exact fr.grownN g7 (lt7.imp id (fun h => by omega)))
    have rb := rb.grownT g7 (lt7.imp id (fun h => by omega))
    have wo := w7
    have ls : LS 2 ELoc 60 (Array.size H) H7 vn (acc ++ [x]) := ⟨wo⟩
    refine KL.fin 1 rfl (KQ.normBlock (KQ.r (KL.run 1 rfl ?_)))
    refine KL.q (R.sub rfl rfl rfl (by dsimp only [InR]; omega)) rfl ?_
    refine KL.fin 1 rfl ?_
    refine KQ.again ((acc ++ [x], k + kx, m - 1, vn, vx)) ?_ ?_ ?_
    · exact Sub.all rfl
    · show (m - 1).toNat < m.toNat; omega
    exact ⟨rb.cast (by simp only [List.drop_drop, Nat.add_assoc, Nat.add_zero]), ls, hpre.step (by rw [List.drop_drop]; exact hpx), fr, by show 0 ≤ m - 1; omega, by show (acc ++ [x]).length + (m - 1).toNat = _; rw [List.length_append, List.length_singleton]; omega⟩
  intro hc10
  try dsimp only at hc10
  refine KC.exit (KQ.exitThen (KQ.exitThen (KQ.hit (KQ.sr (KL.fin 2 rfl (KQ.seq (KC.ret (KQ.ofRetX (KQ.toX (KQ.fin1 Tryd.results140 rfl ?_))))))))))
  have h0 : m.toNat = 0 := by omega
  rw [h0] at hpre
  exact ⟨_, _, _, Bn.m_ok (Bn.b_ok hp0 hpre.done), ls.row (by decide), rb, fr⟩
theorem btyped_any {H : Heap} {g : Nat} {v : Value} {l : List Int} (rb : RB H g v l) : CtX Tryd.prog 96 [.pointer (some ⟨g, 0, none⟩)] H (fun u H' => ∃ x k v', Bn.typP l = .ok (x, k) ∧ (∃ a b, u = .agg [a, b].toArray ∧ RowS 1 (EInt .u8) H.size H' a x.1 ∧ RowS 1 (EInt .u8) H.size H' b x.2) ∧ RB H' g v' (l.drop k) ∧ Fr g (.slice none 0 0) H H') (fun q H' => ∃ e, Bn.typP l = .error e ∧ q = failB e ∧ Fr g (.slice none 0 0) H H') := by
  refine CtX.mk Tryd.func96 rfl Tryd.ntmps96 rfl ?_
  intro W0 hW0
  have o0 : OldB 0 H H := OldB.refl _ H
  have hg := rb.lt
  have fr : Fr g (.slice none 0 0) H H := Fr.refl _ _ _
  have hle := rb.le
  refine KC.sr ?_
  refine KL.m (M.alloc rfl zr44 rfl) rfl ?_
  rintro _ H1 ⟨rfl, n1⟩
  have z1 := n1.2.1
  have o0 := o0.trans ((n1.1).b (by omega))
  have rb := rb.old n1.1
  have fr := fr.old n1.1
  have b1 := n1.2.2
  have br := b1
  refine KL.nil (KQ.sr (KL.run 1 rfl ?_))
  refine KL.callX rfl rfl rfl rfl Tryd.call131 rfl rfl rfl (bbyte_any rb) ?_ ?_
  · rintro vx H2 ⟨ex, hx1, hx2, hx3⟩
    refine KQ.panThen ?_
    exact KQ.pan (⟨_, Bn.m_e (Bn.b_e1 (Bn.one_er hx1)), hx2, fr.thenN hx3⟩)
  rintro _ H3 ⟨x0, k0, v0, hp0, rfl, hx0, rb2, f5_⟩
  have zf_H3 := f5_.1
  have o0 := o0.trans (f5_.low (Nat.zero_le _) (Nat.zero_le _))
  have fr := fr.thenN f5_
  have br := f5_.at_ br (by omega)
  have rb := rb2
  have zrd := rb.lt
  have fn5 := f5_
  refine KL.run 1 rfl ?_
  refine KL.callX rfl rfl rfl rfl Tryd.call55 rfl rfl rfl (must_any _) ?_ ?_
  · rintro vx _ ⟨rfl, hb, rfl⟩
    simp only [sd] at hb
    refine KQ.panThen ?_
    exact KQ.pan (⟨_, Bn.m_e (Bn.b_e1 (Bn.one_of_e hp0 (Bn.tag_b hb))), rfl, fr⟩)
  rintro _ _ ⟨rfl, hb, rfl⟩
  simp only [sd] at hb
  refine KL.nil (KQ.sr (KL.run 1 rfl ?_))
  refine KL.callX rfl rfl rfl rfl Tryd.call132 rfl rfl rfl (listV_any rb) ?_ ?_
  · rintro vx H5 ⟨ex, hx1, hx2, hx3⟩
    refine KQ.panThen ?_
    exact KQ.pan (⟨_, Bn.m_e (Bn.b_e2 (Bn.one_of hp0 (Bn.tag_ok hb)) (Bn.b_e1 hx1)), hx2, fr.thenN hx3⟩)
  rintro ua H6 ⟨ps, k1, v1, hp1, ra, rb2, f6_⟩
  have zf_H6 := f6_.1
  have o0 := o0.trans (f6_.low (Nat.zero_le _) (Nat.zero_le _))
  have fr := fr.thenN f6_
  have br := f6_.at_ br (by omega)
  have rb := rb2
  have zrd := rb.lt
  have fn6 := f6_
  have rwra := RW.refl (Array.size H3) H6
  refine KL.fin 1 rfl (KQ.sr (KL.run 2 rfl ?_))
  refine KL.callX rfl rfl rfl rfl Tryd.call132 rfl rfl rfl (listV_any rb) ?_ ?_
  · rintro vx H7 ⟨ex, hx1, hx2, hx3⟩
    refine KQ.panThen ?_
    exact KQ.pan (⟨_, Bn.m_e (Bn.b_e2 (Bn.one_of hp0 (Bn.tag_ok hb)) (Bn.b_e2 hp1 hx1)), hx2, fr.thenN hx3⟩)
  rintro ub H8 ⟨rs, k2, v2, hp2, rb_, rb2, f7_⟩
  have zf_H8 := f7_.1
  have o0 := o0.trans (f7_.low (Nat.zero_le _) (Nat.zero_le _))
  have fr := fr.thenN f7_
  have br := f7_.at_ br (by omega)
  have rwra := rwra.frT f7_ (by omega)
  have rb := rb2
  have zrd := rb.lt
  have fn7 := f7_
  have rwrb_ := RW.refl (Array.size H6) H8
  refine KL.bd bt44 rfl ⟨ra.cells1, rb_.cells1, trivial⟩ ?_
  refine KL.opS (S.storeAgg rfl sz44 rfl rfl (rfl) (by intro z hz; simp only [List.mem_cons, List.not_mem_nil, or_false] at hz; rcases hz with rfl | rfl <;> first | rfl | exact ra.one | exact rb_.one) br (by simp)) rfl rfl ?_
  rintro H9 ⟨u9, b9⟩
  have o0 := o0.trans (OldB.upd u9 (by omega))
  have zu9 := u9.1
  have fr := (by exact fr.updN u9 (by omega))
  have rwra := rwra.updT u9 (by omega)
  have rb := rb.updT u9 (by omega)
  have rwrb_ := rwrb_.updT u9 (by omega)
  have br := b9
  rw [over_all (by rfl)] at br
  refine KL.nil (KQ.seq (KC.ret (KQ.ofRetX (KQ.toX ?_))))
  refine KQ.finCell Tryd.results96 rfl Tryd.underlying44 rfl sz44 (cells_of br) (rfl) ?_
  exact ⟨_, _, _, Bn.m_ok (Bn.b_ok (Bn.one_of hp0 (Bn.tag_ok hb)) (Bn.b_ok hp1 hp2)), ⟨_, _, rfl, ra.to rwra (by omega), rb_.to rwrb_ (by omega)⟩, rb.cast (by simp only [List.drop_drop, Nat.add_assoc, Nat.add_zero]), fr⟩
theorem listF_any {H : Heap} {g : Nat} {v : Value} {l : List Int} (rb : RB H g v l) : CtX Tryd.prog 95 [.pointer (some ⟨g, 0, none⟩), .func (.func 96) #[] #[]] H (fun u H' => ∃ x k v', Bn.lstP Bn.typP l = .ok (x, k) ∧ RowS 2 EFTy H.size H' u x ∧ RB H' g v' (l.drop k) ∧ Fr g (.slice none 0 0) H H') (fun q H' => ∃ e, Bn.lstP Bn.typP l = .error e ∧ q = failB e ∧ Fr g (.slice none 0 0) H H') := by
  refine CtX.mk Tryd.func95 rfl Tryd.ntmps95 rfl ?_
  intro W0 hW0
  have o0 : OldB 0 H H := OldB.refl _ H
  have hg := rb.lt
  have fr : Fr g (.slice none 0 0) H H := Fr.refl _ _ _
  have hle := rb.le
  refine KC.sr (KL.fin 1 rfl (KQ.sr (KL.fin 1 rfl (KQ.seq (KC.seq (KC.sr (KL.run 1 rfl ?_)))))))
  refine KL.callX rfl rfl rfl rfl Tryd.call100 rfl rfl rfl (bu32_any rb) ?_ ?_
  · rintro vx H1 ⟨ex, hx1, hx2, hx3⟩
    refine KQ.panThen ?_
    refine KQ.panThen ?_
    exact KQ.pan (⟨_, Bn.m_e (Bn.b_e1 hx1), hx2, fr.thenN hx3⟩)
  rintro _ H2 ⟨n0, k0, v0, hp0, rfl, hn0, rb2, f8_⟩
  have zf_H2 := f8_.1
  have o0 := o0.trans (f8_.low (Nat.zero_le _) (Nat.zero_le _))
  have fr := fr.thenN f8_
  have rb := rb2
  have zrd := rb.lt
  have fn8 := f8_
  dsimp only [InR] at hn0
  refine KL.fin 1 rfl (KQ.seq (KC.block ?_))
  refine KC.loopD (κ := List FTy × Nat × Int × Value × Value) [9, 10, 13, 14, 15, 16, 17, 18, 5, 11, 12, 6] (fun k => [(5, k.2.2.2.1), (6, .int .u32 k.2.2.1)]) (fun k Hl => RB Hl g k.2.2.2.2 (l.drop (k0 + k.2.1)) ∧ LS 2 EFTy 44 (Array.size H) Hl k.2.2.2.1 k.1 ∧ Isp.Pre Bn.typP n0.toNat (l.drop k0) k.2.2.1.toNat k.1 k.2.1 ∧ Fr g (.slice none 0 0) H Hl ∧ 0 ≤ k.2.2.1 ∧ k.1.length + k.2.2.1.toNat = n0.toNat) (fun k => k.2.2.1.toNat) ([], 0, n0, .slice none 0 0, v0) ?_ ?_ ?_
  · exact Sub.all rfl
  · exact ⟨rb.cast (by simp only [List.drop_drop, Nat.add_assoc, Nat.add_zero]), LS.nil _ _ _ _ _, Isp.Pre.start _ _ _, fr, hn0.1, by simp⟩
  rintro ⟨acc, k, m, vo, vr⟩ H3 ⟨rb, ls, hpre, fr, hm0, hlen⟩
  dsimp only at rb ls hpre hm0 hlen
  have zrd := rb.lt
  have zfr := fr.1
  have o0 : OldB 0 H H3 := fr.low (Nat.zero_le _) (Nat.zero_le _)
  refine KC.seq (KC.sr (KL.fin 2 rfl (KQ.seq ?_)))
  refine KC.iq rfl ?_ ?_
  · intro hc10
    try dsimp only at hc10
    refine KC.skip (KQ.seq (KC.seq (KC.block (KC.region (KL.run 3 rfl ?_)))))
    have hvo := ls.w.lt.imp id (fun h => h.2)
    have hm : m.toNat = (m - 1).toNat + 1 := by omega
    rw [hm] at hpre
    refine KL.callX rfl rfl rfl rfl Tryd.call96 rfl rfl rfl (btyped_any rb) ?_ ?_
    · rintro vx H4 ⟨ex, hx1, hx2, hx3⟩
      refine KQ.panBlock ?_
      refine KQ.panThen ?_
      refine KQ.panThen ?_
      refine KQ.panBlock ?_
      refine KQ.panThen ?_
      exact KQ.pan (⟨_, Bn.m_e (Bn.b_e2 hp0 (hpre.fail (by rw [List.drop_drop]; exact hx1))), hx2, fr.thenN hx3⟩)
    rintro _ H5 ⟨x, kx, vx, hpx, ⟨a, b, rfl, ra, rb_⟩, rb2, f9_⟩
    have zf_H5 := f9_.1
    have o0 := o0.trans (f9_.low (Nat.zero_le _) (Nat.zero_le _))
    have ls := ls.frT f9_ (by omega)
    have fr := fr.thenN f9_
    have rb := rb2
    have zrd := rb.lt
    have fn9 := f9_
    have rwx := RW.refl (Array.size H3) H5
    refine KL.m (M.lit rfl Tryd.underlying22 zs44 (by decide) rfl rfl rfl) rfl ?_
    rintro _ H6 ⟨rfl, n6⟩
    have z6 := n6.2.1
    have o0 := o0.trans ((n6.1).b (by omega))
    have ls := ls.old n6.1
    have fr := fr.old n6.1
    have rb := rb.old n6.1
    have rwx := rwx.old n6.1
    have b6 := n6.2.2
    have wo := ls.w
    have se : Sl 2 (FK EFTy H6 (vblock vo :: List.range (Array.size H))) H6 _ [x] := Sl.lit1N n6 rfl (by decide) (fun Hx kx_ => ⟨a, b, rfl, fk_row ra rwx hvo (by omega) (by omega) Hx kx_, fk_row rb_ rwx hvo (by omega) (by omega) Hx kx_⟩)
    have lt7 := wo.lt
    refine KL.m (M.appendE rfl Tryd.underlying22 inf44 rfl (by decide) rfl rfl wo (se) (by omega) (by simp only [List.length_cons, List.length_nil]; omega) (by unfold maxLen; simp only [List.length_cons, List.length_nil]; omega)) rfl ?_
    rintro vn H7 ⟨w7, g7, nx7⟩
    try dsimp only at g7 nx7
    have ob7 := g7.oldBE wo (by omega)
    have o0 := o0.trans (ob7.mono (by omega))
    have z7 := ob7.1
    have fr := (by exact fr.grownN g7 (lt7.imp id (fun h => by omega)))
    have rb := rb.grownT g7 (lt7.imp id (fun h => by omega))
    have wo := w7
    have ls : LS 2 EFTy 44 (Array.size H) H7 vn (acc ++ [x]) := ⟨wo⟩
    refine KL.fin 1 rfl (KQ.normBlock (KQ.r (KL.run 1 rfl ?_)))
    refine KL.q (R.sub rfl rfl rfl (by dsimp only [InR]; omega)) rfl ?_
    refine KL.fin 1 rfl ?_
    refine KQ.again ((acc ++ [x], k + kx, m - 1, vn, vx)) ?_ ?_ ?_
    · exact Sub.all rfl
    · show (m - 1).toNat < m.toNat; omega
    exact ⟨rb.cast (by simp only [List.drop_drop, Nat.add_assoc, Nat.add_zero]), ls, hpre.step (by rw [List.drop_drop]; exact hpx), fr, by show 0 ≤ m - 1; omega, by show (acc ++ [x]).length + (m - 1).toNat = _; rw [List.length_append, List.length_singleton]; omega⟩
  intro hc10
  try dsimp only at hc10
  refine KC.exit (KQ.exitThen (KQ.exitThen (KQ.hit (KQ.sr (KL.fin 2 rfl (KQ.seq (KC.ret (KQ.ofRetX (KQ.toX (KQ.fin1 Tryd.results95 rfl ?_))))))))))
  have h0 : m.toNat = 0 := by omega
  rw [h0] at hpre
  exact ⟨_, _, _, Bn.m_ok (Bn.b_ok hp0 hpre.done), ls.row (by decide), rb, fr⟩
theorem bimported_any {H : Heap} {g : Nat} {v : Value} {l : List Int} (rb : RB H g v l) {Hb : Heap} (hT : TabU Hb) (oB : Old Hb H) (hgB : Hb.size ≤ g) : CtX Tryd.prog 98 [.pointer (some ⟨g, 0, none⟩)] H (fun u H' => ∃ x k v', Bn.impP l = .ok (x, k) ∧ (u = .agg [.string x.mod, .string x.nam, .int .u8 x.kind, .int .u32 x.typ, .int .u32 x.lim.1, .int .i64 x.lim.2, .int .u8 x.glob.1, .bool x.glob.2].toArray ∧ InR .u8 x.kind ∧ InR .u32 x.typ ∧ InR .u32 x.lim.1 ∧ InR .i64 x.lim.2 ∧ InR .u8 x.glob.1) ∧ RB H' g v' (l.drop k) ∧ Fr g (.slice none 0 0) H H') (fun q H' => ∃ e, Bn.impP l = .error e ∧ q = failB e ∧ Fr g (.slice none 0 0) H H') := by
  refine CtX.mk Tryd.func98 rfl Tryd.ntmps98 rfl ?_
  intro W0 hW0
  have o0 : OldB 0 H H := OldB.refl _ H
  have hg := rb.lt
  have fr : Fr g (.slice none 0 0) H H := Fr.refl _ _ _
  have hle := rb.le
  refine KC.sr ?_
  refine KL.m (M.alloc rfl zr51 rfl) rfl ?_
  rintro _ H1 ⟨rfl, n1⟩
  have z1 := n1.2.1
  have o0 := o0.trans ((n1.1).b (by omega))
  have rb := rb.old n1.1
  have fr := fr.old n1.1
  have oB := oB.trans n1.1
  have b1 := n1.2.2
  have br := b1
  refine KL.nil (KQ.sr (KL.run 1 rfl ?_))
  refine KL.callX rfl rfl rfl rfl Tryd.call134 rfl rfl rfl (bname_any rb hT oB hgB) ?_ ?_
  · rintro vx H2 ⟨ex, hx1, hx2, hx3⟩
    refine KQ.panThen ?_
    exact KQ.pan (⟨_, Bn.m_e (Bn.b_e1 hx1), hx2, fr.thenN hx3⟩)
  rintro _ H3 ⟨s1, k0, v0, hp0, rfl, rb2, f10_⟩
  have zf_H3 := f10_.1
  have o0 := o0.trans (f10_.low (Nat.zero_le _) (Nat.zero_le _))
  have fr := fr.thenN f10_
  have oB := oB.then (f10_.low (by omega) (by omega)) (Nat.le_refl _)
  have br := f10_.at_ br (by omega)
  have rb := rb2
  have zrd := rb.lt
  have fn10 := f10_
  refine KL.b0 bt51 rfl rfl ?_
  refine KL.m (M.alloc rfl zr51 rfl) rfl ?_
  rintro _ H4 ⟨rfl, n4⟩
  have z4 := n4.2.1
  have o0 := o0.trans ((n4.1).b (by omega))
  have fr := fr.old n4.1
  have oB := oB.trans n4.1
  have br := (n4.1).blk br
  have rb := rb.old n4.1
  have b4 := n4.2.2
  have bx := b4
  refine KL.opS (S.storeAgg rfl sz51 rfl rfl (rfl) (by intro z hz; simp only [List.mem_cons, List.not_mem_nil, or_false] at hz; rcases hz with rfl | rfl | rfl | rfl | rfl | rfl | rfl | rfl <;> first | rfl) bx (by simp)) rfl rfl ?_
  rintro H5 ⟨u5, b5⟩
  have o0 := o0.trans (OldB.upd u5 (by omega))
  have zu5 := u5.1
  have fr := (by exact fr.updN u5 (by omega))
  have oB := oB.upd u5 (by omega)
  have br := ((u5).2 _ (by omega)).trans br
  have rb := rb.updT u5 (by omega)
  have bx := b5
  rw [over_all (by rfl)] at bx
  refine KL.nil (KQ.sr (KL.run 1 rfl ?_))
  refine KL.callX rfl rfl rfl rfl Tryd.call134 rfl rfl rfl (bname_any rb hT oB hgB) ?_ ?_
  · rintro vx H6 ⟨ex, hx1, hx2, hx3⟩
    refine KQ.panThen ?_
    exact KQ.pan (⟨_, Bn.m_e (Bn.b_e2 hp0 (Bn.b_e1 hx1)), hx2, fr.thenN hx3⟩)
  rintro _ H7 ⟨s2, k1, v1, hp1, rfl, rb2, f11_⟩
  have zf_H7 := f11_.1
  have o0 := o0.trans (f11_.low (Nat.zero_le _) (Nat.zero_le _))
  have fr := fr.thenN f11_
  have oB := oB.then (f11_.low (by omega) (by omega)) (Nat.le_refl _)
  have br := f11_.at_ br (by omega)
  have bx := f11_.at_ bx (by omega)
  have rb := rb2
  have zrd := rb.lt
  have fn11 := f11_
  refine KL.run 1 rfl ?_
  refine KL.opS (S.store rfl sz9 rfl rfl rfl rfl bx (by simp)) rfl rfl ?_
  rintro H8 ⟨u8, b8⟩
  have o0 := o0.trans (OldB.upd u8 (by omega))
  have zu8 := u8.1
  have fr := (by exact fr.updN u8 (by omega))
  have oB := oB.upd u8 (by omega)
  have br := ((u8).2 _ (by omega)).trans br
  have rb := rb.updT u8 (by omega)
  have bx := b8
  have bx : H8[(Array.size H3)]? = some (.cells [.string s1, .string s2, .int .u8 0, .int .u32 0, .int .u32 0, .int .i64 0, .int .u8 0, .bool false].toArray 51 (0, 0)) := bx
  refine KL.nil (KQ.sr (KL.run 1 rfl ?_))
  refine KL.callX rfl rfl rfl rfl Tryd.call131 rfl rfl rfl (bbyte_any rb) ?_ ?_
  · rintro vx H9 ⟨ex, hx1, hx2, hx3⟩
    refine KQ.panThen ?_
    exact KQ.pan (⟨_, Bn.m_e (Bn.b_e2 hp0 (Bn.b_e2 hp1 (Bn.b_e1 hx1))), hx2, fr.thenN hx3⟩)
  rintro _ H10 ⟨kd, k2, v2, hp2, rfl, hkd, rb2, f12_⟩
  have zf_H10 := f12_.1
  have o0 := o0.trans (f12_.low (Nat.zero_le _) (Nat.zero_le _))
  have fr := fr.thenN f12_
  have oB := oB.then (f12_.low (by omega) (by omega)) (Nat.le_refl _)
  have br := f12_.at_ br (by omega)
  have bx := f12_.at_ bx (by omega)
  have rb := rb2
  have zrd := rb.lt
  have fn12 := f12_
  refine KL.run 1 rfl ?_
  refine KL.opS (S.store rfl sz5 rfl rfl rfl rfl bx (by simp)) rfl rfl ?_
  rintro H11 ⟨u11, b11⟩
  have o0 := o0.trans (OldB.upd u11 (by omega))
  have zu11 := u11.1
  have fr := (by exact fr.updN u11 (by omega))
  have oB := oB.upd u11 (by omega)
  have br := ((u11).2 _ (by omega)).trans br
  have rb := rb.updT u11 (by omega)
  have bx := b11
  have bx : H11[(Array.size H3)]? = some (.cells [.string s1, .string s2, .int .u8 kd, .int .u32 0, .int .u32 0, .int .i64 0, .int .u8 0, .bool false].toArray 51 (0, 0)) := bx
  refine KL.nil (KQ.seq (KC.seq (KC.sr (KL.run 1 rfl (KL.ld rfl (cell_of bx rfl) (KL.nil (KQ.seq (KC.block (KC.sr (KL.fin 2 rfl (KQ.seq ?_)))))))))))
  refine KC.iq rfl ?_ ?_
  · intro h0
    refine KC.region (KL.run 1 rfl ?_)
    refine KL.callX rfl rfl rfl rfl Tryd.call100 rfl rfl rfl (bu32_any rb) ?_ ?_
    · rintro vx H12 ⟨ex, hx1, hx2, hx3⟩
      refine KQ.panBlock ?_
      refine KQ.panThen ?_
      exact KQ.pan (⟨_, Bn.m_e (Bn.b_e2 hp0 (Bn.b_e2 hp1 (Bn.b_e2 hp2 (by rw [Bn.ir0 h0]; exact Bn.m_e hx1)))), hx2, fr.thenN hx3⟩)
    rintro _ H13 ⟨ty, k3, v3, hp3, rfl, hr1, rb2, f13_⟩
    have zf_H13 := f13_.1
    have o0 := o0.trans (f13_.low (Nat.zero_le _) (Nat.zero_le _))
    have fr := fr.thenN f13_
    have oB := oB.then (f13_.low (by omega) (by omega)) (Nat.le_refl _)
    have br := f13_.at_ br (by omega)
    have bx := f13_.at_ bx (by omega)
    have rb := rb2
    have zrd := rb.lt
    have fn13 := f13_
    have hfin : Bn.impP l = .ok (⟨s1, s2, kd, ty, (0, 0), (0, false)⟩, _) := Bn.imp_ok hp0 hp1 hp2 (show Bn.impR kd _ = .ok ((ty, (0, 0), (0, false)), _) from by rw [Bn.ir0 h0]; exact Bn.m_ok hp3)
    have hrr : InR .u32 (ty) ∧ InR .u32 (0) ∧ InR .i64 (0) ∧ InR .u8 (0) := ⟨hr1, by decide, by decide, by decide⟩
    refine KL.run 1 rfl ?_
    refine KL.opS (S.store rfl sz28 rfl rfl rfl rfl bx (by simp)) rfl rfl ?_
    rintro H14 ⟨u14, b14⟩
    have o0 := o0.trans (OldB.upd u14 (by omega))
    have zu14 := u14.1
    have fr := (by exact fr.updN u14 (by omega))
    have oB := oB.upd u14 (by omega)
    have br := ((u14).2 _ (by omega)).trans br
    have rb := rb.updT u14 (by omega)
    have bx := b14
    have bx : H14[(Array.size H3)]? = some (.cells [.string s1, .string s2, .int .u8 kd, .int .u32 ty, .int .u32 0, .int .i64 0, .int .u8 0, .bool false].toArray 51 (0, 0)) := bx
    refine KL.nil (KQ.normBlock (KQ.sr (KL.lda rfl (cells_of bx) rfl ?_)))
    refine KL.opS (S.storeAgg rfl sz51 rfl rfl (rfl) (by intro z hz; simp only [List.mem_cons, List.not_mem_nil, or_false] at hz; rcases hz with rfl | rfl | rfl | rfl | rfl | rfl | rfl | rfl <;> first | rfl) br (by simp)) rfl rfl ?_
    rintro H15 ⟨u15, b15⟩
    have o0 := o0.trans (OldB.upd u15 (by omega))
    have zu15 := u15.1
    have fr := (by exact fr.updN u15 (by omega))
    have oB := oB.upd u15 (by omega)
    have bx := ((u15).2 _ (by omega)).trans bx
    have rb := rb.updT u15 (by omega)
    have br := b15
    rw [over_all (by rfl)] at br
    refine KL.nil (KQ.seq (KC.ret (KQ.ofRetX (KQ.toX ?_))))
    refine KQ.finCell Tryd.results98 rfl Tryd.underlying51 rfl sz51 (cells_of br) (rfl) ?_
    exact ⟨_, _, _, hfin, ⟨rfl, hkd, hrr.1, hrr.2.1, hrr.2.2.1, hrr.2.2.2⟩, rb.cast (by simp only [List.drop_drop, Nat.add_assoc, Nat.add_zero]), fr⟩
  intro h0
  refine KC.sr (KL.fin 2 rfl (KQ.seq ?_))
  refine KC.iq rfl ?_ ?_
  · intro h1
    refine KC.region (KL.run 1 rfl ?_)
    refine KL.callX rfl rfl rfl rfl Tryd.call102 rfl rfl rfl (btable_any rb) ?_ ?_
    · rintro vx H16 ⟨ex, hx1, hx2, hx3⟩
      refine KQ.panBlock ?_
      refine KQ.panThen ?_
      exact KQ.pan (⟨_, Bn.m_e (Bn.b_e2 hp0 (Bn.b_e2 hp1 (Bn.b_e2 hp2 (by rw [Bn.ir1 h0 h1]; exact Bn.m_e hx1)))), hx2, fr.thenN hx3⟩)
    rintro _ H17 ⟨lm, k3, v3, hp3, rfl, hr1, hr2, rb2, f14_⟩
    have zf_H17 := f14_.1
    have o0 := o0.trans (f14_.low (Nat.zero_le _) (Nat.zero_le _))
    have fr := fr.thenN f14_
    have oB := oB.then (f14_.low (by omega) (by omega)) (Nat.le_refl _)
    have br := f14_.at_ br (by omega)
    have bx := f14_.at_ bx (by omega)
    have rb := rb2
    have zrd := rb.lt
    have fn14 := f14_
    have hfin : Bn.impP l = .ok (⟨s1, s2, kd, 0, lm, (0, false)⟩, _) := Bn.imp_ok hp0 hp1 hp2 (show Bn.impR kd _ = .ok ((0, lm, (0, false)), _) from by rw [Bn.ir1 h0 h1]; exact Bn.m_ok hp3)
    have hrr : InR .u32 (0) ∧ InR .u32 (lm.1) ∧ InR .i64 (lm.2) ∧ InR .u8 (0) := ⟨by decide, hr1, hr2, by decide⟩
    refine KL.run 1 rfl ?_
    refine KL.opS (S.storeAgg rfl sz47 rfl rfl (rfl) (by intro z hz; simp only [List.mem_cons, List.not_mem_nil, or_false] at hz; rcases hz with rfl | rfl <;> rfl) bx (by simp)) rfl rfl ?_
    rintro H18 ⟨u18, b18⟩
    have o0 := o0.trans (OldB.upd u18 (by omega))
    have zu18 := u18.1
    have fr := (by exact fr.updN u18 (by omega))
    have oB := oB.upd u18 (by omega)
    have br := ((u18).2 _ (by omega)).trans br
    have rb := rb.updT u18 (by omega)
    have bx := b18
    have bx : H18[(Array.size H3)]? = some (.cells [.string s1, .string s2, .int .u8 kd, .int .u32 0, .int .u32 lm.1, .int .i64 lm.2, .int .u8 0, .bool false].toArray 51 (0, 0)) := bx
    refine KL.nil (KQ.normBlock (KQ.sr (KL.lda rfl (cells_of bx) rfl ?_)))
    refine KL.opS (S.storeAgg rfl sz51 rfl rfl (rfl) (by intro z hz; simp only [List.mem_cons, List.not_mem_nil, or_false] at hz; rcases hz with rfl | rfl | rfl | rfl | rfl | rfl | rfl | rfl <;> first | rfl) br (by simp)) rfl rfl ?_
    rintro H19 ⟨u19, b19⟩
    have o0 := o0.trans (OldB.upd u19 (by omega))
    have zu19 := u19.1
    have fr := (by exact fr.updN u19 (by omega))
    have oB := oB.upd u19 (by omega)
    have bx := ((u19).2 _ (by omega)).trans bx
    have rb := rb.updT u19 (by omega)
    have br := b19
    rw [over_all (by rfl)] at br
    refine KL.nil (KQ.seq (KC.ret (KQ.ofRetX (KQ.toX ?_))))
    refine KQ.finCell Tryd.results98 rfl Tryd.underlying51 rfl sz51 (cells_of br) (rfl) ?_
    exact ⟨_, _, _, hfin, ⟨rfl, hkd, hrr.1, hrr.2.1, hrr.2.2.1, hrr.2.2.2⟩, rb.cast (by simp only [List.drop_drop, Nat.add_assoc, Nat.add_zero]), fr⟩
  intro h1
  refine KC.sr (KL.fin 2 rfl (KQ.seq ?_))
  refine KC.iq rfl ?_ ?_
  · intro h2
    refine KC.region (KL.run 1 rfl ?_)
    refine KL.callX rfl rfl rfl rfl Tryd.call103 rfl rfl rfl (blimits_any rb) ?_ ?_
    · rintro vx H20 ⟨ex, hx1, hx2, hx3⟩
      refine KQ.panBlock ?_
      refine KQ.panThen ?_
      exact KQ.pan (⟨_, Bn.m_e (Bn.b_e2 hp0 (Bn.b_e2 hp1 (Bn.b_e2 hp2 (by rw [Bn.ir2 h0 h1 h2]; exact Bn.m_e hx1)))), hx2, fr.thenN hx3⟩)
    rintro _ H21 ⟨lm, k3, v3, hp3, rfl, hr1, hr2, rb2, f15_⟩
    have zf_H21 := f15_.1
    have o0 := o0.trans (f15_.low (Nat.zero_le _) (Nat.zero_le _))
    have fr := fr.thenN f15_
    have oB := oB.then (f15_.low (by omega) (by omega)) (Nat.le_refl _)
    have br := f15_.at_ br (by omega)
    have bx := f15_.at_ bx (by omega)
    have rb := rb2
    have zrd := rb.lt
    have fn15 := f15_
    have hfin : Bn.impP l = .ok (⟨s1, s2, kd, 0, lm, (0, false)⟩, _) := Bn.imp_ok hp0 hp1 hp2 (show Bn.impR kd _ = .ok ((0, lm, (0, false)), _) from by rw [Bn.ir2 h0 h1 h2]; exact Bn.m_ok hp3)
    have hrr : InR .u32 (0) ∧ InR .u32 (lm.1) ∧ InR .i64 (lm.2) ∧ InR .u8 (0) := ⟨by decide, hr1, hr2, by decide⟩
    refine KL.run 1 rfl ?_
    refine KL.opS (S.storeAgg rfl sz47 rfl rfl (rfl) (by intro z hz; simp only [List.mem_cons, List.not_mem_nil, or_false] at hz; rcases hz with rfl | rfl <;> rfl) bx (by simp)) rfl rfl ?_
    rintro H22 ⟨u22, b22⟩
    have o0 := o0.trans (OldB.upd u22 (by omega))
    have zu22 := u22.1
    have fr := (by exact fr.updN u22 (by omega))
    have oB := oB.upd u22 (by omega)
    have br := ((u22).2 _ (by omega)).trans br
    have rb := rb.updT u22 (by omega)
    have bx := b22
    have bx : H22[(Array.size H3)]? = some (.cells [.string s1, .string s2, .int .u8 kd, .int .u32 0, .int .u32 lm.1, .int .i64 lm.2, .int .u8 0, .bool false].toArray 51 (0, 0)) := bx
    refine KL.nil (KQ.normBlock (KQ.sr (KL.lda rfl (cells_of bx) rfl ?_)))
    refine KL.opS (S.storeAgg rfl sz51 rfl rfl (rfl) (by intro z hz; simp only [List.mem_cons, List.not_mem_nil, or_false] at hz; rcases hz with rfl | rfl | rfl | rfl | rfl | rfl | rfl | rfl <;> first | rfl) br (by simp)) rfl rfl ?_
    rintro H23 ⟨u23, b23⟩
    have o0 := o0.trans (OldB.upd u23 (by omega))
    have zu23 := u23.1
    have fr := (by exact fr.updN u23 (by omega))
    have oB := oB.upd u23 (by omega)
    have bx := ((u23).2 _ (by omega)).trans bx
    have rb := rb.updT u23 (by omega)
    have br := b23
    rw [over_all (by rfl)] at br
    refine KL.nil (KQ.seq (KC.ret (KQ.ofRetX (KQ.toX ?_))))
    refine KQ.finCell Tryd.results98 rfl Tryd.underlying51 rfl sz51 (cells_of br) (rfl) ?_
    exact ⟨_, _, _, hfin, ⟨rfl, hkd, hrr.1, hrr.2.1, hrr.2.2.1, hrr.2.2.2⟩, rb.cast (by simp only [List.drop_drop, Nat.add_assoc, Nat.add_zero]), fr⟩
  intro h2
  refine KC.sr (KL.fin 2 rfl (KQ.seq ?_))
  refine KC.iq rfl ?_ ?_
  · intro h3
    refine KC.region (KL.run 1 rfl ?_)
    refine KL.callX rfl rfl rfl rfl Tryd.call135 rfl rfl rfl (bglob_any rb) ?_ ?_
    · rintro vx H24 ⟨ex, hx1, hx2, hx3⟩
      refine KQ.panBlock ?_
      refine KQ.panThen ?_
      exact KQ.pan (⟨_, Bn.m_e (Bn.b_e2 hp0 (Bn.b_e2 hp1 (Bn.b_e2 hp2 (by rw [Bn.ir3 h0 h1 h2 h3]; exact Bn.m_e hx1)))), hx2, fr.thenN hx3⟩)
    rintro _ H25 ⟨gl, k3, v3, hp3, rfl, hr1, rb2, f16_⟩
    have zf_H25 := f16_.1
    have o0 := o0.trans (f16_.low (Nat.zero_le _) (Nat.zero_le _))
    have fr := fr.thenN f16_
    have oB := oB.then (f16_.low (by omega) (by omega)) (Nat.le_refl _)
    have br := f16_.at_ br (by omega)
    have bx := f16_.at_ bx (by omega)
    have rb := rb2
    have zrd := rb.lt
    have fn16 := f16_
    have hfin : Bn.impP l = .ok (⟨s1, s2, kd, 0, (0, 0), gl⟩, _) := Bn.imp_ok hp0 hp1 hp2 (show Bn.impR kd _ = .ok ((0, (0, 0), gl), _) from by rw [Bn.ir3 h0 h1 h2 h3]; exact Bn.m_ok hp3)
    have hrr : InR .u32 (0) ∧ InR .u32 (0) ∧ InR .i64 (0) ∧ InR .u8 (gl.1) := ⟨by decide, by decide, by decide, hr1⟩
    refine KL.run 1 rfl ?_
    refine KL.opS (S.storeAgg rfl sz49 rfl rfl (rfl) (by intro z hz; simp only [List.mem_cons, List.not_mem_nil, or_false] at hz; rcases hz with rfl | rfl <;> rfl) bx (by simp)) rfl rfl ?_
    rintro H26 ⟨u26, b26⟩
    have o0 := o0.trans (OldB.upd u26 (by omega))
    have zu26 := u26.1
    have fr := (by exact fr.updN u26 (by omega))
    have oB := oB.upd u26 (by omega)
    have br := ((u26).2 _ (by omega)).trans br
    have rb := rb.updT u26 (by omega)
    have bx := b26
    have bx : H26[(Array.size H3)]? = some (.cells [.string s1, .string s2, .int .u8 kd, .int .u32 0, .int .u32 0, .int .i64 0, .int .u8 gl.1, .bool gl.2].toArray 51 (0, 0)) := bx
    refine KL.nil (KQ.normBlock (KQ.sr (KL.lda rfl (cells_of bx) rfl ?_)))
    refine KL.opS (S.storeAgg rfl sz51 rfl rfl (rfl) (by intro z hz; simp only [List.mem_cons, List.not_mem_nil, or_false] at hz; rcases hz with rfl | rfl | rfl | rfl | rfl | rfl | rfl | rfl <;> first | rfl) br (by simp)) rfl rfl ?_
    rintro H27 ⟨u27, b27⟩
    have o0 := o0.trans (OldB.upd u27 (by omega))
    have zu27 := u27.1
    have fr := (by exact fr.updN u27 (by omega))
    have oB := oB.upd u27 (by omega)
    have bx := ((u27).2 _ (by omega)).trans bx
    have rb := rb.updT u27 (by omega)
    have br := b27
    rw [over_all (by rfl)] at br
    refine KL.nil (KQ.seq (KC.ret (KQ.ofRetX (KQ.toX ?_))))
    refine KQ.finCell Tryd.results98 rfl Tryd.underlying51 rfl sz51 (cells_of br) (rfl) ?_
    exact ⟨_, _, _, hfin, ⟨rfl, hkd, hrr.1, hrr.2.1, hrr.2.2.1, hrr.2.2.2⟩, rb.cast (by simp only [List.drop_drop, Nat.add_assoc, Nat.add_zero]), fr⟩
  intro h3
  refine KC.region ?_
  refine KL.callX rfl rfl rfl rfl Tryd.call55 rfl rfl rfl (must_any false) ?_ ?_
  · rintro vx _ ⟨rfl, _, rfl⟩
    refine KQ.panBlock ?_
    refine KQ.panThen ?_
    exact KQ.pan (⟨_, Bn.m_e (Bn.b_e2 hp0 (Bn.b_e2 hp1 (Bn.b_e2 hp2 (by exact Bn.irb h0 h1 h2 h3)))), rfl, fr⟩)
  rintro _ _ ⟨_, hb, _⟩
  exact absurd hb (by decide)
theorem listI_any {H : Heap} {g : Nat} {v : Value} {l : List Int} (rb : RB H g v l) {Hb : Heap} (hT : TabU Hb) (oB : Old Hb H) (hgB : Hb.size ≤ g) : CtX Tryd.prog 97 [.pointer (some ⟨g, 0, none⟩), .func (.func 98) #[] #[]] H (fun u H' => ∃ x k v', Bn.lstP Bn.impP l = .ok (x, k) ∧ RowS 8 EImp H.size H' u x ∧ RB H' g v' (l.drop k) ∧ Fr g (.slice none 0 0) H H') (fun q H' => ∃ e, Bn.lstP Bn.impP l = .error e ∧ q = failB e ∧ Fr g (.slice none 0 0) H H') := by
  refine CtX.mk Tryd.func97 rfl Tryd.ntmps97 rfl ?_
  intro W0 hW0
  have o0 : OldB 0 H H := OldB.refl _ H
  have hg := rb.lt
  have fr : Fr g (.slice none 0 0) H H := Fr.refl _ _ _
  have hle := rb.le
  refine KC.sr (KL.fin 1 rfl (KQ.sr (KL.fin 1 rfl (KQ.seq (KC.seq (KC.sr (KL.run 1 rfl ?_)))))))
  refine KL.callX rfl rfl rfl rfl Tryd.call100 rfl rfl rfl (bu32_any rb) ?_ ?_
  · rintro vx H1 ⟨ex, hx1, hx2, hx3⟩
    refine KQ.panThen ?_
    refine KQ.panThen ?_
    exact KQ.pan (⟨_, Bn.m_e (Bn.b_e1 hx1), hx2, fr.thenN hx3⟩)
  rintro _ H2 ⟨n0, k0, v0, hp0, rfl, hn0, rb2, f17_⟩
  have zf_H2 := f17_.1
  have o0 := o0.trans (f17_.low (Nat.zero_le _) (Nat.zero_le _))
  have fr := fr.thenN f17_
  have oB := oB.then (f17_.low (by omega) (by omega)) (Nat.le_refl _)
  have rb := rb2
  have zrd := rb.lt
  have fn17 := f17_
  dsimp only [InR] at hn0
  refine KL.fin 1 rfl (KQ.seq (KC.block ?_))
  refine KC.loopD (κ := List Imp × Nat × Int × Value × Value) [9, 10, 13, 14, 15, 16, 17, 18, 5, 11, 12, 6] (fun k => [(5, k.2.2.2.1), (6, .int .u32 k.2.2.1)]) (fun k Hl => RB Hl g k.2.2.2.2 (l.drop (k0 + k.2.1)) ∧ LS 8 EImp 51 (Array.size H) Hl k.2.2.2.1 k.1 ∧ Isp.Pre Bn.impP n0.toNat (l.drop k0) k.2.2.1.toNat k.1 k.2.1 ∧ Fr g (.slice none 0 0) H Hl ∧ 0 ≤ k.2.2.1 ∧ k.1.length + k.2.2.1.toNat = n0.toNat ∧ Old Hb Hl) (fun k => k.2.2.1.toNat) ([], 0, n0, .slice none 0 0, v0) ?_ ?_ ?_
  · exact Sub.all rfl
  · exact ⟨rb.cast (by simp only [List.drop_drop, Nat.add_assoc, Nat.add_zero]), LS.nil _ _ _ _ _, Isp.Pre.start _ _ _, fr, hn0.1, by simp, oB⟩
  rintro ⟨acc, k, m, vo, vr⟩ H3 ⟨rb, ls, hpre, fr, hm0, hlen, oB⟩
  dsimp only at rb ls hpre hm0 hlen
  have zrd := rb.lt
  have zfr := fr.1
  have o0 : OldB 0 H H3 := fr.low (Nat.zero_le _) (Nat.zero_le _)
  refine KC.seq (KC.sr (KL.fin 2 rfl (KQ.seq ?_)))
  refine KC.iq rfl ?_ ?_
  · intro hc10
    try dsimp only at hc10
    refine KC.skip (KQ.seq (KC.seq (KC.block (KC.region (KL.run 3 rfl ?_)))))
    have hvo := ls.w.lt.imp id (fun h => h.2)
    have hm : m.toNat = (m - 1).toNat + 1 := by omega
    rw [hm] at hpre
    refine KL.callX rfl rfl rfl rfl Tryd.call98 rfl rfl rfl (bimported_any rb hT oB hgB) ?_ ?_
    · rintro vx H4 ⟨ex, hx1, hx2, hx3⟩
      refine KQ.panBlock ?_
      refine KQ.panThen ?_
      refine KQ.panThen ?_
      refine KQ.panBlock ?_
      refine KQ.panThen ?_
      exact KQ.pan (⟨_, Bn.m_e (Bn.b_e2 hp0 (hpre.fail (by rw [List.drop_drop]; exact hx1))), hx2, fr.thenN hx3⟩)
    rintro _ H5 ⟨x, kx, vx, hpx, ⟨rfl, hr⟩, rb2, f18_⟩
    have zf_H5 := f18_.1
    have o0 := o0.trans (f18_.low (Nat.zero_le _) (Nat.zero_le _))
    have ls := ls.frT f18_ (by omega)
    have fr := fr.thenN f18_
    have oB := oB.then (f18_.low (by omega) (by omega)) (Nat.le_refl _)
    have rb := rb2
    have zrd := rb.lt
    have fn18 := f18_
    refine KL.m (M.lit rfl Tryd.underlying23 zs51 (by decide) rfl rfl rfl) rfl ?_
    rintro _ H6 ⟨rfl, n6⟩
    have z6 := n6.2.1
    have o0 := o0.trans ((n6.1).b (by omega))
    have ls := ls.old n6.1
    have fr := fr.old n6.1
    have oB := oB.trans n6.1
    have rb := rb.old n6.1
    have b6 := n6.2.2
    have wo := ls.w
    have se : Sl 8 (FK EImp H6 (vblock vo :: List.range (Array.size H))) H6 _ [x] := Sl.lit1N n6 rfl (by decide) (fun Hx kx_ => ⟨rfl, hr⟩)
    have lt7 := wo.lt
    refine KL.m (M.appendE rfl Tryd.underlying23 inf51 rfl (by decide) rfl rfl wo (se) (by omega) (by simp only [List.length_cons, List.length_nil]; omega) (by unfold maxLen; simp only [List.length_cons, List.length_nil]; omega)) rfl ?_
    rintro vn H7 ⟨w7, g7, nx7⟩
    try dsimp only at g7 nx7
    have ob7 := g7.oldBE wo (by omega)
    have o0 := o0.trans (ob7.mono (by omega))
    have z7 := ob7.1
    have fr := (by exact fr.grownN g7 (lt7.imp id (fun h => by omega)))
    have oB := oB.then ob7 (by omega)
    have rb := rb.grownT g7 (lt7.imp id (fun h => by omega))
    have wo := w7
    have ls : LS 8 EImp 51 (Array.size H) H7 vn (acc ++ [x]) := ⟨wo⟩
    refine KL.fin 1 rfl (KQ.normBlock (KQ.r (KL.run 1 rfl ?_)))
    refine KL.q (R.sub rfl rfl rfl (by dsimp only [InR]; omega)) rfl ?_
    refine KL.fin 1 rfl ?_
    refine KQ.again ((acc ++ [x], k + kx, m - 1, vn, vx)) ?_ ?_ ?_
    · exact Sub.all rfl
    · show (m - 1).toNat < m.toNat; omega
    exact ⟨rb.cast (by simp only [List.drop_drop, Nat.add_assoc, Nat.add_zero]), ls, hpre.step (by rw [List.drop_drop]; exact hpx), fr, by show 0 ≤ m - 1; omega, by show (acc ++ [x]).length + (m - 1).toNat = _; rw [List.length_append, List.length_singleton]; omega, oB⟩
  intro hc10
  try dsimp only at hc10
  refine KC.exit (KQ.exitThen (KQ.exitThen (KQ.hit (KQ.sr (KL.fin 2 rfl (KQ.seq (KC.ret (KQ.ofRetX (KQ.toX (KQ.fin1 Tryd.results97 rfl ?_))))))))))
  have h0 : m.toNat = 0 := by omega
  rw [h0] at hpre
  exact ⟨_, _, _, Bn.m_ok (Bn.b_ok hp0 hpre.done), ls.row (by decide), rb, fr⟩
theorem bexport_any {H : Heap} {g : Nat} {v : Value} {l : List Int} (rb : RB H g v l) {Hb : Heap} (hT : TabU Hb) (oB : Old Hb H) (hgB : Hb.size ≤ g) : CtX Tryd.prog 107 [.pointer (some ⟨g, 0, none⟩)] H (fun u H' => ∃ x k v', Bn.expP l = .ok (x, k) ∧ (u = .agg [.string x.nam, .int .u8 x.kind, .int .u32 x.idx].toArray ∧ InR .u8 x.kind ∧ InR .u32 x.idx) ∧ RB H' g v' (l.drop k) ∧ Fr g (.slice none 0 0) H H') (fun q H' => ∃ e, Bn.expP l = .error e ∧ q = failB e ∧ Fr g (.slice none 0 0) H H') := by
  refine CtX.mk Tryd.func107 rfl Tryd.ntmps107 rfl ?_
  intro W0 hW0
  have o0 : OldB 0 H H := OldB.refl _ H
  have hg := rb.lt
  have fr : Fr g (.slice none 0 0) H H := Fr.refl _ _ _
  have hle := rb.le
  refine KC.sr ?_
  refine KL.m (M.alloc rfl zr76 rfl) rfl ?_
  rintro _ H1 ⟨rfl, n1⟩
  have z1 := n1.2.1
  have o0 := o0.trans ((n1.1).b (by omega))
  have rb := rb.old n1.1
  have fr := fr.old n1.1
  have oB := oB.trans n1.1
  have b1 := n1.2.2
  have br := b1
  refine KL.nil (KQ.sr (KL.run 1 rfl ?_))
  refine KL.callX rfl rfl rfl rfl Tryd.call134 rfl rfl rfl (bname_any rb hT oB hgB) ?_ ?_
  · rintro vx H2 ⟨ex, hx1, hx2, hx3⟩
    refine KQ.panThen ?_
    exact KQ.pan (⟨_, Bn.m_e (Bn.b_e1 hx1), hx2, fr.thenN hx3⟩)
  rintro _ H3 ⟨s1, k0, v0, hp0, rfl, rb2, f19_⟩
  have zf_H3 := f19_.1
  have o0 := o0.trans (f19_.low (Nat.zero_le _) (Nat.zero_le _))
  have fr := fr.thenN f19_
  have oB := oB.then (f19_.low (by omega) (by omega)) (Nat.le_refl _)
  have br := f19_.at_ br (by omega)
  have rb := rb2
  have zrd := rb.lt
  have fn19 := f19_
  refine KL.b0 bt76 rfl rfl ?_
  refine KL.m (M.alloc rfl zr76 rfl) rfl ?_
  rintro _ H4 ⟨rfl, n4⟩
  have z4 := n4.2.1
  have o0 := o0.trans ((n4.1).b (by omega))
  have fr := fr.old n4.1
  have oB := oB.trans n4.1
  have br := (n4.1).blk br
  have rb := rb.old n4.1
  have b4 := n4.2.2
  have bx := b4
  refine KL.opS (S.storeAgg rfl sz76 rfl rfl (rfl) (by intro z hz; simp only [List.mem_cons, List.not_mem_nil, or_false] at hz; rcases hz with rfl | rfl | rfl <;> first | rfl) bx (by simp)) rfl rfl ?_
  rintro H5 ⟨u5, b5⟩
  have o0 := o0.trans (OldB.upd u5 (by omega))
  have zu5 := u5.1
  have fr := (by exact fr.updN u5 (by omega))
  have oB := oB.upd u5 (by omega)
  have br := ((u5).2 _ (by omega)).trans br
  have rb := rb.updT u5 (by omega)
  have bx := b5
  rw [over_all (by rfl)] at bx
  refine KL.nil (KQ.sr (KL.run 1 rfl ?_))
  refine KL.callX rfl rfl rfl rfl Tryd.call131 rfl rfl rfl (bbyte_any rb) ?_ ?_
  · rintro vx H6 ⟨ex, hx1, hx2, hx3⟩
    refine KQ.panThen ?_
    exact KQ.pan (⟨_, Bn.m_e (Bn.b_e2 hp0 (Bn.b_e1 (Bn.one_er hx1))), hx2, fr.thenN hx3⟩)
  rintro _ H7 ⟨kd, k1, v1, hp1, rfl, hkd, rb2, f20_⟩
  have zf_H7 := f20_.1
  have o0 := o0.trans (f20_.low (Nat.zero_le _) (Nat.zero_le _))
  have fr := fr.thenN f20_
  have oB := oB.then (f20_.low (by omega) (by omega)) (Nat.le_refl _)
  have br := f20_.at_ br (by omega)
  have bx := f20_.at_ bx (by omega)
  have rb := rb2
  have zrd := rb.lt
  have fn20 := f20_
  refine KL.run 1 rfl ?_
  refine KL.opS (S.store rfl sz5 rfl rfl rfl rfl bx (by simp)) rfl rfl ?_
  rintro H8 ⟨u8, b8⟩
  have o0 := o0.trans (OldB.upd u8 (by omega))
  have zu8 := u8.1
  have fr := (by exact fr.updN u8 (by omega))
  have oB := oB.upd u8 (by omega)
  have br := ((u8).2 _ (by omega)).trans br
  have rb := rb.updT u8 (by omega)
  have bx := b8
  have bx : H8[(Array.size H3)]? = some (.cells [.string s1, .int .u8 kd, .int .u32 0].toArray 76 (0, 0)) := bx
  refine KL.nil (KQ.sr (KL.run 1 rfl (KL.ld rfl (cell_of bx rfl) (KL.run 1 rfl ?_))))
  refine KL.callX rfl rfl rfl rfl Tryd.call55 rfl rfl rfl (must_any _) ?_ ?_
  · rintro vx _ ⟨rfl, hb, rfl⟩
    simp only [sd] at hb
    refine KQ.panThen ?_
    exact KQ.pan (⟨_, Bn.m_e (Bn.b_e2 hp0 (Bn.b_e1 (Bn.one_of_e hp1 (Bn.knd_b (by omega))))), rfl, fr⟩)
  rintro _ _ ⟨rfl, hb, rfl⟩
  simp only [sd] at hb
  refine KL.nil (KQ.sr (KL.run 1 rfl ?_))
  refine KL.callX rfl rfl rfl rfl Tryd.call100 rfl rfl rfl (bu32_any rb) ?_ ?_
  · rintro vx H10 ⟨ex, hx1, hx2, hx3⟩
    refine KQ.panThen ?_
    exact KQ.pan (⟨_, Bn.m_e (Bn.b_e2 hp0 (Bn.b_e2 (Bn.one_of hp1 (Bn.knd_ok hb)) hx1)), hx2, fr.thenN hx3⟩)
  rintro _ H11 ⟨ix, k2, v2, hp2, rfl, hix, rb2, f21_⟩
  have zf_H11 := f21_.1
  have o0 := o0.trans (f21_.low (Nat.zero_le _) (Nat.zero_le _))
  have fr := fr.thenN f21_
  have oB := oB.then (f21_.low (by omega) (by omega)) (Nat.le_refl _)
  have br := f21_.at_ br (by omega)
  have bx := f21_.at_ bx (by omega)
  have rb := rb2
  have zrd := rb.lt
  have fn21 := f21_
  refine KL.run 1 rfl ?_
  refine KL.opS (S.store rfl sz28 rfl rfl rfl rfl bx (by simp)) rfl rfl ?_
  rintro H12 ⟨u12, b12⟩
  have o0 := o0.trans (OldB.upd u12 (by omega))
  have zu12 := u12.1
  have fr := (by exact fr.updN u12 (by omega))
  have oB := oB.upd u12 (by omega)
  have br := ((u12).2 _ (by omega)).trans br
  have rb := rb.updT u12 (by omega)
  have bx := b12
  have bx : H12[(Array.size H3)]? = some (.cells [.string s1, .int .u8 kd, .int .u32 ix].toArray 76 (0, 0)) := bx
  refine KL.nil (KQ.sr (KL.lda rfl (cells_of bx) rfl ?_))
  refine KL.opS (S.storeAgg rfl sz76 rfl rfl (rfl) (by intro z hz; simp only [List.mem_cons, List.not_mem_nil, or_false] at hz; rcases hz with rfl | rfl | rfl <;> first | rfl) br (by simp)) rfl rfl ?_
  rintro H13 ⟨u13, b13⟩
  have o0 := o0.trans (OldB.upd u13 (by omega))
  have zu13 := u13.1
  have fr := (by exact fr.updN u13 (by omega))
  have oB := oB.upd u13 (by omega)
  have bx := ((u13).2 _ (by omega)).trans bx
  have rb := rb.updT u13 (by omega)
  have br := b13
  rw [over_all (by rfl)] at br
  refine KL.nil (KQ.seq (KC.ret (KQ.ofRetX (KQ.toX ?_))))
  refine KQ.finCell Tryd.results107 rfl Tryd.underlying76 rfl sz76 (cells_of br) (rfl) ?_
  exact ⟨_, _, _, Bn.m_ok (Bn.b_ok hp0 (Bn.b_ok (Bn.one_of hp1 (Bn.knd_ok hb)) hp2)), ⟨rfl, hkd, hix⟩, rb.cast (by simp only [List.drop_drop, Nat.add_assoc, Nat.add_zero]), fr⟩
theorem listE_any {H : Heap} {g : Nat} {v : Value} {l : List Int} (rb : RB H g v l) {Hb : Heap} (hT : TabU Hb) (oB : Old Hb H) (hgB : Hb.size ≤ g) : CtX Tryd.prog 106 [.pointer (some ⟨g, 0, none⟩), .func (.func 107) #[] #[]] H (fun u H' => ∃ x k v', Bn.lstP Bn.expP l = .ok (x, k) ∧ RowS 3 EExp H.size H' u x ∧ RB H' g v' (l.drop k) ∧ Fr g (.slice none 0 0) H H') (fun q H' => ∃ e, Bn.lstP Bn.expP l = .error e ∧ q = failB e ∧ Fr g (.slice none 0 0) H H') := by
  refine CtX.mk Tryd.func106 rfl Tryd.ntmps106 rfl ?_
  intro W0 hW0
  have o0 : OldB 0 H H := OldB.refl _ H
  have hg := rb.lt
  have fr : Fr g (.slice none 0 0) H H := Fr.refl _ _ _
  have hle := rb.le
  refine KC.sr (KL.fin 1 rfl (KQ.sr (KL.fin 1 rfl (KQ.seq (KC.seq (KC.sr (KL.run 1 rfl ?_)))))))
  refine KL.callX rfl rfl rfl rfl Tryd.call100 rfl rfl rfl (bu32_any rb) ?_ ?_
  · rintro vx H1 ⟨ex, hx1, hx2, hx3⟩
    refine KQ.panThen ?_
    refine KQ.panThen ?_
    exact KQ.pan (⟨_, Bn.m_e (Bn.b_e1 hx1), hx2, fr.thenN hx3⟩)
  rintro _ H2 ⟨n0, k0, v0, hp0, rfl, hn0, rb2, f22_⟩
  have zf_H2 := f22_.1
  have o0 := o0.trans (f22_.low (Nat.zero_le _) (Nat.zero_le _))
  have fr := fr.thenN f22_
  have oB := oB.then (f22_.low (by omega) (by omega)) (Nat.le_refl _)
  have rb := rb2
  have zrd := rb.lt
  have fn22 := f22_
  dsimp only [InR] at hn0
  refine KL.fin 1 rfl (KQ.seq (KC.block ?_))
  refine KC.loopD (κ := List Exp × Nat × Int × Value × Value) [9, 10, 13, 14, 15, 16, 17, 18, 5, 11, 12, 6] (fun k => [(5, k.2.2.2.1), (6, .int .u32 k.2.2.1)]) (fun k Hl => RB Hl g k.2.2.2.2 (l.drop (k0 + k.2.1)) ∧ LS 3 EExp 76 (Array.size H) Hl k.2.2.2.1 k.1 ∧ Isp.Pre Bn.expP n0.toNat (l.drop k0) k.2.2.1.toNat k.1 k.2.1 ∧ Fr g (.slice none 0 0) H Hl ∧ 0 ≤ k.2.2.1 ∧ k.1.length + k.2.2.1.toNat = n0.toNat ∧ Old Hb Hl) (fun k => k.2.2.1.toNat) ([], 0, n0, .slice none 0 0, v0) ?_ ?_ ?_
  · exact Sub.all rfl
  · exact ⟨rb.cast (by simp only [List.drop_drop, Nat.add_assoc, Nat.add_zero]), LS.nil _ _ _ _ _, Isp.Pre.start _ _ _, fr, hn0.1, by simp, oB⟩
  rintro ⟨acc, k, m, vo, vr⟩ H3 ⟨rb, ls, hpre, fr, hm0, hlen, oB⟩
  dsimp only at rb ls hpre hm0 hlen
  have zrd := rb.lt
  have zfr := fr.1
  have o0 : OldB 0 H H3 := fr.low (Nat.zero_le _) (Nat.zero_le _)
  refine KC.seq (KC.sr (KL.fin 2 rfl (KQ.seq ?_)))
  refine KC.iq rfl ?_ ?_
  · intro hc10
    try dsimp only at hc10
    refine KC.skip (KQ.seq (KC.seq (KC.block (KC.region (KL.run 3 rfl ?_)))))
    have hvo := ls.w.lt.imp id (fun h => h.2)
    have hm : m.toNat = (m - 1).toNat + 1 := by omega
    rw [hm] at hpre
    refine KL.callX rfl rfl rfl rfl Tryd.call107 rfl rfl rfl (bexport_any rb hT oB hgB) ?_ ?_
    · rintro vx H4 ⟨ex, hx1, hx2, hx3⟩
      refine KQ.panBlock ?_
      refine KQ.panThen ?_
      refine KQ.panThen ?_
      refine KQ.panBlock ?_
      refine KQ.panThen ?_
      exact KQ.pan (⟨_, Bn.m_e (Bn.b_e2 hp0 (hpre.fail (by rw [List.drop_drop]; exact hx1))), hx2, fr.thenN hx3⟩)
    rintro _ H5 ⟨x, kx, vx, hpx, ⟨rfl, hr⟩, rb2, f23_⟩
    have zf_H5 := f23_.1
    have o0 := o0.trans (f23_.low (Nat.zero_le _) (Nat.zero_le _))
    have ls := ls.frT f23_ (by omega)
    have fr := fr.thenN f23_
    have oB := oB.then (f23_.low (by omega) (by omega)) (Nat.le_refl _)
    have rb := rb2
    have zrd := rb.lt
    have fn23 := f23_
    refine KL.m (M.lit rfl Tryd.underlying27 zs76 (by decide) rfl rfl rfl) rfl ?_
    rintro _ H6 ⟨rfl, n6⟩
    have z6 := n6.2.1
    have o0 := o0.trans ((n6.1).b (by omega))
    have ls := ls.old n6.1
    have fr := fr.old n6.1
    have oB := oB.trans n6.1
    have rb := rb.old n6.1
    have b6 := n6.2.2
    have wo := ls.w
    have se : Sl 3 (FK EExp H6 (vblock vo :: List.range (Array.size H))) H6 _ [x] := Sl.lit1N n6 rfl (by decide) (fun Hx kx_ => ⟨rfl, hr⟩)
    have lt7 := wo.lt
    refine KL.m (M.appendE rfl Tryd.underlying27 inf76 rfl (by decide) rfl rfl wo (se) (by omega) (by simp only [List.length_cons, List.length_nil]; omega) (by unfold maxLen; simp only [List.length_cons, List.length_nil]; omega)) rfl ?_
    rintro vn H7 ⟨w7, g7, nx7⟩
    try dsimp only at g7 nx7
    have ob7 := g7.oldBE wo (by omega)
    have o0 := o0.trans (ob7.mono (by omega))
    have z7 := ob7.1
    have fr := (by exact fr.grownN g7 (lt7.imp id (fun h => by omega)))
    have oB := oB.then ob7 (by omega)
    have rb := rb.grownT g7 (lt7.imp id (fun h => by omega))
    have wo := w7
    have ls : LS 3 EExp 76 (Array.size H) H7 vn (acc ++ [x]) := ⟨wo⟩
    refine KL.fin 1 rfl (KQ.normBlock (KQ.r (KL.run 1 rfl ?_)))
    refine KL.q (R.sub rfl rfl rfl (by dsimp only [InR]; omega)) rfl ?_
    refine KL.fin 1 rfl ?_
    refine KQ.again ((acc ++ [x], k + kx, m - 1, vn, vx)) ?_ ?_ ?_
    · exact Sub.all rfl
    · show (m - 1).toNat < m.toNat; omega
    exact ⟨rb.cast (by simp only [List.drop_drop, Nat.add_assoc, Nat.add_zero]), ls, hpre.step (by rw [List.drop_drop]; exact hpx), fr, by show 0 ≤ m - 1; omega, by show (acc ++ [x]).length + (m - 1).toNat = _; rw [List.length_append, List.length_singleton]; omega, oB⟩
  intro hc10
  try dsimp only at hc10
  refine KC.exit (KQ.exitThen (KQ.exitThen (KQ.hit (KQ.sr (KL.fin 2 rfl (KQ.seq (KC.ret (KQ.ofRetX (KQ.toX (KQ.fin1 Tryd.results106 rfl ?_))))))))))
  have h0 : m.toNat = 0 := by omega
  rw [h0] at hpre
  exact ⟨_, _, _, Bn.m_ok (Bn.b_ok hp0 hpre.done), ls.row (by decide), rb, fr⟩
end Go.Proofs.YtldmfchamcpmmaaDoor
namespace Go.Proofs.YtldmfchamcpmmaaDoor
open Go Go.RowKit
set_option linter.unusedVariables false
set_option linter.unusedSimpArgs false
set_option linter.unnecessarySimpa false
instance oneGlo : One EGlo := ⟨fun h u hu => by
  obtain ⟨v, rfl, h1, _⟩ := h
  simp only [List.mem_cons, List.not_mem_nil, or_false] at hu
  rcases hu with rfl | rfl | rfl <;> first | rfl | exact h1.one⟩
instance oneElm : One EElm := ⟨fun h u hu => by
  obtain ⟨v, w, rfl, h1, h2, _⟩ := h
  simp only [List.mem_cons, List.not_mem_nil, or_false] at hu
  rcases hu with rfl | rfl | rfl
  · rfl
  · exact h1.one
  exact h2.one⟩
instance oneDat : One EDat := ⟨fun h u hu => by
  obtain ⟨v, w, rfl, h1, h2, _⟩ := h
  simp only [List.mem_cons, List.not_mem_nil, or_false] at hu
  rcases hu with rfl | rfl | rfl
  · rfl
  · exact h1.one
  exact h2.one⟩
instance oneCod : One ECod := ⟨fun h u hu => by
  obtain ⟨v, w, rfl, h1, h2⟩ := h
  simp only [List.mem_cons, List.not_mem_nil, or_false] at hu
  rcases hu with rfl | rfl
  · exact h1.one
  exact h2.one⟩
theorem fill_glo {u a b z0 z1 z2 : Value} (h : u.cells = #[u]) : Instr.fill ((#[(0, 2), (2, 1)] : Array (Nat × Nat))[·]?) #[z0, z1, z2] [(0, .agg #[a, b]), (1, u)] = some #[a, b, u] := by
  have h2 : (Value.agg #[a, b]).cells = #[a, b] := rfl
  simp [Instr.fill, h, h2]
namespace Bn
section
variable {r b : List Int} {k m : Nat} {e : Int} {ls : List (Int × Int)} {xs : List Ins} {c : Cod} {α : Type} {p : Isp.Prs α} {x : α}
theorem byt_le (h : bytP r = .ok (b, k)) : b.length ≤ r.length ∧ k ≤ r.length := by
  unfold bytP at h
  split at h
  · cases h
  next n j hn =>
  have := u32_le hn
  split at h
  · injection h with h; injection h with h1 h2; subst h1; subst h2
    rw [List.length_take, List.length_drop]; omega
  cases h
theorem whole_e (h : p b = .error e) : whole p b = .error e := by unfold whole; rw [h]
theorem whole_l (h : p b = .ok (x, k)) (hk : ¬ k = b.length) : whole p b = .error 60 := by unfold whole; rw [h]; simp only; rw [if_neg hk]
theorem whole_ok (h : p b = .ok (x, k)) (hk : k = b.length) : whole p b = .ok x := by unfold whole; rw [h]; simp only; rw [if_pos hk]
theorem cod_e0 (h : bytP r = .error e) : codP r = .error e := by unfold codP; rw [h]
theorem cod_e (h : bytP r = .ok (b, k)) (h2 : whole codQ b = .error e) : codP r = .error e := by unfold codP; rw [h]; simp only [h2]
theorem cod_ok (h : bytP r = .ok (b, k)) (h2 : whole codQ b = .ok c) : codP r = .ok (c, k) := by unfold codP; rw [h]; simp only [h2]
theorem cq_e (h : lstP locP b = .error e) : codQ b = .error e := by unfold codQ; rw [h]
theorem cq_s (h : lstP locP b = .ok (ls, k)) (hs : ¬ En.locS ls < 4294967296) : codQ b = .error 60 := by unfold codQ; rw [h]; simp only; rw [if_neg hs]
theorem cq_e2 (h : lstP locP b = .ok (ls, k)) (hs : En.locS ls < 4294967296) (h2 : xprP (b.drop k) = .error e) : codQ b = .error e := by unfold codQ; rw [h]; simp only; rw [if_pos hs, h2]
theorem cq_ok (h : lstP locP b = .ok (ls, k)) (hs : En.locS ls < 4294967296) (h2 : xprP (b.drop k) = .ok (xs, m)) : codQ b = .ok ((ls, xs), k + m) := by unfold codQ; rw [h]; simp only; rw [if_pos hs, h2]
theorem lst_len {x : List α} (h : lstP p r = .ok (x, k)) : (x.length : Int) ≤ 4294967295 := by
  unfold lstP Isp.mapP Isp.bindP at h
  split at h
  · cases h
  next z kz hz =>
  injection h with h; injection h with h1 h2; subst h1
  split at hz
  · cases hz
  next n j hn =>
  have hu := u32_le hn
  split at hz
  · cases hz
  next y m2 hy =>
  injection hz with hz; injection hz with h3 h4; subst h3
  have : y.length = n.toNat := by
    have key : ∀ (n : Nat) (r : List Int) (y : List α) (k : Nat), Isp.manyP p n r = .ok (y, k) → y.length = n := by
      intro n
      induction n with
      | zero => intro r y k h; simp only [Isp.manyP] at h; injection h with h; injection h with h1 h2; subst h1; rfl
      | succ n ih =>
        intro r y k h
        simp only [Isp.manyP, Isp.mapP, Isp.bindP] at h
        split at h
        · cases h
        next z kz hz =>
        injection h with h; injection h with h1 h2; subst h1
        split at hz
        · cases hz
        split at hz
        · cases hz
        next y2 m hy => injection hz with hz; injection hz with h3 h4; subst h3; simp only [List.length_cons]; rw [ih _ _ _ hy]
    exact key _ _ _ _ hy
  show (y.length : Int) ≤ _
  omega
end
end Bn
theorem bglobal_any {H : Heap} {g : Nat} {v : Value} {l : List Int} (rb : RB H g v l) : CtX Tryd.prog 105 [.pointer (some ⟨g, 0, none⟩)] H (fun u H' => ∃ x k v', Bn.gloP l = .ok (x, k) ∧ (∃ a, u = .agg [.int .u8 x.1.1, .bool x.1.2, a].toArray ∧ InR .u8 x.1.1 ∧ RowS 5 EIns H.size H' a x.2) ∧ RB H' g v' (l.drop k) ∧ Fr g (.slice none 0 0) H H') (fun q H' => ∃ e, Bn.gloP l = .error e ∧ q = failB e ∧ Fr g (.slice none 0 0) H H') := by
  refine CtX.mk Tryd.func105 rfl Tryd.ntmps105 rfl ?_
  intro W0 hW0
  have o0 : OldB 0 H H := OldB.refl _ H
  have hg := rb.lt
  have fr : Fr g (.slice none 0 0) H H := Fr.refl _ _ _
  have hle := rb.le
  refine KC.sr ?_
  refine KL.m (M.alloc rfl zr54 rfl) rfl ?_
  rintro _ H1 ⟨rfl, n1⟩
  have z1 := n1.2.1
  have o0 := o0.trans ((n1.1).b (by omega))
  have rb := rb.old n1.1
  have fr := fr.old n1.1
  have b1 := n1.2.2
  have br := b1
  refine KL.nil (KQ.sr (KL.run 1 rfl ?_))
  refine KL.callX rfl rfl rfl rfl Tryd.call135 rfl rfl rfl (bglob_any rb) ?_ ?_
  · rintro vx H2 ⟨ex, hx1, hx2, hx3⟩
    refine KQ.panThen ?_
    exact KQ.pan (⟨_, Bn.b_e1 hx1, hx2, fr.thenN hx3⟩)
  rintro _ H3 ⟨gl, k0, v0, hp0, rfl, hg1, rb2, f1_⟩
  have zf_H3 := f1_.1
  have o0 := o0.trans (f1_.low (Nat.zero_le _) (Nat.zero_le _))
  have fr := fr.thenN f1_
  have br := f1_.at_ br (by omega)
  have rb := rb2
  have zrd := rb.lt
  have fn1 := f1_
  refine KL.m (M.alloc rfl zr49 rfl) rfl ?_
  rintro _ H4 ⟨rfl, n4⟩
  have z4 := n4.2.1
  have o0 := o0.trans ((n4.1).b (by omega))
  have fr := fr.old n4.1
  have br := (n4.1).blk br
  have rb := rb.old n4.1
  have b4 := n4.2.2
  have bx := b4
  refine KL.opS (S.storeAgg rfl sz49 rfl rfl (rfl) (by intro z hz; simp only [List.mem_cons, List.not_mem_nil, or_false] at hz; rcases hz with rfl | rfl <;> first | rfl) bx (by simp)) rfl rfl ?_
  rintro H5 ⟨u5, b5⟩
  have o0 := o0.trans (OldB.upd u5 (by omega))
  have zu5 := u5.1
  have fr := (by exact fr.updN u5 (by omega))
  have br := ((u5).2 _ (by omega)).trans br
  have rb := rb.updT u5 (by omega)
  have bx := b5
  rw [over_all (by rfl)] at bx
  refine KL.nil (KQ.seq (KC.seq ?_))
  refine KC.order [0, 1, 2, 3, 4] (clOf [(2, 3), (4, 2)]) (fun j Hc => (j = 0 → Hc[(Array.size H3)]? = some _)) (fun q H' => ∃ e, Bn.gloP l = .error e ∧ q = failB e ∧ Fr g (.slice none 0 0) H H') (by kernel_rfl) (by kernel_rfl) (by kernel_rfl) rfl (fun _ _ => bx) (fun vx Hx hx => KQ.panThen (KQ.pan hx)) ?_
  refine KO.op rfl rfl (fun Hg hg => R.loadAgg rfl Tryd.underlying49 rfl sz49 rfl (cells_of (hg rfl)) rfl) rfl rfl rfl ?_
  refine KO.op rfl rfl (fun Hg hg => R.move rfl rfl) rfl rfl rfl ?_
  refine KO.callX rfl rfl rfl rfl rfl rfl Tryd.call138 rfl rfl rfl ((bexpr_any rb).mono (fun _ _ h => h) (fun vx Hx ⟨ex, hx1, hx2, hx3⟩ => ⟨_, Bn.b_e2 hp0 hx1, hx2, fr.thenN hx3⟩)) (fun _ _ hR j _ _ hj => by obtain ⟨x, k, _, _, _, _, f⟩ := hR; exact f.at_ bx (by omega)) ?_
  rintro ua H6 ⟨is, k1, v1, hp1, ra, rb2, f2_⟩
  have zf_H6 := f2_.1
  have o0 := o0.trans (f2_.low (Nat.zero_le _) (Nat.zero_le _))
  have fr := fr.thenN f2_
  have br := f2_.at_ br (by omega)
  have bx := f2_.at_ bx (by omega)
  have rb := rb2
  have zrd := rb.lt
  have fn2 := f2_
  have rwra := RW.refl (Array.size H5) H6
  refine KO.op rfl rfl (fun Hg hg => R.build (places := #[(0, 2), (2, 1)]) (cs := #[.int .u8 gl.1, .bool gl.2, ua]) rfl Tryd.underlying54 zr54 (fun w => by kernel_rfl) rfl (fill_glo ra.cells1)) rfl rfl rfl ?_
  refine KO.opS rfl rfl (S.storeAgg rfl sz54 rfl rfl (rfl) (by intro z hz; simp only [List.mem_cons, List.not_mem_nil, or_false] at hz; rcases hz with rfl | rfl | rfl <;> first | rfl | exact ra.one) br (by simp)) rfl rfl (fun _ hR j hj1 hj2 hj => by subst hj; exact absurd (by decide +kernel) hj2) ?_
  rintro H7 ⟨u7, b7⟩
  have o0 := o0.trans (OldB.upd u7 (by omega))
  have zu7 := u7.1
  have fr := (by exact fr.updN u7 (by omega))
  have bx := ((u7).2 _ (by omega)).trans bx
  have rb := rb.updT u7 (by omega)
  have rwra := rwra.updT u7 (by omega)
  have br := b7
  rw [over_all (by rfl)] at br
  refine KO.nil ?_
  refine KQ.seq (KC.ret (KQ.ofRetX (KQ.toX ?_)))
  refine KQ.finCell Tryd.results105 rfl Tryd.underlying54 rfl sz54 (cells_of br) (rfl) ?_
  exact ⟨_, _, _, Bn.b_ok hp0 hp1, ⟨_, rfl, hg1, ra.to rwra (by omega)⟩, rb.cast (by simp only [List.drop_drop, Nat.add_assoc, Nat.add_zero]), fr⟩
theorem listG_any {H : Heap} {g : Nat} {v : Value} {l : List Int} (rb : RB H g v l) : CtX Tryd.prog 104 [.pointer (some ⟨g, 0, none⟩), .func (.func 105) #[] #[]] H (fun u H' => ∃ x k v', Bn.lstP Bn.gloP l = .ok (x, k) ∧ RowS 3 EGlo H.size H' u x ∧ RB H' g v' (l.drop k) ∧ Fr g (.slice none 0 0) H H') (fun q H' => ∃ e, Bn.lstP Bn.gloP l = .error e ∧ q = failB e ∧ Fr g (.slice none 0 0) H H') := by
  refine CtX.mk Tryd.func104 rfl Tryd.ntmps104 rfl ?_
  intro W0 hW0
  have o0 : OldB 0 H H := OldB.refl _ H
  have hg := rb.lt
  have fr : Fr g (.slice none 0 0) H H := Fr.refl _ _ _
  have hle := rb.le
  refine KC.sr (KL.fin 1 rfl (KQ.sr (KL.fin 1 rfl (KQ.seq (KC.seq (KC.sr (KL.run 1 rfl ?_)))))))
  refine KL.callX rfl rfl rfl rfl Tryd.call100 rfl rfl rfl (bu32_any rb) ?_ ?_
  · rintro vx H1 ⟨ex, hx1, hx2, hx3⟩
    refine KQ.panThen ?_
    refine KQ.panThen ?_
    exact KQ.pan (⟨_, Bn.m_e (Bn.b_e1 hx1), hx2, fr.thenN hx3⟩)
  rintro _ H2 ⟨n0, k0, v0, hp0, rfl, hn0, rb2, f3_⟩
  have zf_H2 := f3_.1
  have o0 := o0.trans (f3_.low (Nat.zero_le _) (Nat.zero_le _))
  have fr := fr.thenN f3_
  have rb := rb2
  have zrd := rb.lt
  have fn3 := f3_
  dsimp only [InR] at hn0
  refine KL.fin 1 rfl (KQ.seq (KC.block ?_))
  refine KC.loopD (κ := List Glo × Nat × Int × Value × Value) [9, 10, 13, 14, 15, 16, 17, 18, 5, 11, 12, 6] (fun k => [(5, k.2.2.2.1), (6, .int .u32 k.2.2.1)]) (fun k Hl => RB Hl g k.2.2.2.2 (l.drop (k0 + k.2.1)) ∧ LS 3 EGlo 54 (Array.size H) Hl k.2.2.2.1 k.1 ∧ Isp.Pre Bn.gloP n0.toNat (l.drop k0) k.2.2.1.toNat k.1 k.2.1 ∧ Fr g (.slice none 0 0) H Hl ∧ 0 ≤ k.2.2.1 ∧ k.1.length + k.2.2.1.toNat = n0.toNat) (fun k => k.2.2.1.toNat) ([], 0, n0, .slice none 0 0, v0) ?_ ?_ ?_
  · exact Sub.all rfl
  · exact ⟨rb.cast (by simp only [List.drop_drop, Nat.add_assoc, Nat.add_zero]), LS.nil _ _ _ _ _, Isp.Pre.start _ _ _, fr, hn0.1, by simp⟩
  rintro ⟨acc, k, m, vo, vr⟩ H3 ⟨rb, ls, hpre, fr, hm0, hlen⟩
  dsimp only at rb ls hpre hm0 hlen
  have zrd := rb.lt
  have zfr := fr.1
  have o0 : OldB 0 H H3 := fr.low (Nat.zero_le _) (Nat.zero_le _)
  refine KC.seq (KC.sr (KL.fin 2 rfl (KQ.seq ?_)))
  refine KC.iq rfl ?_ ?_
  · intro hc10
    try dsimp only at hc10
    refine KC.skip (KQ.seq (KC.seq (KC.block (KC.region (KL.run 3 rfl ?_)))))
    have hvo := ls.w.lt.imp id (fun h => h.2)
    have hm : m.toNat = (m - 1).toNat + 1 := by omega
    rw [hm] at hpre
    refine KL.callX rfl rfl rfl rfl Tryd.call105 rfl rfl rfl (bglobal_any rb) ?_ ?_
    · rintro vx H4 ⟨ex, hx1, hx2, hx3⟩
      refine KQ.panBlock ?_
      refine KQ.panThen ?_
      refine KQ.panThen ?_
      refine KQ.panBlock ?_
      refine KQ.panThen ?_
      exact KQ.pan (⟨_, Bn.m_e (Bn.b_e2 hp0 (hpre.fail (by rw [List.drop_drop]; exact hx1))), hx2, fr.thenN hx3⟩)
    rintro _ H5 ⟨x, kx, vx, hpx, ⟨a, rfl, hr, ra⟩, rb2, f4_⟩
    have zf_H5 := f4_.1
    have o0 := o0.trans (f4_.low (Nat.zero_le _) (Nat.zero_le _))
    have ls := ls.frT f4_ (by omega)
    have fr := fr.thenN f4_
    have rb := rb2
    have zrd := rb.lt
    have fn4 := f4_
    have rwx := RW.refl (Array.size H3) H5
    refine KL.m (M.lit rfl Tryd.underlying26 zs54 (by decide) rfl rfl rfl) rfl ?_
    rintro _ H6 ⟨rfl, n6⟩
    have z6 := n6.2.1
    have o0 := o0.trans ((n6.1).b (by omega))
    have ls := ls.old n6.1
    have fr := fr.old n6.1
    have rb := rb.old n6.1
    have rwx := rwx.old n6.1
    have b6 := n6.2.2
    have wo := ls.w
    have se : Sl 3 (FK EGlo H6 (vblock vo :: List.range (Array.size H))) H6 _ [x] := Sl.lit1N n6 rfl (by decide) (fun Hx kx_ => ⟨a, rfl, fk_row ra rwx hvo (by omega) (by omega) Hx kx_, hr⟩)
    have lt7 := wo.lt
    refine KL.m (M.appendE rfl Tryd.underlying26 inf54 rfl (by decide) rfl rfl wo (se) (by omega) (by simp only [List.length_cons, List.length_nil]; omega) (by unfold maxLen; simp only [List.length_cons, List.length_nil]; omega)) rfl ?_
    rintro vn H7 ⟨w7, g7, nx7⟩
    try dsimp only at g7 nx7
    have ob7 := g7.oldBE wo (by omega)
    have o0 := o0.trans (ob7.mono (by omega))
    have z7 := ob7.1
    have fr := (by exact fr.grownN g7 (lt7.imp id (fun h => by omega)))
    have rb := rb.grownT g7 (lt7.imp id (fun h => by omega))
    have wo := w7
    have ls : LS 3 EGlo 54 (Array.size H) H7 vn (acc ++ [x]) := ⟨wo⟩
    refine KL.fin 1 rfl (KQ.normBlock (KQ.r (KL.run 1 rfl ?_)))
    refine KL.q (R.sub rfl rfl rfl (by dsimp only [InR]; omega)) rfl ?_
    refine KL.fin 1 rfl ?_
    refine KQ.again ((acc ++ [x], k + kx, m - 1, vn, vx)) ?_ ?_ ?_
    · exact Sub.all rfl
    · show (m - 1).toNat < m.toNat; omega
    exact ⟨rb.cast (by simp only [List.drop_drop, Nat.add_assoc, Nat.add_zero]), ls, hpre.step (by rw [List.drop_drop]; exact hpx), fr, by show 0 ≤ m - 1; omega, by show (acc ++ [x]).length + (m - 1).toNat = _; rw [List.length_append, List.length_singleton]; omega⟩
  intro hc10
  try dsimp only at hc10
  refine KC.exit (KQ.exitThen (KQ.exitThen (KQ.hit (KQ.sr (KL.fin 2 rfl (KQ.seq (KC.ret (KQ.ofRetX (KQ.toX (KQ.fin1 Tryd.results104 rfl ?_))))))))))
  have h0 : m.toNat = 0 := by omega
  rw [h0] at hpre
  exact ⟨_, _, _, Bn.m_ok (Bn.b_ok hp0 hpre.done), ls.row (by decide), rb, fr⟩
theorem belem_any {H : Heap} {g : Nat} {v : Value} {l : List Int} (rb : RB H g v l) : CtX Tryd.prog 109 [.pointer (some ⟨g, 0, none⟩)] H (fun u H' => ∃ x k v', Bn.elmP l = .ok (x, k) ∧ (∃ a b, u = .agg [.int .u32 x.1, a, b].toArray ∧ RowS 5 EIns H.size H' a x.2.1 ∧ RowS 1 (EInt .u32) H.size H' b x.2.2 ∧ InR .u32 x.1) ∧ RB H' g v' (l.drop k) ∧ Fr g (.slice none 0 0) H H') (fun q H' => ∃ e, Bn.elmP l = .error e ∧ q = failB e ∧ Fr g (.slice none 0 0) H H') := by
  refine CtX.mk Tryd.func109 rfl Tryd.ntmps109 rfl ?_
  intro W0 hW0
  have o0 : OldB 0 H H := OldB.refl _ H
  have hg := rb.lt
  have fr : Fr g (.slice none 0 0) H H := Fr.refl _ _ _
  have hle := rb.le
  refine KC.sr ?_
  refine KL.m (M.alloc rfl zr62 rfl) rfl ?_
  rintro _ H1 ⟨rfl, n1⟩
  have z1 := n1.2.1
  have o0 := o0.trans ((n1.1).b (by omega))
  have rb := rb.old n1.1
  have fr := fr.old n1.1
  have b1 := n1.2.2
  have br := b1
  refine KL.nil (KQ.sr (KL.run 1 rfl ?_))
  refine KL.callX rfl rfl rfl rfl Tryd.call100 rfl rfl rfl (bu32_any rb) ?_ ?_
  · rintro vx H2 ⟨ex, hx1, hx2, hx3⟩
    refine KQ.panThen ?_
    exact KQ.pan (⟨_, Bn.b_e1 hx1, hx2, fr.thenN hx3⟩)
  rintro _ H3 ⟨tb, k0, v0, hp0, rfl, htb, rb2, f5_⟩
  have zf_H3 := f5_.1
  have o0 := o0.trans (f5_.low (Nat.zero_le _) (Nat.zero_le _))
  have fr := fr.thenN f5_
  have br := f5_.at_ br (by omega)
  have rb := rb2
  have zrd := rb.lt
  have fn5 := f5_
  refine KL.b0 bt62 rfl rfl ?_
  refine KL.m (M.alloc rfl zr62 rfl) rfl ?_
  rintro _ H4 ⟨rfl, n4⟩
  have z4 := n4.2.1
  have o0 := o0.trans ((n4.1).b (by omega))
  have fr := fr.old n4.1
  have br := (n4.1).blk br
  have rb := rb.old n4.1
  have b4 := n4.2.2
  have bx := b4
  refine KL.opS (S.storeAgg rfl sz62 rfl rfl (rfl) (by intro z hz; simp only [List.mem_cons, List.not_mem_nil, or_false] at hz; rcases hz with rfl | rfl | rfl <;> first | rfl) bx (by simp)) rfl rfl ?_
  rintro H5 ⟨u5, b5⟩
  have o0 := o0.trans (OldB.upd u5 (by omega))
  have zu5 := u5.1
  have fr := (by exact fr.updN u5 (by omega))
  have br := ((u5).2 _ (by omega)).trans br
  have rb := rb.updT u5 (by omega)
  have bx := b5
  rw [over_all (by rfl)] at bx
  refine KL.nil (KQ.sr (KL.run 1 rfl ?_))
  refine KL.callX rfl rfl rfl rfl Tryd.call138 rfl rfl rfl (bexpr_any rb) ?_ ?_
  · rintro vx H6 ⟨ex, hx1, hx2, hx3⟩
    refine KQ.panThen ?_
    exact KQ.pan (⟨_, Bn.b_e2 hp0 (Bn.b_e1 hx1), hx2, fr.thenN hx3⟩)
  rintro ua H7 ⟨is, k1, v1, hp1, ra, rb2, f6_⟩
  have zf_H7 := f6_.1
  have o0 := o0.trans (f6_.low (Nat.zero_le _) (Nat.zero_le _))
  have fr := fr.thenN f6_
  have br := f6_.at_ br (by omega)
  have bx := f6_.at_ bx (by omega)
  have rb := rb2
  have zrd := rb.lt
  have fn6 := f6_
  have rwra := RW.refl (Array.size H5) H7
  refine KL.run 1 rfl ?_
  refine KL.opS (S.store rfl sz52 rfl rfl ra.cells1 ra.one bx (by simp)) rfl rfl ?_
  rintro H8 ⟨u8, b8⟩
  have o0 := o0.trans (OldB.upd u8 (by omega))
  have zu8 := u8.1
  have fr := (by exact fr.updN u8 (by omega))
  have br := ((u8).2 _ (by omega)).trans br
  have rb := rb.updT u8 (by omega)
  have rwra := rwra.updT u8 (by omega)
  have bx := b8
  have bx : H8[(Array.size H3)]? = some (.cells [.int .u32 tb, ua, .slice none 0 0].toArray 62 (0, 0)) := bx
  refine KL.nil (KQ.sr (KL.run 1 rfl ?_))
  refine KL.callX rfl rfl rfl rfl Tryd.call99 rfl rfl rfl (listU_any rb) ?_ ?_
  · rintro vx H9 ⟨ex, hx1, hx2, hx3⟩
    refine KQ.panThen ?_
    exact KQ.pan (⟨_, Bn.b_e2 hp0 (Bn.b_e2 hp1 hx1), hx2, fr.thenN hx3⟩)
  rintro ub H10 ⟨fs, k2, v2, hp2, rb_, rb2, f7_⟩
  have zf_H10 := f7_.1
  have o0 := o0.trans (f7_.low (Nat.zero_le _) (Nat.zero_le _))
  have fr := fr.thenN f7_
  have br := f7_.at_ br (by omega)
  have bx := f7_.at_ bx (by omega)
  have rwra := rwra.frT f7_ (by omega)
  have rb := rb2
  have zrd := rb.lt
  have fn7 := f7_
  have rwrb_ := RW.refl (Array.size H8) H10
  refine KL.run 1 rfl ?_
  refine KL.opS (S.store rfl sz24 rfl rfl rb_.cells1 rb_.one bx (by simp)) rfl rfl ?_
  rintro H11 ⟨u11, b11⟩
  have o0 := o0.trans (OldB.upd u11 (by omega))
  have zu11 := u11.1
  have fr := (by exact fr.updN u11 (by omega))
  have br := ((u11).2 _ (by omega)).trans br
  have rwra := rwra.updT u11 (by omega)
  have rb := rb.updT u11 (by omega)
  have rwrb_ := rwrb_.updT u11 (by omega)
  have bx := b11
  have bx : H11[(Array.size H3)]? = some (.cells [.int .u32 tb, ua, ub].toArray 62 (0, 0)) := bx
  refine KL.nil (KQ.sr (KL.lda rfl (cells_of bx) rfl ?_))
  refine KL.opS (S.storeAgg rfl sz62 rfl rfl (rfl) (by intro z hz; simp only [List.mem_cons, List.not_mem_nil, or_false] at hz; rcases hz with rfl | rfl | rfl <;> first | rfl | exact ra.one | exact rb_.one) br (by simp)) rfl rfl ?_
  rintro H12 ⟨u12, b12⟩
  have o0 := o0.trans (OldB.upd u12 (by omega))
  have zu12 := u12.1
  have fr := (by exact fr.updN u12 (by omega))
  have bx := ((u12).2 _ (by omega)).trans bx
  have rwra := rwra.updT u12 (by omega)
  have rb := rb.updT u12 (by omega)
  have rwrb_ := rwrb_.updT u12 (by omega)
  have br := b12
  rw [over_all (by rfl)] at br
  refine KL.nil (KQ.seq (KC.ret (KQ.ofRetX (KQ.toX ?_))))
  refine KQ.finCell Tryd.results109 rfl Tryd.underlying62 rfl sz62 (cells_of br) (rfl) ?_
  exact ⟨_, _, _, Bn.b_ok hp0 (Bn.b_ok hp1 hp2), ⟨_, _, rfl, ra.to rwra (by omega), rb_.to rwrb_ (by omega), htb⟩, rb.cast (by simp only [List.drop_drop, Nat.add_assoc, Nat.add_zero]), fr⟩
theorem listX_any {H : Heap} {g : Nat} {v : Value} {l : List Int} (rb : RB H g v l) : CtX Tryd.prog 108 [.pointer (some ⟨g, 0, none⟩), .func (.func 109) #[] #[]] H (fun u H' => ∃ x k v', Bn.lstP Bn.elmP l = .ok (x, k) ∧ RowS 3 EElm H.size H' u x ∧ RB H' g v' (l.drop k) ∧ Fr g (.slice none 0 0) H H') (fun q H' => ∃ e, Bn.lstP Bn.elmP l = .error e ∧ q = failB e ∧ Fr g (.slice none 0 0) H H') := by
  refine CtX.mk Tryd.func108 rfl Tryd.ntmps108 rfl ?_
  intro W0 hW0
  have o0 : OldB 0 H H := OldB.refl _ H
  have hg := rb.lt
  have fr : Fr g (.slice none 0 0) H H := Fr.refl _ _ _
  have hle := rb.le
  refine KC.sr (KL.fin 1 rfl (KQ.sr (KL.fin 1 rfl (KQ.seq (KC.seq (KC.sr (KL.run 1 rfl ?_)))))))
  refine KL.callX rfl rfl rfl rfl Tryd.call100 rfl rfl rfl (bu32_any rb) ?_ ?_
  · rintro vx H1 ⟨ex, hx1, hx2, hx3⟩
    refine KQ.panThen ?_
    refine KQ.panThen ?_
    exact KQ.pan (⟨_, Bn.m_e (Bn.b_e1 hx1), hx2, fr.thenN hx3⟩)
  rintro _ H2 ⟨n0, k0, v0, hp0, rfl, hn0, rb2, f8_⟩
  have zf_H2 := f8_.1
  have o0 := o0.trans (f8_.low (Nat.zero_le _) (Nat.zero_le _))
  have fr := fr.thenN f8_
  have rb := rb2
  have zrd := rb.lt
  have fn8 := f8_
  dsimp only [InR] at hn0
  refine KL.fin 1 rfl (KQ.seq (KC.block ?_))
  refine KC.loopD (κ := List Elm × Nat × Int × Value × Value) [9, 10, 13, 14, 15, 16, 17, 18, 5, 11, 12, 6] (fun k => [(5, k.2.2.2.1), (6, .int .u32 k.2.2.1)]) (fun k Hl => RB Hl g k.2.2.2.2 (l.drop (k0 + k.2.1)) ∧ LS 3 EElm 62 (Array.size H) Hl k.2.2.2.1 k.1 ∧ Isp.Pre Bn.elmP n0.toNat (l.drop k0) k.2.2.1.toNat k.1 k.2.1 ∧ Fr g (.slice none 0 0) H Hl ∧ 0 ≤ k.2.2.1 ∧ k.1.length + k.2.2.1.toNat = n0.toNat) (fun k => k.2.2.1.toNat) ([], 0, n0, .slice none 0 0, v0) ?_ ?_ ?_
  · exact Sub.all rfl
  · exact ⟨rb.cast (by simp only [List.drop_drop, Nat.add_assoc, Nat.add_zero]), LS.nil _ _ _ _ _, Isp.Pre.start _ _ _, fr, hn0.1, by simp⟩
  rintro ⟨acc, k, m, vo, vr⟩ H3 ⟨rb, ls, hpre, fr, hm0, hlen⟩
  dsimp only at rb ls hpre hm0 hlen
  have zrd := rb.lt
  have zfr := fr.1
  have o0 : OldB 0 H H3 := fr.low (Nat.zero_le _) (Nat.zero_le _)
  refine KC.seq (KC.sr (KL.fin 2 rfl (KQ.seq ?_)))
  refine KC.iq rfl ?_ ?_
  · intro hc10
    try dsimp only at hc10
    refine KC.skip (KQ.seq (KC.seq (KC.block (KC.region (KL.run 3 rfl ?_)))))
    have hvo := ls.w.lt.imp id (fun h => h.2)
    have hm : m.toNat = (m - 1).toNat + 1 := by omega
    rw [hm] at hpre
    refine KL.callX rfl rfl rfl rfl Tryd.call109 rfl rfl rfl (belem_any rb) ?_ ?_
    · rintro vx H4 ⟨ex, hx1, hx2, hx3⟩
      refine KQ.panBlock ?_
      refine KQ.panThen ?_
      refine KQ.panThen ?_
      refine KQ.panBlock ?_
      refine KQ.panThen ?_
      exact KQ.pan (⟨_, Bn.m_e (Bn.b_e2 hp0 (hpre.fail (by rw [List.drop_drop]; exact hx1))), hx2, fr.thenN hx3⟩)
    rintro _ H5 ⟨x, kx, vx, hpx, ⟨a, b, rfl, ra, rb_, hr⟩, rb2, f9_⟩
    have zf_H5 := f9_.1
    have o0 := o0.trans (f9_.low (Nat.zero_le _) (Nat.zero_le _))
    have ls := ls.frT f9_ (by omega)
    have fr := fr.thenN f9_
    have rb := rb2
    have zrd := rb.lt
    have fn9 := f9_
    have rwx := RW.refl (Array.size H3) H5
    refine KL.m (M.lit rfl Tryd.underlying29 zs62 (by decide) rfl rfl rfl) rfl ?_
    rintro _ H6 ⟨rfl, n6⟩
    have z6 := n6.2.1
    have o0 := o0.trans ((n6.1).b (by omega))
    have ls := ls.old n6.1
    have fr := fr.old n6.1
    have rb := rb.old n6.1
    have rwx := rwx.old n6.1
    have b6 := n6.2.2
    have wo := ls.w
    have se : Sl 3 (FK EElm H6 (vblock vo :: List.range (Array.size H))) H6 _ [x] := Sl.lit1N n6 rfl (by decide) (fun Hx kx_ => ⟨a, b, rfl, fk_row ra rwx hvo (by omega) (by omega) Hx kx_, fk_row rb_ rwx hvo (by omega) (by omega) Hx kx_, hr⟩)
    have lt7 := wo.lt
    refine KL.m (M.appendE rfl Tryd.underlying29 inf62 rfl (by decide) rfl rfl wo (se) (by omega) (by simp only [List.length_cons, List.length_nil]; omega) (by unfold maxLen; simp only [List.length_cons, List.length_nil]; omega)) rfl ?_
    rintro vn H7 ⟨w7, g7, nx7⟩
    try dsimp only at g7 nx7
    have ob7 := g7.oldBE wo (by omega)
    have o0 := o0.trans (ob7.mono (by omega))
    have z7 := ob7.1
    have fr := (by exact fr.grownN g7 (lt7.imp id (fun h => by omega)))
    have rb := rb.grownT g7 (lt7.imp id (fun h => by omega))
    have wo := w7
    have ls : LS 3 EElm 62 (Array.size H) H7 vn (acc ++ [x]) := ⟨wo⟩
    refine KL.fin 1 rfl (KQ.normBlock (KQ.r (KL.run 1 rfl ?_)))
    refine KL.q (R.sub rfl rfl rfl (by dsimp only [InR]; omega)) rfl ?_
    refine KL.fin 1 rfl ?_
    refine KQ.again ((acc ++ [x], k + kx, m - 1, vn, vx)) ?_ ?_ ?_
    · exact Sub.all rfl
    · show (m - 1).toNat < m.toNat; omega
    exact ⟨rb.cast (by simp only [List.drop_drop, Nat.add_assoc, Nat.add_zero]), ls, hpre.step (by rw [List.drop_drop]; exact hpx), fr, by show 0 ≤ m - 1; omega, by show (acc ++ [x]).length + (m - 1).toNat = _; rw [List.length_append, List.length_singleton]; omega⟩
  intro hc10
  try dsimp only at hc10
  refine KC.exit (KQ.exitThen (KQ.exitThen (KQ.hit (KQ.sr (KL.fin 2 rfl (KQ.seq (KC.ret (KQ.ofRetX (KQ.toX (KQ.fin1 Tryd.results108 rfl ?_))))))))))
  have h0 : m.toNat = 0 := by omega
  rw [h0] at hpre
  exact ⟨_, _, _, Bn.m_ok (Bn.b_ok hp0 hpre.done), ls.row (by decide), rb, fr⟩
theorem RW.grownT {x : Value} {N : Nat} {A H H' : Heap} (h : RW N A H) (gr : Grown x H H') (hlt : x = .slice none 0 0 ∨ H.size ≤ vblock x) : RW N A H' :=
  ⟨⟨Nat.le_trans h.k.1 gr.1, fun i hi hn => (gr.2 i (by have := h.k.1; omega) (hlt.imp id (fun k => by have := h.k.1; omega))).trans (h.k.2 i hi hn)⟩⟩
theorem bdata_any {H : Heap} {g : Nat} {v : Value} {l : List Int} (rb : RB H g v l) : CtX Tryd.prog 113 [.pointer (some ⟨g, 0, none⟩)] H (fun u H' => ∃ x k v', Bn.datP l = .ok (x, k) ∧ (∃ a b, u = .agg [.int .u32 x.1, a, b].toArray ∧ RowS 5 EIns H.size H' a x.2.1 ∧ RowS 1 (EInt .u8) H.size H' b x.2.2 ∧ InR .u32 x.1) ∧ RB H' g v' (l.drop k) ∧ Fr g (.slice none 0 0) H H') (fun q H' => ∃ e, Bn.datP l = .error e ∧ q = failB e ∧ Fr g (.slice none 0 0) H H') := by
  refine CtX.mk Tryd.func113 rfl Tryd.ntmps113 rfl ?_
  intro W0 hW0
  have o0 : OldB 0 H H := OldB.refl _ H
  have hg := rb.lt
  have fr : Fr g (.slice none 0 0) H H := Fr.refl _ _ _
  have hle := rb.le
  refine KC.sr ?_
  refine KL.m (M.alloc rfl zr64 rfl) rfl ?_
  rintro _ H1 ⟨rfl, n1⟩
  have z1 := n1.2.1
  have o0 := o0.trans ((n1.1).b (by omega))
  have rb := rb.old n1.1
  have fr := fr.old n1.1
  have b1 := n1.2.2
  have br := b1
  refine KL.nil (KQ.sr (KL.run 1 rfl ?_))
  refine KL.callX rfl rfl rfl rfl Tryd.call100 rfl rfl rfl (bu32_any rb) ?_ ?_
  · rintro vx H2 ⟨ex, hx1, hx2, hx3⟩
    refine KQ.panThen ?_
    exact KQ.pan (⟨_, Bn.b_e1 hx1, hx2, fr.thenN hx3⟩)
  rintro _ H3 ⟨tb, k0, v0, hp0, rfl, htb, rb2, f10_⟩
  have zf_H3 := f10_.1
  have o0 := o0.trans (f10_.low (Nat.zero_le _) (Nat.zero_le _))
  have fr := fr.thenN f10_
  have br := f10_.at_ br (by omega)
  have rb := rb2
  have zrd := rb.lt
  have fn10 := f10_
  refine KL.b0 bt64 rfl rfl ?_
  refine KL.m (M.alloc rfl zr64 rfl) rfl ?_
  rintro _ H4 ⟨rfl, n4⟩
  have z4 := n4.2.1
  have o0 := o0.trans ((n4.1).b (by omega))
  have fr := fr.old n4.1
  have br := (n4.1).blk br
  have rb := rb.old n4.1
  have b4 := n4.2.2
  have bx := b4
  refine KL.opS (S.storeAgg rfl sz64 rfl rfl (rfl) (by intro z hz; simp only [List.mem_cons, List.not_mem_nil, or_false] at hz; rcases hz with rfl | rfl | rfl <;> first | rfl) bx (by simp)) rfl rfl ?_
  rintro H5 ⟨u5, b5⟩
  have o0 := o0.trans (OldB.upd u5 (by omega))
  have zu5 := u5.1
  have fr := (by exact fr.updN u5 (by omega))
  have br := ((u5).2 _ (by omega)).trans br
  have rb := rb.updT u5 (by omega)
  have bx := b5
  rw [over_all (by rfl)] at bx
  refine KL.nil (KQ.sr (KL.run 1 rfl ?_))
  refine KL.callX rfl rfl rfl rfl Tryd.call138 rfl rfl rfl (bexpr_any rb) ?_ ?_
  · rintro vx H6 ⟨ex, hx1, hx2, hx3⟩
    refine KQ.panThen ?_
    exact KQ.pan (⟨_, Bn.b_e2 hp0 (Bn.b_e1 hx1), hx2, fr.thenN hx3⟩)
  rintro ua H7 ⟨is, k1, v1, hp1, ra, rb2, f11_⟩
  have zf_H7 := f11_.1
  have o0 := o0.trans (f11_.low (Nat.zero_le _) (Nat.zero_le _))
  have fr := fr.thenN f11_
  have br := f11_.at_ br (by omega)
  have bx := f11_.at_ bx (by omega)
  have rb := rb2
  have zrd := rb.lt
  have fn11 := f11_
  have rwra := RW.refl (Array.size H5) H7
  refine KL.run 1 rfl ?_
  refine KL.opS (S.store rfl sz52 rfl rfl ra.cells1 ra.one bx (by simp)) rfl rfl ?_
  rintro H8 ⟨u8, b8⟩
  have o0 := o0.trans (OldB.upd u8 (by omega))
  have zu8 := u8.1
  have fr := (by exact fr.updN u8 (by omega))
  have br := ((u8).2 _ (by omega)).trans br
  have rb := rb.updT u8 (by omega)
  have rwra := rwra.updT u8 (by omega)
  have bx := b8
  have bx : H8[(Array.size H3)]? = some (.cells [.int .u32 tb, ua, .slice none 0 0].toArray 64 (0, 0)) := bx
  refine KL.nil (KQ.sr (KL.run 1 rfl ?_))
  refine KL.callX rfl rfl rfl rfl Tryd.call139 rfl rfl rfl (bbytes_any rb) ?_ ?_
  · rintro vx H9 ⟨ex, hx1, hx2, hx3⟩
    refine KQ.panThen ?_
    exact KQ.pan (⟨_, Bn.b_e2 hp0 (Bn.b_e2 hp1 hx1), hx2, fr.thenN hx3⟩)
  rintro uc H10 ⟨bs, k2, v2, hp2, hsu, rb2, f12_⟩
  have zf_H10 := f12_.1
  have o0 := o0.trans (f12_.low (Nat.zero_le _) (Nat.zero_le _))
  have fr := fr.thenN f12_
  have br := f12_.at_ br (by omega)
  have bx := f12_.at_ bx (by omega)
  have rwra := rwra.frT f12_ (by omega)
  have rb := rb2
  have zrd := rb.lt
  have fn12 := f12_
  have hbl := Bn.byt_le hp2
  have s1 : Sl 1 (EInt .u8) H10 uc bs := hsu _ (OldB.refl _ _)
  have wn : Own 1 (EInt .u8) 5 #[] (Array.size H10) H10 (.slice none 0 0) [] := Own.nil _ _ _ _ _ _
  have hsz : bs.length ≤ 1000000 := by have := hbl.1; simp only [List.length_drop] at this; omega
  have lt11 := wn.lt
  refine KL.m (M.append rfl Tryd.underlying36 inf5 rfl (by decide) rfl rfl wn s1 (fun _ _ h _ => h) (by omega) (by simp; omega) (by unfold maxLen; simp; omega)) rfl ?_
  rintro ub H11 ⟨w11, g11⟩
  have ob11 := g11.oldB wn (by omega)
  have o0 := o0.trans (ob11.mono (by omega))
  have z11 := ob11.1
  have fr := (by exact fr.grownN g11 (lt11.imp id (fun h => by omega)))
  have br := (g11.2 _ (blk_lt br) (by exact .inl rfl)).trans br
  have bx := (g11.2 _ (blk_lt bx) (by exact .inl rfl)).trans bx
  have rwra := rwra.grownT g11 (lt11.imp id (fun h => by omega))
  have rb := rb.grownT g11 (lt11.imp id (fun h => by omega))
  have wn := w11
  have rb_ : RowS 1 (EInt .u8) (Array.size H10) H11 ub bs := fk_own wn (fun q hq => List.mem_range.1 hq)
  have rwrb_ := RW.refl (Array.size H10) H11
  refine KL.run 1 rfl ?_
  refine KL.opS (S.store rfl sz36 rfl rfl rb_.cells1 rb_.one bx (by simp)) rfl rfl ?_
  rintro H12 ⟨u12, b12⟩
  have o0 := o0.trans (OldB.upd u12 (by omega))
  have zu12 := u12.1
  have fr := (by exact fr.updN u12 (by omega))
  have br := ((u12).2 _ (by omega)).trans br
  have rwra := rwra.updT u12 (by omega)
  have rb := rb.updT u12 (by omega)
  have rwrb_ := rwrb_.updT u12 (by omega)
  have bx := b12
  have bx : H12[(Array.size H3)]? = some (.cells [.int .u32 tb, ua, ub].toArray 64 (0, 0)) := bx
  refine KL.nil (KQ.sr (KL.lda rfl (cells_of bx) rfl ?_))
  refine KL.opS (S.storeAgg rfl sz64 rfl rfl (rfl) (by intro z hz; simp only [List.mem_cons, List.not_mem_nil, or_false] at hz; rcases hz with rfl | rfl | rfl <;> first | rfl | exact ra.one | exact rb_.one) br (by simp)) rfl rfl ?_
  rintro H13 ⟨u13, b13⟩
  have o0 := o0.trans (OldB.upd u13 (by omega))
  have zu13 := u13.1
  have fr := (by exact fr.updN u13 (by omega))
  have bx := ((u13).2 _ (by omega)).trans bx
  have rwra := rwra.updT u13 (by omega)
  have rb := rb.updT u13 (by omega)
  have rwrb_ := rwrb_.updT u13 (by omega)
  have br := b13
  rw [over_all (by rfl)] at br
  refine KL.nil (KQ.seq (KC.ret (KQ.ofRetX (KQ.toX ?_))))
  refine KQ.finCell Tryd.results113 rfl Tryd.underlying64 rfl sz64 (cells_of br) (rfl) ?_
  exact ⟨_, _, _, Bn.b_ok hp0 (Bn.b_ok hp1 hp2), ⟨_, _, rfl, ra.to rwra (by omega), rb_.to rwrb_ (by omega), htb⟩, rb.cast (by simp only [List.drop_drop, Nat.add_assoc, Nat.add_zero]), fr⟩
theorem listD_any {H : Heap} {g : Nat} {v : Value} {l : List Int} (rb : RB H g v l) : CtX Tryd.prog 112 [.pointer (some ⟨g, 0, none⟩), .func (.func 113) #[] #[]] H (fun u H' => ∃ x k v', Bn.lstP Bn.datP l = .ok (x, k) ∧ RowS 3 EDat H.size H' u x ∧ RB H' g v' (l.drop k) ∧ Fr g (.slice none 0 0) H H') (fun q H' => ∃ e, Bn.lstP Bn.datP l = .error e ∧ q = failB e ∧ Fr g (.slice none 0 0) H H') := by
  refine CtX.mk Tryd.func112 rfl Tryd.ntmps112 rfl ?_
  intro W0 hW0
  have o0 : OldB 0 H H := OldB.refl _ H
  have hg := rb.lt
  have fr : Fr g (.slice none 0 0) H H := Fr.refl _ _ _
  have hle := rb.le
  refine KC.sr (KL.fin 1 rfl (KQ.sr (KL.fin 1 rfl (KQ.seq (KC.seq (KC.sr (KL.run 1 rfl ?_)))))))
  refine KL.callX rfl rfl rfl rfl Tryd.call100 rfl rfl rfl (bu32_any rb) ?_ ?_
  · rintro vx H1 ⟨ex, hx1, hx2, hx3⟩
    refine KQ.panThen ?_
    refine KQ.panThen ?_
    exact KQ.pan (⟨_, Bn.m_e (Bn.b_e1 hx1), hx2, fr.thenN hx3⟩)
  rintro _ H2 ⟨n0, k0, v0, hp0, rfl, hn0, rb2, f13_⟩
  have zf_H2 := f13_.1
  have o0 := o0.trans (f13_.low (Nat.zero_le _) (Nat.zero_le _))
  have fr := fr.thenN f13_
  have rb := rb2
  have zrd := rb.lt
  have fn13 := f13_
  dsimp only [InR] at hn0
  refine KL.fin 1 rfl (KQ.seq (KC.block ?_))
  refine KC.loopD (κ := List Elm × Nat × Int × Value × Value) [9, 10, 13, 14, 15, 16, 17, 18, 5, 11, 12, 6] (fun k => [(5, k.2.2.2.1), (6, .int .u32 k.2.2.1)]) (fun k Hl => RB Hl g k.2.2.2.2 (l.drop (k0 + k.2.1)) ∧ LS 3 EDat 64 (Array.size H) Hl k.2.2.2.1 k.1 ∧ Isp.Pre Bn.datP n0.toNat (l.drop k0) k.2.2.1.toNat k.1 k.2.1 ∧ Fr g (.slice none 0 0) H Hl ∧ 0 ≤ k.2.2.1 ∧ k.1.length + k.2.2.1.toNat = n0.toNat) (fun k => k.2.2.1.toNat) ([], 0, n0, .slice none 0 0, v0) ?_ ?_ ?_
  · exact Sub.all rfl
  · exact ⟨rb.cast (by simp only [List.drop_drop, Nat.add_assoc, Nat.add_zero]), LS.nil _ _ _ _ _, Isp.Pre.start _ _ _, fr, hn0.1, by simp⟩
  rintro ⟨acc, k, m, vo, vr⟩ H3 ⟨rb, ls, hpre, fr, hm0, hlen⟩
  dsimp only at rb ls hpre hm0 hlen
  have zrd := rb.lt
  have zfr := fr.1
  have o0 : OldB 0 H H3 := fr.low (Nat.zero_le _) (Nat.zero_le _)
  refine KC.seq (KC.sr (KL.fin 2 rfl (KQ.seq ?_)))
  refine KC.iq rfl ?_ ?_
  · intro hc10
    try dsimp only at hc10
    refine KC.skip (KQ.seq (KC.seq (KC.block (KC.region (KL.run 3 rfl ?_)))))
    have hvo := ls.w.lt.imp id (fun h => h.2)
    have hm : m.toNat = (m - 1).toNat + 1 := by omega
    rw [hm] at hpre
    refine KL.callX rfl rfl rfl rfl Tryd.call113 rfl rfl rfl (bdata_any rb) ?_ ?_
    · rintro vx H4 ⟨ex, hx1, hx2, hx3⟩
      refine KQ.panBlock ?_
      refine KQ.panThen ?_
      refine KQ.panThen ?_
      refine KQ.panBlock ?_
      refine KQ.panThen ?_
      exact KQ.pan (⟨_, Bn.m_e (Bn.b_e2 hp0 (hpre.fail (by rw [List.drop_drop]; exact hx1))), hx2, fr.thenN hx3⟩)
    rintro _ H5 ⟨x, kx, vx, hpx, ⟨a, b, rfl, ra, rb_, hr⟩, rb2, f14_⟩
    have zf_H5 := f14_.1
    have o0 := o0.trans (f14_.low (Nat.zero_le _) (Nat.zero_le _))
    have ls := ls.frT f14_ (by omega)
    have fr := fr.thenN f14_
    have rb := rb2
    have zrd := rb.lt
    have fn14 := f14_
    have rwx := RW.refl (Array.size H3) H5
    refine KL.m (M.lit rfl Tryd.underlying31 zs64 (by decide) rfl rfl rfl) rfl ?_
    rintro _ H6 ⟨rfl, n6⟩
    have z6 := n6.2.1
    have o0 := o0.trans ((n6.1).b (by omega))
    have ls := ls.old n6.1
    have fr := fr.old n6.1
    have rb := rb.old n6.1
    have rwx := rwx.old n6.1
    have b6 := n6.2.2
    have wo := ls.w
    have se : Sl 3 (FK EDat H6 (vblock vo :: List.range (Array.size H))) H6 _ [x] := Sl.lit1N n6 rfl (by decide) (fun Hx kx_ => ⟨a, b, rfl, fk_row ra rwx hvo (by omega) (by omega) Hx kx_, fk_row rb_ rwx hvo (by omega) (by omega) Hx kx_, hr⟩)
    have lt7 := wo.lt
    refine KL.m (M.appendE rfl Tryd.underlying31 inf64 rfl (by decide) rfl rfl wo (se) (by omega) (by simp only [List.length_cons, List.length_nil]; omega) (by unfold maxLen; simp only [List.length_cons, List.length_nil]; omega)) rfl ?_
    rintro vn H7 ⟨w7, g7, nx7⟩
    try dsimp only at g7 nx7
    have ob7 := g7.oldBE wo (by omega)
    have o0 := o0.trans (ob7.mono (by omega))
    have z7 := ob7.1
    have fr := (by exact fr.grownN g7 (lt7.imp id (fun h => by omega)))
    have rb := rb.grownT g7 (lt7.imp id (fun h => by omega))
    have wo := w7
    have ls : LS 3 EDat 64 (Array.size H) H7 vn (acc ++ [x]) := ⟨wo⟩
    refine KL.fin 1 rfl (KQ.normBlock (KQ.r (KL.run 1 rfl ?_)))
    refine KL.q (R.sub rfl rfl rfl (by dsimp only [InR]; omega)) rfl ?_
    refine KL.fin 1 rfl ?_
    refine KQ.again ((acc ++ [x], k + kx, m - 1, vn, vx)) ?_ ?_ ?_
    · exact Sub.all rfl
    · show (m - 1).toNat < m.toNat; omega
    exact ⟨rb.cast (by simp only [List.drop_drop, Nat.add_assoc, Nat.add_zero]), ls, hpre.step (by rw [List.drop_drop]; exact hpx), fr, by show 0 ≤ m - 1; omega, by show (acc ++ [x]).length + (m - 1).toNat = _; rw [List.length_append, List.length_singleton]; omega⟩
  intro hc10
  try dsimp only at hc10
  refine KC.exit (KQ.exitThen (KQ.exitThen (KQ.hit (KQ.sr (KL.fin 2 rfl (KQ.seq (KC.ret (KQ.ofRetX (KQ.toX (KQ.fin1 Tryd.results112 rfl ?_))))))))))
  have h0 : m.toNat = 0 := by omega
  rw [h0] at hpre
  exact ⟨_, _, _, Bn.m_ok (Bn.b_ok hp0 hpre.done), ls.row (by decide), rb, fr⟩
end Go.Proofs.YtldmfchamcpmmaaDoor
namespace Go.Proofs.YtldmfchamcpmmaaDoor
open Go Go.RowKit
set_option linter.unusedVariables false
set_option linter.unusedSimpArgs false
set_option linter.unnecessarySimpa false
theorem bcode_any {H : Heap} {g : Nat} {v : Value} {l : List Int} (rb : RB H g v l) : CtX Tryd.prog 111 [.pointer (some ⟨g, 0, none⟩)] H (fun u H' => ∃ x k v', Bn.codP l = .ok (x, k) ∧ (∃ a b, u = .agg [a, b].toArray ∧ RowS 2 ELoc H.size H' a x.1 ∧ RowS 5 EIns H.size H' b x.2) ∧ RB H' g v' (l.drop k) ∧ Fr g (.slice none 0 0) H H') (fun q H' => ∃ e, Bn.codP l = .error e ∧ q = failB e ∧ Fr g (.slice none 0 0) H H') := by
  refine CtX.mk Tryd.func111 rfl Tryd.ntmps111 rfl ?_
  intro W0 hW0
  have o0 : OldB 0 H H := OldB.refl _ H
  have hg := rb.lt
  have fr : Fr g (.slice none 0 0) H H := Fr.refl _ _ _
  have hle := rb.le
  refine KC.sr ?_
  refine KL.m (M.alloc rfl zr58 rfl) rfl ?_
  rintro _ H1 ⟨rfl, n1⟩
  have z1 := n1.2.1
  have o0 := o0.trans ((n1.1).b (by omega))
  have rb := rb.old n1.1
  have fr := fr.old n1.1
  have b1 := n1.2.2
  have br := b1
  refine KL.nil (KQ.sr (KL.run 1 rfl ?_))
  refine KL.callX rfl rfl rfl rfl Tryd.call139 rfl rfl rfl (bbytes_any rb) ?_ ?_
  · rintro vx H2 ⟨ex, hx1, hx2, hx3⟩
    refine KQ.panThen ?_
    exact KQ.pan (⟨_, Bn.cod_e0 hx1, hx2, fr.thenN hx3⟩)
  rintro uc H3 ⟨bs, k0, v0, hp0, hsu, rb2, f1_⟩
  have zf_H3 := f1_.1
  have o0 := o0.trans (f1_.low (Nat.zero_le _) (Nat.zero_le _))
  have fr := fr.thenN f1_
  have br := f1_.at_ br (by omega)
  have rb := rb2
  have zrd := rb.lt
  have fn1 := f1_
  have hbl := Bn.byt_le hp0
  refine KL.bd bt168 rfl ⟨(hsu _ (OldB.refl _ _)).cells1, trivial⟩ ?_
  have ob2 : Old H3 H3 := Old.refl _
  refine KL.m (M.box rfl rfl rfl) rfl ?_
  rintro _ H4 ⟨rfl, n4⟩
  have z4 := n4.2.1
  have o0 := o0.trans ((n4.1).b (by omega))
  have fr := fr.old n4.1
  have br := (n4.1).blk br
  have rb := rb.old n4.1
  have b4 := n4.2.2
  have b2 := b4
  have ro : RB H4 (Array.size H3) uc bs := ⟨b2, fun Hx o => hsu Hx ((n4.1.b (Nat.le_of_lt (by omega))).trans (o.mono (by omega))), by have := hbl.1; omega⟩
  have zro := ro.lt
  refine KL.fin 1 rfl (KQ.sr (KL.run 1 rfl ?_))
  refine KL.callX rfl rfl rfl rfl Tryd.call140 rfl rfl rfl (listL_any ro) ?_ ?_
  · rintro vx H5 ⟨ex, hx1, hx2, hx3⟩
    refine KQ.panThen ?_
    exact KQ.pan (⟨_, Bn.cod_e hp0 (Bn.whole_e (Bn.cq_e hx1)), hx2, fr.low2 hx3 (by omega) (.inl rfl)⟩)
  rintro ua H6 ⟨ls, k1, v1, hp1, ra, ro2, f2_⟩
  have zf_H6 := f2_.1
  have o0 := o0.trans (f2_.low (Nat.zero_le _) (Nat.zero_le _))
  have br := f2_.at_ br (by omega)
  have rb := rb.frT f2_ (by omega)
  have ro := ro2
  have zro := ro.lt
  have fr := fr.low2 f2_ (by omega) (.inl rfl)
  have rwra := RW.refl (Array.size H4) H6
  have hll := Bn.lst_len hp1
  refine KL.bd bt58 rfl ⟨ra.cells1, trivial⟩ ?_
  refine KL.m (M.alloc rfl zr58 rfl) rfl ?_
  rintro _ H7 ⟨rfl, n7⟩
  have z7 := n7.2.1
  have o0 := o0.trans ((n7.1).b (by omega))
  have br := (n7.1).blk br
  have rb := rb.old n7.1
  have ro := ro.old n7.1
  have fr := fr.old n7.1
  have rwra := rwra.old n7.1
  have b7 := n7.2.2
  have bx := b7
  refine KL.opS (S.storeAgg rfl sz58 rfl rfl (rfl) (by intro z hz; simp only [List.mem_cons, List.not_mem_nil, or_false] at hz; rcases hz with rfl | rfl <;> first | rfl | exact ra.one) bx (by simp)) rfl rfl ?_
  rintro H8 ⟨u8, b8⟩
  have o0 := o0.trans (OldB.upd u8 (by omega))
  have zu8 := u8.1
  have br := ((u8).2 _ (by omega)).trans br
  have rb := rb.updT u8 (by omega)
  have ro := ro.updT u8 (by omega)
  have fr := (by exact fr.updN u8 (by omega))
  have rwra := rwra.updT u8 (by omega)
  have bx := b8
  rw [over_all (by rfl)] at bx
  refine KL.nil (KQ.sr (KL.fin 1 rfl (KQ.seq (KC.seq (KC.sr (KL.run 1 rfl (KL.ld rfl (cell_of bx rfl) ?_)))))))
  have hlr : ∀ x ∈ ls, 0 ≤ x.1 ∧ x.1 ≤ 4294967295 := by
    intro x hx
    obtain ⟨j, hj, rfl⟩ := List.getElem_of_mem hx
    have h := ((ra _ rwra.k).locAt j hj).2.1
    rw [List.getD_eq_getElem?_getD, List.getElem?_eq_getElem hj] at h
    exact h
  refine KL.q (R.lenS rfl Tryd.underlying56 rfl (ra _ rwra.k)) rfl (KL.fin 1 rfl (KQ.seq (KC.block ?_)))
  refine KC.loopD (κ := Nat) [19, 20, 21, 7, 22, 23, 24, 25, 26, 5, 27, 18] (fun k => [(5, .int .u64 (En.locS (ls.take k))), (18, .int .i64 (k : Nat))]) (fun k Hl => k ≤ ls.length ∧ RB Hl g v0 (l.drop k0) ∧ RB Hl (Array.size H3) v1 (bs.drop k1) ∧ RW (Array.size H4) H6 Hl ∧ Hl[(Array.size H6)]? = some (.cells [ua, .slice none 0 0].toArray 58 (0, 0)) ∧ Hl[Array.size H]? = some (.cells [.slice none 0 0, .slice none 0 0].toArray 58 (0, 0)) ∧ Fr g (.slice none 0 0) H Hl ∧ Array.size H8 ≤ Hl.size) (fun k => ls.length - k) 0 ?_ ?_ ?_
  · exact Sub.all rfl
  · exact ⟨Nat.zero_le _, rb, ro, rwra, bx, br, fr, Nat.le_refl _⟩
  rintro k H9 ⟨hk, rb, ro, rwra, bx, br, fr, hzl⟩
  have zfr := fr.1
  have o0 : OldB 0 H H9 := fr.low (Nat.zero_le _) (Nat.zero_le _)
  have zrd := rb.lt
  have zro := ro.lt
  refine KC.sr (KL.fin 1 rfl (KQ.seq (KC.seq ?_)))
  refine KC.iq rfl ?_ ?_
  · intro hc19
    have hk2 : k < ls.length := by omega
    obtain ⟨hcx, hy1, hy2⟩ := (ra _ rwra.k).locAt k hk2
    have hls := En.locS_rng (l := ls.take k) (fun x hx => hlr x (List.mem_of_mem_take hx))
    rw [List.length_take] at hls
    dsimp only [InR] at hy1
    refine KC.skip (KQ.seq (KC.seq (KC.block (KC.sr ?_))))
    refine KL.q (R.index (j := k) rfl Tryd.underlying56 sz60 rfl rfl (ra _ rwra.k) rfl (by omega)) rfl ?_
    refine KL.lda rfl hcx rfl ?_
    refine KL.m (M.alloc rfl zr60 rfl) rfl ?_
    rintro _ H10 ⟨rfl, n10⟩
    have z10 := n10.2.1
    have o0 := o0.trans ((n10.1).b (by omega))
    have rb := rb.old n10.1
    have ro := ro.old n10.1
    have rwra := rwra.old n10.1
    have bx := (n10.1).blk bx
    have br := (n10.1).blk br
    have fr := fr.old n10.1
    have b10 := n10.2.2
    have bv := b10
    refine KL.opS (S.storeAgg rfl sz60 rfl rfl (rfl) (by intro z hz; simp only [List.mem_cons, List.not_mem_nil, or_false] at hz; rcases hz with rfl | rfl <;> first | rfl) bv (by simp)) rfl rfl ?_
    rintro H11 ⟨u11, b11⟩
    have o0 := o0.trans (OldB.upd u11 (by omega))
    have zu11 := u11.1
    have rb := rb.updT u11 (by omega)
    have ro := ro.updT u11 (by omega)
    have rwra := rwra.updT u11 (by omega)
    have bx := ((u11).2 _ (by omega)).trans bx
    have br := ((u11).2 _ (by omega)).trans br
    have fr := (by exact fr.updN u11 (by omega))
    have bv := b11
    rw [over_all (by rfl)] at bv
    refine KL.nil (KQ.r (KL.run 2 rfl (KL.ld rfl (cell_of bv rfl) ?_)))
    refine KL.q (R.convI rfl Tryd.underlying28 Tryd.underlying101 rfl (by dsimp only [InR] at *; omega)) rfl ?_
    refine KL.q ((R.add rfl rfl rfl (by dsimp only [InR]; omega)).val (congrArg (Value.int .u64) (En.locS_step hk2).symm)) rfl ?_
    refine KL.fin 1 rfl (KQ.normBlock (KQ.r ?_))
    refine KL.q ((R.add rfl rfl rfl (by dsimp only [InR]; omega)).val (congrArg (Value.int .i64) (show (k : Int) + 1 = ((k + 1 : Nat) : Int) by omega))) rfl ?_
    refine KL.fin 1 rfl ?_
    refine KQ.again (k + 1) ?_ ?_ ?_
    · exact Sub.all rfl
    · omega
    exact ⟨by omega, rb, ro, rwra, bx, br, fr, by omega⟩
  intro hc19
  have hkl : k = ls.length := by omega
  subst hkl
  rw [List.take_length]
  refine KC.exit (KQ.exitThen (KQ.exitThen (KQ.hit (KQ.sr (KL.run 2 rfl ?_)))))
  refine KL.callX rfl rfl rfl rfl Tryd.call55 rfl rfl rfl (must_any _) ?_ ?_
  · rintro vx _ ⟨rfl, hb, rfl⟩
    simp only [sd] at hb
    refine KQ.panThen ?_
    exact KQ.pan (⟨_, Bn.cod_e hp0 (Bn.whole_e (Bn.cq_s hp1 (by omega))), rfl, fr⟩)
  rintro _ _ ⟨rfl, hb, rfl⟩
  simp only [sd] at hb
  refine KL.nil (KQ.sr (KL.run 1 rfl ?_))
  refine KL.callX rfl rfl rfl rfl Tryd.call138 rfl rfl rfl (bexpr_any ro) ?_ ?_
  · rintro vx H13 ⟨ex, hx1, hx2, hx3⟩
    refine KQ.panThen ?_
    exact KQ.pan (⟨_, Bn.cod_e hp0 (Bn.whole_e (Bn.cq_e2 hp1 hb hx1)), hx2, fr.low2 hx3 (by omega) (.inl rfl)⟩)
  rintro ub H14 ⟨is, k2, v2, hp2, rb_, ro2, f3_⟩
  have zf_H14 := f3_.1
  have o0 := o0.trans (f3_.low (Nat.zero_le _) (Nat.zero_le _))
  have rb := rb.frT f3_ (by omega)
  have rwra := rwra.frT f3_ (by omega)
  have bx := f3_.at_ bx (by omega)
  have br := f3_.at_ br (by omega)
  have ro := ro2
  have zro := ro.lt
  have fr := fr.low2 f3_ (by omega) (.inl rfl)
  have rwrb_ := RW.refl (Array.size H9) H14
  have rwp := rwra
  refine KL.run 1 rfl ?_
  refine KL.opS (S.store rfl sz52 rfl rfl rb_.cells1 rb_.one bx (by simp)) rfl rfl ?_
  rintro H15 ⟨u15, b15⟩
  have o0 := o0.trans (OldB.upd u15 (by omega))
  have zu15 := u15.1
  have rb := rb.updT u15 (by omega)
  have rwra := rwra.updT u15 (by omega)
  have br := ((u15).2 _ (by omega)).trans br
  have ro := ro.updT u15 (by omega)
  have fr := (by exact fr.updN u15 (by omega))
  have rwrb_ := rwrb_.updT u15 (by omega)
  have bx := b15
  have bx : H15[(Array.size H6)]? = some (.cells [ua, ub].toArray 58 (0, 0)) := bx
  refine KL.nil (KQ.sr (KL.run 3 rfl (KL.ld rfl (cell_of ro.b rfl) (KL.q (R.lenS rfl Tryd.underlying36 rfl ro.sl) rfl (KL.run 1 rfl ?_)))))
  refine KL.callX rfl rfl rfl rfl Tryd.call55 rfl rfl rfl (must_any _) ?_ ?_
  · rintro vx _ ⟨rfl, hq, rfl⟩
    simp only [sd] at hq
    refine KQ.panThen ?_
    exact KQ.pan (⟨_, Bn.cod_e hp0 (Bn.whole_l (Bn.cq_ok hp1 hb hp2) (by simp only [List.length_drop] at hq; omega)), rfl, fr⟩)
  rintro _ _ ⟨rfl, hq, rfl⟩
  simp only [sd] at hq
  refine KL.nil (KQ.sr (KL.lda rfl (cells_of bx) rfl ?_))
  refine KL.opS (S.storeAgg rfl sz58 rfl rfl (rfl) (by intro z hz; simp only [List.mem_cons, List.not_mem_nil, or_false] at hz; rcases hz with rfl | rfl <;> first | rfl | exact ra.one | exact rb_.one) br (by simp)) rfl rfl ?_
  rintro H17 ⟨u17, b17⟩
  have o0 := o0.trans (OldB.upd u17 (by omega))
  have zu17 := u17.1
  have rb := rb.updT u17 (by omega)
  have rwra := rwra.updT u17 (by omega)
  have bx := ((u17).2 _ (by omega)).trans bx
  have fr := (by exact fr.updN u17 (by omega))
  have rwrb_ := rwrb_.updT u17 (by omega)
  have br := b17
  rw [over_all (by rfl)] at br
  refine KL.nil (KQ.seq (KC.ret (KQ.ofRetX (KQ.toX ?_))))
  refine KQ.finCell Tryd.results111 rfl Tryd.underlying58 rfl sz58 (cells_of br) (rfl) ?_
  exact ⟨_, _, _, Bn.cod_ok hp0 (Bn.whole_ok (Bn.cq_ok hp1 hb hp2) (by have h4 := (Isp.expr_sound _ _ _ _ _ hp2).2.2; simp only [List.length_drop] at hq h4; omega)), ⟨_, _, rfl, ra.to rwra (by omega), rb_.to rwrb_ (by omega)⟩, rb, fr⟩
theorem listC_any {H : Heap} {g : Nat} {v : Value} {l : List Int} (rb : RB H g v l) : CtX Tryd.prog 110 [.pointer (some ⟨g, 0, none⟩), .func (.func 111) #[] #[]] H (fun u H' => ∃ x k v', Bn.lstP Bn.codP l = .ok (x, k) ∧ RowS 2 ECod H.size H' u x ∧ RB H' g v' (l.drop k) ∧ Fr g (.slice none 0 0) H H') (fun q H' => ∃ e, Bn.lstP Bn.codP l = .error e ∧ q = failB e ∧ Fr g (.slice none 0 0) H H') := by
  refine CtX.mk Tryd.func110 rfl Tryd.ntmps110 rfl ?_
  intro W0 hW0
  have o0 : OldB 0 H H := OldB.refl _ H
  have hg := rb.lt
  have fr : Fr g (.slice none 0 0) H H := Fr.refl _ _ _
  have hle := rb.le
  refine KC.sr (KL.fin 1 rfl (KQ.sr (KL.fin 1 rfl (KQ.seq (KC.seq (KC.sr (KL.run 1 rfl ?_)))))))
  refine KL.callX rfl rfl rfl rfl Tryd.call100 rfl rfl rfl (bu32_any rb) ?_ ?_
  · rintro vx H1 ⟨ex, hx1, hx2, hx3⟩
    refine KQ.panThen ?_
    refine KQ.panThen ?_
    exact KQ.pan (⟨_, Bn.m_e (Bn.b_e1 hx1), hx2, fr.thenN hx3⟩)
  rintro _ H2 ⟨n0, k0, v0, hp0, rfl, hn0, rb2, f4_⟩
  have zf_H2 := f4_.1
  have o0 := o0.trans (f4_.low (Nat.zero_le _) (Nat.zero_le _))
  have fr := fr.thenN f4_
  have rb := rb2
  have zrd := rb.lt
  have fn4 := f4_
  dsimp only [InR] at hn0
  refine KL.fin 1 rfl (KQ.seq (KC.block ?_))
  refine KC.loopD (κ := List Cod × Nat × Int × Value × Value) [9, 10, 13, 14, 15, 16, 17, 18, 5, 11, 12, 6] (fun k => [(5, k.2.2.2.1), (6, .int .u32 k.2.2.1)]) (fun k Hl => RB Hl g k.2.2.2.2 (l.drop (k0 + k.2.1)) ∧ LS 2 ECod 58 (Array.size H) Hl k.2.2.2.1 k.1 ∧ Isp.Pre Bn.codP n0.toNat (l.drop k0) k.2.2.1.toNat k.1 k.2.1 ∧ Fr g (.slice none 0 0) H Hl ∧ 0 ≤ k.2.2.1 ∧ k.1.length + k.2.2.1.toNat = n0.toNat) (fun k => k.2.2.1.toNat) ([], 0, n0, .slice none 0 0, v0) ?_ ?_ ?_
  · exact Sub.all rfl
  · exact ⟨rb.cast (by simp only [List.drop_drop, Nat.add_assoc, Nat.add_zero]), LS.nil _ _ _ _ _, Isp.Pre.start _ _ _, fr, hn0.1, by simp⟩
  rintro ⟨acc, k, m, vo, vr⟩ H3 ⟨rb, ls, hpre, fr, hm0, hlen⟩
  dsimp only at rb ls hpre hm0 hlen
  have zrd := rb.lt
  have zfr := fr.1
  have o0 : OldB 0 H H3 := fr.low (Nat.zero_le _) (Nat.zero_le _)
  refine KC.seq (KC.sr (KL.fin 2 rfl (KQ.seq ?_)))
  refine KC.iq rfl ?_ ?_
  · intro hc10
    try dsimp only at hc10
    refine KC.skip (KQ.seq (KC.seq (KC.block (KC.region (KL.run 3 rfl ?_)))))
    have hvo := ls.w.lt.imp id (fun h => h.2)
    have hm : m.toNat = (m - 1).toNat + 1 := by omega
    rw [hm] at hpre
    refine KL.callX rfl rfl rfl rfl Tryd.call111 rfl rfl rfl (bcode_any rb) ?_ ?_
    · rintro vx H4 ⟨ex, hx1, hx2, hx3⟩
      refine KQ.panBlock ?_
      refine KQ.panThen ?_
      refine KQ.panThen ?_
      refine KQ.panBlock ?_
      refine KQ.panThen ?_
      exact KQ.pan (⟨_, Bn.m_e (Bn.b_e2 hp0 (hpre.fail (by rw [List.drop_drop]; exact hx1))), hx2, fr.thenN hx3⟩)
    rintro _ H5 ⟨x, kx, vx, hpx, ⟨a, b, rfl, ra, rb_⟩, rb2, f5_⟩
    have zf_H5 := f5_.1
    have o0 := o0.trans (f5_.low (Nat.zero_le _) (Nat.zero_le _))
    have ls := ls.frT f5_ (by omega)
    have fr := fr.thenN f5_
    have rb := rb2
    have zrd := rb.lt
    have fn5 := f5_
    have rwx := RW.refl (Array.size H3) H5
    refine KL.m (M.lit rfl Tryd.underlying30 zs58 (by decide) rfl rfl rfl) rfl ?_
    rintro _ H6 ⟨rfl, n6⟩
    have z6 := n6.2.1
    have o0 := o0.trans ((n6.1).b (by omega))
    have ls := ls.old n6.1
    have fr := fr.old n6.1
    have rb := rb.old n6.1
    have rwx := rwx.old n6.1
    have b6 := n6.2.2
    have wo := ls.w
    have se : Sl 2 (FK ECod H6 (vblock vo :: List.range (Array.size H))) H6 _ [x] := Sl.lit1N n6 rfl (by decide) (fun Hx kx_ => ⟨a, b, rfl, fk_row ra rwx hvo (by omega) (by omega) Hx kx_, fk_row rb_ rwx hvo (by omega) (by omega) Hx kx_⟩)
    have lt7 := wo.lt
    refine KL.m (M.appendE rfl Tryd.underlying30 inf58 rfl (by decide) rfl rfl wo (se) (by omega) (by simp only [List.length_cons, List.length_nil]; omega) (by unfold maxLen; simp only [List.length_cons, List.length_nil]; omega)) rfl ?_
    rintro vn H7 ⟨w7, g7, nx7⟩
    try dsimp only at g7 nx7
    have ob7 := g7.oldBE wo (by omega)
    have o0 := o0.trans (ob7.mono (by omega))
    have z7 := ob7.1
    have fr := (by exact fr.grownN g7 (lt7.imp id (fun h => by omega)))
    have rb := rb.grownT g7 (lt7.imp id (fun h => by omega))
    have wo := w7
    have ls : LS 2 ECod 58 (Array.size H) H7 vn (acc ++ [x]) := ⟨wo⟩
    refine KL.fin 1 rfl (KQ.normBlock (KQ.r (KL.run 1 rfl ?_)))
    refine KL.q (R.sub rfl rfl rfl (by dsimp only [InR]; omega)) rfl ?_
    refine KL.fin 1 rfl ?_
    refine KQ.again ((acc ++ [x], k + kx, m - 1, vn, vx)) ?_ ?_ ?_
    · exact Sub.all rfl
    · show (m - 1).toNat < m.toNat; omega
    exact ⟨rb.cast (by simp only [List.drop_drop, Nat.add_assoc, Nat.add_zero]), ls, hpre.step (by rw [List.drop_drop]; exact hpx), fr, by show 0 ≤ m - 1; omega, by show (acc ++ [x]).length + (m - 1).toNat = _; rw [List.length_append, List.length_singleton]; omega⟩
  intro hc10
  try dsimp only at hc10
  refine KC.exit (KQ.exitThen (KQ.exitThen (KQ.hit (KQ.sr (KL.fin 2 rfl (KQ.seq (KC.ret (KQ.ofRetX (KQ.toX (KQ.fin1 Tryd.results110 rfl ?_))))))))))
  have h0 : m.toNat = 0 := by omega
  rw [h0] at hpre
  exact ⟨_, _, _, Bn.m_ok (Bn.b_ok hp0 hpre.done), ls.row (by decide), rb, fr⟩
end Go.Proofs.YtldmfchamcpmmaaDoor
namespace Go.Proofs.YtldmfchamcpmmaaDoor
open Go Go.RowKit
set_option linter.unusedVariables false
set_option linter.unusedSimpArgs false
namespace Bn
open Isp
theorem cod_one {α : Type} {f : Int → Except Int α} (g : α → Int) {W : α → Prop} (h1 : ∀ y, W y → f (g y) = .ok y) (h2 : ∀ x y, f x = .ok y → W y) : Isp.Cod (oneP f) (fun y => [g y]) W :=
  ⟨fun y hy r => by unfold oneP; simp only [List.singleton_append, h1 y hy]; rfl, fun r y k h => by
    cases r with
    | nil => simp only [oneP] at h; cases h
    | cons x r =>
      simp only [oneP] at h
      split at h
      · cases h
      next z hz => injection h with h; injection h with h3 h4; subst h3; subst h4; exact ⟨h2 _ _ hz, by simp, by simp⟩, fun y hy i hi => by
    have : i = 0 := by simpa using hi
    subst this; rfl⟩
theorem cod_ret {α : Type} (c : α) : Isp.Cod (retP c) (fun _ => []) (fun y => y = c) :=
  ⟨fun y hy r => by subst hy; rfl, fun r y k h => by unfold retP at h; injection h with h; injection h with h1 h2; subst h1; subst h2; exact ⟨rfl, by simp, by simp⟩, fun y hy i hi => by simp at hi⟩
theorem cod_never {α : Type} {e : α → List Int} : Isp.Cod (fun _ => .error 60) e (fun _ => False) := ⟨fun _ h => False.elim h, fun _ _ _ h => (by cases h), fun _ h => False.elim h⟩
theorem cod_val : Isp.Cod valP (fun t => [t]) (fun t => t = 127 ∨ t = 126) := cod_one (fun t => t) (fun y hy => by unfold valF; rw [if_neg (by omega), if_pos hy]) (fun x y h => by
  unfold valF at h
  split at h
  · cases h
  split at h
  · next hx => injection h with h; subst h; exact hx
  cases h)
theorem cod_flg : Isp.Cod flgP (fun b => [if b = true then 1 else 0]) (fun _ => True) := cod_one (fun b => if b = true then 1 else 0) (fun y _ => by cases y <;> rfl) (fun _ _ _ => trivial)
theorem cod_tag (b : Int) : Isp.Cod (tagP b) (fun _ => [b]) (fun _ => True) := cod_one (fun _ => b) (fun y _ => by unfold tagF; rw [if_pos rfl]) (fun _ _ _ => trivial)
theorem cod_knd : Isp.Cod kndP (fun k => [k]) (fun k => k ≤ 3) := cod_one (fun k => k) (fun y hy => by unfold kndF; rw [if_pos hy]) (fun x y h => by
  unfold kndF at h
  split at h
  · next hx => injection h with h; subst h; exact hx
  cases h)
theorem u_is (z : Int) : En.u z = apN false z := rfl
theorem cod_lst {α : Type} [Inhabited α] {p : Prs α} {e : α → List Int} {V : α → Prop} (hp : Isp.Cod p e V) : Isp.Cod (lstP p) (En.lst e) (fun l => l.length < 4294967296 ∧ ∀ x ∈ l, V x) := by
  refine ((cod_u32.bind fun n => hp.many n.toNat).map (·.2) (fun l => ((l.length : Int), l)) ?_).as (fun l => ?_) (fun l _ => rfl)
  · rintro ⟨n, l⟩ ⟨h1, h2, h3⟩
    simp only at h1 h2 h3
    unfold okU at h1
    have : (l.length : Int) = n := by omega
    simp only [this]
  unfold okU
  simp only [Int.toNat_natCast, and_true, true_and]
  constructor
  · rintro ⟨h1, h2⟩; exact ⟨⟨by omega, by omega⟩, h2⟩
  rintro ⟨⟨_, h1⟩, h2⟩; exact ⟨by omega, h2⟩
def LimV (x : Int × Int) : Prop := okU x.1 ∧ (x.2 = -1 ∨ okU x.2)
theorem cod_limR : ∀ b : Bool, Isp.Cod (limR b) (fun x => if b = true then En.u x.1 ++ En.u x.2 else En.u x.1) (fun x => okU x.1 ∧ (if b = true then okU x.2 else x.2 = -1))
  | true => (cod_u32.bind fun _ => cod_u32).as (fun x => by simp) (fun x _ => by simp [u_is])
  | false => (cod_u32.bind fun _ => cod_ret (-1)).as (fun x => by simp) (fun x _ => by simp [u_is])
theorem cod_lim : Isp.Cod limP En.limB LimV := by
  refine ((cod_flg.bind cod_limR).map (·.2) (fun x => (decide (0 ≤ x.2), x)) ?_).as (fun x => ?_) (fun x hx => ?_)
  · rintro ⟨b, x⟩ ⟨_, h1, h2⟩
    simp only at h1 h2 ⊢
    cases b with
    | true => simp only [if_true] at h2; unfold okU at h2; rw [decide_eq_true h2.1]
    | false => simp at h2; rw [decide_eq_false (by omega)]
  · unfold LimV okU
    simp only [and_true, true_and]
    by_cases h : 0 ≤ x.2
    · simp only [decide_eq_true h, if_true]; omega
    simp only [decide_eq_false h]; simp; omega
  unfold En.limB
  by_cases h : 0 ≤ x.2
  · rw [if_neg (by omega)]
    have h2 := hx.1.2.2
    simp only [decide_eq_true h, if_true] at h2
    unfold okU at h2
    simp only [decide_eq_true h, if_true]
    have e : x.2 % 4294967296 = x.2 := Int.emod_eq_of_lt (by omega) (by omega)
    rw [e]; rfl
  rw [if_pos (by omega)]
  simp only [decide_eq_false h]; rfl
theorem cod_tab : Isp.Cod tabP En.tabB LimV :=
  (((cod_tag 112).bind fun _ => cod_lim).map (·.2) (fun x => ((), x)) (fun x _ => rfl)).as (fun x => by simp) (fun x _ => rfl)
def GlbV (g : Glb) : Prop := g.1 = 127 ∨ g.1 = 126
theorem cod_glb : Isp.Cod glbP En.globB GlbV := (cod_val.bind fun _ => cod_flg).as (fun g => by unfold GlbV; simp) (fun g _ => rfl)
def ValsV (l : List Int) : Prop := l.length < 4294967296 ∧ ∀ t ∈ l, t = 127 ∨ t = 126
theorem cod_vals : Isp.Cod (lstP valP) (En.lst En.valB) ValsV := cod_lst cod_val
def FTyV (x : FTy) : Prop := ValsV x.1 ∧ ValsV x.2
theorem cod_typ : Isp.Cod typP En.typB FTyV :=
  (((cod_tag 96).bind fun _ => cod_vals.bind fun _ => cod_vals).map (·.2) (fun x => ((), x)) (fun x _ => rfl)).as (fun x => by unfold FTyV; simp) (fun x _ => by unfold En.typB; simp only [List.singleton_append])
def NamV (s : ByteArray) : Prop := Utf.valid (ints s) = true ∧ s.size < 4294967296
theorem cod_nam : Isp.Cod namP En.txt NamV := by
  refine ⟨fun s ⟨h1, h2⟩ r => ?_, fun r s k h => ?_, fun s ⟨h1, h2⟩ i hi => ?_⟩
  · have hb := Nm.back (ints s) r (by rw [ints_length]; exact h2)
    rw [ints_length, if_pos h1] at hb
    unfold namP
    have e : En.txt s ++ r = Lb.ap ((s.size : Nat) : Int) ++ ints s ++ r := rfl
    rw [e, hb]
    simp only
    rw [if_pos (List.all_eq_true.2 fun x hx => by have := ints_range x hx; dsimp only [InR] at this; exact decide_eq_true this), bstr_ints]
    have : (En.txt s).length = (Lb.ap ((s.size : Nat) : Int)).length + s.size := by show (En.u _ ++ ints s).length = _; rw [List.length_append, ints_length]; rfl
    rw [this]
  · unfold namP at h
    split at h
    · cases h
    next t k' ht =>
    split at h
    · next hr =>
      injection h with h; injection h with h3 h4; subst h3; subst h4
      have hr' : ∀ x ∈ t, InR .u8 x := fun x hx => by have := of_decide_eq_true (List.all_eq_true.1 hr x hx); dsimp only [InR]; exact this
      have hi : ints (bstr t) = t := ints_bstr hr'
      have hs : (bstr t).size = t.length := bstr_size hr'
      have hnt := ht
      unfold Nm.nt at ht
      split at ht
      · cases ht
      next n j hn =>
      have hb := Lb.tk32 hn
      split at ht
      · next hc =>
        injection ht with ht; injection ht with h5 h6
        have hlen : t.length = n.toNat := by rw [← h5, List.length_take, List.length_drop]; omega
        refine ⟨⟨by rw [hi, ← h5]; exact hc.2, by rw [hs, hlen]; omega⟩, ?_, by omega⟩
        show (En.u ((bstr t).size : Nat) ++ ints (bstr t)).length ≤ _
        have hsh : (Lb.ap n).length ≤ j := by unfold Lb.ap; rw [uints_length]; exact Leb.tk_short hn
        rw [List.length_append, hi, hs, hlen]
        have e : ((n.toNat : Nat) : Int) = n := by omega
        rw [e]
        show (Lb.ap n).length + n.toNat ≤ _
        omega
      cases ht
    cases h
  have h3 := ints_length s
  have hz : 0 ≤ (s.size : Int) ∧ (s.size : Int) < 4294967296 := ⟨by omega, by omega⟩
  unfold namP
  have hn : Nm.nt ((En.txt s).take i) = none := by
    show Nm.nt ((Lb.ap ((s.size : Nat) : Int) ++ ints s).take i) = none
    by_cases hc : i < (Lb.ap ((s.size : Nat) : Int)).length
    · rw [List.take_append_of_le_length (by omega)]
      have := cod_u32.cut _ (show okU ((s.size : Nat) : Int) from hz) i hc
      refine Nm.none ?_
      cases ht : Lb.tk ((Lb.ap ((s.size : Nat) : Int)).take i) 32 with
      | none => rfl
      | some z => obtain ⟨z, k⟩ := z; have h9 := u32_some ht; rw [show apN false ((s.size : Nat) : Int) = Lb.ap ((s.size : Nat) : Int) from rfl, h9] at this; cases this
    have ht := Lb.tk_ap hz.1 hz.2 ((ints s).take (i - (Lb.ap ((s.size : Nat) : Int)).length))
    rw [List.take_append, List.take_of_length_le (by omega)]
    refine Nm.bad ht (.inl ?_)
    have hi' : i < (Lb.ap ((s.size : Nat) : Int)).length + s.size := by
      have e : (En.txt s).length = (Lb.ap ((s.size : Nat) : Int)).length + s.size := by show (En.u _ ++ ints s).length = _; rw [List.length_append, h3]; rfl
      rw [e] at hi; exact hi
    rw [List.length_append, List.length_take, h3]; omega
  rw [hn]
theorem cod_impR (kd : Int) : Isp.Cod (impR kd) (fun z => if kd = 0 then En.u z.1 else if kd = 1 then En.tabB z.2.1 else if kd = 2 then En.limB z.2.1 else if kd = 3 then En.globB z.2.2 else [])
    (fun z => if kd = 0 then okU z.1 ∧ z.2 = ((0, 0), (0, false)) else if kd = 1 then LimV z.2.1 ∧ z.1 = 0 ∧ z.2.2 = (0, false) else if kd = 2 then LimV z.2.1 ∧ z.1 = 0 ∧ z.2.2 = (0, false) else if kd = 3 then GlbV z.2.2 ∧ z.1 = 0 ∧ z.2.1 = (0, 0) else False) := by
  unfold impR
  split
  · exact (cod_u32.map (fun t => (t, (0, 0), (0, false))) (fun z => z.1) (fun _ _ => rfl)).as (fun z => and_congr_right fun _ => ⟨fun h => by rw [← h], fun h => by rw [← h]⟩) (fun z _ => rfl)
  split
  · exact (cod_tab.map (fun l => (0, l, (0, false))) (fun z => z.2.1) (fun _ _ => rfl)).as (fun z => and_congr_right fun _ => ⟨fun ⟨h1, h2⟩ => by obtain ⟨a, b, c⟩ := z; dsimp only at h1 h2 ⊢; rw [h1, h2], fun h => by rw [← h]; exact ⟨rfl, rfl⟩⟩) (fun z _ => rfl)
  split
  · exact (cod_lim.map (fun l => (0, l, (0, false))) (fun z => z.2.1) (fun _ _ => rfl)).as (fun z => and_congr_right fun _ => ⟨fun ⟨h1, h2⟩ => by obtain ⟨a, b, c⟩ := z; dsimp only at h1 h2 ⊢; rw [h1, h2], fun h => by rw [← h]; exact ⟨rfl, rfl⟩⟩) (fun z _ => rfl)
  split
  · exact (cod_glb.map (fun g => (0, (0, 0), g)) (fun z => z.2.2) (fun _ _ => rfl)).as (fun z => and_congr_right fun _ => ⟨fun ⟨h1, h2⟩ => by obtain ⟨a, b, c⟩ := z; dsimp only at h1 h2 ⊢; rw [h1, h2], fun h => by rw [← h]; exact ⟨rfl, rfl⟩⟩) (fun z _ => rfl)
  exact cod_never
def ImpV (x : Imp) : Prop := NamV x.mod ∧ NamV x.nam ∧ (if x.kind = 0 then okU x.typ ∧ (x.lim, x.glob) = ((0, 0), (0, false)) else if x.kind = 1 then LimV x.lim ∧ x.typ = 0 ∧ x.glob = (0, false) else if x.kind = 2 then LimV x.lim ∧ x.typ = 0 ∧ x.glob = (0, false) else if x.kind = 3 then GlbV x.glob ∧ x.typ = 0 ∧ x.lim = (0, 0) else False)
theorem cod_imp : Isp.Cod impP En.impB ImpV :=
  ((cod_nam.bind fun _ => cod_nam.bind fun _ => cod_byte.bind cod_impR).map (fun z => (⟨z.1, z.2.1, z.2.2.1, z.2.2.2.1, z.2.2.2.2.1, z.2.2.2.2.2⟩ : Imp)) (fun x => (x.mod, x.nam, x.kind, x.typ, x.lim, x.glob)) (fun _ _ => rfl)).as
    (fun x => by unfold ImpV; simp only [true_and, and_true]) (fun x _ => by unfold En.impB En.impM; simp only [List.append_assoc, List.singleton_append])
def ExpV (x : Exp) : Prop := NamV x.nam ∧ x.kind ≤ 3 ∧ okU x.idx
theorem cod_exp : Isp.Cod expP En.expB ExpV :=
  ((cod_nam.bind fun _ => cod_knd.bind fun _ => cod_u32).map (fun z => (⟨z.1, z.2.1, z.2.2⟩ : Exp)) (fun x => (x.nam, x.kind, x.idx)) (fun _ _ => rfl)).as (fun x => by unfold ExpV; simp only [and_true]) (fun x _ => rfl)
theorem cod_xpr : Isp.Cod xprP En.exprB Isp.Has := by
  refine ⟨fun xs h r => ?_, fun r xs k h => ?_, fun xs h i hi => ?_⟩
  · have hl := flat_len (l := xs)
    have hb := expr_back xs [] ((flat xs ++ 11 :: r).length + 1) r h.1 h.2 (by simp only [List.length_append, List.length_cons]; omega)
    unfold xprP En.exprB
    rw [if_pos (En.has_yes h), List.append_assoc, List.singleton_append, hb]
    simp
  · obtain ⟨h1, h2, h3, h4⟩ := expr_sound _ _ _ _ _ h
    have hh : Isp.Has xs := ⟨h2, h1⟩
    unfold En.exprB
    rw [if_pos (En.has_yes hh)]
    exact ⟨hh, by simp; omega, h4⟩
  unfold En.exprB at hi ⊢
  rw [if_pos (En.has_yes h)] at hi ⊢
  exact expr_cut xs [] _ i h.1 h.2 (by simpa using hi)
def GloV (x : Glo) : Prop := GlbV x.1 ∧ Isp.Has x.2
theorem cod_glo : Isp.Cod gloP En.gloB GloV := (cod_glb.bind fun _ => cod_xpr).as (fun x => Iff.rfl) (fun x _ => rfl)
def ElmV (x : Elm) : Prop := okU x.1 ∧ Isp.Has x.2.1 ∧ x.2.2.length < 4294967296 ∧ ∀ y ∈ x.2.2, okU y
theorem cod_elm : Isp.Cod elmP En.elmB ElmV := (cod_u32.bind fun _ => cod_xpr.bind fun _ => cod_lst cod_u32).as (fun x => Iff.rfl) (fun x _ => by unfold En.elmB; simp only [List.append_assoc]; rfl)
def LocV (x : Int × Int) : Prop := okU x.1 ∧ (x.2 = 127 ∨ x.2 = 126)
theorem cod_loc : Isp.Cod locP En.locB LocV := (cod_u32.bind fun _ => cod_val).as (fun x => Iff.rfl) (fun x _ => rfl)
theorem cod_byt : Isp.Cod bytP (fun b => En.u (b.length : Nat) ++ b) (fun b => b.length < 4294967296) := by
  refine ⟨fun b hb r => ?_, fun r b k h => ?_, fun b hb i hi => ?_⟩
  · have h1 := cod_u32.back ((b.length : Nat) : Int) ⟨by omega, by omega⟩ (b ++ r)
    rw [List.append_assoc]
    refine (byt_ok (z := ((b.length : Nat) : Int)) h1 ?_).trans ?_
    · simp only [List.length_append, Int.toNat_natCast]; omega
    rw [List.drop_left, Int.toNat_natCast, List.take_left, List.length_append]; rfl
  · have hle := byt_le h
    unfold bytP at h
    split at h
    · cases h
    next n j hn =>
    have h0 := cod_u32.sound _ _ _ hn
    have hu := u32_le hn
    split at h
    · next hc =>
      injection h with h; injection h with h1 h2
      have hlen : b.length = n.toNat := by rw [← h1, List.length_take, List.length_drop]; omega
      refine ⟨by omega, ?_, hle.2⟩
      rw [List.length_append, hlen]
      have e : ((n.toNat : Nat) : Int) = n := by omega
      rw [e, u_is]; omega
    cases h
  by_cases hc : i < (apN false ((b.length : Nat) : Int)).length
  · have := cod_u32.cut ((b.length : Nat) : Int) ⟨by omega, by omega⟩ i hc
    show bytP ((apN false ((b.length : Nat) : Int) ++ b).take i) = _
    rw [List.take_append_of_le_length (by omega)]
    exact byt_e1 this
  have h1 := cod_u32.back ((b.length : Nat) : Int) ⟨by omega, by omega⟩ (b.take (i - (apN false ((b.length : Nat) : Int)).length))
  show bytP ((apN false ((b.length : Nat) : Int) ++ b).take i) = _
  rw [List.length_append] at hi
  rw [List.take_append, List.take_of_length_le (by omega)]
  refine byt_e h1 ?_
  rw [List.length_append, List.length_take, Int.toNat_natCast]
  have hi' : i < (apN false ((b.length : Nat) : Int)).length + b.length := hi
  omega
def DatV (x : Elm) : Prop := okU x.1 ∧ Isp.Has x.2.1 ∧ x.2.2.length < 4294967296
theorem cod_dat : Isp.Cod datP En.datB DatV := (cod_u32.bind fun _ => cod_xpr.bind fun _ => cod_byt).as (fun x => Iff.rfl) (fun x _ => by unfold En.datB; simp only [List.append_assoc]; rfl)
/-- fewer have no more bytes -/
theorem need_mono : ∀ (f : Nat) (a b : Int), 0 ≤ a → a ≤ b → Leb.need false f a ≤ Leb.need false f b
  | 0, a, b, _, _ => Nat.le_refl _
  | f + 1, a, b, h0, h => by
    simp only [Leb.need]
    have hs : ∀ z : Int, 0 ≤ z → (Leb.small false z = true ↔ z < 128) := fun z hz => by rw [Leb.small_iff (.inr hz), Leb.fit7_one]; simp; omega
    by_cases hb : Leb.small false b = true
    · rw [if_pos hb, if_pos ((hs a h0).2 (by have := (hs b (by omega)).1 hb; omega))]; exact Nat.le_refl _
    rw [if_neg hb]
    split
    · omega
    have := need_mono f (a / 128) (b / 128) (by omega) (by omega); omega
theorem u_mono {a b : Int} (h0 : 0 ≤ a) (h : a ≤ b) (h1 : b < 18446744073709551616) : (En.u a).length ≤ (En.u b).length := by
  show (Lb.ap a).length ≤ (Lb.ap b).length
  unfold Lb.ap
  rw [uints_length, uints_length, Leb.ap_length (Lb.fit10 h0 (by omega)), Leb.ap_length (Lb.fit10 (by omega) h1)]
  exact need_mono 10 a b h0 h
def CqV (c : _root_.Go.Proofs.YtldmfchamcpmmaaDoor.Cod) : Prop := (c.1.length < 4294967296 ∧ ∀ x ∈ c.1, LocV x) ∧ Isp.Has c.2 ∧ En.locS c.1 < 4294967296
theorem codQ_is : codQ = bindP (lstP locP) fun ls => if En.locS ls < 4294967296 then xprP else fun _ => .error 60 := by
  funext r
  unfold codQ bindP
  cases lstP locP r with
  | error e => rfl
  | ok y =>
    obtain ⟨ls, k⟩ := y
    simp only
    split
    · cases xprP (r.drop k) <;> rfl
    rfl
theorem cod_cq : Isp.Cod codQ En.codI CqV := by
  rw [codQ_is]
  refine ((cod_lst cod_loc).bind (d := fun _ => En.exprB) (U := fun ls xs => Isp.Has xs ∧ En.locS ls < 4294967296) fun ls => ?_).as (fun c => by unfold CqV; exact Iff.rfl) (fun c _ => rfl)
  split
  · next h => exact cod_xpr.as (fun xs => by simp [h]) (fun _ _ => rfl)
  next h => exact (cod_never (e := En.exprB)).as (fun xs => by simp [h]) (fun _ h => False.elim h)
def CodV (c : _root_.Go.Proofs.YtldmfchamcpmmaaDoor.Cod) : Prop := CqV c ∧ (En.codI c).length < 4294967296
theorem cod_cod : Isp.Cod codP En.codB CodV := by
  refine ⟨fun c ⟨h1, h2⟩ r => ?_, fun r c k h => ?_, fun c ⟨h1, h2⟩ i hi => ?_⟩
  · have hb := cod_byt.back _ h2 r
    have hq := cod_cq.back c h1 []
    rw [List.append_nil] at hq
    exact cod_ok hb (whole_ok hq rfl)
  · unfold codP at h
    split at h
    · cases h
    next b j hb =>
    have h3 := cod_byt.sound _ _ _ hb
    split at h
    · cases h
    next c' hc =>
    injection h with h; injection h with h4 h5; subst h4; subst h5
    unfold whole at hc
    split at hc
    · cases hc
    next x n hx =>
    split at hc
    · next hn =>
      injection hc with hc; subst hc
      have h6 := cod_cq.sound _ _ _ hx
      have h7 := h6.2.1
      have h8 := h3.2.1
      refine ⟨⟨h6.1, by omega⟩, ?_, h3.2.2⟩
      unfold En.codB
      rw [List.length_append] at h8 ⊢
      have := u_mono (a := ((En.codI x).length : Nat)) (b := (b.length : Nat)) (by omega) (by omega) (by omega)
      omega
    cases hc
  exact cod_e0 (cod_byt.cut _ h2 i hi)
end Bn
end Go.Proofs.YtldmfchamcpmmaaDoor
namespace Go.Proofs.YtldmfchamcpmmaaDoor
open Go Go.RowKit
set_option linter.unusedVariables false
set_option linter.unusedSimpArgs false
set_option linter.unnecessarySimpa false
/-- a module that is being read: its struct, its rows, which last -/
structure MS (H : Heap) (gm N : Nat) (m : Mo) (t i f tb me gl ex el co da : Value) : Prop where
  b : H[gm]? = some (.cells [t, i, f, tb, me, gl, ex, .bool m.hasStart, .int .u32 m.start, el, co, da].toArray 33 (0, 0))
  rt : RowS 2 EFTy N H t m.types
  ri : RowS 8 EImp N H i m.imports
  rf : RowS 1 (EInt .u32) N H f m.funcs
  rtb : RowS 2 ELim N H tb m.tables
  rme : RowS 2 ELim N H me m.mems
  rgl : RowS 3 EGlo N H gl m.globs
  rex : RowS 3 EExp N H ex m.exports
  rel : RowS 3 EElm N H el m.elems
  rco : RowS 2 ECod N H co m.codes
  rda : RowS 3 EDat N H da m.datas
  rs : InR .u32 m.start
namespace Bn
section
variable {id : Int} {b : List Int} {m : Mo} {e : Int} {α β : Type} {x : Except Int α} {y : α} {f : α → β}
theorem mE_e (h : x = .error e) : mapE f x = .error e := by rw [h]; rfl
theorem mE_ok (h : x = .ok y) : mapE f x = .ok (f y) := by rw [h]; rfl
theorem sF_1 (h : id = 1) : secF id b m = mapE (fun x => { m with types := x }) (whole (lstP typP) b) := by subst h; rfl
theorem sF_2 (h : id = 2) : secF id b m = mapE (fun x => { m with imports := x }) (whole (lstP impP) b) := by subst h; rfl
theorem sF_3 (h : id = 3) : secF id b m = mapE (fun x => { m with funcs := x }) (whole (lstP Isp.u32P) b) := by subst h; rfl
theorem sF_4 (h : id = 4) : secF id b m = mapE (fun x => { m with tables := x }) (whole (lstP tabP) b) := by subst h; rfl
theorem sF_5 (h : id = 5) : secF id b m = mapE (fun x => { m with mems := x }) (whole (lstP limP) b) := by subst h; rfl
theorem sF_6 (h : id = 6) : secF id b m = mapE (fun x => { m with globs := x }) (whole (lstP gloP) b) := by subst h; rfl
theorem sF_7 (h : id = 7) : secF id b m = mapE (fun x => { m with exports := x }) (whole (lstP expP) b) := by subst h; rfl
theorem sF_9 (h : id = 9) : secF id b m = mapE (fun x => { m with elems := x }) (whole (lstP elmP) b) := by subst h; rfl
theorem sF_10 (h : id = 10) : secF id b m = mapE (fun x => { m with codes := x }) (whole (lstP codP) b) := by subst h; rfl
theorem sF_8 (h : id = 8) : secF id b m = mapE (fun x => { m with hasStart := true, start := x }) (whole Isp.u32P b) := by subst h; rfl
theorem sF_n (h : ∀ n : Int, 1 ≤ n → n ≤ 10 → id ≠ n) : secF id b m = mapE (fun x => { m with datas := x }) (whole (lstP datP) b) := by
  unfold secF
  rw [if_neg (h 1 (by decide) (by decide)), if_neg (h 2 (by decide) (by decide)), if_neg (h 3 (by decide) (by decide)), if_neg (h 4 (by decide) (by decide)), if_neg (h 5 (by decide) (by decide)), if_neg (h 6 (by decide) (by decide)), if_neg (h 7 (by decide) (by decide)), if_neg (h 8 (by decide) (by decide)), if_neg (h 9 (by decide) (by decide)), if_neg (h 10 (by decide) (by decide))]
end
end Bn
theorem section_any {H : Heap} {gm N : Nat} {m : Mo} {t i f tb me gl ex el co da : Value} (ms : MS H gm N m t i f tb me gl ex el co da) (hN1 : gm < N) (hN2 : N ≤ H.size) {Hb : Heap} (hT : TabU Hb) (oB : Old Hb H) (hgB : Hb.size ≤ gm) (id : Int) {vb : Value} {b : List Int} (hs : Sl 1 (EInt .u8) H vb b) (hlb : b.length ≤ 1000000) : CtX Tryd.prog 54 [.pointer (some ⟨gm, 0, none⟩), .agg [.int .u8 id, vb].toArray] H (fun _ H' => ∃ m' t' i' f' tb' me' gl' ex' el' co' da', Bn.secF id b m = .ok m' ∧ MS H' gm N m' t' i' f' tb' me' gl' ex' el' co' da' ∧ Fr gm (.slice none 0 0) H H') (fun q H' => ∃ e, Bn.secF id b m = .error e ∧ q = failB e ∧ Fr gm (.slice none 0 0) H H' ∧ ∃ cs : List Value, H'[gm]? = some (.cells cs.toArray 33 (0, 0)) ∧ cs.length = 12) := by
  refine CtX.mk Tryd.func54 rfl Tryd.ntmps54 rfl ?_
  intro W0 hW0
  have o0 : OldB 0 H H := OldB.refl _ H
  have bm := ms.b
  have hg := blk_lt bm
  have fr : Fr gm (.slice none 0 0) H H := Fr.refl _ _ _
  have oH : Old H H := Old.refl _
  have rw0 := RW.refl N H
  refine KC.sr ?_
  refine KL.m (M.box rfl rfl rfl) rfl ?_
  rintro _ H1 ⟨rfl, n1⟩
  have z1 := n1.2.1
  have o0 := o0.trans ((n1.1).b (by omega))
  have bm := (n1.1).blk bm
  have fr := fr.old n1.1
  have oB := oB.trans n1.1
  have oH := oH.trans n1.1
  have rw0 := rw0.old n1.1
  have b1 := n1.2.2
  have bs := b1
  refine KL.nil (KQ.sr (KL.run 1 rfl (KL.ld rfl (cell_of bs rfl) (KL.bd bt168 rfl ⟨hs.cells1, trivial⟩ ?_))))
  refine KL.m (M.box rfl rfl rfl) rfl ?_
  rintro _ H2 ⟨rfl, n2⟩
  have z2 := n2.2.1
  have o0 := o0.trans ((n2.1).b (by omega))
  have bm := (n2.1).blk bm
  have fr := fr.old n2.1
  have oB := oB.trans n2.1
  have oH := oH.trans n2.1
  have rw0 := rw0.old n2.1
  have bs := (n2.1).blk bs
  have b2 := n2.2.2
  have b2 := b2
  have ro : RB H2 (Array.size H1) vb b := ⟨b2, fun Hx o => hs.old (oH.then o (by omega)), hlb⟩
  have zro := ro.lt
  refine KL.fin 1 rfl (KQ.seq (KC.seq (KC.sr (KL.run 1 rfl (KL.ld rfl (cell_of bs rfl) (KL.nil (KQ.seq (KC.block (KC.sr (KL.fin 2 rfl (KQ.seq ?_)))))))))))
  refine KC.iq rfl ?_ ?_
  · intro h1
    refine KC.region (KL.run 2 rfl ?_)
    refine KL.callX rfl rfl rfl rfl Tryd.call95 rfl rfl rfl (listF_any ro) ?_ ?_
    · rintro vx H3 ⟨ex_, hx1, hx2, hx3⟩
      refine KQ.panBlock ?_
      refine KQ.panThen ?_
      exact KQ.pan (⟨_, by rw [Bn.sF_1 h1]; exact Bn.mE_e (Bn.whole_e hx1), hx2, fr.low2 hx3 (by omega) (.inl rfl), _, hx3.at_ bm (by omega), rfl⟩)
    rintro ua H4 ⟨xs, k1, v1, hp1, ra, ro2, f1_⟩
    have zf_H4 := f1_.1
    have o0 := o0.trans (f1_.low (Nat.zero_le _) (Nat.zero_le _))
    have bm := f1_.at_ bm (by omega)
    have oB := oB.then (f1_.low (by omega) (by omega)) (Nat.le_refl _)
    have rw0 := rw0.frT f1_ (by omega)
    have bs := f1_.at_ bs (by omega)
    have ro := ro2
    have zro := ro.lt
    have b2 := ro.b
    have slr := ro.sl
    have fr := fr.low2 f1_ (by omega) (.inl rfl)
    have rwra := RW.refl (Array.size H2) H4
    have hfe : ∀ hq : ¬ k1 = b.length, Bn.secF id b m = .error 60 := fun hq => by rw [Bn.sF_1 h1]; exact Bn.mE_e (Bn.whole_l hp1 hq)
    have hkl := (Bn.cod_lst Bn.cod_typ).sound _ _ _ hp1
    have hok : ∀ hq : k1 = b.length, Bn.secF id b m = .ok { m with types := xs } := fun hq => by rw [Bn.sF_1 h1]; exact Bn.mE_ok (Bn.whole_ok hp1 hq)
    refine KL.run 2 rfl ?_
    refine KL.opS (S.store rfl sz22 rfl rfl ra.cells1 ra.one bm (by simp)) rfl rfl ?_
    rintro H5 ⟨u5, b5⟩
    have o0 := o0.trans (OldB.upd u5 (by omega))
    have zu5 := u5.1
    have oB := oB.upd u5 (by omega)
    have rw0 := rw0.updT u5 (by omega)
    have bs := ((u5).2 _ (by omega)).trans bs
    have b2 := ((u5).2 _ (by omega)).trans b2
    have fr := (by exact fr.upd u5)
    have rwra := rwra.updT u5 (by omega)
    have bm := b5
    have bm : H5[gm]? = some (.cells [ua, i, f, tb, me, gl, ex, .bool m.hasStart, .int .u32 m.start, el, co, da].toArray 33 (0, 0)) := bm
    have hms : MS H5 gm N { m with types := xs } ua i f tb me gl ex el co da := ⟨bm, ra.to rwra (by omega), ms.ri.to rw0 (Nat.le_refl _), ms.rf.to rw0 (Nat.le_refl _), ms.rtb.to rw0 (Nat.le_refl _), ms.rme.to rw0 (Nat.le_refl _), ms.rgl.to rw0 (Nat.le_refl _), ms.rex.to rw0 (Nat.le_refl _), ms.rel.to rw0 (Nat.le_refl _), ms.rco.to rw0 (Nat.le_refl _), ms.rda.to rw0 (Nat.le_refl _), ms.rs⟩
    refine KL.nil (KQ.normBlock (KQ.r (KL.run 3 rfl (KL.ld rfl (cell_of b2 rfl) (KL.q (R.lenS rfl Tryd.underlying36 rfl slr) rfl (KL.run 1 rfl ?_))))))
    refine KL.callX rfl rfl rfl rfl Tryd.call55 rfl rfl rfl (must_any _) ?_ ?_
    · rintro vx _ ⟨rfl, hq, rfl⟩
      simp only [sd] at hq
      exact KQ.pan (⟨_, hfe (by simp only [List.length_drop] at hq; omega), rfl, fr, _, bm, rfl⟩)
    rintro _ _ ⟨rfl, hq, rfl⟩
    simp only [sd] at hq
    refine KL.nil (KQ.toX (KQ.fin0 Tryd.results54 ?_))
    exact ⟨_, _, _, _, _, _, _, _, _, _, _, hok (by have := hkl.2.2; simp only [List.length_drop] at hq; omega), hms, fr⟩
  intro h1
  refine KC.sr (KL.fin 2 rfl (KQ.seq ?_))
  refine KC.iq rfl ?_ ?_
  · intro h2
    refine KC.region (KL.run 2 rfl ?_)
    refine KL.callX rfl rfl rfl rfl Tryd.call97 rfl rfl rfl (listI_any ro hT oB (by omega)) ?_ ?_
    · rintro vx H7 ⟨ex_, hx1, hx2, hx3⟩
      refine KQ.panBlock ?_
      refine KQ.panThen ?_
      exact KQ.pan (⟨_, by rw [Bn.sF_2 h2]; exact Bn.mE_e (Bn.whole_e hx1), hx2, fr.low2 hx3 (by omega) (.inl rfl), _, hx3.at_ bm (by omega), rfl⟩)
    rintro ua H8 ⟨xs, k1, v1, hp1, ra, ro2, f2_⟩
    have zf_H8 := f2_.1
    have o0 := o0.trans (f2_.low (Nat.zero_le _) (Nat.zero_le _))
    have bm := f2_.at_ bm (by omega)
    have oB := oB.then (f2_.low (by omega) (by omega)) (Nat.le_refl _)
    have rw0 := rw0.frT f2_ (by omega)
    have bs := f2_.at_ bs (by omega)
    have ro := ro2
    have zro := ro.lt
    have b2 := ro.b
    have slr := ro.sl
    have fr := fr.low2 f2_ (by omega) (.inl rfl)
    have rwra := RW.refl (Array.size H2) H8
    have hfe : ∀ hq : ¬ k1 = b.length, Bn.secF id b m = .error 60 := fun hq => by rw [Bn.sF_2 h2]; exact Bn.mE_e (Bn.whole_l hp1 hq)
    have hkl := (Bn.cod_lst Bn.cod_imp).sound _ _ _ hp1
    have hok : ∀ hq : k1 = b.length, Bn.secF id b m = .ok { m with imports := xs } := fun hq => by rw [Bn.sF_2 h2]; exact Bn.mE_ok (Bn.whole_ok hp1 hq)
    refine KL.run 2 rfl ?_
    refine KL.opS (S.store rfl sz23 rfl rfl ra.cells1 ra.one bm (by simp)) rfl rfl ?_
    rintro H9 ⟨u9, b9⟩
    have o0 := o0.trans (OldB.upd u9 (by omega))
    have zu9 := u9.1
    have oB := oB.upd u9 (by omega)
    have rw0 := rw0.updT u9 (by omega)
    have bs := ((u9).2 _ (by omega)).trans bs
    have b2 := ((u9).2 _ (by omega)).trans b2
    have fr := (by exact fr.upd u9)
    have rwra := rwra.updT u9 (by omega)
    have bm := b9
    have bm : H9[gm]? = some (.cells [t, ua, f, tb, me, gl, ex, .bool m.hasStart, .int .u32 m.start, el, co, da].toArray 33 (0, 0)) := bm
    have hms : MS H9 gm N { m with imports := xs } t ua f tb me gl ex el co da := ⟨bm, ms.rt.to rw0 (Nat.le_refl _), ra.to rwra (by omega), ms.rf.to rw0 (Nat.le_refl _), ms.rtb.to rw0 (Nat.le_refl _), ms.rme.to rw0 (Nat.le_refl _), ms.rgl.to rw0 (Nat.le_refl _), ms.rex.to rw0 (Nat.le_refl _), ms.rel.to rw0 (Nat.le_refl _), ms.rco.to rw0 (Nat.le_refl _), ms.rda.to rw0 (Nat.le_refl _), ms.rs⟩
    refine KL.nil (KQ.normBlock (KQ.r (KL.run 3 rfl (KL.ld rfl (cell_of b2 rfl) (KL.q (R.lenS rfl Tryd.underlying36 rfl slr) rfl (KL.run 1 rfl ?_))))))
    refine KL.callX rfl rfl rfl rfl Tryd.call55 rfl rfl rfl (must_any _) ?_ ?_
    · rintro vx _ ⟨rfl, hq, rfl⟩
      simp only [sd] at hq
      exact KQ.pan (⟨_, hfe (by simp only [List.length_drop] at hq; omega), rfl, fr, _, bm, rfl⟩)
    rintro _ _ ⟨rfl, hq, rfl⟩
    simp only [sd] at hq
    refine KL.nil (KQ.toX (KQ.fin0 Tryd.results54 ?_))
    exact ⟨_, _, _, _, _, _, _, _, _, _, _, hok (by have := hkl.2.2; simp only [List.length_drop] at hq; omega), hms, fr⟩
  intro h2
  refine KC.sr (KL.fin 2 rfl (KQ.seq ?_))
  refine KC.iq rfl ?_ ?_
  · intro h3
    refine KC.region (KL.run 2 rfl ?_)
    refine KL.callX rfl rfl rfl rfl Tryd.call99 rfl rfl rfl (listU_any ro) ?_ ?_
    · rintro vx H11 ⟨ex_, hx1, hx2, hx3⟩
      refine KQ.panBlock ?_
      refine KQ.panThen ?_
      exact KQ.pan (⟨_, by rw [Bn.sF_3 h3]; exact Bn.mE_e (Bn.whole_e hx1), hx2, fr.low2 hx3 (by omega) (.inl rfl), _, hx3.at_ bm (by omega), rfl⟩)
    rintro ua H12 ⟨xs, k1, v1, hp1, ra, ro2, f3_⟩
    have zf_H12 := f3_.1
    have o0 := o0.trans (f3_.low (Nat.zero_le _) (Nat.zero_le _))
    have bm := f3_.at_ bm (by omega)
    have oB := oB.then (f3_.low (by omega) (by omega)) (Nat.le_refl _)
    have rw0 := rw0.frT f3_ (by omega)
    have bs := f3_.at_ bs (by omega)
    have ro := ro2
    have zro := ro.lt
    have b2 := ro.b
    have slr := ro.sl
    have fr := fr.low2 f3_ (by omega) (.inl rfl)
    have rwra := RW.refl (Array.size H2) H12
    have hfe : ∀ hq : ¬ k1 = b.length, Bn.secF id b m = .error 60 := fun hq => by rw [Bn.sF_3 h3]; exact Bn.mE_e (Bn.whole_l hp1 hq)
    have hkl := (Bn.cod_lst Isp.cod_u32).sound _ _ _ hp1
    have hok : ∀ hq : k1 = b.length, Bn.secF id b m = .ok { m with funcs := xs } := fun hq => by rw [Bn.sF_3 h3]; exact Bn.mE_ok (Bn.whole_ok hp1 hq)
    refine KL.run 2 rfl ?_
    refine KL.opS (S.store rfl sz24 rfl rfl ra.cells1 ra.one bm (by simp)) rfl rfl ?_
    rintro H13 ⟨u13, b13⟩
    have o0 := o0.trans (OldB.upd u13 (by omega))
    have zu13 := u13.1
    have oB := oB.upd u13 (by omega)
    have rw0 := rw0.updT u13 (by omega)
    have bs := ((u13).2 _ (by omega)).trans bs
    have b2 := ((u13).2 _ (by omega)).trans b2
    have fr := (by exact fr.upd u13)
    have rwra := rwra.updT u13 (by omega)
    have bm := b13
    have bm : H13[gm]? = some (.cells [t, i, ua, tb, me, gl, ex, .bool m.hasStart, .int .u32 m.start, el, co, da].toArray 33 (0, 0)) := bm
    have hms : MS H13 gm N { m with funcs := xs } t i ua tb me gl ex el co da := ⟨bm, ms.rt.to rw0 (Nat.le_refl _), ms.ri.to rw0 (Nat.le_refl _), ra.to rwra (by omega), ms.rtb.to rw0 (Nat.le_refl _), ms.rme.to rw0 (Nat.le_refl _), ms.rgl.to rw0 (Nat.le_refl _), ms.rex.to rw0 (Nat.le_refl _), ms.rel.to rw0 (Nat.le_refl _), ms.rco.to rw0 (Nat.le_refl _), ms.rda.to rw0 (Nat.le_refl _), ms.rs⟩
    refine KL.nil (KQ.normBlock (KQ.r (KL.run 3 rfl (KL.ld rfl (cell_of b2 rfl) (KL.q (R.lenS rfl Tryd.underlying36 rfl slr) rfl (KL.run 1 rfl ?_))))))
    refine KL.callX rfl rfl rfl rfl Tryd.call55 rfl rfl rfl (must_any _) ?_ ?_
    · rintro vx _ ⟨rfl, hq, rfl⟩
      simp only [sd] at hq
      exact KQ.pan (⟨_, hfe (by simp only [List.length_drop] at hq; omega), rfl, fr, _, bm, rfl⟩)
    rintro _ _ ⟨rfl, hq, rfl⟩
    simp only [sd] at hq
    refine KL.nil (KQ.toX (KQ.fin0 Tryd.results54 ?_))
    exact ⟨_, _, _, _, _, _, _, _, _, _, _, hok (by have := hkl.2.2; simp only [List.length_drop] at hq; omega), hms, fr⟩
  intro h3
  refine KC.sr (KL.fin 2 rfl (KQ.seq ?_))
  refine KC.iq rfl ?_ ?_
  · intro h4
    refine KC.region (KL.run 2 rfl ?_)
    refine KL.callX rfl rfl rfl rfl Tryd.call101 rfl rfl rfl (listT_any ro) ?_ ?_
    · rintro vx H15 ⟨ex_, hx1, hx2, hx3⟩
      refine KQ.panBlock ?_
      refine KQ.panThen ?_
      exact KQ.pan (⟨_, by rw [Bn.sF_4 h4]; exact Bn.mE_e (Bn.whole_e hx1), hx2, fr.low2 hx3 (by omega) (.inl rfl), _, hx3.at_ bm (by omega), rfl⟩)
    rintro ua H16 ⟨xs, k1, v1, hp1, ra, ro2, f4_⟩
    have zf_H16 := f4_.1
    have o0 := o0.trans (f4_.low (Nat.zero_le _) (Nat.zero_le _))
    have bm := f4_.at_ bm (by omega)
    have oB := oB.then (f4_.low (by omega) (by omega)) (Nat.le_refl _)
    have rw0 := rw0.frT f4_ (by omega)
    have bs := f4_.at_ bs (by omega)
    have ro := ro2
    have zro := ro.lt
    have b2 := ro.b
    have slr := ro.sl
    have fr := fr.low2 f4_ (by omega) (.inl rfl)
    have rwra := RW.refl (Array.size H2) H16
    have hfe : ∀ hq : ¬ k1 = b.length, Bn.secF id b m = .error 60 := fun hq => by rw [Bn.sF_4 h4]; exact Bn.mE_e (Bn.whole_l hp1 hq)
    have hkl := (Bn.cod_lst Bn.cod_tab).sound _ _ _ hp1
    have hok : ∀ hq : k1 = b.length, Bn.secF id b m = .ok { m with tables := xs } := fun hq => by rw [Bn.sF_4 h4]; exact Bn.mE_ok (Bn.whole_ok hp1 hq)
    refine KL.run 2 rfl ?_
    refine KL.opS (S.store rfl sz25 rfl rfl ra.cells1 ra.one bm (by simp)) rfl rfl ?_
    rintro H17 ⟨u17, b17⟩
    have o0 := o0.trans (OldB.upd u17 (by omega))
    have zu17 := u17.1
    have oB := oB.upd u17 (by omega)
    have rw0 := rw0.updT u17 (by omega)
    have bs := ((u17).2 _ (by omega)).trans bs
    have b2 := ((u17).2 _ (by omega)).trans b2
    have fr := (by exact fr.upd u17)
    have rwra := rwra.updT u17 (by omega)
    have bm := b17
    have bm : H17[gm]? = some (.cells [t, i, f, ua, me, gl, ex, .bool m.hasStart, .int .u32 m.start, el, co, da].toArray 33 (0, 0)) := bm
    have hms : MS H17 gm N { m with tables := xs } t i f ua me gl ex el co da := ⟨bm, ms.rt.to rw0 (Nat.le_refl _), ms.ri.to rw0 (Nat.le_refl _), ms.rf.to rw0 (Nat.le_refl _), ra.to rwra (by omega), ms.rme.to rw0 (Nat.le_refl _), ms.rgl.to rw0 (Nat.le_refl _), ms.rex.to rw0 (Nat.le_refl _), ms.rel.to rw0 (Nat.le_refl _), ms.rco.to rw0 (Nat.le_refl _), ms.rda.to rw0 (Nat.le_refl _), ms.rs⟩
    refine KL.nil (KQ.normBlock (KQ.r (KL.run 3 rfl (KL.ld rfl (cell_of b2 rfl) (KL.q (R.lenS rfl Tryd.underlying36 rfl slr) rfl (KL.run 1 rfl ?_))))))
    refine KL.callX rfl rfl rfl rfl Tryd.call55 rfl rfl rfl (must_any _) ?_ ?_
    · rintro vx _ ⟨rfl, hq, rfl⟩
      simp only [sd] at hq
      exact KQ.pan (⟨_, hfe (by simp only [List.length_drop] at hq; omega), rfl, fr, _, bm, rfl⟩)
    rintro _ _ ⟨rfl, hq, rfl⟩
    simp only [sd] at hq
    refine KL.nil (KQ.toX (KQ.fin0 Tryd.results54 ?_))
    exact ⟨_, _, _, _, _, _, _, _, _, _, _, hok (by have := hkl.2.2; simp only [List.length_drop] at hq; omega), hms, fr⟩
  intro h4
  refine KC.sr (KL.fin 2 rfl (KQ.seq ?_))
  refine KC.iq rfl ?_ ?_
  · intro h5
    refine KC.region (KL.run 2 rfl ?_)
    refine KL.callX rfl rfl rfl rfl Tryd.call101 rfl rfl rfl (listM_any ro) ?_ ?_
    · rintro vx H19 ⟨ex_, hx1, hx2, hx3⟩
      refine KQ.panBlock ?_
      refine KQ.panThen ?_
      exact KQ.pan (⟨_, by rw [Bn.sF_5 h5]; exact Bn.mE_e (Bn.whole_e hx1), hx2, fr.low2 hx3 (by omega) (.inl rfl), _, hx3.at_ bm (by omega), rfl⟩)
    rintro ua H20 ⟨xs, k1, v1, hp1, ra, ro2, f5_⟩
    have zf_H20 := f5_.1
    have o0 := o0.trans (f5_.low (Nat.zero_le _) (Nat.zero_le _))
    have bm := f5_.at_ bm (by omega)
    have oB := oB.then (f5_.low (by omega) (by omega)) (Nat.le_refl _)
    have rw0 := rw0.frT f5_ (by omega)
    have bs := f5_.at_ bs (by omega)
    have ro := ro2
    have zro := ro.lt
    have b2 := ro.b
    have slr := ro.sl
    have fr := fr.low2 f5_ (by omega) (.inl rfl)
    have rwra := RW.refl (Array.size H2) H20
    have hfe : ∀ hq : ¬ k1 = b.length, Bn.secF id b m = .error 60 := fun hq => by rw [Bn.sF_5 h5]; exact Bn.mE_e (Bn.whole_l hp1 hq)
    have hkl := (Bn.cod_lst Bn.cod_lim).sound _ _ _ hp1
    have hok : ∀ hq : k1 = b.length, Bn.secF id b m = .ok { m with mems := xs } := fun hq => by rw [Bn.sF_5 h5]; exact Bn.mE_ok (Bn.whole_ok hp1 hq)
    refine KL.run 2 rfl ?_
    refine KL.opS (S.store rfl sz25 rfl rfl ra.cells1 ra.one bm (by simp)) rfl rfl ?_
    rintro H21 ⟨u21, b21⟩
    have o0 := o0.trans (OldB.upd u21 (by omega))
    have zu21 := u21.1
    have oB := oB.upd u21 (by omega)
    have rw0 := rw0.updT u21 (by omega)
    have bs := ((u21).2 _ (by omega)).trans bs
    have b2 := ((u21).2 _ (by omega)).trans b2
    have fr := (by exact fr.upd u21)
    have rwra := rwra.updT u21 (by omega)
    have bm := b21
    have bm : H21[gm]? = some (.cells [t, i, f, tb, ua, gl, ex, .bool m.hasStart, .int .u32 m.start, el, co, da].toArray 33 (0, 0)) := bm
    have hms : MS H21 gm N { m with mems := xs } t i f tb ua gl ex el co da := ⟨bm, ms.rt.to rw0 (Nat.le_refl _), ms.ri.to rw0 (Nat.le_refl _), ms.rf.to rw0 (Nat.le_refl _), ms.rtb.to rw0 (Nat.le_refl _), ra.to rwra (by omega), ms.rgl.to rw0 (Nat.le_refl _), ms.rex.to rw0 (Nat.le_refl _), ms.rel.to rw0 (Nat.le_refl _), ms.rco.to rw0 (Nat.le_refl _), ms.rda.to rw0 (Nat.le_refl _), ms.rs⟩
    refine KL.nil (KQ.normBlock (KQ.r (KL.run 3 rfl (KL.ld rfl (cell_of b2 rfl) (KL.q (R.lenS rfl Tryd.underlying36 rfl slr) rfl (KL.run 1 rfl ?_))))))
    refine KL.callX rfl rfl rfl rfl Tryd.call55 rfl rfl rfl (must_any _) ?_ ?_
    · rintro vx _ ⟨rfl, hq, rfl⟩
      simp only [sd] at hq
      exact KQ.pan (⟨_, hfe (by simp only [List.length_drop] at hq; omega), rfl, fr, _, bm, rfl⟩)
    rintro _ _ ⟨rfl, hq, rfl⟩
    simp only [sd] at hq
    refine KL.nil (KQ.toX (KQ.fin0 Tryd.results54 ?_))
    exact ⟨_, _, _, _, _, _, _, _, _, _, _, hok (by have := hkl.2.2; simp only [List.length_drop] at hq; omega), hms, fr⟩
  intro h5
  refine KC.sr (KL.fin 2 rfl (KQ.seq ?_))
  refine KC.iq rfl ?_ ?_
  · intro h6
    refine KC.region (KL.run 2 rfl ?_)
    refine KL.callX rfl rfl rfl rfl Tryd.call104 rfl rfl rfl (listG_any ro) ?_ ?_
    · rintro vx H23 ⟨ex_, hx1, hx2, hx3⟩
      refine KQ.panBlock ?_
      refine KQ.panThen ?_
      exact KQ.pan (⟨_, by rw [Bn.sF_6 h6]; exact Bn.mE_e (Bn.whole_e hx1), hx2, fr.low2 hx3 (by omega) (.inl rfl), _, hx3.at_ bm (by omega), rfl⟩)
    rintro ua H24 ⟨xs, k1, v1, hp1, ra, ro2, f6_⟩
    have zf_H24 := f6_.1
    have o0 := o0.trans (f6_.low (Nat.zero_le _) (Nat.zero_le _))
    have bm := f6_.at_ bm (by omega)
    have oB := oB.then (f6_.low (by omega) (by omega)) (Nat.le_refl _)
    have rw0 := rw0.frT f6_ (by omega)
    have bs := f6_.at_ bs (by omega)
    have ro := ro2
    have zro := ro.lt
    have b2 := ro.b
    have slr := ro.sl
    have fr := fr.low2 f6_ (by omega) (.inl rfl)
    have rwra := RW.refl (Array.size H2) H24
    have hfe : ∀ hq : ¬ k1 = b.length, Bn.secF id b m = .error 60 := fun hq => by rw [Bn.sF_6 h6]; exact Bn.mE_e (Bn.whole_l hp1 hq)
    have hkl := (Bn.cod_lst Bn.cod_glo).sound _ _ _ hp1
    have hok : ∀ hq : k1 = b.length, Bn.secF id b m = .ok { m with globs := xs } := fun hq => by rw [Bn.sF_6 h6]; exact Bn.mE_ok (Bn.whole_ok hp1 hq)
    refine KL.run 2 rfl ?_
    refine KL.opS (S.store rfl sz26 rfl rfl ra.cells1 ra.one bm (by simp)) rfl rfl ?_
    rintro H25 ⟨u25, b25⟩
    have o0 := o0.trans (OldB.upd u25 (by omega))
    have zu25 := u25.1
    have oB := oB.upd u25 (by omega)
    have rw0 := rw0.updT u25 (by omega)
    have bs := ((u25).2 _ (by omega)).trans bs
    have b2 := ((u25).2 _ (by omega)).trans b2
    have fr := (by exact fr.upd u25)
    have rwra := rwra.updT u25 (by omega)
    have bm := b25
    have bm : H25[gm]? = some (.cells [t, i, f, tb, me, ua, ex, .bool m.hasStart, .int .u32 m.start, el, co, da].toArray 33 (0, 0)) := bm
    have hms : MS H25 gm N { m with globs := xs } t i f tb me ua ex el co da := ⟨bm, ms.rt.to rw0 (Nat.le_refl _), ms.ri.to rw0 (Nat.le_refl _), ms.rf.to rw0 (Nat.le_refl _), ms.rtb.to rw0 (Nat.le_refl _), ms.rme.to rw0 (Nat.le_refl _), ra.to rwra (by omega), ms.rex.to rw0 (Nat.le_refl _), ms.rel.to rw0 (Nat.le_refl _), ms.rco.to rw0 (Nat.le_refl _), ms.rda.to rw0 (Nat.le_refl _), ms.rs⟩
    refine KL.nil (KQ.normBlock (KQ.r (KL.run 3 rfl (KL.ld rfl (cell_of b2 rfl) (KL.q (R.lenS rfl Tryd.underlying36 rfl slr) rfl (KL.run 1 rfl ?_))))))
    refine KL.callX rfl rfl rfl rfl Tryd.call55 rfl rfl rfl (must_any _) ?_ ?_
    · rintro vx _ ⟨rfl, hq, rfl⟩
      simp only [sd] at hq
      exact KQ.pan (⟨_, hfe (by simp only [List.length_drop] at hq; omega), rfl, fr, _, bm, rfl⟩)
    rintro _ _ ⟨rfl, hq, rfl⟩
    simp only [sd] at hq
    refine KL.nil (KQ.toX (KQ.fin0 Tryd.results54 ?_))
    exact ⟨_, _, _, _, _, _, _, _, _, _, _, hok (by have := hkl.2.2; simp only [List.length_drop] at hq; omega), hms, fr⟩
  intro h6
  refine KC.sr (KL.fin 2 rfl (KQ.seq ?_))
  refine KC.iq rfl ?_ ?_
  · intro h7
    refine KC.region (KL.run 2 rfl ?_)
    refine KL.callX rfl rfl rfl rfl Tryd.call106 rfl rfl rfl (listE_any ro hT oB (by omega)) ?_ ?_
    · rintro vx H27 ⟨ex_, hx1, hx2, hx3⟩
      refine KQ.panBlock ?_
      refine KQ.panThen ?_
      exact KQ.pan (⟨_, by rw [Bn.sF_7 h7]; exact Bn.mE_e (Bn.whole_e hx1), hx2, fr.low2 hx3 (by omega) (.inl rfl), _, hx3.at_ bm (by omega), rfl⟩)
    rintro ua H28 ⟨xs, k1, v1, hp1, ra, ro2, f7_⟩
    have zf_H28 := f7_.1
    have o0 := o0.trans (f7_.low (Nat.zero_le _) (Nat.zero_le _))
    have bm := f7_.at_ bm (by omega)
    have oB := oB.then (f7_.low (by omega) (by omega)) (Nat.le_refl _)
    have rw0 := rw0.frT f7_ (by omega)
    have bs := f7_.at_ bs (by omega)
    have ro := ro2
    have zro := ro.lt
    have b2 := ro.b
    have slr := ro.sl
    have fr := fr.low2 f7_ (by omega) (.inl rfl)
    have rwra := RW.refl (Array.size H2) H28
    have hfe : ∀ hq : ¬ k1 = b.length, Bn.secF id b m = .error 60 := fun hq => by rw [Bn.sF_7 h7]; exact Bn.mE_e (Bn.whole_l hp1 hq)
    have hkl := (Bn.cod_lst Bn.cod_exp).sound _ _ _ hp1
    have hok : ∀ hq : k1 = b.length, Bn.secF id b m = .ok { m with exports := xs } := fun hq => by rw [Bn.sF_7 h7]; exact Bn.mE_ok (Bn.whole_ok hp1 hq)
    refine KL.run 2 rfl ?_
    refine KL.opS (S.store rfl sz27 rfl rfl ra.cells1 ra.one bm (by simp)) rfl rfl ?_
    rintro H29 ⟨u29, b29⟩
    have o0 := o0.trans (OldB.upd u29 (by omega))
    have zu29 := u29.1
    have oB := oB.upd u29 (by omega)
    have rw0 := rw0.updT u29 (by omega)
    have bs := ((u29).2 _ (by omega)).trans bs
    have b2 := ((u29).2 _ (by omega)).trans b2
    have fr := (by exact fr.upd u29)
    have rwra := rwra.updT u29 (by omega)
    have bm := b29
    have bm : H29[gm]? = some (.cells [t, i, f, tb, me, gl, ua, .bool m.hasStart, .int .u32 m.start, el, co, da].toArray 33 (0, 0)) := bm
    have hms : MS H29 gm N { m with exports := xs } t i f tb me gl ua el co da := ⟨bm, ms.rt.to rw0 (Nat.le_refl _), ms.ri.to rw0 (Nat.le_refl _), ms.rf.to rw0 (Nat.le_refl _), ms.rtb.to rw0 (Nat.le_refl _), ms.rme.to rw0 (Nat.le_refl _), ms.rgl.to rw0 (Nat.le_refl _), ra.to rwra (by omega), ms.rel.to rw0 (Nat.le_refl _), ms.rco.to rw0 (Nat.le_refl _), ms.rda.to rw0 (Nat.le_refl _), ms.rs⟩
    refine KL.nil (KQ.normBlock (KQ.r (KL.run 3 rfl (KL.ld rfl (cell_of b2 rfl) (KL.q (R.lenS rfl Tryd.underlying36 rfl slr) rfl (KL.run 1 rfl ?_))))))
    refine KL.callX rfl rfl rfl rfl Tryd.call55 rfl rfl rfl (must_any _) ?_ ?_
    · rintro vx _ ⟨rfl, hq, rfl⟩
      simp only [sd] at hq
      exact KQ.pan (⟨_, hfe (by simp only [List.length_drop] at hq; omega), rfl, fr, _, bm, rfl⟩)
    rintro _ _ ⟨rfl, hq, rfl⟩
    simp only [sd] at hq
    refine KL.nil (KQ.toX (KQ.fin0 Tryd.results54 ?_))
    exact ⟨_, _, _, _, _, _, _, _, _, _, _, hok (by have := hkl.2.2; simp only [List.length_drop] at hq; omega), hms, fr⟩
  intro h7
  refine KC.sr (KL.fin 2 rfl (KQ.seq ?_))
  refine KC.iq rfl ?_ ?_
  · intro h8
    refine KC.region (KL.run 3 rfl ?_)
    refine KL.callX rfl rfl rfl rfl Tryd.call100 rfl rfl rfl (bu32_any ro) ?_ ?_
    · rintro vx H31 ⟨ex_, hx1, hx2, hx3⟩
      refine KQ.panBlock ?_
      refine KQ.panThen ?_
      exact KQ.pan (⟨_, by rw [Bn.sF_8 h8]; exact Bn.mE_e (Bn.whole_e hx1), hx2, fr.low2 hx3 (by omega) (.inl rfl), _, hx3.at_ bm (by omega), rfl⟩)
    rintro _ H32 ⟨xs, k1, v1, hp1, rfl, hxs, ro2, f8_⟩
    have zf_H32 := f8_.1
    have o0 := o0.trans (f8_.low (Nat.zero_le _) (Nat.zero_le _))
    have bm := f8_.at_ bm (by omega)
    have oB := oB.then (f8_.low (by omega) (by omega)) (Nat.le_refl _)
    have rw0 := rw0.frT f8_ (by omega)
    have bs := f8_.at_ bs (by omega)
    have ro := ro2
    have zro := ro.lt
    have b2 := ro.b
    have slr := ro.sl
    have fr := fr.low2 f8_ (by omega) (.inl rfl)
    have hfe : ∀ hq : ¬ k1 = b.length, Bn.secF id b m = .error 60 := fun hq => by rw [Bn.sF_8 h8]; exact Bn.mE_e (Bn.whole_l hp1 hq)
    have hkl := Isp.cod_u32.sound _ _ _ hp1
    have hok : ∀ hq : k1 = b.length, Bn.secF id b m = .ok { m with hasStart := true, start := xs } := fun hq => by rw [Bn.sF_8 h8]; exact Bn.mE_ok (Bn.whole_ok hp1 hq)
    refine KL.run 2 rfl ?_
    refine KL.opS (S.store rfl sz4 rfl rfl rfl rfl bm (by simp)) rfl rfl ?_
    rintro H33 ⟨u33, b33⟩
    have o0 := o0.trans (OldB.upd u33 (by omega))
    have zu33 := u33.1
    have oB := oB.upd u33 (by omega)
    have rw0 := rw0.updT u33 (by omega)
    have bs := ((u33).2 _ (by omega)).trans bs
    have b2 := ((u33).2 _ (by omega)).trans b2
    have fr := (by exact fr.upd u33)
    have bm := b33
    refine KL.run 2 rfl ?_
    refine KL.opS (S.store rfl sz28 rfl rfl rfl rfl bm (by simp)) rfl rfl ?_
    rintro H34 ⟨u34, b34⟩
    have o0 := o0.trans (OldB.upd u34 (by omega))
    have zu34 := u34.1
    have oB := oB.upd u34 (by omega)
    have rw0 := rw0.updT u34 (by omega)
    have bs := ((u34).2 _ (by omega)).trans bs
    have b2 := ((u34).2 _ (by omega)).trans b2
    have fr := (by exact fr.upd u34)
    have bm := b34
    have bm : H34[gm]? = some (.cells [t, i, f, tb, me, gl, ex, .bool true, .int .u32 xs, el, co, da].toArray 33 (0, 0)) := bm
    have hms : MS H34 gm N { m with hasStart := true, start := xs } t i f tb me gl ex el co da := ⟨bm, ms.rt.to rw0 (Nat.le_refl _), ms.ri.to rw0 (Nat.le_refl _), ms.rf.to rw0 (Nat.le_refl _), ms.rtb.to rw0 (Nat.le_refl _), ms.rme.to rw0 (Nat.le_refl _), ms.rgl.to rw0 (Nat.le_refl _), ms.rex.to rw0 (Nat.le_refl _), ms.rel.to rw0 (Nat.le_refl _), ms.rco.to rw0 (Nat.le_refl _), ms.rda.to rw0 (Nat.le_refl _), hxs⟩
    refine KL.nil (KQ.normBlock (KQ.r (KL.run 3 rfl (KL.ld rfl (cell_of b2 rfl) (KL.q (R.lenS rfl Tryd.underlying36 rfl slr) rfl (KL.run 1 rfl ?_))))))
    refine KL.callX rfl rfl rfl rfl Tryd.call55 rfl rfl rfl (must_any _) ?_ ?_
    · rintro vx _ ⟨rfl, hq, rfl⟩
      simp only [sd] at hq
      exact KQ.pan (⟨_, hfe (by simp only [List.length_drop] at hq; omega), rfl, fr, _, bm, rfl⟩)
    rintro _ _ ⟨rfl, hq, rfl⟩
    simp only [sd] at hq
    refine KL.nil (KQ.toX (KQ.fin0 Tryd.results54 ?_))
    exact ⟨_, _, _, _, _, _, _, _, _, _, _, hok (by have := hkl.2.2; simp only [List.length_drop] at hq; omega), hms, fr⟩
  intro h8
  refine KC.sr (KL.fin 2 rfl (KQ.seq ?_))
  refine KC.iq rfl ?_ ?_
  · intro h9
    refine KC.region (KL.run 2 rfl ?_)
    refine KL.callX rfl rfl rfl rfl Tryd.call108 rfl rfl rfl (listX_any ro) ?_ ?_
    · rintro vx H36 ⟨ex_, hx1, hx2, hx3⟩
      refine KQ.panBlock ?_
      refine KQ.panThen ?_
      exact KQ.pan (⟨_, by rw [Bn.sF_9 h9]; exact Bn.mE_e (Bn.whole_e hx1), hx2, fr.low2 hx3 (by omega) (.inl rfl), _, hx3.at_ bm (by omega), rfl⟩)
    rintro ua H37 ⟨xs, k1, v1, hp1, ra, ro2, f9_⟩
    have zf_H37 := f9_.1
    have o0 := o0.trans (f9_.low (Nat.zero_le _) (Nat.zero_le _))
    have bm := f9_.at_ bm (by omega)
    have oB := oB.then (f9_.low (by omega) (by omega)) (Nat.le_refl _)
    have rw0 := rw0.frT f9_ (by omega)
    have bs := f9_.at_ bs (by omega)
    have ro := ro2
    have zro := ro.lt
    have b2 := ro.b
    have slr := ro.sl
    have fr := fr.low2 f9_ (by omega) (.inl rfl)
    have rwra := RW.refl (Array.size H2) H37
    have hfe : ∀ hq : ¬ k1 = b.length, Bn.secF id b m = .error 60 := fun hq => by rw [Bn.sF_9 h9]; exact Bn.mE_e (Bn.whole_l hp1 hq)
    have hkl := (Bn.cod_lst Bn.cod_elm).sound _ _ _ hp1
    have hok : ∀ hq : k1 = b.length, Bn.secF id b m = .ok { m with elems := xs } := fun hq => by rw [Bn.sF_9 h9]; exact Bn.mE_ok (Bn.whole_ok hp1 hq)
    refine KL.run 2 rfl ?_
    refine KL.opS (S.store rfl sz29 rfl rfl ra.cells1 ra.one bm (by simp)) rfl rfl ?_
    rintro H38 ⟨u38, b38⟩
    have o0 := o0.trans (OldB.upd u38 (by omega))
    have zu38 := u38.1
    have oB := oB.upd u38 (by omega)
    have rw0 := rw0.updT u38 (by omega)
    have bs := ((u38).2 _ (by omega)).trans bs
    have b2 := ((u38).2 _ (by omega)).trans b2
    have fr := (by exact fr.upd u38)
    have rwra := rwra.updT u38 (by omega)
    have bm := b38
    have bm : H38[gm]? = some (.cells [t, i, f, tb, me, gl, ex, .bool m.hasStart, .int .u32 m.start, ua, co, da].toArray 33 (0, 0)) := bm
    have hms : MS H38 gm N { m with elems := xs } t i f tb me gl ex ua co da := ⟨bm, ms.rt.to rw0 (Nat.le_refl _), ms.ri.to rw0 (Nat.le_refl _), ms.rf.to rw0 (Nat.le_refl _), ms.rtb.to rw0 (Nat.le_refl _), ms.rme.to rw0 (Nat.le_refl _), ms.rgl.to rw0 (Nat.le_refl _), ms.rex.to rw0 (Nat.le_refl _), ra.to rwra (by omega), ms.rco.to rw0 (Nat.le_refl _), ms.rda.to rw0 (Nat.le_refl _), ms.rs⟩
    refine KL.nil (KQ.normBlock (KQ.r (KL.run 3 rfl (KL.ld rfl (cell_of b2 rfl) (KL.q (R.lenS rfl Tryd.underlying36 rfl slr) rfl (KL.run 1 rfl ?_))))))
    refine KL.callX rfl rfl rfl rfl Tryd.call55 rfl rfl rfl (must_any _) ?_ ?_
    · rintro vx _ ⟨rfl, hq, rfl⟩
      simp only [sd] at hq
      exact KQ.pan (⟨_, hfe (by simp only [List.length_drop] at hq; omega), rfl, fr, _, bm, rfl⟩)
    rintro _ _ ⟨rfl, hq, rfl⟩
    simp only [sd] at hq
    refine KL.nil (KQ.toX (KQ.fin0 Tryd.results54 ?_))
    exact ⟨_, _, _, _, _, _, _, _, _, _, _, hok (by have := hkl.2.2; simp only [List.length_drop] at hq; omega), hms, fr⟩
  intro h9
  refine KC.sr (KL.fin 2 rfl (KQ.seq ?_))
  refine KC.iq rfl ?_ ?_
  · intro h10
    refine KC.region (KL.run 2 rfl ?_)
    refine KL.callX rfl rfl rfl rfl Tryd.call110 rfl rfl rfl (listC_any ro) ?_ ?_
    · rintro vx H40 ⟨ex_, hx1, hx2, hx3⟩
      refine KQ.panBlock ?_
      refine KQ.panThen ?_
      exact KQ.pan (⟨_, by rw [Bn.sF_10 h10]; exact Bn.mE_e (Bn.whole_e hx1), hx2, fr.low2 hx3 (by omega) (.inl rfl), _, hx3.at_ bm (by omega), rfl⟩)
    rintro ua H41 ⟨xs, k1, v1, hp1, ra, ro2, f10_⟩
    have zf_H41 := f10_.1
    have o0 := o0.trans (f10_.low (Nat.zero_le _) (Nat.zero_le _))
    have bm := f10_.at_ bm (by omega)
    have oB := oB.then (f10_.low (by omega) (by omega)) (Nat.le_refl _)
    have rw0 := rw0.frT f10_ (by omega)
    have bs := f10_.at_ bs (by omega)
    have ro := ro2
    have zro := ro.lt
    have b2 := ro.b
    have slr := ro.sl
    have fr := fr.low2 f10_ (by omega) (.inl rfl)
    have rwra := RW.refl (Array.size H2) H41
    have hfe : ∀ hq : ¬ k1 = b.length, Bn.secF id b m = .error 60 := fun hq => by rw [Bn.sF_10 h10]; exact Bn.mE_e (Bn.whole_l hp1 hq)
    have hkl := (Bn.cod_lst Bn.cod_cod).sound _ _ _ hp1
    have hok : ∀ hq : k1 = b.length, Bn.secF id b m = .ok { m with codes := xs } := fun hq => by rw [Bn.sF_10 h10]; exact Bn.mE_ok (Bn.whole_ok hp1 hq)
    refine KL.run 2 rfl ?_
    refine KL.opS (S.store rfl sz30 rfl rfl ra.cells1 ra.one bm (by simp)) rfl rfl ?_
    rintro H42 ⟨u42, b42⟩
    have o0 := o0.trans (OldB.upd u42 (by omega))
    have zu42 := u42.1
    have oB := oB.upd u42 (by omega)
    have rw0 := rw0.updT u42 (by omega)
    have bs := ((u42).2 _ (by omega)).trans bs
    have b2 := ((u42).2 _ (by omega)).trans b2
    have fr := (by exact fr.upd u42)
    have rwra := rwra.updT u42 (by omega)
    have bm := b42
    have bm : H42[gm]? = some (.cells [t, i, f, tb, me, gl, ex, .bool m.hasStart, .int .u32 m.start, el, ua, da].toArray 33 (0, 0)) := bm
    have hms : MS H42 gm N { m with codes := xs } t i f tb me gl ex el ua da := ⟨bm, ms.rt.to rw0 (Nat.le_refl _), ms.ri.to rw0 (Nat.le_refl _), ms.rf.to rw0 (Nat.le_refl _), ms.rtb.to rw0 (Nat.le_refl _), ms.rme.to rw0 (Nat.le_refl _), ms.rgl.to rw0 (Nat.le_refl _), ms.rex.to rw0 (Nat.le_refl _), ms.rel.to rw0 (Nat.le_refl _), ra.to rwra (by omega), ms.rda.to rw0 (Nat.le_refl _), ms.rs⟩
    refine KL.nil (KQ.normBlock (KQ.r (KL.run 3 rfl (KL.ld rfl (cell_of b2 rfl) (KL.q (R.lenS rfl Tryd.underlying36 rfl slr) rfl (KL.run 1 rfl ?_))))))
    refine KL.callX rfl rfl rfl rfl Tryd.call55 rfl rfl rfl (must_any _) ?_ ?_
    · rintro vx _ ⟨rfl, hq, rfl⟩
      simp only [sd] at hq
      exact KQ.pan (⟨_, hfe (by simp only [List.length_drop] at hq; omega), rfl, fr, _, bm, rfl⟩)
    rintro _ _ ⟨rfl, hq, rfl⟩
    simp only [sd] at hq
    refine KL.nil (KQ.toX (KQ.fin0 Tryd.results54 ?_))
    exact ⟨_, _, _, _, _, _, _, _, _, _, _, hok (by have := hkl.2.2; simp only [List.length_drop] at hq; omega), hms, fr⟩
  intro h10
  refine KC.region (KL.run 2 rfl ?_)
  refine KL.callX rfl rfl rfl rfl Tryd.call112 rfl rfl rfl (listD_any ro) ?_ ?_
  · rintro vx H44 ⟨ex_, hx1, hx2, hx3⟩
    refine KQ.panBlock ?_
    refine KQ.panThen ?_
    exact KQ.pan (⟨_, by rw [Bn.sF_n (fun n h_ h__ => by omega)]; exact Bn.mE_e (Bn.whole_e hx1), hx2, fr.low2 hx3 (by omega) (.inl rfl), _, hx3.at_ bm (by omega), rfl⟩)
  rintro ua H45 ⟨xs, k1, v1, hp1, ra, ro2, f11_⟩
  have zf_H45 := f11_.1
  have o0 := o0.trans (f11_.low (Nat.zero_le _) (Nat.zero_le _))
  have bm := f11_.at_ bm (by omega)
  have oB := oB.then (f11_.low (by omega) (by omega)) (Nat.le_refl _)
  have rw0 := rw0.frT f11_ (by omega)
  have bs := f11_.at_ bs (by omega)
  have ro := ro2
  have zro := ro.lt
  have b2 := ro.b
  have slr := ro.sl
  have fr := fr.low2 f11_ (by omega) (.inl rfl)
  have rwra := RW.refl (Array.size H2) H45
  have hfe : ∀ hq : ¬ k1 = b.length, Bn.secF id b m = .error 60 := fun hq => by rw [Bn.sF_n (fun n h_ h__ => by omega)]; exact Bn.mE_e (Bn.whole_l hp1 hq)
  have hkl := (Bn.cod_lst Bn.cod_dat).sound _ _ _ hp1
  have hok : ∀ hq : k1 = b.length, Bn.secF id b m = .ok { m with datas := xs } := fun hq => by rw [Bn.sF_n (fun n h_ h__ => by omega)]; exact Bn.mE_ok (Bn.whole_ok hp1 hq)
  refine KL.run 2 rfl ?_
  refine KL.opS (S.store rfl sz31 rfl rfl ra.cells1 ra.one bm (by simp)) rfl rfl ?_
  rintro H46 ⟨u46, b46⟩
  have o0 := o0.trans (OldB.upd u46 (by omega))
  have zu46 := u46.1
  have oB := oB.upd u46 (by omega)
  have rw0 := rw0.updT u46 (by omega)
  have bs := ((u46).2 _ (by omega)).trans bs
  have b2 := ((u46).2 _ (by omega)).trans b2
  have fr := (by exact fr.upd u46)
  have rwra := rwra.updT u46 (by omega)
  have bm := b46
  have bm : H46[gm]? = some (.cells [t, i, f, tb, me, gl, ex, .bool m.hasStart, .int .u32 m.start, el, co, ua].toArray 33 (0, 0)) := bm
  have hms : MS H46 gm N { m with datas := xs } t i f tb me gl ex el co ua := ⟨bm, ms.rt.to rw0 (Nat.le_refl _), ms.ri.to rw0 (Nat.le_refl _), ms.rf.to rw0 (Nat.le_refl _), ms.rtb.to rw0 (Nat.le_refl _), ms.rme.to rw0 (Nat.le_refl _), ms.rgl.to rw0 (Nat.le_refl _), ms.rex.to rw0 (Nat.le_refl _), ms.rel.to rw0 (Nat.le_refl _), ms.rco.to rw0 (Nat.le_refl _), ra.to rwra (by omega), ms.rs⟩
  refine KL.nil (KQ.normBlock (KQ.r (KL.run 3 rfl (KL.ld rfl (cell_of b2 rfl) (KL.q (R.lenS rfl Tryd.underlying36 rfl slr) rfl (KL.run 1 rfl ?_))))))
  refine KL.callX rfl rfl rfl rfl Tryd.call55 rfl rfl rfl (must_any _) ?_ ?_
  · rintro vx _ ⟨rfl, hq, rfl⟩
    simp only [sd] at hq
    exact KQ.pan (⟨_, hfe (by simp only [List.length_drop] at hq; omega), rfl, fr, _, bm, rfl⟩)
  rintro _ _ ⟨rfl, hq, rfl⟩
  simp only [sd] at hq
  refine KL.nil (KQ.toX (KQ.fin0 Tryd.results54 ?_))
  exact ⟨_, _, _, _, _, _, _, _, _, _, _, hok (by have := hkl.2.2; simp only [List.length_drop] at hq; omega), hms, fr⟩
end Go.Proofs.YtldmfchamcpmmaaDoor
namespace Go.Proofs.YtldmfchamcpmmaaDoor
open Go Go.RowKit Go.Deep
set_option linter.unusedVariables false
set_option linter.unusedSimpArgs false
section
variable {P : Program} {n d : Nat} {W0 : World} {Q : Exit → Act → World → Prop} {E : Env} {H : Heap} {D : List Deferred}
theorem KQD.normBlock {id : Nat} (h : KQ n W0 (plusQ D Q) .normal E H) : KQ n W0 (plusQ D (Exit.inBlock id Q)) .normal E H := h
theorem KQD.retBlock {id : Nat} (h : KQ n W0 (plusQ D Q) .ret E H) : KQ n W0 (plusQ D (Exit.inBlock id Q)) .ret E H := h
theorem KQD.panBlock {id : Nat} {ch : List PanicEntry} (h : KQ n W0 (plusQ D Q) (.panic ch) E H) : KQ n W0 (plusQ D (Exit.inBlock id Q)) (.panic ch) E H := h
theorem KQD.hit {id : Nat} (h : KQ n W0 (plusQ D Q) .normal E H) : KQ n W0 (plusQ D (Exit.inBlock id Q)) (.exit id) E H := fun a w ha hw => by
  show (if id = id then _ else _); rw [if_pos rfl]; exact h a w ha hw
theorem KQD.exitThen {N : Act → World → Prop} {id : Nat} (h : KQ n W0 (plusQ D Q) (.exit id) E H) : KQ n W0 (plusQ D (Exit.then N Q)) (.exit id) E H := h
theorem KCD.exit {id : Nat} (h : KQ n W0 (plusQ D Q) (.exit id) E H) : KCD D P n W0 Q (.exit id) E H := fun a w ha hw => wp_exit (h a w ha hw)
theorem KCD.block {id : Nat} {c : Code} (h : KCD D P n W0 (Exit.inBlock id Q) c E H) : KCD D P n W0 Q (.block id c) E H := fun a w ha hw => wp_block (h a w ha hw)
theorem KCD.sub {c : Code} {E' : Env} (hs : Sub E' E) (h : KCD D P n W0 Q c E' H) : KCD D P n W0 Q c E H := fun a w ha hw => h a w (ha.sub hs) hw
theorem KCD.iteL {x y : Code} {b : Bool} (hc : get E d = some (.bool b)) (ht : b = true → KCD D P n W0 Q x ((d, .bool true) :: E) H) (hf : b = false → KCD D P n W0 Q y ((d, .bool false) :: E) H) : KCD D P n W0 Q (.cond (.tmp d) x y) E H := by
  cases hb : b with
  | true => exact KCD.sub (sub_case hc true hb) (KCD.condT (by simp [ev, get]) (ht hb))
  | false => exact KCD.sub (sub_case hc false hb) (KCD.condF (by simp [ev, get]) (hf hb))
/-- a loop's round is done -/
def AgainD (D : List Deferred) (n : Nat) (W0 : World) {κ : Type} (Ek : κ → Env) (I : κ → Heap → Prop) (μ : κ → Nat) (m : Nat) (a : Act) (w : World) : Prop := ∃ a0, a = plusA D a0 ∧ Again n W0 Ek I μ m a0 w
theorem KCD.loopD {κ : Type} {c : Code} (m : List Nat) (L : κ → Env) (I : κ → Heap → Prop) (μ : κ → Nat) (k0 : κ) (hs : Sub (L k0 ++ drop m E) E) (h0 : I k0 H)
    (round : ∀ k H', I k H' → KCD D P n W0 (Exit.then (AgainD D n W0 (fun k => L k ++ drop m E) I μ (μ k)) Q) c (L k ++ drop m E) H') : KCD D P n W0 Q (.loop c) E H := by
  intro a w ha hw
  refine wp_loop_at (fun m' a w => ∃ k H a0, a = plusA D a0 ∧ μ k = m' ∧ I k H ∧ Rep n (L k ++ drop m E) a0 ∧ St W0 H w) ⟨_, k0, H, a, rfl, rfl, h0, ha.sub hs, hw⟩ ?_
  rintro m' a w ⟨k, H', a0, rfl, rfl, hI, hr, hst⟩
  refine wp_mono (round k H' hI a0 w hr hst) fun e a' w' hq => ?_
  cases e with
  | normal =>
    obtain ⟨a1, rfl, k', H'', hlt, hI', hr', hst'⟩ := hq
    exact ⟨_, hlt, k', H'', a1, rfl, rfl, hI', hr', hst'⟩
  | _ => exact hq
theorem KQD.again {κ : Type} {Ek : κ → Env} {I : κ → Heap → Prop} {μ : κ → Nat} {m : Nat} (k : κ) (hs : Sub (Ek k) E) (hμ : μ k < m) (hI : I k H) : KQ n W0 (plusQ D (Exit.then (AgainD D n W0 Ek I μ m) Q)) .normal E H :=
  fun a w ha hw => ⟨a, rfl, k, H, hμ, hI, ha.sub hs, hw⟩
/-- a way out with nothing put by -/
theorem KQ.finD {fn : Func} {R : Value → Heap → Prop} (v : Value) (hr : ∀ a w, Rep n E a → w.heap = H → (results fn a.tmps).run P w = .ok v w) (hR : R v H) : KQ n W0 (PostD P fn W0 R) .ret E H := by
  intro a w ha hw
  show Leaves P fn a.tmps _ a.defers .returning w
  rw [ha.defers]
  refine ⟨v, hr a w ha hw.heap, v, rfl, ⟨rfl, hw.os, hw.tape, hw.output⟩, ?_⟩
  rw [hw.heap]; exact hR
end
end Go.Proofs.YtldmfchamcpmmaaDoor
namespace Go.Proofs.YtldmfchamcpmmaaDoor
open Go Go.RowKit Go.ChangeShapes Go.WideShapes Go.Deep
set_option linter.unusedVariables false
set_option linter.unusedSimpArgs false
theorem Sl.keepB {k : IntKind} {H H' : Heap} {v : Value} {l : List Int} (h : Sl 1 (EInt k) H v l) (hk : l = [] ∨ H'[vblock v]? = H[vblock v]?) : Sl 1 (EInt k) H' v l := by
  rcases hk with rfl | hk
  · exact h.empty H'
  obtain ⟨a, cap, h1, h2, h3, h4, h5, h6⟩ := h
  refine ⟨a, cap, h1, h2, h3, h4, h5, fun j x hj => ?_⟩
  obtain ⟨cs, e1, e2, e3⟩ := h6 j x hj
  refine ⟨cs, e1, fun i u hu => ?_, e3⟩
  have := e2 i u hu
  have hb : (((vbase v).add (j * 1)).add i).block = vblock v := by simp [vblock, Addr.add]; split <;> split <;> rfl
  unfold cellH at this ⊢
  rw [hb] at this ⊢
  rw [hk]; exact this
/-- full: no room behind it -/
structure Full (B : Nat) (H : Heap) (v : Value) (l : List Int) : Prop where
  sl : Sl 1 (EInt .u8) H v l
  pos : 0 < l.length
  at_ : ∃ g, v = .slice (some ⟨g, 0, none⟩) l.length l.length ∧ B ≤ g ∧ g < H.size
/-- a row of the call's own, or full -/
def Out (e : TypeId) (B : Nat) (H : Heap) (v : Value) (l : List Int) : Prop := Own 1 (EInt .u8) e #[] B H v l ∨ Full B H v l
section
variable {e : TypeId} {B : Nat} {H H' : Heap} {v : Value} {l : List Int}
theorem Out.sl (h : Out e B H v l) : Sl 1 (EInt .u8) H v l := h.elim (fun h => h.sl (emptyOld _) (by omega)) (fun h => h.sl)
theorem Out.lt (h : Out e B H v l) : v = .slice none 0 0 ∨ (B ≤ vblock v ∧ vblock v < H.size) := h.elim (fun h => h.lt) (fun h => by
  obtain ⟨g, hv, h1, h2⟩ := h.at_
  subst hv; exact .inr ⟨h1, h2⟩)
theorem Out.one (h : Out e B H v l) : v.oneCell' = true := h.sl.one
theorem Out.keep (h : Out e B H v l) (hk : H'[vblock v]? = H[vblock v]?) (hs : H.size ≤ H'.size) : Out e B H' v l := h.elim (fun h => .inl (h.keep hk)) (fun h => .inr (by
  obtain ⟨g, hv, h1, h2⟩ := h.at_
  exact ⟨h.sl.keepB (.inr hk), h.pos, g, hv, h1, by omega⟩))
theorem Out.old (h : Out e B H v l) (o : Old H H') : Out e B H' v l := h.elim (fun h => .inl (h.old o)) (fun h => .inr (by
  obtain ⟨g, hv, h1, h2⟩ := h.at_
  exact ⟨h.sl.old o, h.pos, g, hv, h1, by have := o.1; omega⟩))
theorem Out.upd {g : Nat} (h : Out e B H v l) (u : Upd g H H') (hne : v = .slice none 0 0 ∨ vblock v ≠ g) : Out e B H' v l := h.elim (fun h => .inl (h.upd u hne)) (fun h => .inr (by
  obtain ⟨g', hv, h1, h2⟩ := h.at_
  have hne : vblock v ≠ g := by rcases hne with hn | hn; (subst hn; cases hv); exact hn
  exact ⟨h.sl.keepB (.inr (u.2 _ hne)), h.pos, g', hv, h1, by have := u.1; omega⟩))
end
section
variable {P : Program} {En : Env} {H : Heap} {o : Oper} {v : Value} {e : TypeId} {B : Nat} {l : List Int}
theorem M.appendFullO {T : TypeId} {s x : Operand} {u : Value} {m : List Int} {z : Value} {by' : Nat} (ho : o.op = .call { callee := .builtin .append, args := #[s, x], argTypes := #[T, T] }) (ht : P.underlying T = some (.slice e)) (hi : (P.info? e).map (fun i => (i.zero, i.size, i.bytes)) = some (some z, 1, by')) (hz : z.cells.size = 1)
    (hs : ev En s = some v) (hx : ev En x = some u) (hf : Full B H v l) (hm : Sl 1 (EInt .u8) H u m) (hm0 : 0 < m.length) (hB : B ≤ H.size) (hsz : (l.length + m.length) * by' ≤ 140737488355328) (hlen : l.length + m.length ≤ maxLen) :
    RunM P En H o (fun v' H' => Own 1 (EInt .u8) e #[] B H' v' (l ++ m) ∧ Grown v H H' ∧ Nx H v v' ∧ Old H H') := by
  intro ρ w ha hw
  obtain ⟨i, hi', hz0, hz1, hz2⟩ : ∃ i, P.info? e = some i ∧ i.zero = some z ∧ i.size = 1 ∧ i.bytes = by' := by
    cases hq : P.info? e with
    | none => simp [hq] at hi
    | some i => simp [hq] at hi; exact ⟨i, rfl, hi⟩
  obtain ⟨ad, cap, hu, hsp, hb⟩ := hm.addr hm0
  obtain ⟨fm, hfl, hfc, hfe⟩ := hm.flat hm0
  obtain ⟨fo, hol, hoc, hoe⟩ := hf.sl.flat hf.pos
  obtain ⟨g, hv, hg1, hg2⟩ := hf.at_
  rw [hb] at hfc
  have hvb : vbase v = ⟨g, 0, none⟩ := by rw [hv]; rfl
  rw [hvb] at hoc
  obtain ⟨v', w', hr, h2, h3⟩ := run_append_arg_grows (P := P) w T o.type e i z 1 by' ht hi' hz0 hz1 hz2 hz (by omega) ⟨g, 0, none⟩ l.length l.length fo hol (fun j q hj => by rw [cell_w hw]; exact hoc j q hj) ad m.length cap fm hfl (fun j q hj => by rw [cell_w hw]; exact hfc j q hj) (by omega) hlen hsz
  have hrow : OwnH H.size e 1 w'.heap v' (l ++ m).length (fo ++ fm) := by
    rw [← hw, List.length_append]; exact ownH_w.1 h2
  have hel : ∀ j x, nth (l ++ m) j = some x → EInt .u8 #[] (((fo ++ fm).drop (j * 1)).take 1) x := by
    intro j x hj
    rw [nth_eq] at hj
    by_cases hjl : j < l.length
    · rw [List.getElem?_append_left hjl] at hj
      rw [List.drop_append_of_le_length (by omega), List.take_append_of_le_length (by simp; omega)]
      exact hoe j x (by rw [nth_eq]; exact hj)
    rw [List.getElem?_append_right (by omega)] at hj
    have hge : j * 1 = fo.length + (j - l.length) * 1 := by omega
    rw [hge, List.drop_append]
    simp only [Nat.le_add_right, List.drop_eq_nil_of_le, List.nil_append, Nat.add_sub_cancel_left]
    exact hfe _ x (by rw [nth_eq]; exact hj)
  have hold : Old H w'.heap := ⟨by rw [← hw]; exact h3.size, fun k hk => by rw [← hw] at hk ⊢; exact h3.block k hk (by simp)⟩
  have hown : Own 1 (EInt .u8) e #[] H.size w'.heap v' (l ++ m) := ⟨fo ++ fm, hrow, hel⟩
  refine ⟨v', w', ?_, ⟨rfl, h3.os, h3.tape, h3.output⟩, hown.weak hB, ⟨hold.1, fun k hk _ => hold.2 k hk⟩, ?_, hold⟩
  · subst hu
    subst hv
    simp [execOp, ho, resolve, invoke, builtin, ha s _ hs, ha x _ hx, Sem.run_bind, Sem.run_pure, Result.andThen]
    simp [hr]
  rcases hown.lt with h | h
  · exact .inl h
  exact .inr (.inr h.1)
theorem M.appendFull {T : TypeId} {s x : Operand} {u : Value} {m : List Int} {z : Value} {by' : Nat} (ho : o.op = .call { callee := .builtin .append, args := #[s, x], argTypes := #[T, T] }) (ht : P.underlying T = some (.slice e)) (hi : (P.info? e).map (fun i => (i.zero, i.size, i.bytes)) = some (some z, 1, by')) (hz : z.cells.size = 1)
    (hs : ev En s = some v) (hx : ev En x = some u) (hf : Full B H v l) (hm : Sl 1 (EInt .u8) H u m) (hm0 : 0 < m.length) (hB : B ≤ H.size) (hsz : (l.length + m.length) * by' ≤ 140737488355328) (hlen : l.length + m.length ≤ maxLen) :
    RunM P En H o (fun v' H' => Own 1 (EInt .u8) e #[] B H' v' (l ++ m) ∧ Grown v H H' ∧ Nx H v v') := fun ρ w ha hw => let ⟨v', w', h1, h2, h3, h4, h5, _⟩ := M.appendFullO ho ht hi hz hs hx hf hm hm0 hB hsz hlen ρ w ha hw; ⟨v', w', h1, h2, h3, h4, h5⟩
theorem M.appendOut {T : TypeId} {s x : Operand} {u : Value} {m : List Int} {z : Value} {by' : Nat} (ho : o.op = .call { callee := .builtin .append, args := #[s, x], argTypes := #[T, T] }) (ht : P.underlying T = some (.slice e)) (hi : (P.info? e).map (fun i => (i.zero, i.size, i.bytes)) = some (some z, 1, by')) (hz : z.cells.size = 1)
    (hs : ev En s = some v) (hx : ev En x = some u) (hf : Out e B H v l) (hm : Sl 1 (EInt .u8) H u m) (hm0 : 0 < m.length) (hB : B ≤ H.size) (hsz : (l.length + m.length) * by' ≤ 140737488355328) (hlen : l.length + m.length ≤ maxLen) :
    RunM P En H o (fun v' H' => Own 1 (EInt .u8) e #[] B H' v' (l ++ m) ∧ Grown v H H' ∧ Nx H v v') := by
  rcases hf with hf | hf
  · exact M.appendN ho ht hi hz (by omega) hs hx hf hm (fun _ _ h _ => h) hB hsz hlen
  exact M.appendFull ho ht hi hz hs hx hf hm hm0 hB hsz hlen
end
end Go.Proofs.YtldmfchamcpmmaaDoor
namespace Go.Proofs.YtldmfchamcpmmaaDoor
open Go Go.RowKit
set_option linter.unusedVariables false
set_option linter.unusedSimpArgs false
theorem take_succ_getD {α : Type} [Inhabited α] {l : List α} {k : Nat} (h : k < l.length) : l.take (k + 1) = l.take k ++ [l.getD k default] := by
  rw [List.take_add_one, List.getD_eq_getElem?_getD, List.getElem?_eq_getElem h]; rfl
namespace Sc
theorem rise_step {l : List Sec} {k : Nat} (h : k < l.length) : rise 0 (l.take (k + 1)) = (rise 0 (l.take k) && decide (lst 0 (l.take k) < (l.getD k default).1 ∧ (l.getD k default).1 ≤ 11)) := by
  rw [take_succ_getD h, rise_app]; simp [rise]
theorem lst_step {l : List Sec} {k : Nat} (h : k < l.length) : lst 0 (l.take (k + 1)) = (l.getD k default).1 := by
  rw [take_succ_getD h, lst_app]; rfl
theorem body_step {l : List Sec} {k : Nat} (h : k < l.length) : body (l.take (k + 1)) = body (l.take k) ++ ([(l.getD k default).1] ++ Lb.ap ((l.getD k default).2.length : Int) ++ (l.getD k default).2) := by
  rw [take_succ_getD h, body_app]; simp [body]
theorem body_le (l : List Sec) (k : Nat) : (body (l.take k)).length ≤ (body l).length := by
  conv => rhs; rw [← List.take_append_drop k l, body_app, List.length_append]
  omega
theorem rise_no {l : List Sec} {k : Nat} (h : rise 0 (l.take k) = false) : rise 0 l = false := by
  rw [← List.take_append_drop k l, rise_app, h, Bool.false_and]
theorem join_no {l : List Sec} {k : Nat} (h : k < l.length) (hb : ¬ (lst 0 (l.take k) < (l.getD k default).1 ∧ (l.getD k default).1 ≤ 11)) : join l = none := by
  unfold join
  rw [if_neg]
  rw [rise_no (k := k + 1) (by rw [rise_step h, decide_eq_false hb, Bool.and_false])]; simp
theorem join_yes {l : List Sec} {k : Nat} (h : l.length ≤ k) (hr : rise 0 (l.take k) = true) : join l = some (beg ++ body (l.take k)) := by
  rw [List.take_of_length_le h] at *
  unfold join; rw [if_pos hr]
theorem rise_yes {l : List Sec} {k : Nat} (h : k < l.length) (hr : rise 0 (l.take k) = true) (hb : lst 0 (l.take k) < (l.getD k default).1 ∧ (l.getD k default).1 ≤ 11) : rise 0 (l.take (k + 1)) = true := by
  rw [rise_step h, hr, decide_eq_true hb]; rfl
/-- what a joining hands back -/
def JRes (o : Option (List Int)) (bad good : Value) (u : Value) (H : Heap) : Prop := match o with
  | none => u = .tuple #[.slice none 0 0, bad]
  | some m => ∃ v, u = .tuple #[v, good] ∧ Sl 1 (EInt .u8) H v m
theorem body_bytes {l : List Sec} {k : Nat} (h : k < l.length) : (body (l.take k)).length + 1 + (Lb.ap ((l.getD k default).2.length : Int)).length + (l.getD k default).2.length = (body (l.take (k + 1))).length := by
  rw [body_step h]; simp only [List.length_append, List.length_cons, List.length_nil]; omega
/-- the entries and the bytes of sections -/
def wt : List Sec → Nat
  | [] => 0
  | s :: l => 1 + s.2.length + wt l
end Sc
end Go.Proofs.YtldmfchamcpmmaaDoor
namespace Go.Proofs.YtldmfchamcpmmaaDoor
open Go Go.RowKit
set_option linter.unusedVariables false
set_option linter.unusedSimpArgs false
set_option linter.unnecessarySimpa false
namespace Lb
def apI (f : Nat) (z : Int) : List Int := uints (Leb.ap false f z)
theorem apI_step {f : Nat} {z : Int} (h : 128 ≤ z) : apI (f + 1) z = (z % 128 + 128) :: apI f (z / 128) := by
  unfold apI
  rw [Leb.ap, if_neg (by simp [Leb.small]; omega)]
  simp only [uints, List.map_cons, List.cons.injEq, and_true]
  rw [UInt8.toNat_ofNat']
  omega
theorem apI_last {f : Nat} {z : Int} (h0 : 0 ≤ z) (h : z < 128) : apI (f + 1) z = [z] := by
  unfold apI
  rw [Leb.ap, if_pos (by simp [Leb.small]; omega)]
  simp only [uints, List.map_cons, List.map_nil, List.cons.injEq, and_true]
  rw [UInt8.toNat_ofNat']
  omega
theorem pow_step {f : Nat} {z : Int} (h : 128 ≤ z) (hz : z < 128 ^ (f + 1)) : 1 ≤ f ∧ z / 128 < 128 ^ f := by
  refine ⟨?_, ?_⟩
  · cases f with
    | zero => simp at hz; omega
    | succ f => omega
  rw [Int.pow_succ] at hz
  exact Int.ediv_lt_of_lt_mul (by omega) hz
theorem or128 (z : Int) : bits .or .u8 (IntKind.u8.wrap z) 128 = z % 128 + 128 := by
  have key : ∀ a : Fin 256, bits .or .u8 ((a.val : Nat) : Int) 128 = ((a.val % 128 + 128 : Nat) : Int) := by decide +kernel
  have hw := inR_wrap .u8 z
  have e : IntKind.u8.wrap z = z % 256 := by simp [IntKind.wrap, IntKind.signed, IntKind.bits]
  rw [e]
  have := key ⟨(z % 256).toNat, by omega⟩
  simp only at this
  rw [show (((z % 256).toNat : Nat) : Int) = z % 256 from by omega] at this
  rw [this]; omega
end Lb
theorem AppendU_big {H : Heap} (v : Value) (l : List Int) (z : Int) (hs : Sl 1 (EInt .u8) H v l) (hl : l.length ≤ 140737488355300) (h0 : 0 ≤ z) (h1 : z < 18446744073709551616) : Ct Tryd.prog 39 [v, .int .u64 z] H (fun u H' => Own 1 (EInt .u8) 5 #[] H.size H' u (l ++ Lb.ap z) ∧ Old H H') := by
  refine Ct.mk Tryd.func39 rfl Tryd.ntmps39 rfl ?_
  intro W0 hW0
  have o0 : Old H H := Old.refl H
  have wn : Own 1 (EInt .u8) 5 #[] H.size H (.slice none 0 0) ([] : List Int) := Own.nil _ _ _ _ _ _
  refine KC.sr (KL.fin 1 rfl (KQ.sr (KL.run 1 rfl ?_)))
  have lt1 := wn.lt
  refine KL.m (M.append rfl Tryd.underlying36 inf5 rfl (by decide) rfl rfl wn hs (fun _ _ h _ => h) (by omega) (by simp; omega) (by unfold maxLen; simp; omega)) rfl ?_
  rintro v7 H1 ⟨w1, g1⟩
  have ob1 := g1.oldB wn (by omega)
  have o0 := o0.then ob1 (by omega)
  have z1 := ob1.1
  have wn := w1
  have wo : Own 1 (EInt .u8) 5 #[] H.size H1 v7 l := wn
  refine KL.fin 1 rfl (KQ.seq (KC.seq (KC.block ?_)))
  refine KC.loopD (κ := Value × List Int × Nat × Int) [8, 9, 10, 11, 12, 13, 14, 15, 5, 16, 17, 1] (fun k => [(5, k.1), (1, .int .u64 k.2.2.2)]) (fun k Hl => Own 1 (EInt .u8) 5 #[] H.size Hl k.1 k.2.1 ∧ k.2.1 ++ Lb.apI (k.2.2.1 + 1) k.2.2.2 = l ++ Lb.ap z ∧ k.2.1.length + k.2.2.1 + 1 ≤ l.length + 10 ∧ 0 ≤ k.2.2.2 ∧ k.2.2.2 < 128 ^ (k.2.2.1 + 1) ∧ k.2.2.2 < 18446744073709551616 ∧ Old H Hl) (fun k => k.2.2.2.toNat) (v7, l, 9, z) ?_ ?_ ?_
  · exact Sub.all rfl
  · exact ⟨wo, rfl, Nat.le_refl _, h0, by show z < 128 ^ 10; rw [show (128 : Int) ^ 10 = 1180591620717411303424 from by decide]; omega, h1, o0⟩
  rintro ⟨vo, acc, f, y⟩ H2 ⟨wo, hap, hle, hy0, hyp, hy1, o0⟩
  have zl_H2 := o0.1
  dsimp only at wo hap hle hy0 hyp hy1
  have zl := o0.1
  refine KC.seq (KC.sr (KL.fin 2 rfl (KQ.seq ?_)))
  refine KC.iq rfl ?_ ?_
  · intro hc9
    try dsimp only at hc9
    have hps := Lb.pow_step (by omega) hyp
    refine KC.skip (KQ.seq (KC.block (KC.sr (KL.run 2 rfl (KL.q (R.convW rfl Tryd.underlying101 Tryd.underlying5 rfl) rfl (KL.q ((R.bits rfl rfl rfl rfl).val (congrArg (Value.int .u8) (Lb.or128 y))) rfl ?_))))))
    refine KL.m (M.lit rfl Tryd.underlying36 zs5 (by decide) rfl rfl rfl) rfl ?_
    rintro _ H3 ⟨rfl, n3⟩
    have z3 := n3.2.1
    have o0 := o0.trans n3.1
    have wo := wo.old n3.1
    have b3 := n3.2.2
    have s1 : Sl 1 (EInt .u8) H3 _ [y % 128 + 128] := Sl.lits (l := [y % 128 + 128]) n3 rfl (by simp) (by intro x hx; simp only [List.mem_singleton] at hx; subst hx; dsimp only [InR]; omega)
    have lt4 := wo.lt
    refine KL.m (M.append rfl Tryd.underlying36 inf5 rfl (by decide) rfl rfl wo s1 (fun _ _ h _ => h) (by omega) (by simp only [List.length_singleton]; omega) (by unfold maxLen; simp only [List.length_singleton]; omega)) rfl ?_
    rintro v4 H4 ⟨w4, g4⟩
    try dsimp only at g4
    have ob4 := g4.oldB wo (by omega)
    have o0 := o0.then ob4 (by omega)
    have z4 := ob4.1
    have wo := w4
    refine KL.fin 1 rfl (KQ.r (KL.run 1 rfl ?_))
    refine KL.q ((R.shr rfl rfl rfl (by omega)).val (congrArg (Value.int .u64) (congrArg (y / ·) (show (2 : Int) ^ (min (7 : Int).toNat IntKind.u64.bits) = 128 from by decide)))) rfl ?_
    refine KL.fin 1 rfl (KQ.normBlock ?_)
    refine KQ.again ((v4, acc ++ [y % 128 + 128], f - 1, y / 128)) ?_ ?_ ?_
    · exact Sub.all rfl
    · show (y / 128).toNat < y.toNat; omega
    exact ⟨wo, by show (acc ++ [y % 128 + 128]) ++ Lb.apI (f - 1 + 1) (y / 128) = _; rw [show f - 1 + 1 = f from by omega, ← hap, Lb.apI_step (f := f) (z := y) (by omega), List.append_assoc]; rfl, by show (acc ++ [_]).length + (f - 1) + 1 ≤ _; rw [List.length_append, List.length_singleton]; omega, by show 0 ≤ y / 128; omega, by show y / 128 < 128 ^ (f - 1 + 1); rw [show f - 1 + 1 = f from by omega]; exact hps.2, by show y / 128 < _; omega, o0⟩
  intro hc9
  try dsimp only at hc9
  refine KC.exit (KQ.exitThen (KQ.exitThen (KQ.hit (KQ.sr (KL.run 2 rfl ?_)))))
  refine KL.q (R.convI rfl Tryd.underlying101 Tryd.underlying5 rfl (by dsimp only [InR]; omega)) rfl ?_
  refine KL.m (M.lit rfl Tryd.underlying36 zs5 (by decide) rfl rfl rfl) rfl ?_
  rintro _ H5 ⟨rfl, n5⟩
  have z5 := n5.2.1
  have o0 := o0.trans n5.1
  have wo := wo.old n5.1
  have b5 := n5.2.2
  have s1 : Sl 1 (EInt .u8) H5 _ [y] := Sl.lits (l := [y]) n5 rfl (by simp) (by intro x hx; simp only [List.mem_singleton] at hx; subst hx; dsimp only [InR]; omega)
  have lt6 := wo.lt
  refine KL.m (M.append rfl Tryd.underlying36 inf5 rfl (by decide) rfl rfl wo s1 (fun _ _ h _ => h) (by omega) (by simp only [List.length_singleton]; omega) (by unfold maxLen; simp only [List.length_singleton]; omega)) rfl ?_
  rintro v6 H6 ⟨w6, g6⟩
  try dsimp only at g6
  have ob6 := g6.oldB wo (by omega)
  have o0 := o0.then ob6 (by omega)
  have z6 := ob6.1
  have wo := w6
  refine KL.fin 1 rfl (KQ.seq (KC.ret (KQ.ofRet (KQ.fin1 Tryd.results39 rfl ?_))))
  exact ⟨by rw [← hap, Lb.apI_last hy0 (by omega)]; exact wo, o0⟩
end Go.Proofs.YtldmfchamcpmmaaDoor
namespace Go.Proofs.YtldmfchamcpmmaaDoor
open Go Go.RowKit
set_option linter.unusedVariables false
set_option linter.unusedSimpArgs false
set_option linter.unnecessarySimpa false
theorem Join_any {H : Heap} (v : Value) (l : List Sec) (hs : Sl 2 ESec H v l) (hz : (Sc.body l).length ≤ 140737488351232) : Ct Tryd.prog 16 [v] H (fun u H' => Old H H' ∧ Sc.JRes (Sc.join l) (.int .i64 2) (.int .i64 0) u H') := by
  refine Ct.mk Tryd.func16 rfl Tryd.ntmps16 rfl ?_
  intro W0 hW0
  have o0 : Old H H := Old.refl H
  have hll := hs.len
  refine KC.sr (KL.fin 2 rfl (KQ.sr ?_))
  refine KL.m (M.lit rfl Tryd.underlying36 zs5 (by decide) rfl rfl rfl) rfl ?_
  rintro _ H1 ⟨rfl, n1⟩
  have z1 := n1.2.1
  have o0 := o0.trans n1.1
  have b1 := n1.2.2
  have bm := b1
  refine KL.m (M.mark rfl Tryd.underlying36 Tryd.underlying5 rfl bm) rfl ?_
  rintro _ H2 ⟨rfl, um, bmk⟩
  have zum := um.1
  have o0 := o0.upd um (by omega)
  have sm : Full H.size H2 (.slice (some ⟨_, 0, none⟩) 8 8) Sc.beg := ⟨Sl.ofCells (l := Sc.beg) bmk (by decide) (by decide), by decide, _, rfl, Nat.le_refl _, blk_lt bmk⟩
  refine KL.fin 1 rfl (KQ.sr ?_)
  refine KL.c rfl Tryd.call63 (rising_any) ?_
  rintro _ H3 ⟨rfl, ox, bl, zr⟩
  have zc_H3 := (ox).1
  have o0 := o0.trans ox
  have wo : Out 5 H.size H3 _ Sc.beg := .inr (sm.sl.old ox |> fun s => ⟨s, sm.pos, sm.at_.imp fun g h => ⟨h.1, h.2.1, by omega⟩⟩)
  refine KL.fin 1 rfl (KQ.seq (KC.seq (KC.sr (KL.run 1 rfl (KL.q (R.lenS rfl Tryd.underlying66 rfl hs) rfl (KL.fin 1 rfl (KQ.seq (KC.block ?_))))))))
  refine KC.loopD (κ := Nat × Value) [14, 15, 16, 7, 17, 18, 19, 20, 21, 2, 3, 22, 23, 24, 25, 26, 27, 28, 29, 30, 31, 32, 33, 34, 4, 35, 13] (fun k => [(13, .int .i64 (k.1 : Nat)), (4, k.2)]) (fun k Hl => k.1 ≤ l.length ∧ Out 5 H.size Hl k.2 (Sc.beg ++ Sc.body (l.take k.1)) ∧ vblock k.2 ≠ (Array.size H2) ∧ Hl[(Array.size H2)]? = some (.cells [.int .u8 (Sc.lst 0 (l.take k.1))].toArray 5 (0, 0)) ∧ Sc.rise 0 (l.take k.1) = true ∧ Old H Hl) (fun k => l.length - k.1) (0, (Value.slice (some ⟨Array.size H, 0, none⟩) 8 8)) ?_ ?_ ?_
  · exact Sub.all rfl
  · exact ⟨Nat.zero_le _, by simpa [Sc.body] using wo, by show Array.size H ≠ _; omega, bl, rfl, o0⟩
  rintro ⟨k, vo⟩ H4 ⟨hk, wo, hne, bl, hr, o0⟩
  have zl_H4 := o0.1
  dsimp only at hk wo hne bl hr
  have zl := o0.1
  have hg := blk_lt bl
  have hvo := wo.lt
  refine KC.sr (KL.fin 1 rfl (KQ.seq (KC.seq ?_)))
  refine KC.iq rfl ?_ ?_
  · intro hc14
    try dsimp only at hc14
    obtain ⟨u, hcx, hu, q0⟩ := hs.secAt k (by omega)
    have q1 := q0
    dsimp only [InR] at q1
    have hbs := Sc.body_bytes (l := l) (k := k) (by omega)
    have hbl := Sc.body_le l (k + 1)
    have hbk := Sc.body_le l k
    have hul := hu.len
    have hal := (Lb.ap_length (z := ((l.getD k default).2.length : Int)) (by omega) (by omega)).2
    refine KC.skip (KQ.seq (KC.seq (KC.block (KC.sr ?_))))
    refine KL.q (R.index (j := k) rfl Tryd.underlying66 sz71 rfl rfl (hs.old o0) rfl (by omega)) rfl ?_
    refine KL.lda rfl (o0.cells hcx) rfl ?_
    refine KL.m (M.alloc rfl zr71 rfl) rfl ?_
    rintro _ H5 ⟨rfl, n5⟩
    have z5 := n5.2.1
    have o0 := o0.trans n5.1
    have bl := (n5.1).blk bl
    have b5 := n5.2.2
    have bx := b5
    have wo := wo.old n5.1
    have gx := n5.2.1
    refine KL.opS (S.storeAgg rfl sz71 rfl rfl (rfl) (by intro q hq; simp only [List.mem_cons, List.not_mem_nil, or_false] at hq; rcases hq with rfl | rfl <;> first | rfl | exact hu.one) bx (by simp)) rfl rfl ?_
    rintro H6 ⟨u6, b6⟩
    have o0 := o0.upd u6 (by omega)
    have zu6 := u6.1
    have bl := ((u6).2 _ (by omega)).trans bl
    have bx := b6
    have wo := wo.upd u6 (hvo.imp id (fun h => by omega))
    refine KL.nil (KQ.seq (KC.seq (KC.sr (KL.run 2 rfl (KL.ld rfl (cell_of bx rfl) ?_)))))
    refine KL.c rfl Tryd.call117 (rising1_any _ _ _ bl) ?_
    rintro _ H7 ⟨rfl, uu, bl⟩
    have o0 := o0.upd uu (by omega)
    have zuu := uu.1
    have bx := ((uu).2 _ (by omega)).trans bx
    have wo := wo.upd uu (.inr hne)
    refine KL.fin 1 rfl (KQ.seq ?_)
    refine KC.iq rfl ?_ ?_
    · intro hc21
      try dsimp only at hc21
      refine KC.sr (KL.fin 2 rfl (KQ.seq (KC.ret (KQ.retThen (KQ.retBlock (KQ.retThen (KQ.retThen (KQ.retBlock (KQ.retThen (KQ.ofRet (KQ.fin2 Tryd.results16 rfl rfl ?_)))))))))))
      (exact ⟨o0, by rw [Sc.join_no (l := l) (k := k) (by omega) hc21]; rfl⟩)
    intro hc21
    try dsimp only at hc21
    refine KC.skip (KQ.seq ?_)
    refine KC.text (clOf [(3, 2), (4, 2), (9, 2), (12, 2)]) (fun _ Hc => Hc[_]? = some _) (by kernel_rfl) (by kernel_rfl) (fun _ => bx) ?_
    refine KP.run 2 rfl rfl ?_
    refine KP.op rfl (fun Hg hg => R.load rfl Tryd.underlying5 rfl rfl (cell_of hg rfl)) rfl rfl rfl ?_
    refine KP.opM rfl (M.lit rfl Tryd.underlying36 zs5 (by decide) rfl rfl rfl) rfl rfl rfl (fun _ _ h _ _ _ => h.2.1.blk bx) ?_
    rintro _ H8 ⟨rfl, n8⟩
    have z8 := n8.2.1
    have o0 := o0.trans n8.1
    have bl := (n8.1).blk bl
    have bx := (n8.1).blk bx
    have b8 := n8.2.2
    have s1 : Sl 1 (EInt .u8) H8 _ [(l.getD k default).1] := Sl.lits (l := [(l.getD k default).1]) n8 rfl (by simp) (by intro x hx; simp only [List.mem_singleton] at hx; subst hx; exact q0)
    have wo := wo.old n8.1
    have ltv := wo.lt
    have zo := o0.1
    have hnx : vblock vo ≠ Array.size H4 := by
      rcases hvo with h | h
      · rw [h]; show (0 : Nat) ≠ _; omega
      omega
    refine KP.opM rfl (M.appendOut (m := [(l.getD k default).1]) rfl Tryd.underlying36 inf5 rfl rfl rfl wo s1 (by simp) (by omega) (by rw [List.length_append]; simp only [List.length_singleton, show Sc.beg.length = 8 from rfl, List.length_append]; omega) (by unfold maxLen; rw [List.length_append]; simp only [List.length_singleton, show Sc.beg.length = 8 from rfl]; omega)) rfl rfl rfl (fun _ _ h _ _ _ => (h.2.1.2 _ (blk_lt bx) (.inr hnx.symm)).trans bx) ?_
    rintro v1 H10 ⟨w1, g1, nx1⟩
    dsimp only at g1 nx1
    have ob1 := OldB.trans (OldB.refl H.size _) ((⟨g1.1, fun i hi => g1.2 i (by omega) (ltv.imp id (fun h => by omega))⟩ : OldB H.size H8 H10))
    have o0 := o0.then ob1 (by omega)
    have bx := (g1.2 _ (blk_lt bx) (.inr hnx.symm)).trans bx
    have bl := (g1.2 _ (blk_lt bl) (.inr (Ne.symm hne))).trans bl
    have zg1 := g1.1
    have sw := w1.sl (emptyOld _) (by omega)
    refine KP.run 1 rfl rfl ?_
    refine KP.op rfl (fun Hg hg => R.load rfl Tryd.underlying36 rfl rfl (cell_of hg rfl)) rfl rfl rfl ?_
    refine KP.op rfl (fun Hg hg => R.lenS rfl Tryd.underlying36 rfl hu) rfl rfl rfl ?_
    refine KP.op rfl (fun Hg hg => R.convI rfl Tryd.underlying3 Tryd.underlying101 rfl (by dsimp only [InR]; omega)) rfl rfl rfl ?_
    refine KP.call rfl rfl rfl rfl rfl Tryd.call39 rfl rfl rfl (AppendU_big _ _ _ sw (by rw [List.length_append, List.length_append]; simp only [List.length_singleton, show Sc.beg.length = 8 from rfl]; omega) (by omega) (by omega)) (fun _ _ h _ _ _ => h.2.blk bx) ?_
    rintro va H11 ⟨wa, ox⟩
    have zc_H11 := (ox).1
    have o0 := o0.trans ox
    have bl := (ox).blk bl
    have bx := (ox).blk bx
    have hva := wa.lt
    refine KP.run 1 rfl rfl ?_
    refine KP.op rfl (fun Hg hg => R.load rfl Tryd.underlying36 rfl rfl (cell_of hg rfl)) rfl rfl rfl ?_
    have lt12 := wa.lt
    refine KP.opM rfl (M.appendN rfl Tryd.underlying36 inf5 rfl (by decide) rfl rfl wa (by exact (hu.old o0)) (fun _ _ h _ => h) (by omega) (by simp only [List.length_append, List.length_singleton, show Sc.beg.length = 8 from rfl]; omega) (by unfold maxLen; simp only [List.length_append, List.length_singleton, show Sc.beg.length = 8 from rfl]; omega)) rfl rfl rfl (fun _ _ h _ _ _ => (h.2.1.2 _ (blk_lt bx) (wa.lt.imp id (fun h => by omega))).trans bx) ?_
    rintro v12 H12 ⟨w12, g12, nx12⟩
    try dsimp only at g12 nx12
    have ob12 := g12.oldB wa (by omega)
    have o0 := o0.then ob12 (by omega)
    have z12 := ob12.1
    have bl := (g12.2 _ (blk_lt bl) (by exact lt12.imp id (fun h => by omega))).trans bl
    have bx := (g12.2 _ (blk_lt bx) (by exact lt12.imp id (fun h => by omega))).trans bx
    have wa := w12
    have hne2 : vblock v12 ≠ (Array.size H2) := by
      rcases wa.lt with h | h
      · exact absurd (congrArg (fun v => match v with | Value.slice _ n _ => n | _ => 0) h) (by obtain ⟨a, c, hv, _⟩ := wa.val; rw [hv]; simp only [List.length_append, List.length_singleton, show Sc.beg.length = 8 from rfl]; omega)
      omega
    refine KP.fin 1 rfl rfl (KQ.normBlock (KQ.r ?_))
    refine KL.q ((R.add rfl rfl rfl (by dsimp only [InR]; omega)).val (congrArg (Value.int .i64) (show (k : Int) + 1 = ((k + 1 : Nat) : Int) by omega))) rfl ?_
    refine KL.fin 1 rfl ?_
    refine KQ.again ((k + 1, v12)) ?_ ?_ ?_
    · exact Sub.all rfl
    · show l.length - (k + 1) < l.length - k; omega
    exact ⟨by show k + 1 ≤ _; omega, .inl (by have h9 := wa.weak (B' := H.size) (by omega); rw [Sc.body_step (by omega)]; simpa only [List.append_assoc] using h9), hne2, by rw [Sc.lst_step (by omega)]; exact bl, Sc.rise_yes (by omega) hr hc21, o0⟩
  intro hc14
  try dsimp only at hc14
  refine KC.exit (KQ.exitThen (KQ.exitThen (KQ.hit (KQ.sr (KL.fin 3 rfl (KQ.seq (KC.ret (KQ.ofRet (KQ.fin2 Tryd.results16 rfl rfl ?_)))))))))
  (exact ⟨o0, by rw [Sc.join_yes (l := l) (k := k) (by omega) hr]; exact ⟨vo, rfl, wo.sl⟩⟩)
end Go.Proofs.YtldmfchamcpmmaaDoor
namespace Go.Proofs.YtldmfchamcpmmaaDoor
open Go Go.RowKit
set_option linter.unusedVariables false
set_option linter.unusedSimpArgs false
set_option linter.unnecessarySimpa false
end Go.Proofs.YtldmfchamcpmmaaDoor
namespace Go.Proofs.YtldmfchamcpmmaaDoor
open Go Go.RowKit
set_option linter.unusedVariables false
set_option linter.unusedSimpArgs false
namespace En
section
variable {m : Mo} (h : Small m)
include h
end
end En
end Go.Proofs.YtldmfchamcpmmaaDoor
namespace Go.Proofs.YtldmfchamcpmmaaDoor
open Go Go.RowKit
set_option linter.unusedVariables false
set_option linter.unusedSimpArgs false
set_option linter.unnecessarySimpa false
/-- a module's cells in memory -/
structure MoV (H : Heap) (t i f tb me g e el c d : Value) (m : Mo) : Prop where
  t : Sl 2 EFTy H t m.types
  i : Sl 8 EImp H i m.imports
  f : Sl 1 (EInt .u32) H f m.funcs
  tb : Sl 2 ELim H tb m.tables
  me : Sl 2 ELim H me m.mems
  g : Sl 3 EGlo H g m.globs
  e : Sl 3 EExp H e m.exports
  el : Sl 3 EElm H el m.elems
  c : Sl 2 ECod H c m.codes
  d : Sl 3 EDat H d m.datas
  s : InR .u32 m.start
theorem MoV.old {H H' : Heap} {t i f tb me g e el c d : Value} {m : Mo} (h : MoV H t i f tb me g e el c d m) (o : Old H H') : MoV H' t i f tb me g e el c d m :=
  ⟨h.t.old o, h.i.old o, h.f.old o, h.tb.old o, h.me.old o, h.g.old o, h.e.old o, h.el.old o, h.c.old o, h.d.old o, h.s⟩
theorem Join_bin {H : Heap} {v : Value} {l : List Sec} {b : List Int} (hs : Sl 2 ESec H v l) (hz : (Sc.body l).length ≤ 140737488351232) (e : Sc.join l = some b) : Ct Tryd.prog 16 [v] H (fun u H' => ∃ w, u = .tuple #[w, .int .i64 0] ∧ Sl 1 (EInt .u8) H' w b ∧ Old H H') :=
  (Join_any v l hs hz).mono (fun _ _ ⟨o, r⟩ => by rw [e] at r; obtain ⟨w, hw, hs⟩ := r; exact ⟨w, hw, hs, o⟩)
end Go.Proofs.YtldmfchamcpmmaaDoor
