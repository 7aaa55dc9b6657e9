/- What the proof of BinWhole leans on, part 4. No condition but those that each law states. -/
import Derived.Test.YtldmfchamcpmmaaDoorRows
import Derived.WalkKit
import Derived.Deep.Quiet
import Derived.Below
import Derived.WalkLawsBesides
import Derived.Lib.Hide
import Derived.Laws.AppendOwnNone
import Derived.Laws.CopyRow
import Derived.Laws.Tables
import Derived.Orders
import Derived.Deep.Slices
import Derived.Deep.Fields
import Derived.OpenShut
import Derived.ProofKit
import Derived.Lib.AppendZerosOnto
import Derived.Laws.BytesString
import Derived.Lib.SlBytesConst
import Derived.Laws.IdiomStrings
import Derived.Lib.AppendStr
import Derived.Lib.EndianZ
import Derived.Lib.DecodeN
import Derived.Lib.ValidLaws
import Derived.Lib.EndianBits
import Derived.Maps.AppendAt
import Derived.ChangeKeysEq
import Derived.Lib.LaidTab
import Derived.Lib.LaidU8
import Derived.LaidMore
import Derived.WalkSpells
import Derived.Lib.ItoaNum
import Derived.Defers
import Derived.Recover
import Derived.Scope
import Derived.Laws.StructEq
import Derived.ArgAppend
import Derived.Test.YtldmfchamcpmmaaDoorBinWholePC
set_option maxHeartbeats 10000000
set_option maxRecDepth 100000
namespace Go.Proofs.YtldmfchamcpmmaaDoor
open Go Go.RowKit
set_option linter.unusedVariables false
set_option linter.unusedSimpArgs false
set_option linter.unnecessarySimpa false
theorem SameI_refl {H : Heap} {a : Ins} {va vb : Value} (ha : Sl 1 (EInt .u32) H va a.l) (hb : Sl 1 (EInt .u32) H vb a.l) : Ct Tryd.prog 114 [insV a va, insV a vb] H (fun u H' => u = .bool true ∧ Old H H') := by
  refine Ct.mk Tryd.func114 rfl Tryd.ntmps114 rfl ?_
  intro W0 hW0
  have o0 : Old H H := Old.refl H
  unfold insV
  refine KC.sr ?_
  refine KL.m (M.box (cs := [.int .u8 a.op, .int .u32 a.a, .int .u32 a.b, .int .i64 a.c, va]) rfl rfl rfl) rfl ?_
  rintro _ H1 ⟨rfl, n1⟩
  have z1 := n1.2.1
  have o0 := o0.trans n1.1
  have ha := ha.old n1.1
  have hb := hb.old n1.1
  have b1 := n1.2.2
  have bx := b1
  refine KL.m (M.box (cs := [.int .u8 a.op, .int .u32 a.a, .int .u32 a.b, .int .i64 a.c, vb]) rfl rfl rfl) rfl ?_
  rintro _ H2 ⟨rfl, n2⟩
  have z2 := n2.2.1
  have o0 := o0.trans n2.1
  have ha := ha.old n2.1
  have hb := hb.old n2.1
  have bx := (n2.1).blk bx
  have b2 := n2.2.2
  have by_ := b2
  refine KL.fin 1 rfl (KQ.sr (KL.run 1 rfl (KL.ld rfl (cell_of bx rfl) (KL.run 1 rfl (KL.ld rfl (cell_of by_ rfl) (KL.q ((R.eql rfl rfl rfl).val (congrArg Value.bool (decide_eq_true rfl))) rfl (KL.run 2 rfl (KL.ld rfl (cell_of bx rfl) (KL.run 1 rfl (KL.ld rfl (cell_of by_ rfl) (KL.q ((R.eql rfl rfl rfl).val (congrArg Value.bool (decide_eq_true rfl))) rfl ?_)))))))))))
  refine KL.run 3 rfl (KL.ld rfl (cell_of bx rfl) (KL.run 1 rfl (KL.ld rfl (cell_of by_ rfl) (KL.q ((R.eql rfl rfl rfl).val (congrArg Value.bool (decide_eq_true rfl))) rfl (KL.run 3 rfl (KL.ld rfl (cell_of bx rfl) (KL.run 1 rfl (KL.ld rfl (cell_of by_ rfl) (KL.q ((R.eql rfl rfl rfl).val (congrArg Value.bool (decide_eq_true rfl))) rfl (KL.run 3 rfl (KL.ld rfl (cell_of bx rfl) (KL.q (R.lenS rfl Tryd.underlying24 rfl ha) rfl (KL.run 1 rfl ?_)))))))))))))
  refine KL.ld rfl (cell_of by_ rfl) (KL.q (R.lenS rfl Tryd.underlying24 rfl hb) rfl (KL.q ((R.eql rfl rfl rfl).val (congrArg Value.bool (decide_eq_true rfl))) rfl (KL.fin 2 rfl (KQ.seq (KC.seq (KC.sr (KL.fin 1 rfl (KQ.seq (KC.block ?_)))))))))
  refine KC.loopD (κ := Nat) [42, 43, 44, 45, 46, 47, 48, 49, 52, 53, 54, 55, 56, 57, 58, 59, 60, 61, 62, 5, 50, 51, 6] (fun k => [(5, .bool true), (6, .int .i64 (k : Nat))]) (fun k Hl => k ≤ a.l.length ∧ H2 = Hl) (fun k => a.l.length - k) 0 ?_ ?_ ?_
  · exact Sub.all rfl
  · exact ⟨Nat.zero_le _, rfl⟩
  rintro k H3 ⟨hk, rfl⟩
  refine KC.seq (KC.sr (KL.run 2 rfl (KL.ld rfl (cell_of bx rfl) (KL.q (R.lenS rfl Tryd.underlying24 rfl ha) rfl (KL.run 2 rfl ?_)))))
  refine KL.cq 47 rfl ?_ ?_
  · intro hg47
    refine KL.fin 2 rfl (KQ.seq (KC.condT rfl (KC.skip (KQ.seq (KC.seq (KC.block (KC.quiet (by kernel_rfl) (by kernel_rfl) (KD.run 1 rfl (KD.ld rfl (cell_of bx rfl) (KD.run 1 rfl ?_))))))))))
    refine KD.op (R.index1 (j := k) rfl Tryd.underlying24 sz28 rfl rfl ha rfl (by omega)) rfl rfl rfl ?_
    refine KD.ld rfl (ha.int k (by omega)).1 ?_
    refine KD.run 1 rfl (KD.ld rfl (cell_of by_ rfl) (KD.run 1 rfl ?_))
    refine KD.op (R.index1 (j := k) rfl Tryd.underlying24 sz28 rfl rfl hb rfl (by omega)) rfl rfl rfl ?_
    refine KD.ld rfl (hb.int k (by omega)).1 ?_
    refine KD.op ((R.eql rfl rfl rfl).val (congrArg Value.bool (decide_eq_true rfl))) rfl rfl rfl (KD.fin 1 rfl (KQ.normBlock (KQ.r (KL.run 1 rfl ?_))))
    refine KL.q ((R.add rfl rfl rfl (by have := ha.len; dsimp only [InR]; omega)).val (congrArg (Value.int .i64) (show (k : Int) + 1 = ((k + 1 : Nat) : Int) by omega))) rfl ?_
    refine KL.fin 1 rfl ?_
    refine KQ.again (k + 1) ?_ ?_ ?_
    · exact Sub.all rfl
    · show a.l.length - (k + 1) < a.l.length - k; omega
    exact ⟨by omega, rfl⟩
  intro hg47
  refine KL.fin 2 rfl (KQ.seq (KC.condF rfl (KC.exit (KQ.exitThen (KQ.exitThen (KQ.hit (KQ.sr (KL.fin 2 rfl (KQ.seq (KC.ret (KQ.ofRet ?_)))))))))))
  refine KQ.fin1 Tryd.results114 rfl ?_
  exact ⟨rfl, o0⟩
theorem SameAll_refl {H : Heap} {vx vy : Value} {xs : List Ins} (hx : Sl 5 EIns H vx xs) (hy : Sl 5 EIns H vy xs) : Ct Tryd.prog 59 [vx, vy] H (fun u H' => u = .bool true ∧ Old H H') := by
  refine Ct.mk Tryd.func59 rfl Tryd.ntmps59 rfl ?_
  intro W0 hW0
  have o0 : Old H H := Old.refl H
  refine KC.sr (KL.fin 1 rfl (KQ.sr (KL.run 1 rfl (KL.q (R.lenS rfl Tryd.underlying52 rfl hx) rfl (KL.run 1 rfl (KL.q (R.lenS rfl Tryd.underlying52 rfl hy) rfl (KL.q ((R.eql rfl rfl rfl).val (congrArg Value.bool (decide_eq_true rfl))) rfl (KL.fin 1 rfl (KQ.seq (KC.seq ?_))))))))))
  refine KC.sr (KL.fin 1 rfl (KQ.seq (KC.block ?_)))
  refine KC.loopD (κ := Nat) [12, 13, 14, 15, 16, 17, 18, 21, 22, 23, 24, 25, 26, 27, 28, 29, 5, 19, 20, 6] (fun k => [(5, .bool true), (6, .int .i64 (k : Nat))]) (fun k Hl => k ≤ xs.length ∧ Old H Hl) (fun k => xs.length - k) 0 ?_ ?_ ?_
  · exact Sub.all rfl
  · exact ⟨Nat.zero_le _, o0⟩
  rintro k H1 ⟨hk, o0⟩
  have zl_H1 := o0.1
  have hx1 := hx.old o0
  have hy1 := hy.old o0
  refine KC.seq (KC.sr (KL.run 2 rfl (KL.q (R.lenS rfl Tryd.underlying52 rfl hx) rfl (KL.run 2 rfl ?_))))
  refine KL.cq 16 rfl ?_ ?_
  · intro hg16
    obtain ⟨va, hcx, hcl, _⟩ := hx1.insV k (by omega)
    obtain ⟨vb, hdx, hdl, _⟩ := hy1.insV k (by omega)
    refine KL.fin 2 rfl (KQ.seq (KC.condT rfl (KC.skip (KQ.seq (KC.seq (KC.block ?_))))))
    refine KC.grow (by kernel_rfl) (by kernel_rfl) ?_
    refine KG.op (fun Hg og => R.move rfl rfl) rfl rfl rfl ?_
    refine KG.op (fun Hg og => R.move rfl rfl) rfl rfl rfl ?_
    refine KG.op (fun Hg og => R.index (j := k) rfl Tryd.underlying52 sz127 rfl rfl hx rfl (by omega)) rfl rfl rfl ?_
    refine KG.op (fun Hg og => R.loadAgg rfl Tryd.underlying127 rfl sz127 rfl (og.cells hcx) rfl) rfl rfl rfl ?_
    refine KG.op (fun Hg og => R.move rfl rfl) rfl rfl rfl ?_
    refine KG.op (fun Hg og => R.move rfl rfl) rfl rfl rfl ?_
    refine KG.op (fun Hg og => R.index (j := k) rfl Tryd.underlying52 sz127 rfl rfl hy rfl (by omega)) rfl rfl rfl ?_
    refine KG.op (fun Hg og => R.loadAgg rfl Tryd.underlying127 rfl sz127 rfl (og.cells hdx) rfl) rfl rfl rfl ?_
    refine KG.call rfl rfl rfl rfl Tryd.call114 rfl rfl rfl (fun Hg og => SameI_refl (hcl.old og) (hdl.old og)) ?_
    refine KG.op (fun Hg og => R.assign rfl rfl) rfl rfl rfl ?_
    refine KG.nil ?_
    intro H2 ogH2
    have o0 := o0.trans ogH2
    have zH2 := ogH2.1
    refine KQ.normBlock (KQ.r (KL.run 1 rfl ?_))
    refine KL.q ((R.add rfl rfl rfl (by have := hx.len; dsimp only [InR]; omega)).val (congrArg (Value.int .i64) (show (k : Int) + 1 = ((k + 1 : Nat) : Int) by omega))) rfl ?_
    refine KL.fin 1 rfl ?_
    refine KQ.again (k + 1) ?_ ?_ ?_
    · exact Sub.all rfl
    · show xs.length - (k + 1) < xs.length - k; omega
    exact ⟨by omega, o0⟩
  intro hg16
  refine KL.fin 2 rfl (KQ.seq (KC.condF rfl (KC.exit (KQ.exitThen (KQ.exitThen (KQ.hit (KQ.sr (KL.fin 2 rfl (KQ.seq (KC.ret (KQ.ofRet ?_)))))))))))
  refine KQ.fin1 Tryd.results59 rfl ?_
  exact ⟨rfl, o0⟩
theorem SameN_refl {H : Heap} {va vb : Value} {l : List Int} (ha : Sl 1 (EInt .u32) H va l) (hb : Sl 1 (EInt .u32) H vb l) : Ct Tryd.prog 56 [va, vb] H (fun u H' => u = .bool true ∧ H = H') := by
  refine Ct.mk Tryd.func56 rfl Tryd.ntmps56 rfl ?_
  intro W0 hW0
  have o0 : Old H H := Old.refl H
  refine KC.sr (KL.fin 1 rfl (KQ.sr (KL.run 1 rfl (KL.q (R.lenS rfl Tryd.underlying24 rfl ha) rfl (KL.run 1 rfl (KL.q (R.lenS rfl Tryd.underlying24 rfl hb) rfl (KL.q ((R.eql rfl rfl rfl).val (congrArg Value.bool (decide_eq_true rfl))) rfl (KL.fin 1 rfl (KQ.seq (KC.seq ?_))))))))))
  refine KC.sr (KL.fin 1 rfl (KQ.seq (KC.block ?_)))
  refine KC.loopD (κ := Nat) [12, 13, 14, 15, 16, 17, 18, 21, 22, 23, 24, 25, 26, 27, 28, 29, 5, 19, 20, 6] (fun k => [(5, .bool true), (6, .int .i64 (k : Nat))]) (fun k Hl => k ≤ l.length ∧ H = Hl) (fun k => l.length - k) 0 ?_ ?_ ?_
  · exact Sub.all rfl
  · exact ⟨Nat.zero_le _, rfl⟩
  rintro k H1 ⟨hk, rfl⟩
  refine KC.seq (KC.sr (KL.run 2 rfl (KL.q (R.lenS rfl Tryd.underlying24 rfl ha) rfl (KL.run 2 rfl ?_))))
  refine KL.cq 16 rfl ?_ ?_
  · intro hg16
    refine KL.fin 2 rfl (KQ.seq (KC.condT rfl (KC.skip (KQ.seq (KC.seq (KC.block (KC.quiet (by kernel_rfl) (by kernel_rfl) (KD.run 2 rfl ?_))))))))
    refine KD.op (R.index1 (j := k) rfl Tryd.underlying24 sz28 rfl rfl ha rfl (by omega)) rfl rfl rfl ?_
    refine KD.ld rfl (ha.int k (by omega)).1 ?_
    refine KD.run 2 rfl ?_
    refine KD.op (R.index1 (j := k) rfl Tryd.underlying24 sz28 rfl rfl hb rfl (by omega)) rfl rfl rfl ?_
    refine KD.ld rfl (hb.int k (by omega)).1 ?_
    refine KD.op ((R.eql rfl rfl rfl).val (congrArg Value.bool (decide_eq_true rfl))) rfl rfl rfl (KD.fin 1 rfl (KQ.normBlock (KQ.r (KL.run 1 rfl ?_))))
    refine KL.q ((R.add rfl rfl rfl (by have := ha.len; dsimp only [InR]; omega)).val (congrArg (Value.int .i64) (show (k : Int) + 1 = ((k + 1 : Nat) : Int) by omega))) rfl ?_
    refine KL.fin 1 rfl ?_
    refine KQ.again (k + 1) ?_ ?_ ?_
    · exact Sub.all rfl
    · show l.length - (k + 1) < l.length - k; omega
    exact ⟨by omega, rfl⟩
  intro hg16
  refine KL.fin 2 rfl (KQ.seq (KC.condF rfl (KC.exit (KQ.exitThen (KQ.exitThen (KQ.hit (KQ.sr (KL.fin 2 rfl (KQ.seq (KC.ret (KQ.ofRet ?_)))))))))))
  refine KQ.fin1 Tryd.results56 rfl ?_
  exact ⟨rfl, rfl⟩
theorem SameL_refl {H : Heap} {va vb : Value} {l : List (Int × Int)} (ha : Sl 2 ELim H va l) (hb : Sl 2 ELim H vb l) : Ct Tryd.prog 57 [va, vb] H (fun u H' => u = .bool true ∧ H = H') := by
  refine Ct.mk Tryd.func57 rfl Tryd.ntmps57 rfl ?_
  intro W0 hW0
  have o0 : Old H H := Old.refl H
  refine KC.sr (KL.fin 1 rfl (KQ.sr (KL.run 1 rfl (KL.q (R.lenS rfl Tryd.underlying25 rfl ha) rfl (KL.run 1 rfl (KL.q (R.lenS rfl Tryd.underlying25 rfl hb) rfl (KL.q ((R.eql rfl rfl rfl).val (congrArg Value.bool (decide_eq_true rfl))) rfl (KL.fin 1 rfl (KQ.seq (KC.seq ?_))))))))))
  refine KC.sr (KL.fin 1 rfl (KQ.seq (KC.block ?_)))
  refine KC.loopD (κ := Nat) [12, 13, 14, 15, 16, 17, 18, 21, 22, 23, 24, 25, 26, 27, 28, 29, 5, 19, 20, 6] (fun k => [(5, .bool true), (6, .int .i64 (k : Nat))]) (fun k Hl => k ≤ l.length ∧ H = Hl) (fun k => l.length - k) 0 ?_ ?_ ?_
  · exact Sub.all rfl
  · exact ⟨Nat.zero_le _, rfl⟩
  rintro k H1 ⟨hk, rfl⟩
  refine KC.seq (KC.sr (KL.run 2 rfl (KL.q (R.lenS rfl Tryd.underlying25 rfl ha) rfl (KL.run 2 rfl ?_))))
  refine KL.cq 16 rfl ?_ ?_
  · intro hg16
    refine KL.fin 2 rfl (KQ.seq (KC.condT rfl (KC.skip (KQ.seq (KC.seq (KC.block (KC.quiet (by kernel_rfl) (by kernel_rfl) (KD.run 2 rfl ?_))))))))
    refine KD.op (R.index (j := k) rfl Tryd.underlying25 sz47 rfl rfl ha rfl (by omega)) rfl rfl rfl ?_
    refine KD.op (R.loadAgg rfl Tryd.underlying47 rfl sz47 rfl (ha.limAt k (by omega)).1 rfl) rfl rfl rfl ?_
    refine KD.run 2 rfl ?_
    refine KD.op (R.index (j := k) rfl Tryd.underlying25 sz47 rfl rfl hb rfl (by omega)) rfl rfl rfl ?_
    refine KD.op (R.loadAgg rfl Tryd.underlying47 rfl sz47 rfl (hb.limAt k (by omega)).1 rfl) rfl rfl rfl ?_
    refine KD.op ((R.eqlSt rfl Tryd.underlying47 (by kernel_rfl) (by kernel_rfl) rfl rfl (EqFs.int (by decide) Tryd.underlying28 rfl rfl (EqFs.int (by decide) Tryd.underlying2 rfl rfl EqFs.nil))).val (congrArg Value.bool (show _ = true from by simp))) rfl rfl rfl ?_
    refine KD.fin 1 rfl (KQ.normBlock (KQ.r (KL.run 1 rfl ?_)))
    refine KL.q ((R.add rfl rfl rfl (by have := ha.len; dsimp only [InR]; omega)).val (congrArg (Value.int .i64) (show (k : Int) + 1 = ((k + 1 : Nat) : Int) by omega))) rfl ?_
    refine KL.fin 1 rfl ?_
    refine KQ.again (k + 1) ?_ ?_ ?_
    · exact Sub.all rfl
    · show l.length - (k + 1) < l.length - k; omega
    exact ⟨by omega, rfl⟩
  intro hg16
  refine KL.fin 2 rfl (KQ.seq (KC.condF rfl (KC.exit (KQ.exitThen (KQ.exitThen (KQ.hit (KQ.sr (KL.fin 2 rfl (KQ.seq (KC.ret (KQ.ofRet ?_)))))))))))
  refine KQ.fin1 Tryd.results57 rfl ?_
  exact ⟨rfl, rfl⟩
section
variable {H : Heap} {v : Value}
theorem Sl.ftyAt {l : List FTy} (h : Sl 2 EFTy H v l) (j : Nat) (hj : j < l.length) : ∃ a b, CellsH H ((vbase v).add (j * 2)) [a, b] ∧ Sl 1 (EInt .u8) H a (l.getD j default).1 ∧ Sl 1 (EInt .u8) H b (l.getD j default).2 := by
  obtain ⟨cs, hl, hc, a, b, rfl, h1, h2⟩ := h.at j hj
  exact ⟨a, b, hc, h1, h2⟩
theorem Sl.codAt {l : List Cod} (h : Sl 2 ECod H v l) (j : Nat) (hj : j < l.length) : ∃ a b, CellsH H ((vbase v).add (j * 2)) [a, b] ∧ Sl 2 ELoc H a (l.getD j default).1 ∧ Sl 5 EIns H b (l.getD j default).2 := by
  obtain ⟨cs, hl, hc, a, b, rfl, h1, h2⟩ := h.at j hj
  exact ⟨a, b, hc, h1, h2⟩
theorem Sl.impAt {l : List Imp} (h : Sl 8 EImp H v l) (j : Nat) (hj : j < l.length) : CellsH H ((vbase v).add (j * 8)) [.string (l.getD j default).mod, .string (l.getD j default).nam, .int .u8 (l.getD j default).kind, .int .u32 (l.getD j default).typ, .int .u32 (l.getD j default).lim.1, .int .i64 (l.getD j default).lim.2, .int .u8 (l.getD j default).glob.1, .bool (l.getD j default).glob.2] ∧ InR .u8 (l.getD j default).kind ∧ InR .u8 (l.getD j default).glob.1 := by
  obtain ⟨cs, hl, hc, rfl, h1, _, _, _, h2⟩ := h.at j hj
  exact ⟨hc, h1, h2⟩
theorem Sl.expAt {l : List Exp} (h : Sl 3 EExp H v l) (j : Nat) (hj : j < l.length) : CellsH H ((vbase v).add (j * 3)) [.string (l.getD j default).nam, .int .u8 (l.getD j default).kind, .int .u32 (l.getD j default).idx] := by
  obtain ⟨cs, hl, hc, rfl, h1, _⟩ := h.at j hj
  exact hc
theorem Sl.gloAt {l : List Glo} (h : Sl 3 EGlo H v l) (j : Nat) (hj : j < l.length) : ∃ a, CellsH H ((vbase v).add (j * 3)) [.int .u8 (l.getD j default).1.1, .bool (l.getD j default).1.2, a] ∧ Sl 5 EIns H a (l.getD j default).2 ∧ InR .u8 (l.getD j default).1.1 := by
  obtain ⟨cs, hl, hc, a, rfl, h1, h2⟩ := h.at j hj
  exact ⟨a, hc, h1, h2⟩
theorem Sl.elmAt {l : List Elm} (h : Sl 3 EElm H v l) (j : Nat) (hj : j < l.length) : ∃ a b, CellsH H ((vbase v).add (j * 3)) [.int .u32 (l.getD j default).1, a, b] ∧ Sl 5 EIns H a (l.getD j default).2.1 ∧ Sl 1 (EInt .u32) H b (l.getD j default).2.2 := by
  obtain ⟨cs, hl, hc, a, b, rfl, h1, h2, _⟩ := h.at j hj
  exact ⟨a, b, hc, h1, h2⟩
theorem Sl.datAt {l : List Elm} (h : Sl 3 EDat H v l) (j : Nat) (hj : j < l.length) : ∃ a b, CellsH H ((vbase v).add (j * 3)) [.int .u32 (l.getD j default).1, a, b] ∧ Sl 5 EIns H a (l.getD j default).2.1 ∧ Sl 1 (EInt .u8) H b (l.getD j default).2.2 := by
  obtain ⟨cs, hl, hc, a, b, rfl, h1, h2, _⟩ := h.at j hj
  exact ⟨a, b, hc, h1, h2⟩
end
theorem SameC_refl {H : Heap} {va vb : Value} {l : List Cod} (ha : Sl 2 ECod H va l) (hb : Sl 2 ECod H vb l) : Ct Tryd.prog 58 [va, vb] H (fun u H' => u = .bool true ∧ Old H H') := by
  refine Ct.mk Tryd.func58 rfl Tryd.ntmps58 rfl ?_
  intro W0 hW0
  have o0 : Old H H := Old.refl H
  refine KC.sr (KL.fin 1 rfl (KQ.sr (KL.run 1 rfl (KL.q (R.lenS rfl Tryd.underlying30 rfl ha) rfl (KL.run 1 rfl (KL.q (R.lenS rfl Tryd.underlying30 rfl hb) rfl (KL.q ((R.eql rfl rfl rfl).val (congrArg Value.bool (decide_eq_true rfl))) rfl (KL.fin 1 rfl (KQ.seq (KC.seq ?_))))))))))
  refine KC.sr (KL.fin 1 rfl (KQ.seq (KC.block ?_)))
  refine KC.loopD (κ := Nat) [13, 14, 15, 16, 17, 18, 19, 22, 23, 24, 25, 26, 27, 28, 29, 30, 31, 32, 33, 34, 35, 36, 37, 38, 39, 40, 41, 42, 43, 44, 45, 46, 47, 5, 7, 48, 49, 50, 51, 52, 53, 54, 55, 56, 57, 58, 61, 62, 63, 64, 65, 66, 67, 68, 69, 70, 71, 72, 73, 74, 75, 76, 77, 59, 60, 20, 21, 6] (fun k => [(5, .bool true), (6, .int .i64 (k : Nat))]) (fun k Hl => k ≤ l.length ∧ Old H Hl) (fun k => l.length - k) 0 ?_ ?_ ?_
  · exact Sub.all rfl
  · exact ⟨Nat.zero_le _, o0⟩
  rintro k H1 ⟨hk, o0⟩
  have zl_H1 := o0.1
  have ha1 := ha.old o0
  have hb1 := hb.old o0
  refine KC.seq (KC.sr (KL.run 2 rfl (KL.q (R.lenS rfl Tryd.underlying30 rfl ha) rfl (KL.run 2 rfl ?_))))
  refine KL.cq 17 rfl ?_ ?_
  · intro hg17
    obtain ⟨va1, va2, hca, hca1, hca2⟩ := ha1.codAt k (by omega)
    obtain ⟨vb1, vb2, hcb, hcb1, hcb2⟩ := hb1.codAt k (by omega)
    refine KL.fin 2 rfl (KQ.seq (KC.condT rfl (KC.skip (KQ.seq (KC.seq (KC.block (KC.seq ?_)))))))
    refine KC.grow (by kernel_rfl) (by kernel_rfl) ?_
    refine KG.op (fun Hg og => R.move rfl rfl) rfl rfl rfl ?_
    refine KG.op (fun Hg og => R.move rfl rfl) rfl rfl rfl ?_
    refine KG.op (fun Hg og => R.index (j := k) rfl Tryd.underlying30 sz58 rfl rfl ha rfl (by omega)) rfl rfl rfl ?_
    refine KG.op (fun Hg og => (R.fieldAddrP rfl Tryd.underlying58 rfl rfl sz56 rfl)) rfl rfl rfl ?_
    refine KG.op (fun Hg og => R.load rfl Tryd.underlying56 rfl rfl (og.cell (hca 0 _ rfl))) rfl rfl rfl ?_
    refine KG.op (fun Hg og => R.lenS rfl Tryd.underlying56 rfl hca1) rfl rfl rfl ?_
    refine KG.op (fun Hg og => R.move rfl rfl) rfl rfl rfl ?_
    refine KG.op (fun Hg og => R.move rfl rfl) rfl rfl rfl ?_
    refine KG.op (fun Hg og => R.index (j := k) rfl Tryd.underlying30 sz58 rfl rfl hb rfl (by omega)) rfl rfl rfl ?_
    refine KG.op (fun Hg og => (R.fieldAddrP rfl Tryd.underlying58 rfl rfl sz56 rfl)) rfl rfl rfl ?_
    refine KG.op (fun Hg og => R.load rfl Tryd.underlying56 rfl rfl (og.cell (hcb 0 _ rfl))) rfl rfl rfl ?_
    refine KG.op (fun Hg og => R.lenS rfl Tryd.underlying56 rfl hcb1) rfl rfl rfl ?_
    refine KG.op (fun Hg og => (R.eql rfl rfl rfl).val (congrArg Value.bool (decide_eq_true rfl))) rfl rfl rfl ?_
    refine KG.op (fun Hg og => R.move rfl rfl) rfl rfl rfl ?_
    refine KG.op (fun Hg og => R.move rfl rfl) rfl rfl rfl ?_
    refine KG.op (fun Hg og => R.move rfl rfl) rfl rfl rfl ?_
    refine KG.op (fun Hg og => R.index (j := k) rfl Tryd.underlying30 sz58 rfl rfl ha rfl (by omega)) rfl rfl rfl ?_
    refine KG.op (fun Hg og => (R.fieldAddrP rfl Tryd.underlying58 rfl rfl sz52 rfl)) rfl rfl rfl ?_
    refine KG.op (fun Hg og => R.load rfl Tryd.underlying52 rfl rfl (og.cell (hca 1 _ rfl))) rfl rfl rfl ?_
    refine KG.op (fun Hg og => R.move rfl rfl) rfl rfl rfl ?_
    refine KG.op (fun Hg og => R.move rfl rfl) rfl rfl rfl ?_
    refine KG.op (fun Hg og => R.index (j := k) rfl Tryd.underlying30 sz58 rfl rfl hb rfl (by omega)) rfl rfl rfl ?_
    refine KG.op (fun Hg og => (R.fieldAddrP rfl Tryd.underlying58 rfl rfl sz52 rfl)) rfl rfl rfl ?_
    refine KG.op (fun Hg og => R.load rfl Tryd.underlying52 rfl rfl (og.cell (hcb 1 _ rfl))) rfl rfl rfl ?_
    refine KG.call rfl rfl rfl rfl Tryd.call59 rfl rfl rfl (fun Hg og => SameAll_refl (hca2.old og) (hcb2.old og)) ?_
    refine KG.op (fun Hg og => R.pick rfl rfl rfl) rfl rfl rfl ?_
    refine KG.op (fun Hg og => R.assign rfl rfl) rfl rfl rfl ?_
    refine KG.nil ?_
    intro H2 ogH2
    have o0 := o0.trans ogH2
    have zH2 := ogH2.1
    have hca : CellsH H2 _ _ := ogH2.cells hca
    have hcb : CellsH H2 _ _ := ogH2.cells hcb
    have hca1 := hca1.old ogH2
    have hcb1 := hcb1.old ogH2
    refine KQ.sr (KL.fin 1 rfl (KQ.seq (KC.block ?_)))
    refine KC.loopD (κ := Nat) [48, 49, 50, 51, 52, 53, 54, 55, 56, 57, 58, 61, 62, 63, 64, 65, 66, 67, 68, 69, 70, 71, 72, 73, 74, 75, 76, 77, 5, 59, 60, 7] (fun j => [(5, .bool true), (7, .int .i64 (j : Nat))]) (fun j Hl => j ≤ (l.getD k default).1.length ∧ H2 = Hl) (fun j => (l.getD k default).1.length - j) 0 ?_ ?_ ?_
    · exact Sub.all rfl
    · exact ⟨Nat.zero_le _, rfl⟩
    rintro j H3 ⟨hj, rfl⟩
    refine KC.seq (KC.sr (KL.run 3 rfl ?_))
    refine KL.q (R.index (j := k) rfl Tryd.underlying30 sz58 rfl rfl ha rfl (by omega)) rfl ?_
    refine KL.q (R.fieldAddrP rfl Tryd.underlying58 rfl rfl sz56 rfl) rfl (KL.ld rfl (hca 0 _ rfl) (KL.q (R.lenS rfl Tryd.underlying56 rfl hca1) rfl (KL.run 2 rfl ?_)))
    refine KL.cq 56 rfl ?_ ?_
    · intro hg56
      refine KL.fin 2 rfl (KQ.seq (KC.condT rfl (KC.skip (KQ.seq (KC.seq (KC.block (KC.quiet (by kernel_rfl) (by kernel_rfl) (KD.run 2 rfl ?_))))))))
      refine KD.op (R.index (j := k) rfl Tryd.underlying30 sz58 rfl rfl ha rfl (by omega)) rfl rfl rfl ?_
      refine KD.op (R.fieldAddrP rfl Tryd.underlying58 rfl rfl sz56 rfl) rfl rfl rfl (KD.ld rfl (hca 0 _ rfl) (KD.run 1 rfl ?_))
      refine KD.op (R.index (j := j) rfl Tryd.underlying56 sz60 rfl rfl hca1 rfl (by omega)) rfl rfl rfl ?_
      refine KD.op (R.loadAgg rfl Tryd.underlying60 rfl sz60 rfl (hca1.locAt j (by omega)).1 rfl) rfl rfl rfl ?_
      refine KD.run 2 rfl ?_
      refine KD.op (R.index (j := k) rfl Tryd.underlying30 sz58 rfl rfl hb rfl (by omega)) rfl rfl rfl ?_
      refine KD.op (R.fieldAddrP rfl Tryd.underlying58 rfl rfl sz56 rfl) rfl rfl rfl (KD.ld rfl (hcb 0 _ rfl) (KD.run 1 rfl ?_))
      refine KD.op (R.index (j := j) rfl Tryd.underlying56 sz60 rfl rfl hcb1 rfl (by omega)) rfl rfl rfl ?_
      refine KD.op (R.loadAgg rfl Tryd.underlying60 rfl sz60 rfl (hcb1.locAt j (by omega)).1 rfl) rfl rfl rfl ?_
      refine KD.op ((R.eqlSt rfl Tryd.underlying60 (by kernel_rfl) (by kernel_rfl) rfl rfl (EqFs.int (by decide) Tryd.underlying28 rfl rfl (EqFs.int (by decide) Tryd.underlying5 rfl rfl EqFs.nil))).val (congrArg Value.bool (show _ = true from by simp))) rfl rfl rfl ?_
      refine KD.fin 1 rfl (KQ.normBlock (KQ.r (KL.run 1 rfl ?_)))
      refine KL.q ((R.add rfl rfl rfl (by have := hca1.len; dsimp only [InR]; omega)).val (congrArg (Value.int .i64) (show (j : Int) + 1 = ((j + 1 : Nat) : Int) by omega))) rfl ?_
      refine KL.fin 1 rfl ?_
      refine KQ.again (j + 1) ?_ ?_ ?_
      · exact Sub.all rfl
      · show (l.getD k default).1.length - (j + 1) < (l.getD k default).1.length - j; omega
      exact ⟨by omega, rfl⟩
    intro hg56
    refine KL.fin 2 rfl (KQ.seq (KC.condF rfl (KC.exit (KQ.exitThen (KQ.exitThen (KQ.hit (KQ.normBlock (KQ.r (KL.run 1 rfl ?_)))))))))
    refine KL.q ((R.add rfl rfl rfl (by have := ha.len; dsimp only [InR]; omega)).val (congrArg (Value.int .i64) (show (k : Int) + 1 = ((k + 1 : Nat) : Int) by omega))) rfl ?_
    refine KL.fin 1 rfl ?_
    refine KQ.again (k + 1) ?_ ?_ ?_
    · exact Sub.all rfl
    · show l.length - (k + 1) < l.length - k; omega
    exact ⟨by omega, o0⟩
  intro hg17
  refine KL.fin 2 rfl (KQ.seq (KC.condF rfl (KC.exit (KQ.exitThen (KQ.exitThen (KQ.hit (KQ.sr (KL.fin 2 rfl (KQ.seq (KC.ret (KQ.ofRet ?_)))))))))))
  refine KQ.fin1 Tryd.results58 rfl ?_
  exact ⟨rfl, o0⟩
end Go.Proofs.YtldmfchamcpmmaaDoor
namespace Go.Proofs.YtldmfchamcpmmaaDoor
open Go Go.RowKit
set_option linter.unusedVariables false
set_option linter.unusedSimpArgs false
section
variable {P : Program} {E : Env} {H : Heap} {o : Oper}
theorem part_sub {t : TypeId} {ds : TypeDesc} {cs : Array Value} {i m : Nat} (hu : P.underlying t = some ds) (hd : isAggD ds = true) (hs : (P.info? t).map (·.size) = some m) (w : World) : (part t cs i).run P w = .ok (.agg (cs.extract i (i + m))) w := by
  have h2 : (isAgg t).run P w = .ok true w := by
    cases ds <;> simp [isAggD] at hd <;> simp [isAgg, underlying, program, hu, Sem.run_bind, Sem.run_pure, Result.andThen, Sem.run]
  cases hq : P.info? t with
  | none => simp [hq] at hs
  | some i' =>
    simp [hq] at hs
    simp [part, h2, sizeOf, typeInfo, program, hq, hs, Sem.run_bind, Sem.run_pure, Result.andThen, Sem.run]
/-- two structs' fields are alike -/
inductive SameFs (P : Program) (xs : Array Value) : List Field → Prop
  | nil : SameFs P xs []
  | int {f : Field} {fs : List Field} {k k' : IntKind} {a : Int} (hn : f.name ≠ "_") (hu : P.underlying f.type = some (.int k')) (hx : nth xs.toList f.offset = some (.int k a)) (h : SameFs P xs fs) : SameFs P xs (f :: fs)
  | str {f : Field} {fs : List Field} {a : ByteArray} (hn : f.name ≠ "_") (hu : P.underlying f.type = some .string) (hx : nth xs.toList f.offset = some (.string a)) (h : SameFs P xs fs) : SameFs P xs (f :: fs)
  | sub {f : Field} {fs : List Field} {gs : Array Field} {m : Nat} {r : Bool} (hn : f.name ≠ "_") (hu : P.underlying f.type = some (.struct gs)) (hst : P.stoodInHeld f.type = false) (hs : (P.info? f.type).map (·.size) = some m) (hf : EqFs P (xs.extract f.offset (f.offset + m)) (xs.extract f.offset (f.offset + m)) gs.toList r) (hr : r = true) (h : SameFs P xs fs) : SameFs P xs (f :: fs)
theorem SameFs.run {xs : Array Value} {fs : List Field} (h : SameFs P xs fs) (d : Nat) (w : World) : (Op.eqFields (d + 2) xs xs fs).run P w = .ok true w := by
  induction h with
  | nil => simp [Op.eqFields, Sem.run_pure]
  | @int f fs k k' a hn hu hx h ih =>
    have e : (a == a) = true := by simp
    simp only [Op.eqFields, hn, ne_eq, not_false_eq_true, if_true, Sem.run_bind, part_one hu rfl hx, run_equalIn_int w (d + 1) _ k k' a a hu, Result.andThen_ok, e]
    simp [ih]
  | @str f fs a hn hu hx h ih =>
    have e : (a.toList == a.toList) = true := by simp
    simp only [Op.eqFields, hn, ne_eq, not_false_eq_true, if_true, Sem.run_bind, part_one hu rfl hx, run_equalIn_string w (d + 1) _ a a hu, Result.andThen_ok, e]
    simp [ih]
  | @sub f fs gs m r hn hu hst hs hf hr h ih =>
    subst hr
    have e : P.fieldsOf f.type = gs := by simp [Program.fieldsOf, hu]
    have h9 : (Op.equalIn (d + 2) f.type (.agg (xs.extract f.offset (f.offset + m))) (.agg (xs.extract f.offset (f.offset + m)))).run P w = .ok true w := by
      rw [run_equalIn_struct w (d + 1) f.type _ _ (by rw [e]; exact hu) hst, e]
      exact hf.run d w
    simp only [Op.eqFields, hn, ne_eq, not_false_eq_true, if_true, Sem.run_bind, part_sub hu rfl hs, h9, Result.andThen_ok]
    simp [ih]
theorem R.eqlSame {T T' : TypeId} {x y : Operand} {xs : Array Value} {fs : Array Field} (ho : o.op = .binOp .eql T x y T') (ht : P.underlying T = some (.struct fs)) (hst : P.stoodInHeld T = false) (hG : P.eqGuardType P.depth T = false) (hx : ev E x = some (.agg xs)) (hy : ev E y = some (.agg xs)) (hf : SameFs P xs fs.toList) : Run P E H o (.bool true) := by
  intro ρ w ha hw
  have e : P.fieldsOf T = fs := by simp [Program.fieldsOf, ht]
  have h1 : (Op.equal T (.agg xs) (.agg xs)).run P w = .ok true w := by
    show (Op.equalIn (9999 + 1) T _ _).run P w = _
    rw [run_equalIn_struct w 9999 T xs xs (by rw [e]; exact ht) hst, e]
    exact hf.run 9997 w
  simp [execOp, ho, ha x _ hx, ha y _ hy, run_eqGuard_agg w _ T x y xs xs hG, binOp, program, h1, Sem.run_bind, Sem.run_pure, Result.andThen, Sem.run]
end
end Go.Proofs.YtldmfchamcpmmaaDoor
namespace Go.Proofs.YtldmfchamcpmmaaDoor
open Go Go.RowKit
set_option linter.unusedVariables false
set_option linter.unusedSimpArgs false
set_option linter.unnecessarySimpa false
theorem Same_refl {H : Heap} {t i f tb me g e el c d : Value} {t' i' f' tb' me' g' e' el' c' d' : Value} {m : Mo} (m1 : MoV H t i f tb me g e el c d m) (m2 : MoV H t' i' f' tb' me' g' e' el' c' d' m) : Ct Tryd.prog 12 [.agg [t, i, f, tb, me, g, e, .bool m.hasStart, .int .u32 m.start, el, c, d].toArray, .agg [t', i', f', tb', me', g', e', .bool m.hasStart, .int .u32 m.start, el', c', d'].toArray] H (fun u H' => u = .bool true ∧ Old H H') := by
  refine Ct.mk Tryd.func12 rfl Tryd.ntmps12 rfl ?_
  intro W0 hW0
  have o0 : Old H H := Old.refl H
  refine KC.sr ?_
  refine KL.m (M.box (cs := [t, i, f, tb, me, g, e, .bool m.hasStart, .int .u32 m.start, el, c, d]) rfl rfl rfl) rfl ?_
  rintro _ H1 ⟨rfl, n1⟩
  have z1 := n1.2.1
  have o0 := o0.trans n1.1
  have b1 := n1.2.2
  have bx := b1
  refine KL.m (M.box (cs := [t', i', f', tb', me', g', e', .bool m.hasStart, .int .u32 m.start, el', c', d']) rfl rfl rfl) rfl ?_
  rintro _ H2 ⟨rfl, n2⟩
  have z2 := n2.2.1
  have o0 := o0.trans n2.1
  have bx := (n2.1).blk bx
  have b2 := n2.2.2
  have by_ := b2
  refine KL.fin 1 rfl (KQ.sr (KL.run 1 rfl (KL.ld rfl (cell_of bx rfl) (KL.q (R.lenS rfl Tryd.underlying22 rfl m1.t) rfl (KL.run 1 rfl (KL.ld rfl (cell_of by_ rfl) (KL.q (R.lenS rfl Tryd.underlying22 rfl m2.t) rfl (KL.q ((R.eql rfl rfl rfl).val (congrArg Value.bool (decide_eq_true rfl))) rfl (KL.run 2 rfl (KL.ld rfl (cell_of bx rfl) (KL.q (R.lenS rfl Tryd.underlying23 rfl m1.i) rfl ?_)))))))))))
  refine KL.run 1 rfl (KL.ld rfl (cell_of by_ rfl) (KL.q (R.lenS rfl Tryd.underlying23 rfl m2.i) rfl (KL.q ((R.eql rfl rfl rfl).val (congrArg Value.bool (decide_eq_true rfl))) rfl (KL.run 3 rfl (KL.ld rfl (cell_of bx rfl) (KL.run 1 rfl (KL.ld rfl (cell_of by_ rfl) ?_)))))))
  refine KL.c rfl Tryd.call56 (SameN_refl (m1.f.old o0) (m2.f.old o0)) ?_
  rintro _ _ ⟨rfl, rfl⟩
  refine KL.run 3 rfl (KL.ld rfl (cell_of bx rfl) (KL.run 1 rfl (KL.ld rfl (cell_of by_ rfl) ?_)))
  refine KL.c rfl Tryd.call57 (SameL_refl (m1.tb.old o0) (m2.tb.old o0)) ?_
  rintro _ _ ⟨rfl, rfl⟩
  refine KL.run 3 rfl (KL.ld rfl (cell_of bx rfl) (KL.run 1 rfl (KL.ld rfl (cell_of by_ rfl) ?_)))
  refine KL.c rfl Tryd.call57 (SameL_refl (m1.me.old o0) (m2.me.old o0)) ?_
  rintro _ _ ⟨rfl, rfl⟩
  refine KL.run 3 rfl (KL.ld rfl (cell_of bx rfl) (KL.q (R.lenS rfl Tryd.underlying26 rfl m1.g) rfl (KL.run 1 rfl (KL.ld rfl (cell_of by_ rfl) (KL.q (R.lenS rfl Tryd.underlying26 rfl m2.g) rfl (KL.q ((R.eql rfl rfl rfl).val (congrArg Value.bool (decide_eq_true rfl))) rfl (KL.run 3 rfl (KL.ld rfl (cell_of bx rfl) (KL.q (R.lenS rfl Tryd.underlying27 rfl m1.e) rfl (KL.run 1 rfl (KL.ld rfl (cell_of by_ rfl) (KL.q (R.lenS rfl Tryd.underlying27 rfl m2.e) rfl (KL.q ((R.eql rfl rfl rfl).val (congrArg Value.bool (decide_eq_true rfl))) rfl ?_)))))))))))))
  refine KL.run 3 rfl (KL.ld rfl (cell_of bx rfl) (KL.run 1 rfl (KL.ld rfl (cell_of by_ rfl) ?_)))
  refine KL.q ((R.eqlB rfl Tryd.underlying4 rfl rfl).val (congrArg Value.bool (show _ = true from by simp))) rfl ?_
  refine KL.run 3 rfl (KL.ld rfl (cell_of bx rfl) (KL.run 1 rfl (KL.ld rfl (cell_of by_ rfl) (KL.q ((R.eql rfl rfl rfl).val (congrArg Value.bool (decide_eq_true rfl))) rfl (KL.run 3 rfl (KL.ld rfl (cell_of bx rfl) (KL.q (R.lenS rfl Tryd.underlying29 rfl m1.el) rfl (KL.run 1 rfl (KL.ld rfl (cell_of by_ rfl) (KL.q (R.lenS rfl Tryd.underlying29 rfl m2.el) rfl (KL.q ((R.eql rfl rfl rfl).val (congrArg Value.bool (decide_eq_true rfl))) rfl (KL.run 3 rfl (KL.ld rfl (cell_of bx rfl) ?_)))))))))))))
  refine KL.run 1 rfl (KL.ld rfl (cell_of by_ rfl) ?_)
  refine KL.c rfl Tryd.call58 (SameC_refl (m1.c.old o0) (m2.c.old o0)) ?_
  rintro _ H3 ⟨rfl, ox⟩
  have zc_H3 := (ox).1
  have o0 := o0.trans ox
  have bx := (ox).blk bx
  have by_ := (ox).blk by_
  refine KL.run 3 rfl (KL.ld rfl (cell_of bx rfl) (KL.q (R.lenS rfl Tryd.underlying31 rfl m1.d) rfl (KL.run 1 rfl (KL.ld rfl (cell_of by_ rfl) (KL.q (R.lenS rfl Tryd.underlying31 rfl m2.d) rfl (KL.q ((R.eql rfl rfl rfl).val (congrArg Value.bool (decide_eq_true rfl))) rfl (KL.fin 2 rfl (KQ.seq (KC.seq (KC.sr (KL.fin 1 rfl (KQ.seq ?_))))))))))))
  refine KC.block ?_
  refine KC.loopD (κ := Nat) [106, 107, 108, 109, 110, 111, 112, 113, 116, 117, 118, 119, 120, 121, 122, 123, 124, 125, 126, 127, 128, 129, 130, 131, 132, 133, 134, 135, 136, 137, 138, 139, 140, 141, 142, 143, 144, 145, 146, 147, 5, 114, 115, 6] (fun k => [(5, .bool true), (6, .int .i64 (k : Nat))]) (fun k Hl => k ≤ m.types.length ∧ Old H Hl ∧ Hl[Array.size H]? = some (.cells [t, i, f, tb, me, g, e, .bool m.hasStart, .int .u32 m.start, el, c, d].toArray 33 (0, 0)) ∧ Hl[Array.size H1]? = some (.cells [t', i', f', tb', me', g', e', .bool m.hasStart, .int .u32 m.start, el', c', d'].toArray 33 (0, 0))) (fun k => m.types.length - k) 0 ?_ ?_ ?_
  · exact Sub.all rfl
  · exact ⟨Nat.zero_le _, o0, bx, by_⟩
  rintro k H4 ⟨hk, o0, bx, by_⟩
  have zl_H4 := o0.1
  have zl := o0.1
  refine KC.seq (KC.sr (KL.run 2 rfl (KL.ld rfl (cell_of bx rfl) (KL.q (R.lenS rfl Tryd.underlying22 rfl m1.t) rfl (KL.run 2 rfl ?_)))))
  refine KL.cq 111 rfl ?_ ?_
  · intro hg111
    obtain ⟨a1, a2, hca, ha1, ha2⟩ := (m1.t.old o0).ftyAt k (by omega)
    obtain ⟨b1_, b2_, hcb, hb1, hb2⟩ := (m2.t.old o0).ftyAt k (by omega)
    refine KL.fin 2 rfl (KQ.seq (KC.condT rfl (KC.skip (KQ.seq (KC.seq (KC.block (KC.quiet (by kernel_rfl) (by kernel_rfl) (KD.run 1 rfl (KD.ld rfl (cell_of bx rfl) (KD.run 1 rfl ?_))))))))))
    refine KD.op (R.index (j := k) rfl Tryd.underlying22 sz44 rfl rfl m1.t rfl (by omega)) rfl rfl rfl ?_
    refine KD.op (R.fieldAddrP rfl Tryd.underlying44 rfl rfl sz36 rfl) rfl rfl rfl (KD.ld rfl (hca 0 _ rfl) (KD.op (R.convBS rfl Tryd.underlying36 Tryd.underlying5 Tryd.underlying9 rfl ha1) rfl rfl rfl (KD.run 1 rfl (KD.ld rfl (cell_of by_ rfl) (KD.run 1 rfl ?_)))))
    refine KD.op (R.index (j := k) rfl Tryd.underlying22 sz44 rfl rfl m2.t rfl (by omega)) rfl rfl rfl ?_
    refine KD.op (R.fieldAddrP rfl Tryd.underlying44 rfl rfl sz36 rfl) rfl rfl rfl (KD.ld rfl (hcb 0 _ rfl) (KD.op (R.convBS rfl Tryd.underlying36 Tryd.underlying5 Tryd.underlying9 rfl hb1) rfl rfl rfl ?_))
    refine KD.op ((R.eqlStr rfl rfl rfl).val (congrArg Value.bool (show _ = true from by simp))) rfl rfl rfl ?_
    refine KD.run 2 rfl (KD.ld rfl (cell_of bx rfl) (KD.run 1 rfl ?_))
    refine KD.op (R.index (j := k) rfl Tryd.underlying22 sz44 rfl rfl m1.t rfl (by omega)) rfl rfl rfl ?_
    refine KD.op (R.fieldAddrP rfl Tryd.underlying44 rfl rfl sz36 rfl) rfl rfl rfl (KD.ld rfl (hca 1 _ rfl) (KD.op (R.convBS rfl Tryd.underlying36 Tryd.underlying5 Tryd.underlying9 rfl ha2) rfl rfl rfl (KD.run 1 rfl (KD.ld rfl (cell_of by_ rfl) (KD.run 1 rfl ?_)))))
    refine KD.op (R.index (j := k) rfl Tryd.underlying22 sz44 rfl rfl m2.t rfl (by omega)) rfl rfl rfl ?_
    refine KD.op (R.fieldAddrP rfl Tryd.underlying44 rfl rfl sz36 rfl) rfl rfl rfl (KD.ld rfl (hcb 1 _ rfl) (KD.op (R.convBS rfl Tryd.underlying36 Tryd.underlying5 Tryd.underlying9 rfl hb2) rfl rfl rfl ?_))
    refine KD.op ((R.eqlStr rfl rfl rfl).val (congrArg Value.bool (show _ = true from by simp))) rfl rfl rfl ?_
    refine KD.fin 2 rfl (KQ.normBlock (KQ.r (KL.run 1 rfl ?_)))
    refine KL.q ((R.add rfl rfl rfl (by have := m1.t.len; dsimp only [InR]; omega)).val (congrArg (Value.int .i64) (show (k : Int) + 1 = ((k + 1 : Nat) : Int) by omega))) rfl ?_
    refine KL.fin 1 rfl ?_
    refine KQ.again (k + 1) ?_ ?_ ?_
    · exact Sub.all rfl
    · show m.types.length - (k + 1) < m.types.length - k; omega
    exact ⟨by omega, o0, bx, by_⟩
  intro hg111
  refine KL.fin 2 rfl (KQ.seq (KC.condF rfl (KC.exit (KQ.exitThen (KQ.exitThen (KQ.hit (KQ.seq (KC.seq (KC.sr (KL.fin 1 rfl (KQ.seq (KC.block ?_))))))))))))
  refine KC.loopD (κ := Nat) [148, 149, 150, 151, 152, 153, 154, 155, 158, 159, 160, 161, 162, 163, 164, 165, 166, 167, 168, 5, 156, 157, 7] (fun k => [(5, .bool true), (7, .int .i64 (k : Nat))]) (fun k Hl => k ≤ m.imports.length ∧ Old H Hl ∧ Hl[Array.size H]? = some (.cells [t, i, f, tb, me, g, e, .bool m.hasStart, .int .u32 m.start, el, c, d].toArray 33 (0, 0)) ∧ Hl[Array.size H1]? = some (.cells [t', i', f', tb', me', g', e', .bool m.hasStart, .int .u32 m.start, el', c', d'].toArray 33 (0, 0))) (fun k => m.imports.length - k) 0 ?_ ?_ ?_
  · exact Sub.all rfl
  · exact ⟨Nat.zero_le _, o0, bx, by_⟩
  rintro k H5 ⟨hk, o0, bx, by_⟩
  have zl_H5 := o0.1
  have zl := o0.1
  refine KC.seq (KC.sr (KL.run 2 rfl (KL.ld rfl (cell_of bx rfl) (KL.q (R.lenS rfl Tryd.underlying23 rfl m1.i) rfl (KL.run 2 rfl ?_)))))
  refine KL.cq 153 rfl ?_ ?_
  · intro hg153
    refine KL.fin 2 rfl (KQ.seq (KC.condT rfl (KC.skip (KQ.seq (KC.seq (KC.block (KC.quiet (by kernel_rfl) (by kernel_rfl) (KD.run 1 rfl (KD.ld rfl (cell_of bx rfl) (KD.run 1 rfl ?_))))))))))
    refine KD.op (R.index (j := k) rfl Tryd.underlying23 sz51 rfl rfl m1.i rfl (by omega)) rfl rfl rfl ?_
    refine KD.op (R.loadAgg rfl Tryd.underlying51 rfl sz51 rfl ((m1.i.old o0).impAt k (by omega)).1 rfl) rfl rfl rfl ?_
    refine KD.run 1 rfl (KD.ld rfl (cell_of by_ rfl) (KD.run 1 rfl ?_))
    refine KD.op (R.index (j := k) rfl Tryd.underlying23 sz51 rfl rfl m2.i rfl (by omega)) rfl rfl rfl ?_
    refine KD.op (R.loadAgg rfl Tryd.underlying51 rfl sz51 rfl ((m2.i.old o0).impAt k (by omega)).1 rfl) rfl rfl rfl ?_
    refine KD.op (R.eqlSame rfl Tryd.underlying51 (by kernel_rfl) (by kernel_rfl) rfl rfl (SameFs.str (by decide) Tryd.underlying9 rfl (SameFs.str (by decide) Tryd.underlying9 rfl (SameFs.int (by decide) Tryd.underlying5 rfl (SameFs.int (by decide) Tryd.underlying28 rfl (SameFs.sub (by decide) Tryd.underlying47 (by kernel_rfl) sz47 (EqFs.int (by decide) Tryd.underlying28 rfl rfl (EqFs.int (by decide) Tryd.underlying2 rfl rfl EqFs.nil)) (by simp) (SameFs.sub (by decide) Tryd.underlying49 (by kernel_rfl) sz49 (EqFs.int (by decide) Tryd.underlying5 rfl rfl (EqFs.bool (by decide) Tryd.underlying4 rfl rfl EqFs.nil)) (by simp) SameFs.nil))))))) rfl rfl rfl ?_
    refine KD.fin 1 rfl (KQ.normBlock (KQ.r (KL.run 1 rfl ?_)))
    refine KL.q ((R.add rfl rfl rfl (by have := m1.i.len; dsimp only [InR]; omega)).val (congrArg (Value.int .i64) (show (k : Int) + 1 = ((k + 1 : Nat) : Int) by omega))) rfl ?_
    refine KL.fin 1 rfl ?_
    refine KQ.again (k + 1) ?_ ?_ ?_
    · exact Sub.all rfl
    · show m.imports.length - (k + 1) < m.imports.length - k; omega
    exact ⟨by omega, o0, bx, by_⟩
  intro hg153
  refine KL.fin 2 rfl (KQ.seq (KC.condF rfl (KC.exit (KQ.exitThen (KQ.exitThen (KQ.hit (KQ.seq (KC.seq (KC.sr (KL.fin 1 rfl (KQ.seq (KC.block ?_))))))))))))
  refine KC.loopD (κ := Nat) [169, 170, 171, 172, 173, 174, 175, 176, 179, 180, 181, 182, 183, 184, 185, 186, 187, 188, 189, 190, 191, 192, 193, 194, 195, 196, 197, 198, 199, 200, 201, 202, 203, 204, 205, 206, 5, 177, 178, 8] (fun k => [(5, .bool true), (8, .int .i64 (k : Nat))]) (fun k Hl => k ≤ m.globs.length ∧ Old H Hl ∧ Hl[Array.size H]? = some (.cells [t, i, f, tb, me, g, e, .bool m.hasStart, .int .u32 m.start, el, c, d].toArray 33 (0, 0)) ∧ Hl[Array.size H1]? = some (.cells [t', i', f', tb', me', g', e', .bool m.hasStart, .int .u32 m.start, el', c', d'].toArray 33 (0, 0))) (fun k => m.globs.length - k) 0 ?_ ?_ ?_
  · exact Sub.all rfl
  · exact ⟨Nat.zero_le _, o0, bx, by_⟩
  rintro k H6 ⟨hk, o0, bx, by_⟩
  have zl_H6 := o0.1
  have zl := o0.1
  refine KC.seq (KC.sr (KL.run 2 rfl (KL.ld rfl (cell_of bx rfl) (KL.q (R.lenS rfl Tryd.underlying26 rfl m1.g) rfl (KL.run 2 rfl ?_)))))
  refine KL.cq 174 rfl ?_ ?_
  · intro hg174
    obtain ⟨a1, hca, ha1, _⟩ := (m1.g.old o0).gloAt k (by omega)
    obtain ⟨b1_, hcb, hb1, _⟩ := (m2.g.old o0).gloAt k (by omega)
    have hcaT : CellsH H6 _ [.int .u8 (m.globs.getD k default).1.1, .bool (m.globs.getD k default).1.2] := fun i v hv => hca i v (by match i, hv with | 0, hv => exact hv | 1, hv => exact hv)
    have hcbT : CellsH H6 _ [.int .u8 (m.globs.getD k default).1.1, .bool (m.globs.getD k default).1.2] := fun i v hv => hcb i v (by match i, hv with | 0, hv => exact hv | 1, hv => exact hv)
    refine KL.fin 2 rfl (KQ.seq (KC.condT rfl (KC.skip (KQ.seq (KC.seq (KC.block ?_))))))
    refine KC.grow (by kernel_rfl) (by kernel_rfl) ?_
    refine KG.op (fun Hg og => (R.fieldAddr rfl Tryd.underlying33 rfl rfl sz26 rfl)) rfl rfl rfl ?_
    refine KG.op (fun Hg og => R.load rfl Tryd.underlying26 rfl rfl (cell_of (og.blk bx) rfl)) rfl rfl rfl ?_
    refine KG.op (fun Hg og => R.move rfl rfl) rfl rfl rfl ?_
    refine KG.op (fun Hg og => R.index (j := k) rfl Tryd.underlying26 sz54 rfl rfl m1.g rfl (by omega)) rfl rfl rfl ?_
    refine KG.op (fun Hg og => (R.fieldAddrP rfl Tryd.underlying54 rfl rfl sz49 rfl)) rfl rfl rfl ?_
    refine KG.op (fun Hg og => R.loadAgg rfl Tryd.underlying49 rfl sz49 rfl (og.cells hcaT) rfl) rfl rfl rfl ?_
    refine KG.op (fun Hg og => (R.fieldAddr rfl Tryd.underlying33 rfl rfl sz26 rfl)) rfl rfl rfl ?_
    refine KG.op (fun Hg og => R.load rfl Tryd.underlying26 rfl rfl (cell_of (og.blk by_) rfl)) rfl rfl rfl ?_
    refine KG.op (fun Hg og => R.move rfl rfl) rfl rfl rfl ?_
    refine KG.op (fun Hg og => R.index (j := k) rfl Tryd.underlying26 sz54 rfl rfl m2.g rfl (by omega)) rfl rfl rfl ?_
    refine KG.op (fun Hg og => (R.fieldAddrP rfl Tryd.underlying54 rfl rfl sz49 rfl)) rfl rfl rfl ?_
    refine KG.op (fun Hg og => R.loadAgg rfl Tryd.underlying49 rfl sz49 rfl (og.cells hcbT) rfl) rfl rfl rfl ?_
    refine KG.op (fun Hg og => (R.eqlSt rfl Tryd.underlying49 (by kernel_rfl) (by kernel_rfl) rfl rfl (EqFs.int (by decide) Tryd.underlying5 rfl rfl (EqFs.bool (by decide) Tryd.underlying4 rfl rfl EqFs.nil))).val (congrArg Value.bool (show _ = true from by simp))) rfl rfl rfl ?_
    refine KG.op (fun Hg og => R.move rfl rfl) rfl rfl rfl ?_
    refine KG.op (fun Hg og => (R.fieldAddr rfl Tryd.underlying33 rfl rfl sz26 rfl)) rfl rfl rfl ?_
    refine KG.op (fun Hg og => R.load rfl Tryd.underlying26 rfl rfl (cell_of (og.blk bx) rfl)) rfl rfl rfl ?_
    refine KG.op (fun Hg og => R.move rfl rfl) rfl rfl rfl ?_
    refine KG.op (fun Hg og => R.index (j := k) rfl Tryd.underlying26 sz54 rfl rfl m1.g rfl (by omega)) rfl rfl rfl ?_
    refine KG.op (fun Hg og => (R.fieldAddrP rfl Tryd.underlying54 rfl rfl sz52 rfl)) rfl rfl rfl ?_
    refine KG.op (fun Hg og => R.load rfl Tryd.underlying52 rfl rfl (og.cell (hca 2 _ rfl))) rfl rfl rfl ?_
    refine KG.op (fun Hg og => (R.fieldAddr rfl Tryd.underlying33 rfl rfl sz26 rfl)) rfl rfl rfl ?_
    refine KG.op (fun Hg og => R.load rfl Tryd.underlying26 rfl rfl (cell_of (og.blk by_) rfl)) rfl rfl rfl ?_
    refine KG.op (fun Hg og => R.move rfl rfl) rfl rfl rfl ?_
    refine KG.op (fun Hg og => R.index (j := k) rfl Tryd.underlying26 sz54 rfl rfl m2.g rfl (by omega)) rfl rfl rfl ?_
    refine KG.op (fun Hg og => (R.fieldAddrP rfl Tryd.underlying54 rfl rfl sz52 rfl)) rfl rfl rfl ?_
    refine KG.op (fun Hg og => R.load rfl Tryd.underlying52 rfl rfl (og.cell (hcb 2 _ rfl))) rfl rfl rfl ?_
    refine KG.call rfl rfl rfl rfl Tryd.call59 rfl rfl rfl (fun Hg og => SameAll_refl (ha1.old og) (hb1.old og)) ?_
    refine KG.op (fun Hg og => R.pick rfl rfl rfl) rfl rfl rfl ?_
    refine KG.op (fun Hg og => R.assign rfl rfl) rfl rfl rfl ?_
    refine KG.nil ?_
    intro H7 ogH7
    have o0 := o0.trans ogH7
    have bx := (ogH7).blk bx
    have by_ := (ogH7).blk by_
    have zH7 := ogH7.1
    refine KQ.normBlock (KQ.r (KL.run 1 rfl ?_))
    refine KL.q ((R.add rfl rfl rfl (by have := m1.g.len; dsimp only [InR]; omega)).val (congrArg (Value.int .i64) (show (k : Int) + 1 = ((k + 1 : Nat) : Int) by omega))) rfl ?_
    refine KL.fin 1 rfl ?_
    refine KQ.again (k + 1) ?_ ?_ ?_
    · exact Sub.all rfl
    · show m.globs.length - (k + 1) < m.globs.length - k; omega
    exact ⟨by omega, o0, bx, by_⟩
  intro hg174
  refine KL.fin 2 rfl (KQ.seq (KC.condF rfl (KC.exit (KQ.exitThen (KQ.exitThen (KQ.hit (KQ.seq (KC.seq (KC.sr (KL.fin 1 rfl (KQ.seq (KC.block ?_))))))))))))
  refine KC.loopD (κ := Nat) [207, 208, 209, 210, 211, 212, 213, 214, 217, 218, 219, 220, 221, 222, 223, 224, 225, 226, 227, 5, 215, 216, 9] (fun k => [(5, .bool true), (9, .int .i64 (k : Nat))]) (fun k Hl => k ≤ m.exports.length ∧ Old H Hl ∧ Hl[Array.size H]? = some (.cells [t, i, f, tb, me, g, e, .bool m.hasStart, .int .u32 m.start, el, c, d].toArray 33 (0, 0)) ∧ Hl[Array.size H1]? = some (.cells [t', i', f', tb', me', g', e', .bool m.hasStart, .int .u32 m.start, el', c', d'].toArray 33 (0, 0))) (fun k => m.exports.length - k) 0 ?_ ?_ ?_
  · exact Sub.all rfl
  · exact ⟨Nat.zero_le _, o0, bx, by_⟩
  rintro k H8 ⟨hk, o0, bx, by_⟩
  have zl_H8 := o0.1
  have zl := o0.1
  refine KC.seq (KC.sr (KL.run 2 rfl (KL.ld rfl (cell_of bx rfl) (KL.q (R.lenS rfl Tryd.underlying27 rfl m1.e) rfl (KL.run 2 rfl ?_)))))
  refine KL.cq 212 rfl ?_ ?_
  · intro hg212
    refine KL.fin 2 rfl (KQ.seq (KC.condT rfl (KC.skip (KQ.seq (KC.seq (KC.block (KC.quiet (by kernel_rfl) (by kernel_rfl) (KD.run 1 rfl (KD.ld rfl (cell_of bx rfl) (KD.run 1 rfl ?_))))))))))
    refine KD.op (R.index (j := k) rfl Tryd.underlying27 sz76 rfl rfl m1.e rfl (by omega)) rfl rfl rfl ?_
    refine KD.op (R.loadAgg rfl Tryd.underlying76 rfl sz76 rfl ((m1.e.old o0).expAt k (by omega)) rfl) rfl rfl rfl ?_
    refine KD.run 1 rfl (KD.ld rfl (cell_of by_ rfl) (KD.run 1 rfl ?_))
    refine KD.op (R.index (j := k) rfl Tryd.underlying27 sz76 rfl rfl m2.e rfl (by omega)) rfl rfl rfl ?_
    refine KD.op (R.loadAgg rfl Tryd.underlying76 rfl sz76 rfl ((m2.e.old o0).expAt k (by omega)) rfl) rfl rfl rfl ?_
    refine KD.op (R.eqlSame rfl Tryd.underlying76 (by kernel_rfl) (by kernel_rfl) rfl rfl (SameFs.str (by decide) Tryd.underlying9 rfl (SameFs.int (by decide) Tryd.underlying5 rfl (SameFs.int (by decide) Tryd.underlying28 rfl SameFs.nil)))) rfl rfl rfl (KD.fin 1 rfl (KQ.normBlock (KQ.r (KL.run 1 rfl ?_))))
    refine KL.q ((R.add rfl rfl rfl (by have := m1.e.len; dsimp only [InR]; omega)).val (congrArg (Value.int .i64) (show (k : Int) + 1 = ((k + 1 : Nat) : Int) by omega))) rfl ?_
    refine KL.fin 1 rfl ?_
    refine KQ.again (k + 1) ?_ ?_ ?_
    · exact Sub.all rfl
    · show m.exports.length - (k + 1) < m.exports.length - k; omega
    exact ⟨by omega, o0, bx, by_⟩
  intro hg212
  refine KL.fin 2 rfl (KQ.seq (KC.condF rfl (KC.exit (KQ.exitThen (KQ.exitThen (KQ.hit (KQ.seq (KC.seq (KC.sr (KL.fin 1 rfl (KQ.seq (KC.block ?_))))))))))))
  refine KC.loopD (κ := Nat) [228, 229, 230, 231, 232, 233, 234, 235, 238, 239, 240, 241, 242, 243, 244, 245, 246, 247, 248, 249, 250, 251, 252, 253, 254, 255, 256, 257, 258, 259, 260, 261, 262, 263, 264, 265, 266, 267, 268, 269, 270, 271, 272, 273, 274, 275, 276, 277, 278, 279, 280, 5, 236, 237, 10] (fun k => [(5, .bool true), (10, .int .i64 (k : Nat))]) (fun k Hl => k ≤ m.elems.length ∧ Old H Hl ∧ Hl[Array.size H]? = some (.cells [t, i, f, tb, me, g, e, .bool m.hasStart, .int .u32 m.start, el, c, d].toArray 33 (0, 0)) ∧ Hl[Array.size H1]? = some (.cells [t', i', f', tb', me', g', e', .bool m.hasStart, .int .u32 m.start, el', c', d'].toArray 33 (0, 0))) (fun k => m.elems.length - k) 0 ?_ ?_ ?_
  · exact Sub.all rfl
  · exact ⟨Nat.zero_le _, o0, bx, by_⟩
  rintro k H9 ⟨hk, o0, bx, by_⟩
  have zl_H9 := o0.1
  have zl := o0.1
  refine KC.seq (KC.sr (KL.run 2 rfl (KL.ld rfl (cell_of bx rfl) (KL.q (R.lenS rfl Tryd.underlying29 rfl m1.el) rfl (KL.run 2 rfl ?_)))))
  refine KL.cq 233 rfl ?_ ?_
  · intro hg233
    obtain ⟨a1, a2, hca, ha1, ha2⟩ := (m1.el.old o0).elmAt k (by omega)
    obtain ⟨b1_, b2_, hcb, hb1, hb2⟩ := (m2.el.old o0).elmAt k (by omega)
    refine KL.fin 2 rfl (KQ.seq (KC.condT rfl (KC.skip (KQ.seq (KC.seq (KC.block ?_))))))
    refine KC.grow (by kernel_rfl) (by kernel_rfl) ?_
    refine KG.op (fun Hg og => (R.fieldAddr rfl Tryd.underlying33 rfl rfl sz29 rfl)) rfl rfl rfl ?_
    refine KG.op (fun Hg og => R.load rfl Tryd.underlying29 rfl rfl (cell_of (og.blk bx) rfl)) rfl rfl rfl ?_
    refine KG.op (fun Hg og => R.move rfl rfl) rfl rfl rfl ?_
    refine KG.op (fun Hg og => R.index (j := k) rfl Tryd.underlying29 sz62 rfl rfl m1.el rfl (by omega)) rfl rfl rfl ?_
    refine KG.op (fun Hg og => (R.fieldAddrP rfl Tryd.underlying62 rfl rfl sz28 rfl)) rfl rfl rfl ?_
    refine KG.op (fun Hg og => R.load rfl Tryd.underlying28 rfl rfl (og.cell (hca 0 _ rfl))) rfl rfl rfl ?_
    refine KG.op (fun Hg og => (R.fieldAddr rfl Tryd.underlying33 rfl rfl sz29 rfl)) rfl rfl rfl ?_
    refine KG.op (fun Hg og => R.load rfl Tryd.underlying29 rfl rfl (cell_of (og.blk by_) rfl)) rfl rfl rfl ?_
    refine KG.op (fun Hg og => R.move rfl rfl) rfl rfl rfl ?_
    refine KG.op (fun Hg og => R.index (j := k) rfl Tryd.underlying29 sz62 rfl rfl m2.el rfl (by omega)) rfl rfl rfl ?_
    refine KG.op (fun Hg og => (R.fieldAddrP rfl Tryd.underlying62 rfl rfl sz28 rfl)) rfl rfl rfl ?_
    refine KG.op (fun Hg og => R.load rfl Tryd.underlying28 rfl rfl (og.cell (hcb 0 _ rfl))) rfl rfl rfl ?_
    refine KG.op (fun Hg og => (R.eql rfl rfl rfl).val (congrArg Value.bool (decide_eq_true rfl))) rfl rfl rfl ?_
    refine KG.op (fun Hg og => R.move rfl rfl) rfl rfl rfl ?_
    refine KG.op (fun Hg og => (R.fieldAddr rfl Tryd.underlying33 rfl rfl sz29 rfl)) rfl rfl rfl ?_
    refine KG.op (fun Hg og => R.load rfl Tryd.underlying29 rfl rfl (cell_of (og.blk bx) rfl)) rfl rfl rfl ?_
    refine KG.op (fun Hg og => R.move rfl rfl) rfl rfl rfl ?_
    refine KG.op (fun Hg og => R.index (j := k) rfl Tryd.underlying29 sz62 rfl rfl m1.el rfl (by omega)) rfl rfl rfl ?_
    refine KG.op (fun Hg og => (R.fieldAddrP rfl Tryd.underlying62 rfl rfl sz52 rfl)) rfl rfl rfl ?_
    refine KG.op (fun Hg og => R.load rfl Tryd.underlying52 rfl rfl (og.cell (hca 1 _ rfl))) rfl rfl rfl ?_
    refine KG.op (fun Hg og => (R.fieldAddr rfl Tryd.underlying33 rfl rfl sz29 rfl)) rfl rfl rfl ?_
    refine KG.op (fun Hg og => R.load rfl Tryd.underlying29 rfl rfl (cell_of (og.blk by_) rfl)) rfl rfl rfl ?_
    refine KG.op (fun Hg og => R.move rfl rfl) rfl rfl rfl ?_
    refine KG.op (fun Hg og => R.index (j := k) rfl Tryd.underlying29 sz62 rfl rfl m2.el rfl (by omega)) rfl rfl rfl ?_
    refine KG.op (fun Hg og => (R.fieldAddrP rfl Tryd.underlying62 rfl rfl sz52 rfl)) rfl rfl rfl ?_
    refine KG.op (fun Hg og => R.load rfl Tryd.underlying52 rfl rfl (og.cell (hcb 1 _ rfl))) rfl rfl rfl ?_
    refine KG.call rfl rfl rfl rfl Tryd.call59 rfl rfl rfl (fun Hg og => SameAll_refl (ha1.old og) (hb1.old og)) ?_
    refine KG.op (fun Hg og => R.pick rfl rfl rfl) rfl rfl rfl ?_
    refine KG.op (fun Hg og => R.move rfl rfl) rfl rfl rfl ?_
    refine KG.op (fun Hg og => (R.fieldAddr rfl Tryd.underlying33 rfl rfl sz29 rfl)) rfl rfl rfl ?_
    refine KG.op (fun Hg og => R.load rfl Tryd.underlying29 rfl rfl (cell_of (og.blk bx) rfl)) rfl rfl rfl ?_
    refine KG.op (fun Hg og => R.move rfl rfl) rfl rfl rfl ?_
    refine KG.op (fun Hg og => R.index (j := k) rfl Tryd.underlying29 sz62 rfl rfl m1.el rfl (by omega)) rfl rfl rfl ?_
    refine KG.op (fun Hg og => (R.fieldAddrP rfl Tryd.underlying62 rfl rfl sz24 rfl)) rfl rfl rfl ?_
    refine KG.op (fun Hg og => R.load rfl Tryd.underlying24 rfl rfl (og.cell (hca 2 _ rfl))) rfl rfl rfl ?_
    refine KG.op (fun Hg og => (R.fieldAddr rfl Tryd.underlying33 rfl rfl sz29 rfl)) rfl rfl rfl ?_
    refine KG.op (fun Hg og => R.load rfl Tryd.underlying29 rfl rfl (cell_of (og.blk by_) rfl)) rfl rfl rfl ?_
    refine KG.op (fun Hg og => R.move rfl rfl) rfl rfl rfl ?_
    refine KG.op (fun Hg og => R.index (j := k) rfl Tryd.underlying29 sz62 rfl rfl m2.el rfl (by omega)) rfl rfl rfl ?_
    refine KG.op (fun Hg og => (R.fieldAddrP rfl Tryd.underlying62 rfl rfl sz24 rfl)) rfl rfl rfl ?_
    refine KG.op (fun Hg og => R.load rfl Tryd.underlying24 rfl rfl (og.cell (hcb 2 _ rfl))) rfl rfl rfl ?_
    refine KG.call rfl rfl rfl rfl Tryd.call56 rfl rfl rfl (fun Hg og => (SameN_refl (ha2.old og) (hb2.old og)).mono (fun _ _ ⟨a, b⟩ => ⟨a, b ▸ Old.refl _⟩)) ?_
    refine KG.op (fun Hg og => R.pick rfl rfl rfl) rfl rfl rfl ?_
    refine KG.op (fun Hg og => R.assign rfl rfl) rfl rfl rfl ?_
    refine KG.nil ?_
    intro H10 ogH10
    have o0 := o0.trans ogH10
    have bx := (ogH10).blk bx
    have by_ := (ogH10).blk by_
    have zH10 := ogH10.1
    refine KQ.normBlock (KQ.r (KL.run 1 rfl ?_))
    refine KL.q ((R.add rfl rfl rfl (by have := m1.el.len; dsimp only [InR]; omega)).val (congrArg (Value.int .i64) (show (k : Int) + 1 = ((k + 1 : Nat) : Int) by omega))) rfl ?_
    refine KL.fin 1 rfl ?_
    refine KQ.again (k + 1) ?_ ?_ ?_
    · exact Sub.all rfl
    · show m.elems.length - (k + 1) < m.elems.length - k; omega
    exact ⟨by omega, o0, bx, by_⟩
  intro hg233
  refine KL.fin 2 rfl (KQ.seq (KC.condF rfl (KC.exit (KQ.exitThen (KQ.exitThen (KQ.hit (KQ.seq (KC.seq (KC.sr (KL.fin 1 rfl (KQ.seq (KC.block ?_))))))))))))
  refine KC.loopD (κ := Nat) [281, 282, 283, 284, 285, 286, 287, 288, 291, 292, 293, 294, 295, 296, 297, 298, 299, 300, 301, 302, 303, 304, 305, 306, 307, 308, 309, 310, 311, 312, 313, 314, 315, 316, 317, 318, 319, 320, 321, 322, 323, 324, 325, 326, 327, 328, 329, 330, 331, 332, 333, 334, 335, 5, 289, 290, 11] (fun k => [(5, .bool true), (11, .int .i64 (k : Nat))]) (fun k Hl => k ≤ m.datas.length ∧ Old H Hl ∧ Hl[Array.size H]? = some (.cells [t, i, f, tb, me, g, e, .bool m.hasStart, .int .u32 m.start, el, c, d].toArray 33 (0, 0)) ∧ Hl[Array.size H1]? = some (.cells [t', i', f', tb', me', g', e', .bool m.hasStart, .int .u32 m.start, el', c', d'].toArray 33 (0, 0))) (fun k => m.datas.length - k) 0 ?_ ?_ ?_
  · exact Sub.all rfl
  · exact ⟨Nat.zero_le _, o0, bx, by_⟩
  rintro k H11 ⟨hk, o0, bx, by_⟩
  have zl_H11 := o0.1
  have zl := o0.1
  refine KC.seq (KC.sr (KL.run 2 rfl (KL.ld rfl (cell_of bx rfl) (KL.q (R.lenS rfl Tryd.underlying31 rfl m1.d) rfl (KL.run 2 rfl ?_)))))
  refine KL.cq 286 rfl ?_ ?_
  · intro hg286
    obtain ⟨a1, a2, hca, ha1, ha2⟩ := (m1.d.old o0).datAt k (by omega)
    obtain ⟨b1_, b2_, hcb, hb1, hb2⟩ := (m2.d.old o0).datAt k (by omega)
    refine KL.fin 2 rfl (KQ.seq (KC.condT rfl (KC.skip (KQ.seq (KC.seq (KC.block ?_))))))
    refine KC.grow (by kernel_rfl) (by kernel_rfl) ?_
    refine KG.op (fun Hg og => (R.fieldAddr rfl Tryd.underlying33 rfl rfl sz31 rfl)) rfl rfl rfl ?_
    refine KG.op (fun Hg og => R.load rfl Tryd.underlying31 rfl rfl (cell_of (og.blk bx) rfl)) rfl rfl rfl ?_
    refine KG.op (fun Hg og => R.move rfl rfl) rfl rfl rfl ?_
    refine KG.op (fun Hg og => R.index (j := k) rfl Tryd.underlying31 sz64 rfl rfl m1.d rfl (by omega)) rfl rfl rfl ?_
    refine KG.op (fun Hg og => (R.fieldAddrP rfl Tryd.underlying64 rfl rfl sz28 rfl)) rfl rfl rfl ?_
    refine KG.op (fun Hg og => R.load rfl Tryd.underlying28 rfl rfl (og.cell (hca 0 _ rfl))) rfl rfl rfl ?_
    refine KG.op (fun Hg og => (R.fieldAddr rfl Tryd.underlying33 rfl rfl sz31 rfl)) rfl rfl rfl ?_
    refine KG.op (fun Hg og => R.load rfl Tryd.underlying31 rfl rfl (cell_of (og.blk by_) rfl)) rfl rfl rfl ?_
    refine KG.op (fun Hg og => R.move rfl rfl) rfl rfl rfl ?_
    refine KG.op (fun Hg og => R.index (j := k) rfl Tryd.underlying31 sz64 rfl rfl m2.d rfl (by omega)) rfl rfl rfl ?_
    refine KG.op (fun Hg og => (R.fieldAddrP rfl Tryd.underlying64 rfl rfl sz28 rfl)) rfl rfl rfl ?_
    refine KG.op (fun Hg og => R.load rfl Tryd.underlying28 rfl rfl (og.cell (hcb 0 _ rfl))) rfl rfl rfl ?_
    refine KG.op (fun Hg og => (R.eql rfl rfl rfl).val (congrArg Value.bool (decide_eq_true rfl))) rfl rfl rfl ?_
    refine KG.op (fun Hg og => R.move rfl rfl) rfl rfl rfl ?_
    refine KG.op (fun Hg og => (R.fieldAddr rfl Tryd.underlying33 rfl rfl sz31 rfl)) rfl rfl rfl ?_
    refine KG.op (fun Hg og => R.load rfl Tryd.underlying31 rfl rfl (cell_of (og.blk bx) rfl)) rfl rfl rfl ?_
    refine KG.op (fun Hg og => R.move rfl rfl) rfl rfl rfl ?_
    refine KG.op (fun Hg og => R.index (j := k) rfl Tryd.underlying31 sz64 rfl rfl m1.d rfl (by omega)) rfl rfl rfl ?_
    refine KG.op (fun Hg og => (R.fieldAddrP rfl Tryd.underlying64 rfl rfl sz52 rfl)) rfl rfl rfl ?_
    refine KG.op (fun Hg og => R.load rfl Tryd.underlying52 rfl rfl (og.cell (hca 1 _ rfl))) rfl rfl rfl ?_
    refine KG.op (fun Hg og => (R.fieldAddr rfl Tryd.underlying33 rfl rfl sz31 rfl)) rfl rfl rfl ?_
    refine KG.op (fun Hg og => R.load rfl Tryd.underlying31 rfl rfl (cell_of (og.blk by_) rfl)) rfl rfl rfl ?_
    refine KG.op (fun Hg og => R.move rfl rfl) rfl rfl rfl ?_
    refine KG.op (fun Hg og => R.index (j := k) rfl Tryd.underlying31 sz64 rfl rfl m2.d rfl (by omega)) rfl rfl rfl ?_
    refine KG.op (fun Hg og => (R.fieldAddrP rfl Tryd.underlying64 rfl rfl sz52 rfl)) rfl rfl rfl ?_
    refine KG.op (fun Hg og => R.load rfl Tryd.underlying52 rfl rfl (og.cell (hcb 1 _ rfl))) rfl rfl rfl ?_
    refine KG.call rfl rfl rfl rfl Tryd.call59 rfl rfl rfl (fun Hg og => SameAll_refl (ha1.old og) (hb1.old og)) ?_
    refine KG.op (fun Hg og => R.pick rfl rfl rfl) rfl rfl rfl ?_
    refine KG.op (fun Hg og => R.move rfl rfl) rfl rfl rfl ?_
    refine KG.op (fun Hg og => (R.fieldAddr rfl Tryd.underlying33 rfl rfl sz31 rfl)) rfl rfl rfl ?_
    refine KG.op (fun Hg og => R.load rfl Tryd.underlying31 rfl rfl (cell_of (og.blk bx) rfl)) rfl rfl rfl ?_
    refine KG.op (fun Hg og => R.move rfl rfl) rfl rfl rfl ?_
    refine KG.op (fun Hg og => R.index (j := k) rfl Tryd.underlying31 sz64 rfl rfl m1.d rfl (by omega)) rfl rfl rfl ?_
    refine KG.op (fun Hg og => (R.fieldAddrP rfl Tryd.underlying64 rfl rfl sz36 rfl)) rfl rfl rfl ?_
    refine KG.op (fun Hg og => R.load rfl Tryd.underlying36 rfl rfl (og.cell (hca 2 _ rfl))) rfl rfl rfl ?_
    refine KG.op (fun Hg og => R.convBS rfl Tryd.underlying36 Tryd.underlying5 Tryd.underlying9 rfl (ha2.old og)) rfl rfl rfl ?_
    refine KG.op (fun Hg og => (R.fieldAddr rfl Tryd.underlying33 rfl rfl sz31 rfl)) rfl rfl rfl ?_
    refine KG.op (fun Hg og => R.load rfl Tryd.underlying31 rfl rfl (cell_of (og.blk by_) rfl)) rfl rfl rfl ?_
    refine KG.op (fun Hg og => R.move rfl rfl) rfl rfl rfl ?_
    refine KG.op (fun Hg og => R.index (j := k) rfl Tryd.underlying31 sz64 rfl rfl m2.d rfl (by omega)) rfl rfl rfl ?_
    refine KG.op (fun Hg og => (R.fieldAddrP rfl Tryd.underlying64 rfl rfl sz36 rfl)) rfl rfl rfl ?_
    refine KG.op (fun Hg og => R.load rfl Tryd.underlying36 rfl rfl (og.cell (hcb 2 _ rfl))) rfl rfl rfl ?_
    refine KG.op (fun Hg og => R.convBS rfl Tryd.underlying36 Tryd.underlying5 Tryd.underlying9 rfl (hb2.old og)) rfl rfl rfl ?_
    refine KG.op (fun Hg og => (R.eqlStr rfl rfl rfl).val (congrArg Value.bool (show _ = true from by simp))) rfl rfl rfl ?_
    refine KG.op (fun Hg og => R.pick rfl rfl rfl) rfl rfl rfl ?_
    refine KG.op (fun Hg og => R.assign rfl rfl) rfl rfl rfl ?_
    refine KG.nil ?_
    intro H12 ogH12
    have o0 := o0.trans ogH12
    have bx := (ogH12).blk bx
    have by_ := (ogH12).blk by_
    have zH12 := ogH12.1
    refine KQ.normBlock (KQ.r (KL.run 1 rfl ?_))
    refine KL.q ((R.add rfl rfl rfl (by have := m1.d.len; dsimp only [InR]; omega)).val (congrArg (Value.int .i64) (show (k : Int) + 1 = ((k + 1 : Nat) : Int) by omega))) rfl ?_
    refine KL.fin 1 rfl ?_
    refine KQ.again (k + 1) ?_ ?_ ?_
    · exact Sub.all rfl
    · show m.datas.length - (k + 1) < m.datas.length - k; omega
    exact ⟨by omega, o0, bx, by_⟩
  intro hg286
  refine KL.fin 2 rfl (KQ.seq (KC.condF rfl (KC.exit (KQ.exitThen (KQ.exitThen (KQ.hit (KQ.sr (KL.fin 2 rfl (KQ.seq (KC.ret (KQ.ofRet ?_)))))))))))
  refine KQ.fin1 Tryd.results12 rfl ?_
  exact ⟨rfl, o0⟩
end Go.Proofs.YtldmfchamcpmmaaDoor
namespace Go.Proofs.YtldmfchamcpmmaaDoor
open Go Go.RowKit
set_option linter.unusedVariables false
set_option linter.unusedSimpArgs false
set_option linter.unnecessarySimpa false
namespace Bn
/-- what a module is whose bytes were read -/
structure MV (m : Mo) : Prop where
  t : ∀ x ∈ m.types, FTyV x
  i : ∀ x ∈ m.imports, ImpV x
  f : ∀ x ∈ m.funcs, Isp.okU x
  tb : ∀ x ∈ m.tables, LimV x
  me : ∀ x ∈ m.mems, LimV x
  g : ∀ x ∈ m.globs, GloV x
  e : ∀ x ∈ m.exports, ExpV x
  s : Isp.okU m.start
  el : ∀ x ∈ m.elems, ElmV x
  c : ∀ x ∈ m.codes, CodV x
  d : ∀ x ∈ m.datas, DatV x
theorem whole_V {α : Type} {p : Isp.Prs α} {e : α → List Int} {V : α → Prop} (hp : Isp.Cod p e V) {b : List Int} {x : α} (h : whole p b = .ok x) : V x := by
  unfold whole at h
  split at h
  · cases h
  next y k hy =>
  split at h
  · injection h with h; subst h; exact (hp.sound _ _ _ hy).1
  cases h
theorem mapE_ok {α β : Type} {f : α → β} {x : Except Int α} {y : β} (h : mapE f x = .ok y) : ∃ z, x = .ok z ∧ y = f z := by
  cases x with
  | error e => cases h
  | ok z => injection h with h; exact ⟨z, rfl, h.symm⟩
theorem mv0 : MV mo0 := ⟨(fun _ h => by cases h), (fun _ h => by cases h), (fun _ h => by cases h), (fun _ h => by cases h), (fun _ h => by cases h), (fun _ h => by cases h), (fun _ h => by cases h), ⟨by decide, by decide⟩, (fun _ h => by cases h), (fun _ h => by cases h), (fun _ h => by cases h)⟩
theorem sec_V {id : Int} {b : List Int} {m m' : Mo} (h : secF id b m = .ok m') (hm : MV m) : MV m' := by
  by_cases h1 : id = 1
  · rw [sF_1 h1] at h; obtain ⟨x, hx, rfl⟩ := mapE_ok h; exact { hm with t := (whole_V (cod_lst cod_typ) hx).2 }
  by_cases h2 : id = 2
  · rw [sF_2 h2] at h; obtain ⟨x, hx, rfl⟩ := mapE_ok h; exact { hm with i := (whole_V (cod_lst cod_imp) hx).2 }
  by_cases h3 : id = 3
  · rw [sF_3 h3] at h; obtain ⟨x, hx, rfl⟩ := mapE_ok h; exact { hm with f := (whole_V (cod_lst Isp.cod_u32) hx).2 }
  by_cases h4 : id = 4
  · rw [sF_4 h4] at h; obtain ⟨x, hx, rfl⟩ := mapE_ok h; exact { hm with tb := (whole_V (cod_lst cod_tab) hx).2 }
  by_cases h5 : id = 5
  · rw [sF_5 h5] at h; obtain ⟨x, hx, rfl⟩ := mapE_ok h; exact { hm with me := (whole_V (cod_lst cod_lim) hx).2 }
  by_cases h6 : id = 6
  · rw [sF_6 h6] at h; obtain ⟨x, hx, rfl⟩ := mapE_ok h; exact { hm with g := (whole_V (cod_lst cod_glo) hx).2 }
  by_cases h7 : id = 7
  · rw [sF_7 h7] at h; obtain ⟨x, hx, rfl⟩ := mapE_ok h; exact { hm with e := (whole_V (cod_lst cod_exp) hx).2 }
  by_cases h8 : id = 8
  · rw [sF_8 h8] at h; obtain ⟨x, hx, rfl⟩ := mapE_ok h; exact { hm with s := whole_V Isp.cod_u32 hx }
  by_cases h9 : id = 9
  · rw [sF_9 h9] at h; obtain ⟨x, hx, rfl⟩ := mapE_ok h; exact { hm with el := (whole_V (cod_lst cod_elm) hx).2 }
  by_cases h10 : id = 10
  · rw [sF_10 h10] at h; obtain ⟨x, hx, rfl⟩ := mapE_ok h; exact { hm with c := (whole_V (cod_lst cod_cod) hx).2 }
  rw [sF_n (fun n a b => by omega)] at h; obtain ⟨x, hx, rfl⟩ := mapE_ok h; exact { hm with d := (whole_V (cod_lst cod_dat) hx).2 }
theorem fills_V : ∀ {ss : List Sec} {m m' : Mo}, fills ss m = .ok m' → MV m → MV m'
  | [], m, m', h, hm => by injection h with h; subst h; exact hm
  | s :: ss, m, m', h, hm => by
    simp only [fills] at h
    split at h
    · cases h
    next m1 h1 => exact fills_V h (sec_V h1 hm)
theorem dec_V {l : List Int} {m : Mo} (h : dec l = .ok m) : MV m ∧ m.codes.length = m.funcs.length := by
  unfold dec at h
  split at h
  · cases h
  split at h
  · cases h
  split at h
  · cases h
  next m' hf =>
  split at h
  · next hc => injection h with h; subst h; exact ⟨fills_V hf mv0, hc⟩
  cases h
theorem decR_V (l : List Int) : MV (decR l).1 ∧ (decR l).1.codes.length = (decR l).1.funcs.length := by
  unfold decR
  split
  · exact ⟨mv0, rfl⟩
  next m h => exact dec_V h
end Bn
theorem Decode_is {H : Heap} {v : Value} {l : List Int} {m : Mo} {ec : Int} (hs : Sl 1 (EInt .u8) H v l) (hT : TabU H) (hd : Bn.decR l = (m, ec)) : Ct Tryd.prog 11 [v] H (fun u H' => Old H H' ∧ ∃ t i f tb me g e el c d, u = .tuple #[.agg [t, i, f, tb, me, g, e, .bool m.hasStart, .int .u32 m.start, el, c, d].toArray, .int .i64 ec] ∧ MoV H' t i f tb me g e el c d m) := by
  have h := Decode_any hs hT
  rw [hd] at h
  exact h
namespace Bn
theorem d1 : decR (Sc.beg ++ [1, 4, 1, 96, 0, 0, 3, 2, 1, 0, 10, 4, 1, 2, 0, 11]) = (⟨[([], [])], [], [0], [], [], [], [], false, 0, [], [([], [])], []⟩, 0) := by kernel_rfl
theorem d2 : decR (Sc.beg ++ [1, 5, 1, 96, 1, 125, 0]) = (mo0, 61) := by kernel_rfl
theorem d3 : decR (Sc.beg ++ [3, 2, 1, 0]) = (mo0, 60) := by kernel_rfl
theorem d4 : decR (Sc.beg ++ [5, 3, 1, 0, 2]) = (⟨[], [], [], [], [(2, -1)], [], [], false, 0, [], [], []⟩, 0) := by kernel_rfl
theorem d5 : decR (Sc.beg ++ [5, 4, 1, 1, 2, 3]) = (⟨[], [], [], [], [(2, 3)], [], [], false, 0, [], [], []⟩, 0) := by kernel_rfl
end Bn
theorem of_any {H : Heap} {v : Value} {l : List Int} (hs : Sl 1 (EInt .u8) H v l) (hl : l.length ≤ 1000) : Ct Tryd.prog 52 [v] H (fun u H' => Sl 1 (EInt .u8) H' u (Sc.beg ++ l) ∧ Old H H') := by
  refine Ct.mk Tryd.func52 rfl Tryd.ntmps52 rfl ?_
  intro W0 hW0
  have o0 : Old H H := Old.refl H
  refine KC.sr (KL.fin 1 rfl (KQ.sr ?_))
  refine KL.c rfl Tryd.call17 (Begin_any) ?_
  rintro vb H1 ⟨wa, ox⟩
  have zc_H1 := (ox).1
  have o0 := o0.trans ox
  have hbl : Sc.beg.length = 8 := rfl
  refine KL.run 1 rfl ?_
  have lt2 := wa.lt
  refine KL.m (M.append rfl Tryd.underlying36 inf5 rfl (by decide) rfl rfl wa (by exact hs.old o0) (fun _ _ h _ => h) (by omega) (by omega) (by unfold maxLen; omega)) rfl ?_
  rintro vn H2 ⟨w2, g2⟩
  have ob2 := g2.oldB wa (by omega)
  have o0 := o0.then ob2 (by omega)
  have z2 := ob2.1
  have wa := w2
  refine KL.fin 1 rfl (KQ.seq (KC.ret (KQ.ofRet (KQ.fin1 Tryd.results52 rfl ?_))))
  exact ⟨wa.sl (emptyOld _) (by decide), o0⟩
theorem bknown_any {H : Heap} (hT : TabU H) : Ct Tryd.prog 10 [] H (fun u H' => u = .bool true ∧ Old H H') := by
  refine Ct.mk Tryd.func10 rfl Tryd.ntmps10 rfl ?_
  intro W0 hW0
  have o0 : Old H H := Old.refl H
  refine KC.sr (KL.fin 1 rfl (KQ.sr ?_))
  refine KL.m (M.lit rfl Tryd.underlying36 zs5 (by decide) rfl rfl rfl) rfl ?_
  rintro _ H1 ⟨rfl, n1⟩
  have z1 := n1.2.1
  have o0 := o0.trans n1.1
  have b1 := n1.2.2
  have sa1 : Sl 1 (EInt .u8) H1 _ [1, 4, 1, 96, 0, 0, 3, 2, 1, 0, 10, 4, 1, 2, 0, 11] := Sl.lits (l := [1, 4, 1, 96, 0, 0, 3, 2, 1, 0, 10, 4, 1, 2, 0, 11]) n1 rfl (by simp) (by decide)
  refine KL.c rfl Tryd.call52 (of_any sa1 (by decide)) ?_
  rintro vo H2 ⟨so1, ox⟩
  have zc_H2 := (ox).1
  have o0 := o0.trans ox
  have sa1 := sa1.old ox
  refine KL.c rfl Tryd.call11 (Decode_is so1 (hT.old o0) Bn.d1) ?_
  rintro _ H3 ⟨ox, t1, i1, f1, tb1, me1, g1, e1, el1, c1, d1, rfl, mv1⟩
  have zc_H3 := (ox).1
  have o0 := o0.trans ox
  have sa1 := sa1.old ox
  have so1 := so1.old ox
  have oX1 : Old H3 H3 := Old.refl _
  refine KL.run 3 rfl ?_
  refine KL.m (M.alloc rfl zr33 rfl) rfl ?_
  rintro _ H4 ⟨rfl, n4⟩
  have z4 := n4.2.1
  have o0 := o0.trans n4.1
  have sa1 := sa1.old n4.1
  have so1 := so1.old n4.1
  have oX1 := oX1.trans n4.1
  have b4 := n4.2.2
  have bm1 := b4
  refine KL.opS (S.storeAgg rfl sz33 rfl rfl (rfl) (by intro z hz; simp only [List.mem_cons, List.not_mem_nil, or_false] at hz; rcases hz with rfl | rfl | rfl | rfl | rfl | rfl | rfl | rfl | rfl | rfl | rfl | rfl <;> first | rfl | exact mv1.t.one | exact mv1.i.one | exact mv1.f.one | exact mv1.tb.one | exact mv1.me.one | exact mv1.g.one | exact mv1.e.one | exact mv1.el.one | exact mv1.c.one | exact mv1.d.one) bm1 (by simp)) rfl rfl ?_
  rintro H5 ⟨u5, b5⟩
  have o0 := o0.upd u5 (by omega)
  have zu5 := u5.1
  have oX1 := oX1.upd u5 (by omega)
  have bm1 := b5
  rw [over_all (by rfl)] at bm1
  refine KL.fin 1 rfl (KQ.seq (KC.seq (KC.sr (KL.run 1 rfl (KL.q ((R.neq rfl rfl rfl).val ((congrArg (fun b => Value.bool (!b)) (decide_eq_true rfl)))) rfl (KL.run 1 rfl (KL.lda rfl (cells_of bm1) rfl (KL.b0 bt44 rfl rfl ?_))))))))
  refine KL.m (M.lit rfl Tryd.underlying22 zs44 (by decide) rfl rfl rfl) rfl ?_
  rintro _ H6 ⟨rfl, n6⟩
  have z6 := n6.2.1
  have o0 := o0.trans n6.1
  have oX1 := oX1.trans n6.1
  have bm1 := (n6.1).blk bm1
  have b6 := n6.2.2
  have s22 : Sl 2 EFTy H6 _ [(([] : List Int), ([] : List Int))] := Sl.lit1N n6 rfl (by decide) ⟨_, _, rfl, Sl.nil _ _ _, Sl.nil _ _ _⟩
  refine KL.m (M.lit rfl Tryd.underlying24 zs28 (by decide) rfl rfl rfl) rfl ?_
  rintro _ H7 ⟨rfl, n7⟩
  have z7 := n7.2.1
  have o0 := o0.trans n7.1
  have oX1 := oX1.trans n7.1
  have bm1 := (n7.1).blk bm1
  have s22 := s22.old n7.1
  have b7 := n7.2.2
  have s23 : Sl 1 (EInt .u32) H7 _ [0] := Sl.lits (l := [0]) n7 rfl (by simp) (by decide)
  refine KL.b0 bt58 rfl rfl ?_
  refine KL.m (M.lit rfl Tryd.underlying30 zs58 (by decide) rfl rfl rfl) rfl ?_
  rintro _ H8 ⟨rfl, n8⟩
  have z8 := n8.2.1
  have o0 := o0.trans n8.1
  have oX1 := oX1.trans n8.1
  have bm1 := (n8.1).blk bm1
  have s22 := s22.old n8.1
  have s23 := s23.old n8.1
  have b8 := n8.2.2
  have s25 : Sl 2 ECod H8 _ [(([] : List (Int × Int)), ([] : List Ins))] := Sl.lit1N n8 rfl (by decide) ⟨_, _, rfl, Sl.nil _ _ _, Sl.nil _ _ _⟩
  refine KL.b0 bt33 rfl rfl ?_
  refine KL.c rfl Tryd.call12 (Same_refl (mv1.old oX1) ⟨s22, (Sl.nil _ _ _), s23, (Sl.nil _ _ _), (Sl.nil _ _ _), (Sl.nil _ _ _), (Sl.nil _ _ _), (Sl.nil _ _ _), s25, (Sl.nil _ _ _), by decide⟩) ?_
  rintro _ H9 ⟨rfl, ox⟩
  have zc_H9 := (ox).1
  have o0 := o0.trans ox
  have oX1 := oX1.trans ox
  have bm1 := (ox).blk bm1
  have s22 := s22.old ox
  have s23 := s23.old ox
  have s25 := s25.old ox
  refine KL.fin 2 rfl (KQ.seq (KC.condF rfl (KC.skip (KQ.sr ?_))))
  refine KL.m (M.lit rfl Tryd.underlying36 zs5 (by decide) rfl rfl rfl) rfl ?_
  rintro _ H10 ⟨rfl, n10⟩
  have z10 := n10.2.1
  have o0 := o0.trans n10.1
  have oX1 := oX1.trans n10.1
  have bm1 := (n10.1).blk bm1
  have s22 := s22.old n10.1
  have s23 := s23.old n10.1
  have s25 := s25.old n10.1
  have b10 := n10.2.2
  have sa2 : Sl 1 (EInt .u8) H10 _ [1, 5, 1, 96, 1, 125, 0] := Sl.lits (l := [1, 5, 1, 96, 1, 125, 0]) n10 rfl (by simp) (by decide)
  refine KL.c rfl Tryd.call52 (of_any sa2 (by decide)) ?_
  rintro vo H11 ⟨so2, ox⟩
  have zc_H11 := (ox).1
  have o0 := o0.trans ox
  have oX1 := oX1.trans ox
  have bm1 := (ox).blk bm1
  have s22 := s22.old ox
  have s23 := s23.old ox
  have s25 := s25.old ox
  have sa2 := sa2.old ox
  refine KL.c rfl Tryd.call11 (Decode_is so2 (hT.old o0) Bn.d2) ?_
  rintro _ H12 ⟨ox, t2, i2, f2, tb2, me2, g2, e2, el2, c2, d2, rfl, mv2⟩
  have zc_H12 := (ox).1
  have o0 := o0.trans ox
  have oX1 := oX1.trans ox
  have bm1 := (ox).blk bm1
  have s22 := s22.old ox
  have s23 := s23.old ox
  have s25 := s25.old ox
  have sa2 := sa2.old ox
  have so2 := so2.old ox
  have oX2 : Old H12 H12 := Old.refl _
  refine KL.run 3 rfl ?_
  refine KL.m (M.alloc rfl zr33 rfl) rfl ?_
  rintro _ H13 ⟨rfl, n13⟩
  have z13 := n13.2.1
  have o0 := o0.trans n13.1
  have oX1 := oX1.trans n13.1
  have bm1 := (n13.1).blk bm1
  have s22 := s22.old n13.1
  have s23 := s23.old n13.1
  have s25 := s25.old n13.1
  have sa2 := sa2.old n13.1
  have so2 := so2.old n13.1
  have oX2 := oX2.trans n13.1
  have b13 := n13.2.2
  have bm2 := b13
  refine KL.opS (S.storeAgg rfl sz33 rfl rfl (rfl) (by intro z hz; simp only [List.mem_cons, List.not_mem_nil, or_false] at hz; rcases hz with rfl | rfl | rfl | rfl | rfl | rfl | rfl | rfl | rfl | rfl | rfl | rfl <;> first | rfl | exact mv2.t.one | exact mv2.i.one | exact mv2.f.one | exact mv2.tb.one | exact mv2.me.one | exact mv2.g.one | exact mv2.e.one | exact mv2.el.one | exact mv2.c.one | exact mv2.d.one) bm2 (by simp)) rfl rfl ?_
  rintro H14 ⟨u14, b14⟩
  have o0 := o0.upd u14 (by omega)
  have zu14 := u14.1
  have oX1 := oX1.upd u14 (by omega)
  have bm1 := ((u14).2 _ (by omega)).trans bm1
  have oX2 := oX2.upd u14 (by omega)
  have bm2 := b14
  rw [over_all (by rfl)] at bm2
  refine KL.fin 1 rfl (KQ.sr ?_)
  refine KL.m (M.lit rfl Tryd.underlying36 zs5 (by decide) rfl rfl rfl) rfl ?_
  rintro _ H15 ⟨rfl, n15⟩
  have z15 := n15.2.1
  have o0 := o0.trans n15.1
  have oX1 := oX1.trans n15.1
  have bm1 := (n15.1).blk bm1
  have oX2 := oX2.trans n15.1
  have bm2 := (n15.1).blk bm2
  have b15 := n15.2.2
  have sa3 : Sl 1 (EInt .u8) H15 _ [3, 2, 1, 0] := Sl.lits (l := [3, 2, 1, 0]) n15 rfl (by simp) (by decide)
  refine KL.c rfl Tryd.call52 (of_any sa3 (by decide)) ?_
  rintro vo H16 ⟨so3, ox⟩
  have zc_H16 := (ox).1
  have o0 := o0.trans ox
  have oX1 := oX1.trans ox
  have bm1 := (ox).blk bm1
  have oX2 := oX2.trans ox
  have bm2 := (ox).blk bm2
  have sa3 := sa3.old ox
  refine KL.c rfl Tryd.call11 (Decode_is so3 (hT.old o0) Bn.d3) ?_
  rintro _ H17 ⟨ox, t3, i3, f3, tb3, me3, g3, e3, el3, c3, d3, rfl, mv3⟩
  have zc_H17 := (ox).1
  have o0 := o0.trans ox
  have oX1 := oX1.trans ox
  have bm1 := (ox).blk bm1
  have oX2 := oX2.trans ox
  have bm2 := (ox).blk bm2
  have sa3 := sa3.old ox
  have so3 := so3.old ox
  have oX3 : Old H17 H17 := Old.refl _
  refine KL.run 3 rfl ?_
  refine KL.m (M.alloc rfl zr33 rfl) rfl ?_
  rintro _ H18 ⟨rfl, n18⟩
  have z18 := n18.2.1
  have o0 := o0.trans n18.1
  have oX1 := oX1.trans n18.1
  have bm1 := (n18.1).blk bm1
  have oX2 := oX2.trans n18.1
  have bm2 := (n18.1).blk bm2
  have sa3 := sa3.old n18.1
  have so3 := so3.old n18.1
  have oX3 := oX3.trans n18.1
  have b18 := n18.2.2
  have bm3 := b18
  refine KL.opS (S.storeAgg rfl sz33 rfl rfl (rfl) (by intro z hz; simp only [List.mem_cons, List.not_mem_nil, or_false] at hz; rcases hz with rfl | rfl | rfl | rfl | rfl | rfl | rfl | rfl | rfl | rfl | rfl | rfl <;> first | rfl | exact mv3.t.one | exact mv3.i.one | exact mv3.f.one | exact mv3.tb.one | exact mv3.me.one | exact mv3.g.one | exact mv3.e.one | exact mv3.el.one | exact mv3.c.one | exact mv3.d.one) bm3 (by simp)) rfl rfl ?_
  rintro H19 ⟨u19, b19⟩
  have o0 := o0.upd u19 (by omega)
  have zu19 := u19.1
  have oX1 := oX1.upd u19 (by omega)
  have bm1 := ((u19).2 _ (by omega)).trans bm1
  have oX2 := oX2.upd u19 (by omega)
  have bm2 := ((u19).2 _ (by omega)).trans bm2
  have oX3 := oX3.upd u19 (by omega)
  have bm3 := b19
  rw [over_all (by rfl)] at bm3
  refine KL.fin 1 rfl (KQ.sr ?_)
  refine KL.m (M.lit rfl Tryd.underlying36 zs5 (by decide) rfl rfl rfl) rfl ?_
  rintro _ H20 ⟨rfl, n20⟩
  have z20 := n20.2.1
  have o0 := o0.trans n20.1
  have oX1 := oX1.trans n20.1
  have bm1 := (n20.1).blk bm1
  have oX2 := oX2.trans n20.1
  have bm2 := (n20.1).blk bm2
  have oX3 := oX3.trans n20.1
  have bm3 := (n20.1).blk bm3
  have b20 := n20.2.2
  have sa4 : Sl 1 (EInt .u8) H20 _ [5, 3, 1, 0, 2] := Sl.lits (l := [5, 3, 1, 0, 2]) n20 rfl (by simp) (by decide)
  refine KL.c rfl Tryd.call52 (of_any sa4 (by decide)) ?_
  rintro vo H21 ⟨so4, ox⟩
  have zc_H21 := (ox).1
  have o0 := o0.trans ox
  have oX1 := oX1.trans ox
  have bm1 := (ox).blk bm1
  have oX2 := oX2.trans ox
  have bm2 := (ox).blk bm2
  have oX3 := oX3.trans ox
  have bm3 := (ox).blk bm3
  have sa4 := sa4.old ox
  refine KL.c rfl Tryd.call11 (Decode_is so4 (hT.old o0) Bn.d4) ?_
  rintro _ H22 ⟨ox, t4, i4, f4, tb4, me4, g4, e4, el4, c4, d4, rfl, mv4⟩
  have zc_H22 := (ox).1
  have o0 := o0.trans ox
  have oX1 := oX1.trans ox
  have bm1 := (ox).blk bm1
  have oX2 := oX2.trans ox
  have bm2 := (ox).blk bm2
  have oX3 := oX3.trans ox
  have bm3 := (ox).blk bm3
  have sa4 := sa4.old ox
  have so4 := so4.old ox
  have oX4 : Old H22 H22 := Old.refl _
  refine KL.run 3 rfl ?_
  refine KL.m (M.alloc rfl zr33 rfl) rfl ?_
  rintro _ H23 ⟨rfl, n23⟩
  have z23 := n23.2.1
  have o0 := o0.trans n23.1
  have oX1 := oX1.trans n23.1
  have bm1 := (n23.1).blk bm1
  have oX2 := oX2.trans n23.1
  have bm2 := (n23.1).blk bm2
  have oX3 := oX3.trans n23.1
  have bm3 := (n23.1).blk bm3
  have sa4 := sa4.old n23.1
  have so4 := so4.old n23.1
  have oX4 := oX4.trans n23.1
  have b23 := n23.2.2
  have bm4 := b23
  refine KL.opS (S.storeAgg rfl sz33 rfl rfl (rfl) (by intro z hz; simp only [List.mem_cons, List.not_mem_nil, or_false] at hz; rcases hz with rfl | rfl | rfl | rfl | rfl | rfl | rfl | rfl | rfl | rfl | rfl | rfl <;> first | rfl | exact mv4.t.one | exact mv4.i.one | exact mv4.f.one | exact mv4.tb.one | exact mv4.me.one | exact mv4.g.one | exact mv4.e.one | exact mv4.el.one | exact mv4.c.one | exact mv4.d.one) bm4 (by simp)) rfl rfl ?_
  rintro H24 ⟨u24, b24⟩
  have o0 := o0.upd u24 (by omega)
  have zu24 := u24.1
  have oX1 := oX1.upd u24 (by omega)
  have bm1 := ((u24).2 _ (by omega)).trans bm1
  have oX2 := oX2.upd u24 (by omega)
  have bm2 := ((u24).2 _ (by omega)).trans bm2
  have oX3 := oX3.upd u24 (by omega)
  have bm3 := ((u24).2 _ (by omega)).trans bm3
  have oX4 := oX4.upd u24 (by omega)
  have bm4 := b24
  rw [over_all (by rfl)] at bm4
  refine KL.fin 1 rfl (KQ.sr ?_)
  refine KL.m (M.lit rfl Tryd.underlying36 zs5 (by decide) rfl rfl rfl) rfl ?_
  rintro _ H25 ⟨rfl, n25⟩
  have z25 := n25.2.1
  have o0 := o0.trans n25.1
  have oX1 := oX1.trans n25.1
  have bm1 := (n25.1).blk bm1
  have oX2 := oX2.trans n25.1
  have bm2 := (n25.1).blk bm2
  have oX3 := oX3.trans n25.1
  have bm3 := (n25.1).blk bm3
  have oX4 := oX4.trans n25.1
  have bm4 := (n25.1).blk bm4
  have b25 := n25.2.2
  have sa5 : Sl 1 (EInt .u8) H25 _ [5, 4, 1, 1, 2, 3] := Sl.lits (l := [5, 4, 1, 1, 2, 3]) n25 rfl (by simp) (by decide)
  refine KL.c rfl Tryd.call52 (of_any sa5 (by decide)) ?_
  rintro vo H26 ⟨so5, ox⟩
  have zc_H26 := (ox).1
  have o0 := o0.trans ox
  have oX1 := oX1.trans ox
  have bm1 := (ox).blk bm1
  have oX2 := oX2.trans ox
  have bm2 := (ox).blk bm2
  have oX3 := oX3.trans ox
  have bm3 := (ox).blk bm3
  have oX4 := oX4.trans ox
  have bm4 := (ox).blk bm4
  have sa5 := sa5.old ox
  refine KL.c rfl Tryd.call11 (Decode_is so5 (hT.old o0) Bn.d5) ?_
  rintro _ H27 ⟨ox, t5, i5, f5, tb5, me5, g5, e5, el5, c5, d5, rfl, mv5⟩
  have zc_H27 := (ox).1
  have o0 := o0.trans ox
  have oX1 := oX1.trans ox
  have bm1 := (ox).blk bm1
  have oX2 := oX2.trans ox
  have bm2 := (ox).blk bm2
  have oX3 := oX3.trans ox
  have bm3 := (ox).blk bm3
  have oX4 := oX4.trans ox
  have bm4 := (ox).blk bm4
  have sa5 := sa5.old ox
  have so5 := so5.old ox
  have oX5 : Old H27 H27 := Old.refl _
  refine KL.run 3 rfl ?_
  refine KL.m (M.alloc rfl zr33 rfl) rfl ?_
  rintro _ H28 ⟨rfl, n28⟩
  have z28 := n28.2.1
  have o0 := o0.trans n28.1
  have oX1 := oX1.trans n28.1
  have bm1 := (n28.1).blk bm1
  have oX2 := oX2.trans n28.1
  have bm2 := (n28.1).blk bm2
  have oX3 := oX3.trans n28.1
  have bm3 := (n28.1).blk bm3
  have oX4 := oX4.trans n28.1
  have bm4 := (n28.1).blk bm4
  have sa5 := sa5.old n28.1
  have so5 := so5.old n28.1
  have oX5 := oX5.trans n28.1
  have b28 := n28.2.2
  have bm5 := b28
  refine KL.opS (S.storeAgg rfl sz33 rfl rfl (rfl) (by intro z hz; simp only [List.mem_cons, List.not_mem_nil, or_false] at hz; rcases hz with rfl | rfl | rfl | rfl | rfl | rfl | rfl | rfl | rfl | rfl | rfl | rfl <;> first | rfl | exact mv5.t.one | exact mv5.i.one | exact mv5.f.one | exact mv5.tb.one | exact mv5.me.one | exact mv5.g.one | exact mv5.e.one | exact mv5.el.one | exact mv5.c.one | exact mv5.d.one) bm5 (by simp)) rfl rfl ?_
  rintro H29 ⟨u29, b29⟩
  have o0 := o0.upd u29 (by omega)
  have zu29 := u29.1
  have oX1 := oX1.upd u29 (by omega)
  have bm1 := ((u29).2 _ (by omega)).trans bm1
  have oX2 := oX2.upd u29 (by omega)
  have bm2 := ((u29).2 _ (by omega)).trans bm2
  have oX3 := oX3.upd u29 (by omega)
  have bm3 := ((u29).2 _ (by omega)).trans bm3
  have oX4 := oX4.upd u29 (by omega)
  have bm4 := ((u29).2 _ (by omega)).trans bm4
  have oX5 := oX5.upd u29 (by omega)
  have bm5 := b29
  rw [over_all (by rfl)] at bm5
  refine KL.fin 1 rfl (KQ.sr (KL.run 1 rfl (KL.q ((R.eql rfl rfl rfl).val (congrArg Value.bool (decide_eq_true rfl))) rfl (KL.run 2 rfl (KL.q ((R.eql rfl rfl rfl).val (congrArg Value.bool (decide_eq_true rfl))) rfl (KL.run 3 rfl (KL.q ((R.eql rfl rfl rfl).val (congrArg Value.bool (decide_eq_true rfl))) rfl (KL.run 3 rfl (KL.q ((R.eql rfl rfl rfl).val (congrArg Value.bool (decide_eq_true rfl))) rfl (KL.run 3 rfl (KL.ld rfl (cell_of bm4 rfl) ?_)))))))))))
  refine KL.q (R.lenS rfl Tryd.underlying25 rfl mv4.me) rfl (KL.q ((R.eql rfl rfl rfl).val (congrArg Value.bool (decide_eq_true rfl))) rfl (KL.run 3 rfl (KL.ld rfl (cell_of bm4 rfl) (KL.q (R.index (j := 0) rfl Tryd.underlying25 sz47 rfl rfl mv4.me rfl (by decide)) rfl (KL.lda rfl ((mv4.me.old oX4).limAt 0 (by decide)).1 rfl (KL.b0 bt47 rfl rfl (KL.q ((R.eqlSt rfl Tryd.underlying47 (by kernel_rfl) (by kernel_rfl) rfl rfl (EqFs.int (by decide) Tryd.underlying28 rfl rfl (EqFs.int (by decide) Tryd.underlying2 rfl rfl EqFs.nil))).val (congrArg Value.bool (show _ = true from rfl))) rfl (KL.run 3 rfl (KL.ld rfl (cell_of bm5 rfl) (KL.q (R.lenS rfl Tryd.underlying25 rfl mv5.me) rfl (KL.q ((R.eql rfl rfl rfl).val (congrArg Value.bool (decide_eq_true rfl))) rfl (KL.run 3 rfl (KL.ld rfl (cell_of bm5 rfl) ?_)))))))))))))
  refine KL.q (R.index (j := 0) rfl Tryd.underlying25 sz47 rfl rfl mv5.me rfl (by decide)) rfl (KL.lda rfl ((mv5.me.old oX5).limAt 0 (by decide)).1 rfl (KL.b0 bt47 rfl rfl (KL.q ((R.eqlSt rfl Tryd.underlying47 (by kernel_rfl) (by kernel_rfl) rfl rfl (EqFs.int (by decide) Tryd.underlying28 rfl rfl (EqFs.int (by decide) Tryd.underlying2 rfl rfl EqFs.nil))).val (congrArg Value.bool (show _ = true from rfl))) rfl (KL.fin 2 rfl (KQ.seq (KC.ret (KQ.ofRet (KQ.fin1 Tryd.results10 rfl ?_))))))))
  exact ⟨rfl, o0⟩
theorem whole_any {H : Heap} {v : Value} {l : List Int} (hs : Sl 1 (EInt .u8) H v l) (hv : ∀ t ∈ l, t = 127 ∨ t = 126) : Ct Tryd.prog 13 [v] H (fun u H' => u = .bool true ∧ H = H') := by
  refine Ct.mk Tryd.func13 rfl Tryd.ntmps13 rfl ?_
  intro W0 hW0
  have o0 : Old H H := Old.refl H
  refine KC.sr (KL.fin 1 rfl (KQ.seq (KC.seq (KC.sr (KL.run 1 rfl (KL.q (R.lenS rfl Tryd.underlying36 rfl hs) rfl (KL.fin 1 rfl (KQ.seq (KC.block ?_)))))))))
  refine KC.loopD (κ := Nat) [8, 9, 10, 4, 11, 12, 13, 14, 15, 16, 2, 17, 7] (fun k => [(7, .int .i64 (k : Nat))]) (fun k Hl => k ≤ l.length ∧ H = Hl) (fun k => l.length - k) 0 ?_ ?_ ?_
  · exact Sub.all rfl
  · exact ⟨Nat.zero_le _, rfl⟩
  rintro k H1 ⟨hk, rfl⟩
  refine KC.sr (KL.fin 1 rfl (KQ.seq (KC.seq ?_)))
  refine KC.iq rfl ?_ ?_
  · intro hc8
    have hk2 : k < l.length := by omega
    have hvk := hv _ (En.getD_memD hk2)
    refine KC.skip (KQ.seq (KC.seq (KC.block (KC.sr ?_))))
    refine KL.q (R.index1 (j := k) rfl Tryd.underlying36 sz5 rfl rfl hs rfl (by omega)) rfl ?_
    refine KL.ld rfl (hs.int k (by omega)).1 ?_
    refine KL.fin 1 rfl (KQ.sr (KL.run 3 rfl ?_))
    refine KL.cq 13 rfl ?_ ?_
    · intro hg13
      refine KL.run 1 rfl ?_
      refine KL.q ((R.neq rfl rfl rfl).val ((congrArg (fun b => Value.bool (!b)) (decide_eq_true (by omega))))) rfl ?_
      refine KL.fin 1 rfl (KQ.seq (KC.condF rfl (KC.skip (KQ.normBlock (KQ.r ?_)))))
      refine KL.q ((R.add rfl rfl rfl (by have := hs.len; dsimp only [InR]; omega)).val (congrArg (Value.int .i64) (show (k : Int) + 1 = ((k + 1 : Nat) : Int) by omega))) rfl ?_
      refine KL.fin 1 rfl ?_
      refine KQ.again (k + 1) ?_ ?_ ?_
      · exact Sub.all rfl
      · show l.length - (k + 1) < l.length - k; omega
      exact ⟨by omega, rfl⟩
    intro hg13
    refine KL.fin 3 rfl (KQ.seq (KC.condF rfl (KC.skip (KQ.normBlock (KQ.r ?_)))))
    refine KL.q ((R.add rfl rfl rfl (by have := hs.len; dsimp only [InR]; omega)).val (congrArg (Value.int .i64) (show (k : Int) + 1 = ((k + 1 : Nat) : Int) by omega))) rfl ?_
    refine KL.fin 1 rfl ?_
    refine KQ.again (k + 1) ?_ ?_ ?_
    · exact Sub.all rfl
    · show l.length - (k + 1) < l.length - k; omega
    exact ⟨by omega, rfl⟩
  intro hc8
  refine KC.exit (KQ.exitThen (KQ.exitThen (KQ.hit (KQ.sr (KL.fin 1 rfl (KQ.seq (KC.ret (KQ.ofRet (KQ.fin1 Tryd.results13 rfl ?_)))))))))
  exact ⟨rfl, rfl⟩
theorem plain_any {H : Heap} {v : Value} {xs : List Ins} (hx : Sl 5 EIns H v xs) (hv : ∀ x ∈ xs, Isp.May x) : Ct Tryd.prog 14 [v] H (fun u H' => u = .bool true ∧ Old H H') := by
  refine Ct.mk Tryd.func14 rfl Tryd.ntmps14 rfl ?_
  intro W0 hW0
  have o0 : Old H H := Old.refl H
  refine KC.sr (KL.fin 1 rfl (KQ.seq (KC.seq (KC.sr (KL.run 1 rfl (KL.q (R.lenS rfl Tryd.underlying52 rfl hx) rfl (KL.fin 1 rfl (KQ.seq (KC.block ?_)))))))))
  refine KC.loopD (κ := Nat) [8, 9, 10, 4, 11, 12, 13, 14, 15, 16, 17, 18, 19, 2, 20, 7] (fun k => [(7, .int .i64 (k : Nat))]) (fun k Hl => k ≤ xs.length ∧ Old H Hl) (fun k => xs.length - k) 0 ?_ ?_ ?_
  · exact Sub.all rfl
  · exact ⟨Nat.zero_le _, o0⟩
  rintro k H1 ⟨hk, o0⟩
  have zl_H1 := o0.1
  have zl := o0.1
  refine KC.sr (KL.fin 1 rfl (KQ.seq (KC.seq ?_)))
  refine KC.iq rfl ?_ ?_
  · intro hc8
    have hk2 : k < xs.length := by omega
    have hvk := hv _ (En.getD_memD hk2)
    have hkn : Opc.known (xs.getD k default).op = true := hvk.1
    have hfl := Isp.known_float hkn
    obtain ⟨va, hcx, hcl, _⟩ := (hx.old o0).insV k hk2
    refine KC.skip (KQ.seq (KC.seq (KC.block (KC.sr ?_))))
    refine KL.q (R.index (j := k) rfl Tryd.underlying52 sz127 rfl rfl hx rfl (by omega)) rfl ?_
    refine KL.lda rfl hcx rfl ?_
    have hc1 := hcl.one
    refine KL.m (M.alloc rfl zr127 rfl) rfl ?_
    rintro _ H2 ⟨rfl, n2⟩
    have z2 := n2.2.1
    have o0 := o0.trans n2.1
    have b2 := n2.2.2
    have bv := b2
    refine KL.opS (S.storeAgg rfl sz127 rfl rfl (rfl) (by intro z hz; simp only [List.mem_cons, List.not_mem_nil, or_false] at hz; rcases hz with rfl | rfl | rfl | rfl | rfl <;> first | rfl | exact hc1) bv (by simp)) rfl rfl ?_
    rintro H3 ⟨u3, b3⟩
    have o0 := o0.upd u3 (by omega)
    have zu3 := u3.1
    have bv := b3
    rw [over_all (by rfl)] at bv
    refine KL.nil (KQ.sr (KL.run 1 rfl (KL.ld rfl (cell_of bv rfl) ?_)))
    refine KL.c rfl Tryd.call60 (Known_k _) ?_
    rintro _ _ ⟨rfl, rfl⟩
    rw [hkn]
    refine KL.run 3 rfl (KL.ld rfl (cell_of bv rfl) ?_)
    refine KL.c rfl Tryd.call61 (Float_k _) ?_
    rintro _ _ ⟨rfl, rfl⟩
    rw [hfl]
    refine KL.fin 1 rfl (KQ.seq (KC.condF rfl (KC.skip (KQ.normBlock (KQ.r ?_)))))
    refine KL.q ((R.add rfl rfl rfl (by have := hx.len; dsimp only [InR]; omega)).val (congrArg (Value.int .i64) (show (k : Int) + 1 = ((k + 1 : Nat) : Int) by omega))) rfl ?_
    refine KL.fin 1 rfl ?_
    refine KQ.again (k + 1) ?_ ?_ ?_
    · exact Sub.all rfl
    · show xs.length - (k + 1) < xs.length - k; omega
    exact ⟨by omega, o0⟩
  intro hc8
  refine KC.exit (KQ.exitThen (KQ.exitThen (KQ.hit (KQ.sr (KL.fin 1 rfl (KQ.seq (KC.ret (KQ.ofRet (KQ.fin1 Tryd.results14 rfl ?_)))))))))
  exact ⟨rfl, o0⟩
end Go.Proofs.YtldmfchamcpmmaaDoor
namespace Go.Proofs.YtldmfchamcpmmaaDoor
open Go Go.RowKit
set_option linter.unusedVariables false
set_option linter.unusedSimpArgs false
set_option linter.unnecessarySimpa false
namespace Bn
theorem imp_kind {x : Imp} (h : ImpV x) : x.kind ≤ 3 := by
  have h := h.2.2
  by_cases h0 : x.kind = 0
  · omega
  rw [if_neg h0] at h
  by_cases h1 : x.kind = 1
  · omega
  rw [if_neg h1] at h
  by_cases h2 : x.kind = 2
  · omega
  rw [if_neg h2] at h
  by_cases h3 : x.kind = 3
  · omega
  rw [if_neg h3] at h
  exact h.elim
theorem imp_glob {x : Imp} (h : ImpV x) (hk : x.kind = 3) : x.glob.1 = 127 ∨ x.glob.1 = 126 := by
  have h := h.2.2
  rw [if_neg (by omega), if_neg (by omega), if_neg (by omega), if_pos hk] at h
  exact h.1
end Bn
theorem BinWhole_any {H : Heap} {v : Value} {l : List Int} (hs : Sl 1 (EInt .u8) H v l) (hT : TabU H) : Ct Tryd.prog 4 [v] H (fun u H' => u = .bool true ∧ Old H H') := by
  refine Ct.mk Tryd.func4 rfl Tryd.ntmps4 rfl ?_
  intro W0 hW0
  have o0 : Old H H := Old.refl H
  have hv := Bn.decR_V l
  refine KC.sr (KL.fin 1 rfl (KQ.seq (KC.seq (KC.sr ?_))))
  refine KL.c rfl Tryd.call10 (bknown_any hT) ?_
  rintro _ H1 ⟨rfl, ox⟩
  have zc_H1 := (ox).1
  have o0 := o0.trans ox
  refine KL.fin 1 rfl (KQ.seq (KC.condF rfl (KC.skip (KQ.seq (KC.seq (KC.sr (KL.run 1 rfl (KL.q (R.lenS rfl Tryd.underlying36 rfl hs) rfl (KL.fin 1 rfl (KQ.seq ?_))))))))))
  refine KC.iq rfl ?_ ?_
  · intro hc26
    refine KC.sr (KL.fin 1 rfl (KQ.seq (KC.ret (KQ.retThen (KQ.ofRet (KQ.fin1 Tryd.results4 rfl ?_))))))
    exact ⟨rfl, o0⟩
  intro hc26
  refine KC.skip (KQ.sr (KL.run 1 rfl (KL.q (R.convBS rfl Tryd.underlying36 Tryd.underlying5 Tryd.underlying9 rfl (hs.old o0)) rfl (KL.fin 1 rfl (KQ.sr (KL.run 1 rfl ?_))))))
  refine KL.c rfl Tryd.call11 (Decode_any (hs.old o0) (hT.old o0)) ?_
  rintro _ H2 ⟨ox, t1, i1, f1, tb1, me1, g1, e1, el1, c1, d1, rfl, mv1⟩
  have zc_H2 := (ox).1
  have o0 := o0.trans ox
  have oX1 : Old H2 H2 := Old.refl _
  refine KL.run 3 rfl ?_
  refine KL.m (M.alloc rfl zr33 rfl) rfl ?_
  rintro _ H3 ⟨rfl, n3⟩
  have z3 := n3.2.1
  have o0 := o0.trans n3.1
  have oX1 := oX1.trans n3.1
  have b3 := n3.2.2
  have bm1 := b3
  refine KL.opS (S.storeAgg rfl sz33 rfl rfl (rfl) (by intro z hz; simp only [List.mem_cons, List.not_mem_nil, or_false] at hz; rcases hz with rfl | rfl | rfl | rfl | rfl | rfl | rfl | rfl | rfl | rfl | rfl | rfl <;> first | rfl | exact mv1.t.one | exact mv1.i.one | exact mv1.f.one | exact mv1.tb.one | exact mv1.me.one | exact mv1.g.one | exact mv1.e.one | exact mv1.el.one | exact mv1.c.one | exact mv1.d.one) bm1 (by simp)) rfl rfl ?_
  rintro H4 ⟨u4, b4⟩
  have o0 := o0.upd u4 (by omega)
  have zu4 := u4.1
  have oX1 := oX1.upd u4 (by omega)
  have bm1 := b4
  rw [over_all (by rfl)] at bm1
  refine KL.fin 1 rfl (KQ.sr (KL.run 1 rfl ?_))
  refine KL.m (M.toBytes rfl Tryd.underlying9 Tryd.underlying36 Tryd.underlying5 rfl (by rw [bstr_size hs.rng]; have := hs.len; omega)) rfl ?_
  rintro v5 H5 ⟨t5, e5, n5, z5⟩
  have o0 := o0.trans n5
  have oX1 := oX1.trans n5
  have bm1 := (n5).blk bm1
  have s36 := t5
  rw [ints_bstr hs.rng] at s36
  refine KL.c rfl Tryd.call11 (Decode_any s36 (hT.old o0)) ?_
  rintro _ H6 ⟨ox, t2, i2, f2, tb2, me2, g2, e2, el2, c2, d2, rfl, mv2⟩
  have zc_H6 := (ox).1
  have o0 := o0.trans ox
  have oX1 := oX1.trans ox
  have bm1 := (ox).blk bm1
  have s36 := s36.old ox
  have oX2 : Old H6 H6 := Old.refl _
  refine KL.run 3 rfl ?_
  refine KL.m (M.alloc rfl zr33 rfl) rfl ?_
  rintro _ H7 ⟨rfl, n7⟩
  have z7 := n7.2.1
  have o0 := o0.trans n7.1
  have oX1 := oX1.trans n7.1
  have bm1 := (n7.1).blk bm1
  have s36 := s36.old n7.1
  have oX2 := oX2.trans n7.1
  have b7 := n7.2.2
  have bm2 := b7
  refine KL.opS (S.storeAgg rfl sz33 rfl rfl (rfl) (by intro z hz; simp only [List.mem_cons, List.not_mem_nil, or_false] at hz; rcases hz with rfl | rfl | rfl | rfl | rfl | rfl | rfl | rfl | rfl | rfl | rfl | rfl <;> first | rfl | exact mv2.t.one | exact mv2.i.one | exact mv2.f.one | exact mv2.tb.one | exact mv2.me.one | exact mv2.g.one | exact mv2.e.one | exact mv2.el.one | exact mv2.c.one | exact mv2.d.one) bm2 (by simp)) rfl rfl ?_
  rintro H8 ⟨u8, b8⟩
  have o0 := o0.upd u8 (by omega)
  have zu8 := u8.1
  have oX1 := oX1.upd u8 (by omega)
  have bm1 := ((u8).2 _ (by omega)).trans bm1
  have oX2 := oX2.upd u8 (by omega)
  have bm2 := b8
  rw [over_all (by rfl)] at bm2
  refine KL.fin 1 rfl (KQ.seq (KC.seq (KC.sr (KL.run 1 rfl (KL.q (R.convBS rfl Tryd.underlying36 Tryd.underlying5 Tryd.underlying9 rfl (hs.old o0)) rfl (KL.run 1 rfl ?_))))))
  refine KL.q ((R.neqStr rfl rfl rfl).val (congrArg Value.bool (show _ = false by simp))) rfl ?_
  refine KL.run 3 rfl (KL.q ((R.neq rfl rfl rfl).val ((congrArg (fun b => Value.bool (!b)) (decide_eq_true rfl)))) rfl (KL.run 2 rfl (KL.lda rfl (cells_of bm1) rfl (KL.lda rfl (cells_of bm2) rfl ?_))))
  refine KL.c rfl Tryd.call12 (Same_refl (mv1.old oX1) (mv2.old oX2)) ?_
  rintro _ H9 ⟨rfl, ox⟩
  have zc_H9 := (ox).1
  have o0 := o0.trans ox
  have oX1 := oX1.trans ox
  have bm1 := (ox).blk bm1
  have oX2 := oX2.trans ox
  have bm2 := (ox).blk bm2
  refine KL.run 4 rfl (KL.ld rfl (cell_of bm1 rfl) (KL.q (R.lenS rfl Tryd.underlying30 rfl mv1.c) rfl (KL.run 1 rfl (KL.ld rfl (cell_of bm1 rfl) (KL.q (R.lenS rfl Tryd.underlying24 rfl mv1.f) rfl ?_)))))
  refine KL.q ((R.neq rfl rfl rfl).val ((congrArg (fun b => Value.bool (!b)) (decide_eq_true (by rw [hv.2]))))) rfl ?_
  refine KL.fin 1 rfl (KQ.seq (KC.condF rfl (KC.skip (KQ.seq (KC.seq (KC.sr (KL.run 1 rfl (KL.ld rfl (cell_of bm1 rfl) (KL.q (R.lenS rfl Tryd.underlying22 rfl mv1.t) rfl (KL.fin 1 rfl (KQ.seq (KC.block ?_))))))))))))
  refine KC.loopD (κ := Nat) [68, 69, 70, 9, 71, 72, 73, 74, 75, 76, 77, 78, 79, 80, 2, 81, 67] (fun k => [(67, .int .i64 (k : Nat))]) (fun k Hl => k ≤ (Bn.decR l).1.types.length ∧ Old H9 Hl) (fun k => (Bn.decR l).1.types.length - k) 0 ?_ ?_ ?_
  · exact Sub.all rfl
  · exact ⟨Nat.zero_le _, Old.refl _⟩
  rintro k H10 ⟨hk, oL⟩
  have zl := oL.1
  have o0 := o0.trans oL
  have oX1 := oX1.trans oL
  have bm1 := oL.blk bm1
  have oP : Old H10 H10 := Old.refl _
  refine KC.sr (KL.fin 1 rfl (KQ.seq (KC.seq ?_)))
  refine KC.iq rfl ?_ ?_
  · intro hc68
    have hk2 : k < (Bn.decR l).1.types.length := by omega
    have hvk := hv.1.t _ (En.getD_memD hk2)
    obtain ⟨a1, a2, hcx, ha1, ha2⟩ := (mv1.t.old oX1).ftyAt k hk2
    refine KC.skip (KQ.seq (KC.seq (KC.block (KC.sr ?_))))
    refine KL.q (R.index (j := k) rfl Tryd.underlying22 sz44 rfl rfl mv1.t rfl (by omega)) rfl ?_
    refine KL.lda rfl hcx rfl ?_
    refine KL.m (M.alloc rfl zr44 rfl) rfl ?_
    rintro _ H11 ⟨rfl, n11⟩
    have z11 := n11.2.1
    have o0 := o0.trans n11.1
    have oL := oL.trans n11.1
    have oX1 := oX1.trans n11.1
    have bm1 := (n11.1).blk bm1
    have oP := oP.trans n11.1
    have b11 := n11.2.2
    have bv := b11
    refine KL.opS (S.storeAgg rfl sz44 rfl rfl (rfl) (by intro z hz; simp only [List.mem_cons, List.not_mem_nil, or_false] at hz; rcases hz with rfl | rfl <;> first | rfl | exact ha1.one | exact ha2.one) bv (by simp)) rfl rfl ?_
    rintro H12 ⟨u12, b12⟩
    have o0 := o0.upd u12 (by omega)
    have zu12 := u12.1
    have oL := oL.upd u12 (by omega)
    have oX1 := oX1.upd u12 (by omega)
    have bm1 := ((u12).2 _ (by omega)).trans bm1
    have oP := oP.upd u12 (by omega)
    have bv := b12
    rw [over_all (by rfl)] at bv
    refine KL.nil (KQ.sr (KL.run 1 rfl (KL.ld rfl (cell_of bv rfl) ?_)))
    refine KL.c rfl Tryd.call13 (whole_any (ha1.old oP) hvk.1.2) ?_
    rintro _ _ ⟨rfl, rfl⟩
    refine KL.run 3 rfl (KL.ld rfl (cell_of bv rfl) ?_)
    refine KL.c rfl Tryd.call13 (whole_any (ha2.old oP) hvk.2.2) ?_
    rintro _ _ ⟨rfl, rfl⟩
    refine KL.fin 2 rfl (KQ.seq (KC.condF rfl (KC.skip (KQ.normBlock (KQ.r ?_)))))
    refine KL.q ((R.add rfl rfl rfl (by have := mv1.t.len; dsimp only [InR]; omega)).val (congrArg (Value.int .i64) (show (k : Int) + 1 = ((k + 1 : Nat) : Int) by omega))) rfl ?_
    refine KL.fin 1 rfl ?_
    refine KQ.again (k + 1) ?_ ?_ ?_
    · exact Sub.all rfl
    · show (Bn.decR l).1.types.length - (k + 1) < (Bn.decR l).1.types.length - k; omega
    exact ⟨by omega, oL⟩
  intro hc68
  refine KC.exit (KQ.exitThen (KQ.exitThen (KQ.hit (KQ.seq (KC.seq (KC.sr (KL.run 1 rfl (KL.ld rfl (cell_of bm1 rfl) (KL.q (R.lenS rfl Tryd.underlying23 rfl mv1.i) rfl (KL.fin 1 rfl (KQ.seq (KC.block ?_))))))))))))
  refine KC.loopD (κ := Nat) [86, 87, 88, 11, 89, 90, 91, 92, 93, 94, 95, 96, 97, 98, 99, 100, 101, 102, 103, 104, 2, 105, 85] (fun k => [(85, .int .i64 (k : Nat))]) (fun k Hl => k ≤ (Bn.decR l).1.imports.length ∧ Old H10 Hl) (fun k => (Bn.decR l).1.imports.length - k) 0 ?_ ?_ ?_
  · exact Sub.all rfl
  · exact ⟨Nat.zero_le _, Old.refl _⟩
  rintro k H13 ⟨hk, oL⟩
  have zl := oL.1
  have o0 := o0.trans oL
  have oX1 := oX1.trans oL
  have bm1 := oL.blk bm1
  have oP : Old H13 H13 := Old.refl _
  refine KC.sr (KL.fin 1 rfl (KQ.seq (KC.seq ?_)))
  refine KC.iq rfl ?_ ?_
  · intro hc86
    have hk2 : k < (Bn.decR l).1.imports.length := by omega
    have hvk := hv.1.i _ (En.getD_memD hk2)
    obtain ⟨hcx, hr1, hr⟩ := (mv1.i.old oX1).impAt k hk2
    have hkd : ((Bn.decR l).1.imports.getD k default).kind ≤ 3 := Bn.imp_kind hvk
    refine KC.skip (KQ.seq (KC.seq (KC.block (KC.sr ?_))))
    refine KL.q (R.index (j := k) rfl Tryd.underlying23 sz51 rfl rfl mv1.i rfl (by omega)) rfl ?_
    refine KL.lda rfl hcx rfl ?_
    refine KL.m (M.alloc rfl zr51 rfl) rfl ?_
    rintro _ H14 ⟨rfl, n14⟩
    have z14 := n14.2.1
    have o0 := o0.trans n14.1
    have oL := oL.trans n14.1
    have oX1 := oX1.trans n14.1
    have bm1 := (n14.1).blk bm1
    have oP := oP.trans n14.1
    have b14 := n14.2.2
    have bv := b14
    refine KL.opS (S.storeAgg rfl sz51 rfl rfl (rfl) (by intro z hz; simp only [List.mem_cons, List.not_mem_nil, or_false] at hz; rcases hz with rfl | rfl | rfl | rfl | rfl | rfl | rfl | rfl <;> first | rfl) bv (by simp)) rfl rfl ?_
    rintro H15 ⟨u15, b15⟩
    have o0 := o0.upd u15 (by omega)
    have zu15 := u15.1
    have oL := oL.upd u15 (by omega)
    have oX1 := oX1.upd u15 (by omega)
    have bm1 := ((u15).2 _ (by omega)).trans bm1
    have oP := oP.upd u15 (by omega)
    have bv := b15
    rw [over_all (by rfl)] at bv
    refine KL.nil (KQ.sr (KL.run 1 rfl (KL.ld rfl (cell_of bv rfl) ?_)))
    refine KL.q ((R.gtr rfl rfl rfl).val (congrArg Value.bool (decide_eq_false (by omega)))) rfl ?_
    refine KL.run 2 rfl (KL.ld rfl (cell_of bv rfl) (KL.run 2 rfl ?_))
    refine KL.cq 96 rfl ?_ ?_
    · intro hg96
      refine KL.run 2 rfl (KL.ld rfl (cell_of bv rfl) ?_)
      refine KL.m (M.lit rfl Tryd.underlying36 zs5 (by decide) rfl rfl rfl) rfl ?_
      rintro _ H16 ⟨rfl, n16⟩
      have z16 := n16.2.1
      have o0 := o0.trans n16.1
      have oL := oL.trans n16.1
      have oX1 := oX1.trans n16.1
      have bm1 := (n16.1).blk bm1
      have oP := oP.trans n16.1
      have bv := (n16.1).blk bv
      have b16 := n16.2.2
      have s100 : Sl 1 (EInt .u8) H16 _ [((Bn.decR l).1.imports.getD k default).glob.1] := Sl.lits (l := [((Bn.decR l).1.imports.getD k default).glob.1]) n16 rfl (by simp) (by intro y hy; simp only [List.mem_cons, List.not_mem_nil, or_false] at hy; subst hy; assumption)
      refine KL.c rfl Tryd.call13 (whole_any s100 (by intro t ht; simp only [List.mem_cons, List.not_mem_nil, or_false] at ht; subst ht; exact Bn.imp_glob hvk hg96)) ?_
      rintro _ _ ⟨rfl, rfl⟩
      refine KL.fin 3 rfl (KQ.seq (KC.condF rfl (KC.skip (KQ.normBlock (KQ.r ?_)))))
      refine KL.q ((R.add rfl rfl rfl (by have := mv1.i.len; dsimp only [InR]; omega)).val (congrArg (Value.int .i64) (show (k : Int) + 1 = ((k + 1 : Nat) : Int) by omega))) rfl ?_
      refine KL.fin 1 rfl ?_
      refine KQ.again (k + 1) ?_ ?_ ?_
      · exact Sub.all rfl
      · show (Bn.decR l).1.imports.length - (k + 1) < (Bn.decR l).1.imports.length - k; omega
      exact ⟨by omega, oL⟩
    intro hg96
    refine KL.fin 8 rfl (KQ.seq (KC.condF rfl (KC.skip (KQ.normBlock (KQ.r ?_)))))
    refine KL.q ((R.add rfl rfl rfl (by have := mv1.i.len; dsimp only [InR]; omega)).val (congrArg (Value.int .i64) (show (k : Int) + 1 = ((k + 1 : Nat) : Int) by omega))) rfl ?_
    refine KL.fin 1 rfl ?_
    refine KQ.again (k + 1) ?_ ?_ ?_
    · exact Sub.all rfl
    · show (Bn.decR l).1.imports.length - (k + 1) < (Bn.decR l).1.imports.length - k; omega
    exact ⟨by omega, oL⟩
  intro hc86
  refine KC.exit (KQ.exitThen (KQ.exitThen (KQ.hit (KQ.seq (KC.seq (KC.sr (KL.run 1 rfl (KL.ld rfl (cell_of bm1 rfl) (KL.q (R.lenS rfl Tryd.underlying26 rfl mv1.g) rfl (KL.fin 1 rfl (KQ.seq (KC.block ?_))))))))))))
  refine KC.loopD (κ := Nat) [110, 111, 112, 13, 113, 114, 115, 116, 117, 118, 119, 120, 121, 122, 123, 124, 2, 125, 109] (fun k => [(109, .int .i64 (k : Nat))]) (fun k Hl => k ≤ (Bn.decR l).1.globs.length ∧ Old H13 Hl) (fun k => (Bn.decR l).1.globs.length - k) 0 ?_ ?_ ?_
  · exact Sub.all rfl
  · exact ⟨Nat.zero_le _, Old.refl _⟩
  rintro k H17 ⟨hk, oL⟩
  have zl := oL.1
  have o0 := o0.trans oL
  have oX1 := oX1.trans oL
  have bm1 := oL.blk bm1
  have oP : Old H17 H17 := Old.refl _
  refine KC.sr (KL.fin 1 rfl (KQ.seq (KC.seq ?_)))
  refine KC.iq rfl ?_ ?_
  · intro hc110
    have hk2 : k < (Bn.decR l).1.globs.length := by omega
    have hvk := hv.1.g _ (En.getD_memD hk2)
    obtain ⟨a1, hcx, ha1, hr⟩ := (mv1.g.old oX1).gloAt k hk2
    refine KC.skip (KQ.seq (KC.seq (KC.block (KC.sr ?_))))
    refine KL.q (R.index (j := k) rfl Tryd.underlying26 sz54 rfl rfl mv1.g rfl (by omega)) rfl ?_
    refine KL.lda rfl hcx rfl ?_
    refine KL.m (M.alloc rfl zr54 rfl) rfl ?_
    rintro _ H18 ⟨rfl, n18⟩
    have z18 := n18.2.1
    have o0 := o0.trans n18.1
    have oL := oL.trans n18.1
    have oX1 := oX1.trans n18.1
    have bm1 := (n18.1).blk bm1
    have oP := oP.trans n18.1
    have b18 := n18.2.2
    have bv := b18
    refine KL.opS (S.storeAgg rfl sz54 rfl rfl (rfl) (by intro z hz; simp only [List.mem_cons, List.not_mem_nil, or_false] at hz; rcases hz with rfl | rfl | rfl <;> first | rfl | exact ha1.one) bv (by simp)) rfl rfl ?_
    rintro H19 ⟨u19, b19⟩
    have o0 := o0.upd u19 (by omega)
    have zu19 := u19.1
    have oL := oL.upd u19 (by omega)
    have oX1 := oX1.upd u19 (by omega)
    have bm1 := ((u19).2 _ (by omega)).trans bm1
    have oP := oP.upd u19 (by omega)
    have bv := b19
    rw [over_all (by rfl)] at bv
    refine KL.nil (KQ.sr (KL.run 2 rfl (KL.ld rfl (cell_of bv rfl) ?_)))
    refine KL.m (M.lit rfl Tryd.underlying36 zs5 (by decide) rfl rfl rfl) rfl ?_
    rintro _ H20 ⟨rfl, n20⟩
    have z20 := n20.2.1
    have o0 := o0.trans n20.1
    have oL := oL.trans n20.1
    have oX1 := oX1.trans n20.1
    have bm1 := (n20.1).blk bm1
    have oP := oP.trans n20.1
    have bv := (n20.1).blk bv
    have b20 := n20.2.2
    have s116 : Sl 1 (EInt .u8) H20 _ [((Bn.decR l).1.globs.getD k default).1.1] := Sl.lits (l := [((Bn.decR l).1.globs.getD k default).1.1]) n20 rfl (by simp) (by intro y hy; simp only [List.mem_cons, List.not_mem_nil, or_false] at hy; subst hy; assumption)
    refine KL.c rfl Tryd.call13 (whole_any s116 (by intro t ht; simp only [List.mem_cons, List.not_mem_nil, or_false] at ht; subst ht; exact hvk.1)) ?_
    rintro _ _ ⟨rfl, rfl⟩
    refine KL.run 3 rfl (KL.ld rfl (cell_of bv rfl) ?_)
    refine KL.c rfl Tryd.call14 (plain_any (ha1.old oP) hvk.2.2) ?_
    rintro _ H21 ⟨rfl, ox⟩
    have zc_H21 := (ox).1
    have o0 := o0.trans ox
    have oL := oL.trans ox
    have oX1 := oX1.trans ox
    have bm1 := (ox).blk bm1
    have oP := oP.trans ox
    have bv := (ox).blk bv
    have s116 := s116.old ox
    refine KL.fin 2 rfl (KQ.seq (KC.condF rfl (KC.skip (KQ.normBlock (KQ.r ?_)))))
    refine KL.q ((R.add rfl rfl rfl (by have := mv1.g.len; dsimp only [InR]; omega)).val (congrArg (Value.int .i64) (show (k : Int) + 1 = ((k + 1 : Nat) : Int) by omega))) rfl ?_
    refine KL.fin 1 rfl ?_
    refine KQ.again (k + 1) ?_ ?_ ?_
    · exact Sub.all rfl
    · show (Bn.decR l).1.globs.length - (k + 1) < (Bn.decR l).1.globs.length - k; omega
    exact ⟨by omega, oL⟩
  intro hc110
  refine KC.exit (KQ.exitThen (KQ.exitThen (KQ.hit (KQ.seq (KC.seq (KC.sr (KL.run 1 rfl (KL.ld rfl (cell_of bm1 rfl) (KL.q (R.lenS rfl Tryd.underlying30 rfl mv1.c) rfl (KL.fin 1 rfl (KQ.seq (KC.block ?_))))))))))))
  refine KC.loopD (κ := Nat) [130, 131, 132, 15, 133, 134, 135, 136, 137, 138, 139, 17, 140, 141, 142, 143, 144, 2, 145, 146, 147, 148, 149, 150, 129] (fun k => [(129, .int .i64 (k : Nat))]) (fun k Hl => k ≤ (Bn.decR l).1.codes.length ∧ Old H17 Hl) (fun k => (Bn.decR l).1.codes.length - k) 0 ?_ ?_ ?_
  · exact Sub.all rfl
  · exact ⟨Nat.zero_le _, Old.refl _⟩
  rintro k H22 ⟨hk, oL⟩
  have zl := oL.1
  have o0 := o0.trans oL
  have oX1 := oX1.trans oL
  have bm1 := oL.blk bm1
  have oP : Old H22 H22 := Old.refl _
  refine KC.sr (KL.fin 1 rfl (KQ.seq (KC.seq ?_)))
  refine KC.iq rfl ?_ ?_
  · intro hc130
    have hk2 : k < (Bn.decR l).1.codes.length := by omega
    have hvk := hv.1.c _ (En.getD_memD hk2)
    obtain ⟨a1, a2, hcx, ha1, ha2⟩ := (mv1.c.old oX1).codAt k hk2
    refine KC.skip (KQ.seq (KC.seq (KC.block (KC.sr ?_))))
    refine KL.q (R.index (j := k) rfl Tryd.underlying30 sz58 rfl rfl mv1.c rfl (by omega)) rfl ?_
    refine KL.lda rfl hcx rfl ?_
    refine KL.m (M.alloc rfl zr58 rfl) rfl ?_
    rintro _ H23 ⟨rfl, n23⟩
    have z23 := n23.2.1
    have o0 := o0.trans n23.1
    have oL := oL.trans n23.1
    have oX1 := oX1.trans n23.1
    have bm1 := (n23.1).blk bm1
    have oP := oP.trans n23.1
    have b23 := n23.2.2
    have bv := b23
    refine KL.opS (S.storeAgg rfl sz58 rfl rfl (rfl) (by intro z hz; simp only [List.mem_cons, List.not_mem_nil, or_false] at hz; rcases hz with rfl | rfl <;> first | rfl | exact ha1.one | exact ha2.one) bv (by simp)) rfl rfl ?_
    rintro H24 ⟨u24, b24⟩
    have o0 := o0.upd u24 (by omega)
    have zu24 := u24.1
    have oL := oL.upd u24 (by omega)
    have oX1 := oX1.upd u24 (by omega)
    have bm1 := ((u24).2 _ (by omega)).trans bm1
    have oP := oP.upd u24 (by omega)
    have bv := b24
    rw [over_all (by rfl)] at bv
    refine KL.nil (KQ.seq (KC.seq (KC.sr (KL.run 1 rfl (KL.ld rfl (cell_of bv rfl) (KL.q (R.lenS rfl Tryd.underlying56 rfl ha1) rfl (KL.fin 1 rfl (KQ.seq (KC.block ?_)))))))))
    refine KC.loopD (κ := Nat) [137, 138, 139, 17, 140, 141, 142, 143, 144, 2, 145, 136] (fun j => [(136, .int .i64 (j : Nat))]) (fun j Hl => j ≤ ((Bn.decR l).1.codes.getD k default).1.length ∧ Old H24 Hl) (fun j => ((Bn.decR l).1.codes.getD k default).1.length - j) 0 ?_ ?_ ?_
    · exact Sub.all rfl
    · exact ⟨Nat.zero_le _, Old.refl _⟩
    rintro j H25 ⟨hj, oM⟩
    have zm := oM.1
    have o0 := o0.trans oM
    have oX1 := oX1.trans oM
    have oL := oL.trans oM
    have oP := oP.trans oM
    have bm1 := oM.blk bm1
    have bv := oM.blk bv
    refine KC.sr (KL.fin 1 rfl (KQ.seq (KC.seq ?_)))
    refine KC.iq rfl ?_ ?_
    · intro hc137
      have hj2 : j < ((Bn.decR l).1.codes.getD k default).1.length := by omega
      obtain ⟨hcy, _, hr⟩ := (ha1.old oP).locAt j hj2
      have hvl := hvk.1.1.2 _ (En.getD_memD hj2)
      refine KC.skip (KQ.seq (KC.seq (KC.block (KC.sr ?_))))
      refine KL.q (R.index (j := j) rfl Tryd.underlying56 sz60 rfl rfl ha1 rfl (by omega)) rfl ?_
      refine KL.lda rfl hcy rfl ?_
      refine KL.m (M.alloc rfl zr60 rfl) rfl ?_
      rintro _ H26 ⟨rfl, n26⟩
      have z26 := n26.2.1
      have o0 := o0.trans n26.1
      have oM := oM.trans n26.1
      have oL := oL.trans n26.1
      have oX1 := oX1.trans n26.1
      have bm1 := (n26.1).blk bm1
      have bv := (n26.1).blk bv
      have oP := oP.trans n26.1
      have b26 := n26.2.2
      have bw := b26
      refine KL.opS (S.storeAgg rfl sz60 rfl rfl (rfl) (by intro z hz; simp only [List.mem_cons, List.not_mem_nil, or_false] at hz; rcases hz with rfl | rfl <;> first | rfl) bw (by simp)) rfl rfl ?_
      rintro H27 ⟨u27, b27⟩
      have o0 := o0.upd u27 (by omega)
      have zu27 := u27.1
      have oM := oM.upd u27 (by omega)
      have oL := oL.upd u27 (by omega)
      have oX1 := oX1.upd u27 (by omega)
      have bm1 := ((u27).2 _ (by omega)).trans bm1
      have bv := ((u27).2 _ (by omega)).trans bv
      have oP := oP.upd u27 (by omega)
      have bw := b27
      rw [over_all (by rfl)] at bw
      refine KL.nil (KQ.sr (KL.run 1 rfl (KL.ld rfl (cell_of bw rfl) ?_)))
      refine KL.m (M.lit rfl Tryd.underlying36 zs5 (by decide) rfl rfl rfl) rfl ?_
      rintro _ H28 ⟨rfl, n28⟩
      have z28 := n28.2.1
      have o0 := o0.trans n28.1
      have oM := oM.trans n28.1
      have oL := oL.trans n28.1
      have oX1 := oX1.trans n28.1
      have bm1 := (n28.1).blk bm1
      have bv := (n28.1).blk bv
      have oP := oP.trans n28.1
      have bw := (n28.1).blk bw
      have b28 := n28.2.2
      have s142 : Sl 1 (EInt .u8) H28 _ [(((Bn.decR l).1.codes.getD k default).1.getD j default).2] := Sl.lits (l := [(((Bn.decR l).1.codes.getD k default).1.getD j default).2]) n28 rfl (by simp) (by intro y hy; simp only [List.mem_cons, List.not_mem_nil, or_false] at hy; subst hy; assumption)
      refine KL.c rfl Tryd.call13 (whole_any s142 (by intro t ht; simp only [List.mem_cons, List.not_mem_nil, or_false] at ht; subst ht; exact hvl.2)) ?_
      rintro _ _ ⟨rfl, rfl⟩
      refine KL.fin 1 rfl (KQ.seq (KC.condF rfl (KC.skip (KQ.normBlock (KQ.r ?_)))))
      refine KL.q ((R.add rfl rfl rfl (by have := ha1.len; dsimp only [InR]; omega)).val (congrArg (Value.int .i64) (show (j : Int) + 1 = ((j + 1 : Nat) : Int) by omega))) rfl ?_
      refine KL.fin 1 rfl ?_
      refine KQ.again (j + 1) ?_ ?_ ?_
      · exact Sub.all rfl
      · show ((Bn.decR l).1.codes.getD k default).1.length - (j + 1) < ((Bn.decR l).1.codes.getD k default).1.length - j; omega
      exact ⟨by omega, oM⟩
    intro hc137
    refine KC.exit (KQ.exitThen (KQ.exitThen (KQ.hit (KQ.sr (KL.run 1 rfl (KL.ld rfl (cell_of bv rfl) ?_))))))
    refine KL.c rfl Tryd.call14 (plain_any (ha2.old oP) hvk.1.2.1.2) ?_
    rintro _ H29 ⟨rfl, ox⟩
    have zc_H29 := (ox).1
    have o0 := o0.trans ox
    have oM := oM.trans ox
    have oL := oL.trans ox
    have oX1 := oX1.trans ox
    have bm1 := (ox).blk bm1
    have bv := (ox).blk bv
    have oP := oP.trans ox
    refine KL.fin 1 rfl (KQ.seq (KC.condF rfl (KC.skip (KQ.normBlock (KQ.r ?_)))))
    refine KL.q ((R.add rfl rfl rfl (by have := mv1.c.len; dsimp only [InR]; omega)).val (congrArg (Value.int .i64) (show (k : Int) + 1 = ((k + 1 : Nat) : Int) by omega))) rfl ?_
    refine KL.fin 1 rfl ?_
    refine KQ.again (k + 1) ?_ ?_ ?_
    · exact Sub.all rfl
    · show (Bn.decR l).1.codes.length - (k + 1) < (Bn.decR l).1.codes.length - k; omega
    exact ⟨by omega, oL⟩
  intro hc130
  refine KC.exit (KQ.exitThen (KQ.exitThen (KQ.hit (KQ.seq (KC.seq (KC.sr (KL.run 1 rfl (KL.ld rfl (cell_of bm1 rfl) (KL.q (R.lenS rfl Tryd.underlying29 rfl mv1.el) rfl (KL.fin 1 rfl (KQ.seq (KC.block ?_))))))))))))
  refine KC.loopD (κ := Nat) [155, 156, 157, 19, 158, 159, 160, 161, 2, 162, 154] (fun k => [(154, .int .i64 (k : Nat))]) (fun k Hl => k ≤ (Bn.decR l).1.elems.length ∧ Old H22 Hl) (fun k => (Bn.decR l).1.elems.length - k) 0 ?_ ?_ ?_
  · exact Sub.all rfl
  · exact ⟨Nat.zero_le _, Old.refl _⟩
  rintro k H30 ⟨hk, oL⟩
  have zl := oL.1
  have o0 := o0.trans oL
  have oX1 := oX1.trans oL
  have bm1 := oL.blk bm1
  have oP : Old H30 H30 := Old.refl _
  refine KC.sr (KL.fin 1 rfl (KQ.seq (KC.seq ?_)))
  refine KC.iq rfl ?_ ?_
  · intro hc155
    have hk2 : k < (Bn.decR l).1.elems.length := by omega
    have hvk := hv.1.el _ (En.getD_memD hk2)
    obtain ⟨a1, a2, hcx, ha1, ha2⟩ := (mv1.el.old oX1).elmAt k hk2
    refine KC.skip (KQ.seq (KC.seq (KC.block (KC.sr ?_))))
    refine KL.q (R.index (j := k) rfl Tryd.underlying29 sz62 rfl rfl mv1.el rfl (by omega)) rfl ?_
    refine KL.lda rfl hcx rfl ?_
    refine KL.m (M.alloc rfl zr62 rfl) rfl ?_
    rintro _ H31 ⟨rfl, n31⟩
    have z31 := n31.2.1
    have o0 := o0.trans n31.1
    have oL := oL.trans n31.1
    have oX1 := oX1.trans n31.1
    have bm1 := (n31.1).blk bm1
    have oP := oP.trans n31.1
    have b31 := n31.2.2
    have bv := b31
    refine KL.opS (S.storeAgg rfl sz62 rfl rfl (rfl) (by intro z hz; simp only [List.mem_cons, List.not_mem_nil, or_false] at hz; rcases hz with rfl | rfl | rfl <;> first | rfl | exact ha1.one | exact ha2.one) bv (by simp)) rfl rfl ?_
    rintro H32 ⟨u32, b32⟩
    have o0 := o0.upd u32 (by omega)
    have zu32 := u32.1
    have oL := oL.upd u32 (by omega)
    have oX1 := oX1.upd u32 (by omega)
    have bm1 := ((u32).2 _ (by omega)).trans bm1
    have oP := oP.upd u32 (by omega)
    have bv := b32
    rw [over_all (by rfl)] at bv
    refine KL.nil (KQ.sr (KL.run 1 rfl (KL.ld rfl (cell_of bv rfl) ?_)))
    refine KL.c rfl Tryd.call14 (plain_any (ha1.old oP) hvk.2.1.2) ?_
    rintro _ H33 ⟨rfl, ox⟩
    have zc_H33 := (ox).1
    have o0 := o0.trans ox
    have oL := oL.trans ox
    have oX1 := oX1.trans ox
    have bm1 := (ox).blk bm1
    have oP := oP.trans ox
    have bv := (ox).blk bv
    refine KL.fin 1 rfl (KQ.seq (KC.condF rfl (KC.skip (KQ.normBlock (KQ.r ?_)))))
    refine KL.q ((R.add rfl rfl rfl (by have := mv1.el.len; dsimp only [InR]; omega)).val (congrArg (Value.int .i64) (show (k : Int) + 1 = ((k + 1 : Nat) : Int) by omega))) rfl ?_
    refine KL.fin 1 rfl ?_
    refine KQ.again (k + 1) ?_ ?_ ?_
    · exact Sub.all rfl
    · show (Bn.decR l).1.elems.length - (k + 1) < (Bn.decR l).1.elems.length - k; omega
    exact ⟨by omega, oL⟩
  intro hc155
  refine KC.exit (KQ.exitThen (KQ.exitThen (KQ.hit (KQ.seq (KC.seq (KC.sr (KL.run 1 rfl (KL.ld rfl (cell_of bm1 rfl) (KL.q (R.lenS rfl Tryd.underlying31 rfl mv1.d) rfl (KL.fin 1 rfl (KQ.seq (KC.block ?_))))))))))))
  refine KC.loopD (κ := Nat) [167, 168, 169, 21, 170, 171, 172, 173, 2, 174, 166] (fun k => [(166, .int .i64 (k : Nat))]) (fun k Hl => k ≤ (Bn.decR l).1.datas.length ∧ Old H30 Hl) (fun k => (Bn.decR l).1.datas.length - k) 0 ?_ ?_ ?_
  · exact Sub.all rfl
  · exact ⟨Nat.zero_le _, Old.refl _⟩
  rintro k H34 ⟨hk, oL⟩
  have zl := oL.1
  have o0 := o0.trans oL
  have oX1 := oX1.trans oL
  have bm1 := oL.blk bm1
  have oP : Old H34 H34 := Old.refl _
  refine KC.sr (KL.fin 1 rfl (KQ.seq (KC.seq ?_)))
  refine KC.iq rfl ?_ ?_
  · intro hc167
    have hk2 : k < (Bn.decR l).1.datas.length := by omega
    have hvk := hv.1.d _ (En.getD_memD hk2)
    obtain ⟨a1, a2, hcx, ha1, ha2⟩ := (mv1.d.old oX1).datAt k hk2
    refine KC.skip (KQ.seq (KC.seq (KC.block (KC.sr ?_))))
    refine KL.q (R.index (j := k) rfl Tryd.underlying31 sz64 rfl rfl mv1.d rfl (by omega)) rfl ?_
    refine KL.lda rfl hcx rfl ?_
    refine KL.m (M.alloc rfl zr64 rfl) rfl ?_
    rintro _ H35 ⟨rfl, n35⟩
    have z35 := n35.2.1
    have o0 := o0.trans n35.1
    have oL := oL.trans n35.1
    have oX1 := oX1.trans n35.1
    have bm1 := (n35.1).blk bm1
    have oP := oP.trans n35.1
    have b35 := n35.2.2
    have bv := b35
    refine KL.opS (S.storeAgg rfl sz64 rfl rfl (rfl) (by intro z hz; simp only [List.mem_cons, List.not_mem_nil, or_false] at hz; rcases hz with rfl | rfl | rfl <;> first | rfl | exact ha1.one | exact ha2.one) bv (by simp)) rfl rfl ?_
    rintro H36 ⟨u36, b36⟩
    have o0 := o0.upd u36 (by omega)
    have zu36 := u36.1
    have oL := oL.upd u36 (by omega)
    have oX1 := oX1.upd u36 (by omega)
    have bm1 := ((u36).2 _ (by omega)).trans bm1
    have oP := oP.upd u36 (by omega)
    have bv := b36
    rw [over_all (by rfl)] at bv
    refine KL.nil (KQ.sr (KL.run 1 rfl (KL.ld rfl (cell_of bv rfl) ?_)))
    refine KL.c rfl Tryd.call14 (plain_any (ha1.old oP) hvk.2.1.2) ?_
    rintro _ H37 ⟨rfl, ox⟩
    have zc_H37 := (ox).1
    have o0 := o0.trans ox
    have oL := oL.trans ox
    have oX1 := oX1.trans ox
    have bm1 := (ox).blk bm1
    have oP := oP.trans ox
    have bv := (ox).blk bv
    refine KL.fin 1 rfl (KQ.seq (KC.condF rfl (KC.skip (KQ.normBlock (KQ.r ?_)))))
    refine KL.q ((R.add rfl rfl rfl (by have := mv1.d.len; dsimp only [InR]; omega)).val (congrArg (Value.int .i64) (show (k : Int) + 1 = ((k + 1 : Nat) : Int) by omega))) rfl ?_
    refine KL.fin 1 rfl ?_
    refine KQ.again (k + 1) ?_ ?_ ?_
    · exact Sub.all rfl
    · show (Bn.decR l).1.datas.length - (k + 1) < (Bn.decR l).1.datas.length - k; omega
    exact ⟨by omega, oL⟩
  intro hc167
  refine KC.exit (KQ.exitThen (KQ.exitThen (KQ.hit (KQ.sr (KL.fin 1 rfl (KQ.seq (KC.ret (KQ.ofRet (KQ.fin1 Tryd.results4 rfl ?_)))))))))
  exact ⟨rfl, o0⟩
end Go.Proofs.YtldmfchamcpmmaaDoor
