/- What the proof of EncBytes leans on, part 6. No condition but those that each law states. -/
import Derived.Test.YtldmfchamcpmmaaDoorRows
import Derived.WalkKit
import Derived.Deep.Quiet
import Derived.Below
import Derived.WalkLawsBesides
import Derived.Lib.Hide
import Derived.Laws.AppendOwnNone
import Derived.Laws.CopyRow
import Derived.Laws.Tables
import Derived.Orders
import Derived.Deep.Slices
import Derived.Deep.Fields
import Derived.OpenShut
import Derived.Lib.AppendZerosOnto
import Derived.Maps.AppendAt
import Derived.ChangeKeysEq
import Derived.Laws.BytesString
import Derived.Lib.SlBytesConst
import Derived.Laws.IdiomStrings
import Derived.Lib.AppendStr
import Derived.Lib.EndianZ
import Derived.WalkSpells
import Derived.Lib.ItoaNum
import Derived.Lib.DecodeN
import Derived.Lib.ValidLaws
import Derived.Lib.EndianBits
import Derived.ProofKit
import Derived.Defers
import Derived.Recover
import Derived.Scope
import Derived.Laws.StructEq
import Derived.ArgAppend
import Derived.ChangeSame
import Derived.SizedLaws
import Derived.Lib.LaidTab
import Derived.Lib.LaidU8
import Derived.LaidMore
import Derived.Test.YtldmfchamcpmmaaDoorEncBytesPE
set_option maxHeartbeats 4000000
set_option maxRecDepth 100000
namespace Go.Proofs.YtldmfchamcpmmaaDoor
open Go Go.RowKit
set_option linter.unusedVariables false
set_option linter.unusedSimpArgs false
set_option linter.unnecessarySimpa false
/-- what the form's reach says of a list of instructions -/
def InsB (xs : List Ins) : Prop := xs.length ≤ 140737488351232 ∧ ∀ y ∈ xs, y.l.length ≤ 70368744177664
/-- what the form's reach says of a module -/
structure Szd (m : Mo) : Prop where
  n : m.types.length ≤ 140737488351232 ∧ m.imports.length ≤ 140737488351232 ∧ m.funcs.length ≤ 140737488351232 ∧ m.tables.length ≤ 140737488351232 ∧ m.mems.length ≤ 140737488351232 ∧ m.globs.length ≤ 140737488351232 ∧ m.exports.length ≤ 140737488351232 ∧ m.elems.length ≤ 140737488351232 ∧ m.codes.length ≤ 140737488351232 ∧ m.datas.length ≤ 140737488351232
  t : ∀ x ∈ m.types, x.1.length ≤ 140737488351232 ∧ x.2.length ≤ 140737488351232
  i : ∀ x ∈ m.imports, x.mod.size ≤ 140737488351232 ∧ x.nam.size ≤ 140737488351232
  e : ∀ x ∈ m.exports, x.nam.size ≤ 140737488351232
  g : ∀ x ∈ m.globs, InsB x.2
  el : ∀ x ∈ m.elems, InsB x.2.1 ∧ x.2.2.length ≤ 140737488351232
  c : ∀ x ∈ m.codes, InsB x.2 ∧ x.1.length ≤ 140737488351232
  d : ∀ x ∈ m.datas, InsB x.2.1 ∧ x.2.2.length ≤ 140737488351232
theorem mem_all {α : Type} [Inhabited α] {p : α → Prop} {l : List α} (h : ∀ j, j < l.length → p (l.getD j default)) : ∀ x ∈ l, p x := by
  intro x hx
  obtain ⟨j, hj, rfl⟩ := List.getElem_of_mem hx
  have := h j hj
  rwa [List.getD_eq_getElem?_getD, List.getElem?_eq_getElem hj] at this
def hvyGo (xs : List Ins) : Nat → Nat → Int → Int
  | 0, _, n => n
  | f + 1, k, n => if k < xs.length ∧ n ≤ 4000 then hvyGo xs f (k + 1) (n + ((xs.getD k default).l.length : Nat)) else n
/-- how many instructions and labels a list has, as far as they are counted -/
def hvy (xs : List Ins) : Int := hvyGo xs (xs.length + 1) 0 (xs.length : Nat)
theorem hvyGo_is {xs : List Ins} (hB : InsB xs) : ∀ (f k : Nat) (n : Int), k ≤ xs.length → n + k = xs.length + Isp.bulk (xs.take k) → 0 ≤ n → n ≤ 300000000000000 → xs.length + 1 ≤ f + k → 0 ≤ hvyGo xs f k n ∧ hvyGo xs f k n ≤ 300000000000000 ∧ (hvyGo xs f k n ≤ 4000 → Isp.bulk xs ≤ 4000)
  | 0, k, n, hk, hb, h0, h1, hf => by omega
  | f + 1, k, n, hk, hb, h0, h1, hf => by
    unfold hvyGo
    split
    · rename_i hc
      have hlb := hB.2 _ (En.getD_memD (l := xs) (k := k) (by omega))
      exact hvyGo_is hB f (k + 1) _ (by omega) (by rw [Isp.bulk_step hc.1]; omega) (by omega) (by omega) (by omega)
    rename_i hc
    refine ⟨h0, h1, fun h9 => ?_⟩
    have hkl : k = xs.length := by omega
    rw [hkl, List.take_length] at hb; omega
theorem hvy_is {xs : List Ins} (hB : InsB xs) : 0 ≤ hvy xs ∧ hvy xs ≤ 300000000000000 ∧ (hvy xs ≤ 4000 → Isp.bulk xs ≤ 4000) :=
  hvyGo_is hB _ 0 _ (Nat.zero_le _) (by simp [Isp.bulk]) (by omega) (by have := hB.1; omega) (by omega)
theorem hvy_step {xs : List Ins} {k : Nat} {n : Int} (hk : k < xs.length) (hn : n ≤ 4000) : hvyGo xs (xs.length + 1 - k) k n = hvyGo xs (xs.length + 1 - (k + 1)) (k + 1) (n + ((xs.getD k default).l.length : Nat)) := by
  rw [show xs.length + 1 - k = (xs.length + 1 - (k + 1)) + 1 by omega]
  conv => lhs; unfold hvyGo
  rw [if_pos ⟨hk, hn⟩]
theorem hvy_stop {xs : List Ins} {k : Nat} {n : Int} (hk : k ≤ xs.length) (h : ¬ (k < xs.length ∧ n ≤ 4000)) : hvyGo xs (xs.length + 1 - k) k n = n := by
  rw [show xs.length + 1 - k = (xs.length - k) + 1 by omega]
  unfold hvyGo
  rw [if_neg h]
theorem heavy_any {H : Heap} {v : Value} {xs : List Ins} (hs : Sl 5 EIns H v xs) (hB : InsB xs) : Ct Tryd.prog 18 [v] H (fun u H' => u = .int .i64 (hvy xs) ∧ H = H') := by
  refine Ct.mk Tryd.func18 rfl Tryd.ntmps18 rfl ?_
  intro W0 hW0
  have o0 : Old H H := Old.refl H
  have hxl := hB.1
  refine KC.sr (KL.fin 1 rfl (KQ.sr (KL.run 1 rfl (KL.q (R.lenS rfl Tryd.underlying52 rfl hs) rfl (KL.fin 1 rfl (KQ.seq (KC.seq (KC.sr (KL.fin 1 rfl ?_)))))))))
  refine KQ.seq (KC.block ?_)
  refine KC.loopD (κ := Nat × Int) [7, 8, 9, 10, 11, 12, 13, 14, 17, 18, 19, 20, 21, 22, 23, 24, 3, 15, 16, 4] (fun k => [(4, .int .i64 (k.1 : Nat)), (3, .int .i64 k.2)]) (fun k Hl => k.1 ≤ xs.length ∧ hvy xs = hvyGo xs (xs.length + 1 - k.1) k.1 k.2 ∧ 0 ≤ k.2 ∧ k.2 ≤ 300000000000000 ∧ H = Hl) (fun k => xs.length - k.1) (0, (xs.length : Nat)) ?_ ?_ ?_
  · exact Sub.all rfl
  · exact ⟨Nat.zero_le _, rfl, by dsimp only; omega, by dsimp only; omega, rfl⟩
  rintro ⟨k, n⟩ H1 ⟨hk, hb, hn0, hn1, rfl⟩
  dsimp only at hk hb hn0 hn1
  refine KC.seq (KC.sr (KL.run 2 rfl (KL.q (R.lenS rfl Tryd.underlying52 rfl hs) rfl (KL.run 2 rfl ?_))))
  refine KL.opG (fun hq => R.move rfl rfl) rfl rfl rfl ?_
  refine KL.opG (fun hq => R.leq (k := .i64) (a := n) rfl (by rw [hq]; rfl) rfl) rfl rfl rfl ?_
  refine KL.q (R.and (s := decide (n ≤ 4000)) rfl rfl (fun hq => by rw [hq]; rfl)) rfl ?_
  refine KL.nil (KQ.seq ?_)
  refine KC.iq rfl ?_ ?_
  · intro hc14
    try dsimp only at hc14
    obtain ⟨vl, hcx, hcl, hxr⟩ := hs.insV k (by omega)
    have hlb := hB.2 _ (En.getD_memD (l := xs) (k := k) (by omega))
    refine KC.skip (KQ.seq (KC.seq (KC.block (KC.region (KL.run 3 rfl ?_)))))
    refine KL.q (R.index (j := k) rfl Tryd.underlying52 sz127 rfl rfl hs rfl (by omega)) rfl ?_
    refine KL.q (R.fieldAddrP rfl Tryd.underlying127 rfl rfl sz24 rfl) rfl (KL.ld rfl (hcx 4 _ rfl) (KL.q (R.lenS rfl Tryd.underlying24 rfl hcl) rfl ?_))
    refine KL.q (R.add rfl rfl rfl (by dsimp only [InR]; omega)) rfl ?_
    refine KL.fin 1 rfl (KQ.normBlock (KQ.r (KL.run 1 rfl ?_)))
    refine KL.q ((R.add rfl rfl rfl (by dsimp only [InR]; omega)).val (congrArg (Value.int .i64) (show (k : Int) + 1 = ((k + 1 : Nat) : Int) by omega))) rfl ?_
    refine KL.fin 1 rfl ?_
    refine KQ.again ((k + 1, n + ((xs.getD k default).l.length : Nat))) ?_ ?_ ?_
    · exact Sub.all rfl
    · show xs.length - (k + 1) < xs.length - k; omega
    exact ⟨by show k + 1 ≤ _; omega, by dsimp only; rw [← hvy_step (by omega) (by omega)]; exact hb, by dsimp only; omega, by dsimp only; omega, rfl⟩
  intro hc14
  try dsimp only at hc14
  simp only [Bool.and_eq_false_iff, decide_eq_false_iff_not] at hc14
  refine KC.exit (KQ.exitThen (KQ.exitThen (KQ.hit (KQ.sr (KL.fin 2 rfl (KQ.seq (KC.ret (KQ.ofRet (KQ.fin1 Tryd.results18 rfl ?_)))))))))
  exact ⟨congrArg (Value.int .i64) (by rw [hb, hvy_stop hk (by omega)]), rfl⟩
theorem Great_any {H : Heap} {t i f tb me g e el c d : Value} {m : Mo} (mv : MoV H t i f tb me g e el c d m) (hZ : Szd m) : Ct Tryd.prog 7 [.agg [t, i, f, tb, me, g, e, .bool m.hasStart, .int .u32 m.start, el, c, d].toArray] H (fun u H' => ∃ hv, u = .bool hv ∧ (hv = false → En.Small m) ∧ Old H H') := by
  refine Ct.mk Tryd.func7 rfl Tryd.ntmps7 rfl ?_
  intro W0 hW0
  have o0 : Old H H := Old.refl H
  obtain ⟨z1, z2, z3, z4, z5, z6, z7, z8, z9, z10⟩ := hZ.n
  refine KC.sr ?_
  refine KL.m (M.box rfl rfl rfl) rfl ?_
  rintro _ H1 ⟨rfl, n1⟩
  have z1 := n1.2.1
  have o0 := o0.trans n1.1
  have b1 := n1.2.2
  have bx := b1
  refine KL.fin 1 rfl (KQ.sr (KL.run 1 rfl (KL.ld rfl (cell_of bx rfl) (KL.q (R.lenS rfl Tryd.underlying22 rfl (mv.t.old o0)) rfl (KL.run 1 rfl (KL.ld rfl (cell_of bx rfl) (KL.q (R.lenS rfl Tryd.underlying23 rfl (mv.i.old o0)) rfl ?_)))))))
  refine KL.q (R.add rfl rfl rfl (by dsimp only [InR]; omega)) rfl ?_
  refine KL.run 1 rfl (KL.ld rfl (cell_of bx rfl) (KL.q (R.lenS rfl Tryd.underlying24 rfl (mv.f.old o0)) rfl ?_))
  refine KL.q (R.add rfl rfl rfl (by dsimp only [InR]; omega)) rfl ?_
  refine KL.run 1 rfl (KL.ld rfl (cell_of bx rfl) (KL.q (R.lenS rfl Tryd.underlying25 rfl (mv.tb.old o0)) rfl ?_))
  refine KL.q (R.add rfl rfl rfl (by dsimp only [InR]; omega)) rfl ?_
  refine KL.run 1 rfl (KL.ld rfl (cell_of bx rfl) (KL.q (R.lenS rfl Tryd.underlying25 rfl (mv.me.old o0)) rfl ?_))
  refine KL.q (R.add rfl rfl rfl (by dsimp only [InR]; omega)) rfl ?_
  refine KL.run 1 rfl (KL.ld rfl (cell_of bx rfl) (KL.q (R.lenS rfl Tryd.underlying26 rfl (mv.g.old o0)) rfl ?_))
  refine KL.q (R.add rfl rfl rfl (by dsimp only [InR]; omega)) rfl ?_
  refine KL.run 1 rfl (KL.ld rfl (cell_of bx rfl) (KL.q (R.lenS rfl Tryd.underlying27 rfl (mv.e.old o0)) rfl ?_))
  refine KL.q (R.add rfl rfl rfl (by dsimp only [InR]; omega)) rfl ?_
  refine KL.run 1 rfl (KL.ld rfl (cell_of bx rfl) (KL.q (R.lenS rfl Tryd.underlying29 rfl (mv.el.old o0)) rfl ?_))
  refine KL.q (R.add rfl rfl rfl (by dsimp only [InR]; omega)) rfl ?_
  refine KL.run 1 rfl (KL.ld rfl (cell_of bx rfl) (KL.q (R.lenS rfl Tryd.underlying30 rfl (mv.c.old o0)) rfl ?_))
  refine KL.q (R.add rfl rfl rfl (by dsimp only [InR]; omega)) rfl ?_
  refine KL.run 1 rfl (KL.ld rfl (cell_of bx rfl) (KL.q (R.lenS rfl Tryd.underlying31 rfl (mv.d.old o0)) rfl ?_))
  refine KL.q (R.add rfl rfl rfl (by dsimp only [InR]; omega)) rfl ?_
  refine KL.fin 1 rfl (KQ.seq (KC.seq (KC.sr (KL.fin 1 rfl (KQ.seq (KC.block ?_))))))
  refine KC.loopD (κ := Nat × Int) [50, 51, 52, 53, 54, 55, 56, 57, 58, 61, 62, 63, 64, 65, 66, 67, 68, 69, 70, 71, 72, 73, 74, 75, 76, 77, 3, 59, 60, 4] (fun k => [(4, .int .i64 (k.1 : Nat)), (3, .int .i64 k.2)]) (fun k Hl => k.1 ≤ m.types.length ∧ ((m.types.length : Int) + (m.imports.length : Int) + (m.funcs.length : Int) + (m.tables.length : Int) + (m.mems.length : Int) + (m.globs.length : Int) + (m.exports.length : Int) + (m.elems.length : Int) + (m.codes.length : Int) + (m.datas.length : Int)) ≤ k.2 ∧ k.2 ≤ 2000000000000000 ∧ (∀ j, j < k.1 → k.2 ≤ 4000 → (m.types.getD j default).1.length ≤ 4000 ∧ (m.types.getD j default).2.length ≤ 4000) ∧ H1 = Hl) (fun k => m.types.length - k.1) (0, ((m.types.length : Int) + (m.imports.length : Int) + (m.funcs.length : Int) + (m.tables.length : Int) + (m.mems.length : Int) + (m.globs.length : Int) + (m.exports.length : Int) + (m.elems.length : Int) + (m.codes.length : Int) + (m.datas.length : Int))) ?_ ?_ ?_
  · exact Sub.all rfl
  · exact ⟨Nat.zero_le _, Int.le_refl _, by dsimp only; omega, fun j hj => absurd hj (Nat.not_lt_zero _), rfl⟩
  rintro ⟨k1, n1⟩ H2 ⟨hk1, hn1, hm1, hP1, rfl⟩
  dsimp only at hk1 hn1 hm1 hP1
  have hz1 : 0 ≤ n1 := by omega
  refine KC.seq (KC.sr (KL.run 2 rfl (KL.ld rfl (cell_of bx rfl) (KL.q (R.lenS rfl Tryd.underlying22 rfl (mv.t.old o0)) rfl (KL.run 2 rfl ?_)))))
  refine KL.opG (fun hq => R.move rfl rfl) rfl rfl rfl ?_
  refine KL.opG (fun hq => R.leq (k := .i64) (a := n1) rfl (by rw [hq]; rfl) rfl) rfl rfl rfl ?_
  refine KL.q (R.and (s := decide (n1 ≤ 4000)) rfl rfl (fun hq => by rw [hq]; rfl)) rfl ?_
  refine KL.nil (KQ.seq ?_)
  refine KC.iq rfl ?_ ?_
  · intro hc58
    try dsimp only at hc58
    obtain ⟨cs, hcl, hcx, a, b, rfl, ha, hb⟩ := mv.t.at k1 (by omega)
    have hsz := hZ.t _ (En.getD_memD (l := m.types) (k := k1) (by omega))
    refine KC.skip (KQ.seq (KC.seq (KC.block (KC.quiet (by kernel_rfl) (by kernel_rfl) (KD.run 2 rfl (KD.ld rfl (cell_of bx rfl) (KD.run 1 rfl ?_)))))))
    refine KD.op (R.index (j := k1) rfl Tryd.underlying22 sz44 rfl rfl (mv.t.old o0) rfl (by omega)) rfl rfl rfl ?_
    refine KD.op (R.fieldAddrP rfl Tryd.underlying44 rfl rfl sz36 rfl) rfl rfl rfl (KD.ld rfl ((o0.cells hcx) 0 _ rfl) (KD.op (R.lenS rfl Tryd.underlying36 rfl (ha.old o0)) rfl rfl rfl ?_))
    refine KD.op (R.add rfl rfl rfl (by dsimp only [InR]; omega)) rfl rfl rfl ?_
    refine KD.run 1 rfl (KD.ld rfl (cell_of bx rfl) (KD.run 1 rfl ?_))
    refine KD.op (R.index (j := k1) rfl Tryd.underlying22 sz44 rfl rfl (mv.t.old o0) rfl (by omega)) rfl rfl rfl ?_
    refine KD.op (R.fieldAddrP rfl Tryd.underlying44 rfl rfl sz36 rfl) rfl rfl rfl (KD.ld rfl ((o0.cells hcx) 1 _ rfl) (KD.op (R.lenS rfl Tryd.underlying36 rfl (hb.old o0)) rfl rfl rfl ?_))
    refine KD.op (R.add rfl rfl rfl (by dsimp only [InR]; omega)) rfl rfl rfl ?_
    refine KD.fin 1 rfl (KQ.normBlock (KQ.r (KL.run 1 rfl ?_)))
    refine KL.q ((R.add rfl rfl rfl (by dsimp only [InR]; omega)).val (congrArg (Value.int .i64) (show (k1 : Int) + 1 = ((k1 + 1 : Nat) : Int) by omega))) rfl ?_
    refine KL.fin 1 rfl ?_
    refine KQ.again ((k1 + 1, n1 + ((m.types.getD k1 default).1.length : Nat) + ((m.types.getD k1 default).2.length : Nat))) ?_ ?_ ?_
    · exact Sub.all rfl
    · show m.types.length - (k1 + 1) < m.types.length - k1; omega
    exact ⟨by show k1 + 1 ≤ _; omega, by dsimp only; omega, by dsimp only; omega, fun j hj h9 => by dsimp only at hj h9; rcases (by omega : j < k1 ∨ j = k1) with h8 | rfl; exact hP1 j h8 (by omega); omega, rfl⟩
  intro hc58
  try dsimp only at hc58
  simp only [Bool.and_eq_false_iff, decide_eq_false_iff_not] at hc58
  refine KC.exit (KQ.exitThen (KQ.exitThen (KQ.hit (KQ.seq (KC.seq (KC.sr (KL.fin 1 rfl (KQ.seq (KC.block ?_)))))))))
  refine KC.loopD (κ := Nat × Int) [78, 79, 80, 81, 82, 83, 84, 85, 86, 89, 90, 91, 92, 93, 94, 95, 96, 97, 98, 99, 100, 101, 102, 103, 104, 105, 3, 87, 88, 5] (fun k => [(5, .int .i64 (k.1 : Nat)), (3, .int .i64 k.2)]) (fun k Hl => k.1 ≤ m.imports.length ∧ n1 ≤ k.2 ∧ k.2 ≤ 2000000000000000 ∧ (∀ j, j < k.1 → k.2 ≤ 4000 → (m.imports.getD j default).mod.size ≤ 4000 ∧ (m.imports.getD j default).nam.size ≤ 4000) ∧ H1 = Hl) (fun k => m.imports.length - k.1) (0, n1) ?_ ?_ ?_
  · exact Sub.all rfl
  · exact ⟨Nat.zero_le _, Int.le_refl _, by dsimp only; omega, fun j hj => absurd hj (Nat.not_lt_zero _), rfl⟩
  rintro ⟨k2, n2⟩ H3 ⟨hk2, hn2, hm2, hP2, rfl⟩
  dsimp only at hk2 hn2 hm2 hP2
  have hz2 : 0 ≤ n2 := by omega
  refine KC.seq (KC.sr (KL.run 2 rfl (KL.ld rfl (cell_of bx rfl) (KL.q (R.lenS rfl Tryd.underlying23 rfl (mv.i.old o0)) rfl (KL.run 2 rfl ?_)))))
  refine KL.opG (fun hq => R.move rfl rfl) rfl rfl rfl ?_
  refine KL.opG (fun hq => R.leq (k := .i64) (a := n2) rfl (by rw [hq]; rfl) rfl) rfl rfl rfl ?_
  refine KL.q (R.and (s := decide (n2 ≤ 4000)) rfl rfl (fun hq => by rw [hq]; rfl)) rfl ?_
  refine KL.nil (KQ.seq ?_)
  refine KC.iq rfl ?_ ?_
  · intro hc86
    try dsimp only at hc86
    obtain ⟨cs, hcl, hcx, rfl, r1, r2, r3, r4, r5⟩ := mv.i.at k2 (by omega)
    have hsz := hZ.i _ (En.getD_memD (l := m.imports) (k := k2) (by omega))
    refine KC.skip (KQ.seq (KC.seq (KC.block (KC.quiet (by kernel_rfl) (by kernel_rfl) (KD.run 2 rfl (KD.ld rfl (cell_of bx rfl) (KD.run 1 rfl ?_)))))))
    refine KD.op (R.index (j := k2) rfl Tryd.underlying23 sz51 rfl rfl (mv.i.old o0) rfl (by omega)) rfl rfl rfl ?_
    refine KD.op (R.fieldAddrP rfl Tryd.underlying51 rfl rfl sz9 rfl) rfl rfl rfl (KD.ld rfl ((o0.cells hcx) 0 _ rfl) (KD.op (R.lenStr (ty := 0) rfl Tryd.underlying9 rfl) rfl rfl rfl ?_))
    refine KD.op (R.add rfl rfl rfl (by dsimp only [InR]; omega)) rfl rfl rfl ?_
    refine KD.run 1 rfl (KD.ld rfl (cell_of bx rfl) (KD.run 1 rfl ?_))
    refine KD.op (R.index (j := k2) rfl Tryd.underlying23 sz51 rfl rfl (mv.i.old o0) rfl (by omega)) rfl rfl rfl ?_
    refine KD.op (R.fieldAddrP rfl Tryd.underlying51 rfl rfl sz9 rfl) rfl rfl rfl (KD.ld rfl ((o0.cells hcx) 1 _ rfl) (KD.op (R.lenStr (ty := 0) rfl Tryd.underlying9 rfl) rfl rfl rfl ?_))
    refine KD.op (R.add rfl rfl rfl (by dsimp only [InR]; omega)) rfl rfl rfl ?_
    refine KD.fin 1 rfl (KQ.normBlock (KQ.r (KL.run 1 rfl ?_)))
    refine KL.q ((R.add rfl rfl rfl (by dsimp only [InR]; omega)).val (congrArg (Value.int .i64) (show (k2 : Int) + 1 = ((k2 + 1 : Nat) : Int) by omega))) rfl ?_
    refine KL.fin 1 rfl ?_
    refine KQ.again ((k2 + 1, n2 + ((m.imports.getD k2 default).mod.size : Nat) + ((m.imports.getD k2 default).nam.size : Nat))) ?_ ?_ ?_
    · exact Sub.all rfl
    · show m.imports.length - (k2 + 1) < m.imports.length - k2; omega
    exact ⟨by show k2 + 1 ≤ _; omega, by dsimp only; omega, by dsimp only; omega, fun j hj h9 => by dsimp only at hj h9; rcases (by omega : j < k2 ∨ j = k2) with h8 | rfl; exact hP2 j h8 (by omega); omega, rfl⟩
  intro hc86
  try dsimp only at hc86
  simp only [Bool.and_eq_false_iff, decide_eq_false_iff_not] at hc86
  refine KC.exit (KQ.exitThen (KQ.exitThen (KQ.hit (KQ.seq (KC.seq (KC.sr (KL.fin 1 rfl (KQ.seq (KC.block ?_)))))))))
  refine KC.loopD (κ := Nat × Int) [106, 107, 108, 109, 110, 111, 112, 113, 114, 117, 118, 119, 120, 121, 122, 123, 124, 125, 3, 115, 116, 6] (fun k => [(6, .int .i64 (k.1 : Nat)), (3, .int .i64 k.2)]) (fun k Hl => k.1 ≤ m.exports.length ∧ n2 ≤ k.2 ∧ k.2 ≤ 2000000000000000 ∧ (∀ j, j < k.1 → k.2 ≤ 4000 → (m.exports.getD j default).nam.size ≤ 4000) ∧ H1 = Hl) (fun k => m.exports.length - k.1) (0, n2) ?_ ?_ ?_
  · exact Sub.all rfl
  · exact ⟨Nat.zero_le _, Int.le_refl _, by dsimp only; omega, fun j hj => absurd hj (Nat.not_lt_zero _), rfl⟩
  rintro ⟨k3, n3⟩ H4 ⟨hk3, hn3, hm3, hP3, rfl⟩
  dsimp only at hk3 hn3 hm3 hP3
  have hz3 : 0 ≤ n3 := by omega
  refine KC.seq (KC.sr (KL.run 2 rfl (KL.ld rfl (cell_of bx rfl) (KL.q (R.lenS rfl Tryd.underlying27 rfl (mv.e.old o0)) rfl (KL.run 2 rfl ?_)))))
  refine KL.opG (fun hq => R.move rfl rfl) rfl rfl rfl ?_
  refine KL.opG (fun hq => R.leq (k := .i64) (a := n3) rfl (by rw [hq]; rfl) rfl) rfl rfl rfl ?_
  refine KL.q (R.and (s := decide (n3 ≤ 4000)) rfl rfl (fun hq => by rw [hq]; rfl)) rfl ?_
  refine KL.nil (KQ.seq ?_)
  refine KC.iq rfl ?_ ?_
  · intro hc114
    try dsimp only at hc114
    obtain ⟨cs, hcl, hcx, rfl, r1, r2⟩ := mv.e.at k3 (by omega)
    have hsz := hZ.e _ (En.getD_memD (l := m.exports) (k := k3) (by omega))
    refine KC.skip (KQ.seq (KC.seq (KC.block (KC.region (KL.run 2 rfl (KL.ld rfl (cell_of bx rfl) (KL.run 1 rfl ?_)))))))
    refine KL.q (R.index (j := k3) rfl Tryd.underlying27 sz76 rfl rfl (mv.e.old o0) rfl (by omega)) rfl ?_
    refine KL.q (R.fieldAddrP rfl Tryd.underlying76 rfl rfl sz9 rfl) rfl (KL.ld rfl ((o0.cells hcx) 0 _ rfl) (KL.q (R.lenStr (ty := 0) rfl Tryd.underlying9 rfl) rfl ?_))
    refine KL.q (R.add rfl rfl rfl (by dsimp only [InR]; omega)) rfl ?_
    refine KL.fin 1 rfl (KQ.normBlock (KQ.r (KL.run 1 rfl ?_)))
    refine KL.q ((R.add rfl rfl rfl (by dsimp only [InR]; omega)).val (congrArg (Value.int .i64) (show (k3 : Int) + 1 = ((k3 + 1 : Nat) : Int) by omega))) rfl ?_
    refine KL.fin 1 rfl ?_
    refine KQ.again ((k3 + 1, n3 + ((m.exports.getD k3 default).nam.size : Nat))) ?_ ?_ ?_
    · exact Sub.all rfl
    · show m.exports.length - (k3 + 1) < m.exports.length - k3; omega
    exact ⟨by show k3 + 1 ≤ _; omega, by dsimp only; omega, by dsimp only; omega, fun j hj h9 => by dsimp only at hj h9; rcases (by omega : j < k3 ∨ j = k3) with h8 | rfl; exact hP3 j h8 (by omega); omega, rfl⟩
  intro hc114
  try dsimp only at hc114
  simp only [Bool.and_eq_false_iff, decide_eq_false_iff_not] at hc114
  refine KC.exit (KQ.exitThen (KQ.exitThen (KQ.hit (KQ.seq (KC.seq (KC.sr (KL.fin 1 rfl (KQ.seq (KC.block ?_)))))))))
  refine KC.loopD (κ := Nat × Int) [126, 127, 128, 129, 130, 131, 132, 133, 134, 137, 138, 139, 140, 141, 142, 143, 144, 145, 3, 135, 136, 7] (fun k => [(7, .int .i64 (k.1 : Nat)), (3, .int .i64 k.2)]) (fun k Hl => k.1 ≤ m.globs.length ∧ n3 ≤ k.2 ∧ k.2 ≤ 2000000000000000 ∧ (∀ j, j < k.1 → k.2 ≤ 4000 → Isp.bulk (m.globs.getD j default).2 ≤ 4000) ∧ H1 = Hl) (fun k => m.globs.length - k.1) (0, n3) ?_ ?_ ?_
  · exact Sub.all rfl
  · exact ⟨Nat.zero_le _, Int.le_refl _, by dsimp only; omega, fun j hj => absurd hj (Nat.not_lt_zero _), rfl⟩
  rintro ⟨k4, n4⟩ H5 ⟨hk4, hn4, hm4, hP4, rfl⟩
  dsimp only at hk4 hn4 hm4 hP4
  have hz4 : 0 ≤ n4 := by omega
  refine KC.seq (KC.sr (KL.run 2 rfl (KL.ld rfl (cell_of bx rfl) (KL.q (R.lenS rfl Tryd.underlying26 rfl (mv.g.old o0)) rfl (KL.run 2 rfl ?_)))))
  refine KL.opG (fun hq => R.move rfl rfl) rfl rfl rfl ?_
  refine KL.opG (fun hq => R.leq (k := .i64) (a := n4) rfl (by rw [hq]; rfl) rfl) rfl rfl rfl ?_
  refine KL.q (R.and (s := decide (n4 ≤ 4000)) rfl rfl (fun hq => by rw [hq]; rfl)) rfl ?_
  refine KL.nil (KQ.seq ?_)
  refine KC.iq rfl ?_ ?_
  · intro hc134
    try dsimp only at hc134
    obtain ⟨cs, hcl, hcx, a, rfl, ha, r1⟩ := mv.g.at k4 (by omega)
    have hsz := hZ.g _ (En.getD_memD (l := m.globs) (k := k4) (by omega))
    refine KC.skip (KQ.seq (KC.seq (KC.block (KC.region (KL.run 2 rfl (KL.ld rfl (cell_of bx rfl) (KL.run 1 rfl ?_)))))))
    refine KL.q (R.index (j := k4) rfl Tryd.underlying26 sz54 rfl rfl (mv.g.old o0) rfl (by omega)) rfl ?_
    refine KL.q (R.fieldAddrP rfl Tryd.underlying54 rfl rfl sz52 rfl) rfl (KL.ld rfl ((o0.cells hcx) 2 _ rfl) ?_)
    obtain ⟨hnh0, hnh1, hnb⟩ := hvy_is (hsz)
    refine KL.c rfl Tryd.call18 (heavy_any (ha.old o0) (hsz)) ?_
    rintro _ _ ⟨rfl, rfl⟩
    refine KL.q (R.add rfl rfl rfl (by dsimp only [InR]; omega)) rfl ?_
    refine KL.fin 1 rfl (KQ.normBlock (KQ.r (KL.run 1 rfl ?_)))
    refine KL.q ((R.add rfl rfl rfl (by dsimp only [InR]; omega)).val (congrArg (Value.int .i64) (show (k4 : Int) + 1 = ((k4 + 1 : Nat) : Int) by omega))) rfl ?_
    refine KL.fin 1 rfl ?_
    refine KQ.again ((k4 + 1, n4 + hvy (m.globs.getD k4 default).2)) ?_ ?_ ?_
    · exact Sub.all rfl
    · show m.globs.length - (k4 + 1) < m.globs.length - k4; omega
    exact ⟨by show k4 + 1 ≤ _; omega, by dsimp only; omega, by dsimp only; omega, fun j hj h9 => by dsimp only at hj h9; rcases (by omega : j < k4 ∨ j = k4) with h8 | rfl; exact hP4 j h8 (by omega); omega, rfl⟩
  intro hc134
  try dsimp only at hc134
  simp only [Bool.and_eq_false_iff, decide_eq_false_iff_not] at hc134
  refine KC.exit (KQ.exitThen (KQ.exitThen (KQ.hit (KQ.seq (KC.seq (KC.sr (KL.fin 1 rfl (KQ.seq (KC.block ?_)))))))))
  refine KC.loopD (κ := Nat × Int) [146, 147, 148, 149, 150, 151, 152, 153, 154, 157, 158, 159, 160, 161, 162, 163, 164, 165, 166, 167, 168, 169, 170, 171, 172, 173, 3, 155, 156, 8] (fun k => [(8, .int .i64 (k.1 : Nat)), (3, .int .i64 k.2)]) (fun k Hl => k.1 ≤ m.elems.length ∧ n4 ≤ k.2 ∧ k.2 ≤ 2000000000000000 ∧ (∀ j, j < k.1 → k.2 ≤ 4000 → Isp.bulk (m.elems.getD j default).2.1 ≤ 4000 ∧ (m.elems.getD j default).2.2.length ≤ 4000) ∧ H1 = Hl) (fun k => m.elems.length - k.1) (0, n4) ?_ ?_ ?_
  · exact Sub.all rfl
  · exact ⟨Nat.zero_le _, Int.le_refl _, by dsimp only; omega, fun j hj => absurd hj (Nat.not_lt_zero _), rfl⟩
  rintro ⟨k5, n5⟩ H6 ⟨hk5, hn5, hm5, hP5, rfl⟩
  dsimp only at hk5 hn5 hm5 hP5
  have hz5 : 0 ≤ n5 := by omega
  refine KC.seq (KC.sr (KL.run 2 rfl (KL.ld rfl (cell_of bx rfl) (KL.q (R.lenS rfl Tryd.underlying29 rfl (mv.el.old o0)) rfl (KL.run 2 rfl ?_)))))
  refine KL.opG (fun hq => R.move rfl rfl) rfl rfl rfl ?_
  refine KL.opG (fun hq => R.leq (k := .i64) (a := n5) rfl (by rw [hq]; rfl) rfl) rfl rfl rfl ?_
  refine KL.q (R.and (s := decide (n5 ≤ 4000)) rfl rfl (fun hq => by rw [hq]; rfl)) rfl ?_
  refine KL.nil (KQ.seq ?_)
  refine KC.iq rfl ?_ ?_
  · intro hc154
    try dsimp only at hc154
    obtain ⟨cs, hcl, hcx, a, b, rfl, ha, hb, r1⟩ := mv.el.at k5 (by omega)
    have hsz := hZ.el _ (En.getD_memD (l := m.elems) (k := k5) (by omega))
    refine KC.skip (KQ.seq (KC.seq (KC.block (KC.quiet (by kernel_rfl) (by kernel_rfl) (KD.run 2 rfl (KD.ld rfl (cell_of bx rfl) (KD.run 1 rfl ?_)))))))
    refine KD.op (R.index (j := k5) rfl Tryd.underlying29 sz62 rfl rfl (mv.el.old o0) rfl (by omega)) rfl rfl rfl ?_
    refine KD.op (R.fieldAddrP rfl Tryd.underlying62 rfl rfl sz52 rfl) rfl rfl rfl (KD.ld rfl ((o0.cells hcx) 1 _ rfl) ?_)
    obtain ⟨hnh0, hnh1, hnb⟩ := hvy_is (hsz.1)
    refine KD.call rfl rfl rfl rfl Tryd.call18 rfl rfl rfl (heavy_any (ha.old o0) (hsz.1)) ?_
    refine KD.op (R.add rfl rfl rfl (by dsimp only [InR]; omega)) rfl rfl rfl ?_
    refine KD.run 1 rfl (KD.ld rfl (cell_of bx rfl) (KD.run 1 rfl ?_))
    refine KD.op (R.index (j := k5) rfl Tryd.underlying29 sz62 rfl rfl (mv.el.old o0) rfl (by omega)) rfl rfl rfl ?_
    refine KD.op (R.fieldAddrP rfl Tryd.underlying62 rfl rfl sz24 rfl) rfl rfl rfl (KD.ld rfl ((o0.cells hcx) 2 _ rfl) (KD.op (R.lenS rfl Tryd.underlying24 rfl (hb.old o0)) rfl rfl rfl ?_))
    refine KD.op (R.add rfl rfl rfl (by dsimp only [InR]; omega)) rfl rfl rfl ?_
    refine KD.fin 1 rfl (KQ.normBlock (KQ.r (KL.run 1 rfl ?_)))
    refine KL.q ((R.add rfl rfl rfl (by dsimp only [InR]; omega)).val (congrArg (Value.int .i64) (show (k5 : Int) + 1 = ((k5 + 1 : Nat) : Int) by omega))) rfl ?_
    refine KL.fin 1 rfl ?_
    refine KQ.again ((k5 + 1, n5 + hvy (m.elems.getD k5 default).2.1 + ((m.elems.getD k5 default).2.2.length : Nat))) ?_ ?_ ?_
    · exact Sub.all rfl
    · show m.elems.length - (k5 + 1) < m.elems.length - k5; omega
    exact ⟨by show k5 + 1 ≤ _; omega, by dsimp only; omega, by dsimp only; omega, fun j hj h9 => by dsimp only at hj h9; rcases (by omega : j < k5 ∨ j = k5) with h8 | rfl; exact hP5 j h8 (by omega); omega, rfl⟩
  intro hc154
  try dsimp only at hc154
  simp only [Bool.and_eq_false_iff, decide_eq_false_iff_not] at hc154
  refine KC.exit (KQ.exitThen (KQ.exitThen (KQ.hit (KQ.seq (KC.seq (KC.sr (KL.fin 1 rfl (KQ.seq (KC.block ?_)))))))))
  refine KC.loopD (κ := Nat × Int) [174, 175, 176, 177, 178, 179, 180, 181, 182, 185, 186, 187, 188, 189, 190, 191, 192, 193, 194, 195, 196, 197, 198, 199, 200, 201, 3, 183, 184, 9] (fun k => [(9, .int .i64 (k.1 : Nat)), (3, .int .i64 k.2)]) (fun k Hl => k.1 ≤ m.codes.length ∧ n5 ≤ k.2 ∧ k.2 ≤ 2000000000000000 ∧ (∀ j, j < k.1 → k.2 ≤ 4000 → Isp.bulk (m.codes.getD j default).2 ≤ 4000 ∧ (m.codes.getD j default).1.length ≤ 4000) ∧ H1 = Hl) (fun k => m.codes.length - k.1) (0, n5) ?_ ?_ ?_
  · exact Sub.all rfl
  · exact ⟨Nat.zero_le _, Int.le_refl _, by dsimp only; omega, fun j hj => absurd hj (Nat.not_lt_zero _), rfl⟩
  rintro ⟨k6, n6⟩ H7 ⟨hk6, hn6, hm6, hP6, rfl⟩
  dsimp only at hk6 hn6 hm6 hP6
  have hz6 : 0 ≤ n6 := by omega
  refine KC.seq (KC.sr (KL.run 2 rfl (KL.ld rfl (cell_of bx rfl) (KL.q (R.lenS rfl Tryd.underlying30 rfl (mv.c.old o0)) rfl (KL.run 2 rfl ?_)))))
  refine KL.opG (fun hq => R.move rfl rfl) rfl rfl rfl ?_
  refine KL.opG (fun hq => R.leq (k := .i64) (a := n6) rfl (by rw [hq]; rfl) rfl) rfl rfl rfl ?_
  refine KL.q (R.and (s := decide (n6 ≤ 4000)) rfl rfl (fun hq => by rw [hq]; rfl)) rfl ?_
  refine KL.nil (KQ.seq ?_)
  refine KC.iq rfl ?_ ?_
  · intro hc182
    try dsimp only at hc182
    obtain ⟨cs, hcl, hcx, b, a, rfl, hb, ha⟩ := mv.c.at k6 (by omega)
    have hsz := hZ.c _ (En.getD_memD (l := m.codes) (k := k6) (by omega))
    refine KC.skip (KQ.seq (KC.seq (KC.block (KC.quiet (by kernel_rfl) (by kernel_rfl) (KD.run 2 rfl (KD.ld rfl (cell_of bx rfl) (KD.run 1 rfl ?_)))))))
    refine KD.op (R.index (j := k6) rfl Tryd.underlying30 sz58 rfl rfl (mv.c.old o0) rfl (by omega)) rfl rfl rfl ?_
    refine KD.op (R.fieldAddrP rfl Tryd.underlying58 rfl rfl sz52 rfl) rfl rfl rfl (KD.ld rfl ((o0.cells hcx) 1 _ rfl) ?_)
    obtain ⟨hnh0, hnh1, hnb⟩ := hvy_is (hsz.1)
    refine KD.call rfl rfl rfl rfl Tryd.call18 rfl rfl rfl (heavy_any (ha.old o0) (hsz.1)) ?_
    refine KD.op (R.add rfl rfl rfl (by dsimp only [InR]; omega)) rfl rfl rfl ?_
    refine KD.run 1 rfl (KD.ld rfl (cell_of bx rfl) (KD.run 1 rfl ?_))
    refine KD.op (R.index (j := k6) rfl Tryd.underlying30 sz58 rfl rfl (mv.c.old o0) rfl (by omega)) rfl rfl rfl ?_
    refine KD.op (R.fieldAddrP rfl Tryd.underlying58 rfl rfl sz56 rfl) rfl rfl rfl (KD.ld rfl ((o0.cells hcx) 0 _ rfl) (KD.op (R.lenS rfl Tryd.underlying56 rfl (hb.old o0)) rfl rfl rfl ?_))
    refine KD.op (R.add rfl rfl rfl (by dsimp only [InR]; omega)) rfl rfl rfl ?_
    refine KD.fin 1 rfl (KQ.normBlock (KQ.r (KL.run 1 rfl ?_)))
    refine KL.q ((R.add rfl rfl rfl (by dsimp only [InR]; omega)).val (congrArg (Value.int .i64) (show (k6 : Int) + 1 = ((k6 + 1 : Nat) : Int) by omega))) rfl ?_
    refine KL.fin 1 rfl ?_
    refine KQ.again ((k6 + 1, n6 + hvy (m.codes.getD k6 default).2 + ((m.codes.getD k6 default).1.length : Nat))) ?_ ?_ ?_
    · exact Sub.all rfl
    · show m.codes.length - (k6 + 1) < m.codes.length - k6; omega
    exact ⟨by show k6 + 1 ≤ _; omega, by dsimp only; omega, by dsimp only; omega, fun j hj h9 => by dsimp only at hj h9; rcases (by omega : j < k6 ∨ j = k6) with h8 | rfl; exact hP6 j h8 (by omega); omega, rfl⟩
  intro hc182
  try dsimp only at hc182
  simp only [Bool.and_eq_false_iff, decide_eq_false_iff_not] at hc182
  refine KC.exit (KQ.exitThen (KQ.exitThen (KQ.hit (KQ.seq (KC.seq (KC.sr (KL.fin 1 rfl (KQ.seq (KC.block ?_)))))))))
  refine KC.loopD (κ := Nat × Int) [202, 203, 204, 205, 206, 207, 208, 209, 210, 213, 214, 215, 216, 217, 218, 219, 220, 221, 222, 223, 224, 225, 226, 227, 228, 229, 230, 3, 211, 212, 10] (fun k => [(10, .int .i64 (k.1 : Nat)), (3, .int .i64 k.2)]) (fun k Hl => k.1 ≤ m.datas.length ∧ n6 ≤ k.2 ∧ k.2 ≤ 2000000000000000 ∧ (∀ j, j < k.1 → k.2 ≤ 4000 → Isp.bulk (m.datas.getD j default).2.1 ≤ 4000 ∧ (m.datas.getD j default).2.2.length ≤ 200000) ∧ H1 = Hl) (fun k => m.datas.length - k.1) (0, n6) ?_ ?_ ?_
  · exact Sub.all rfl
  · exact ⟨Nat.zero_le _, Int.le_refl _, by dsimp only; omega, fun j hj => absurd hj (Nat.not_lt_zero _), rfl⟩
  rintro ⟨k7, n7⟩ H8 ⟨hk7, hn7, hm7, hP7, rfl⟩
  dsimp only at hk7 hn7 hm7 hP7
  have hz7 : 0 ≤ n7 := by omega
  refine KC.seq (KC.sr (KL.run 2 rfl (KL.ld rfl (cell_of bx rfl) (KL.q (R.lenS rfl Tryd.underlying31 rfl (mv.d.old o0)) rfl (KL.run 2 rfl ?_)))))
  refine KL.opG (fun hq => R.move rfl rfl) rfl rfl rfl ?_
  refine KL.opG (fun hq => R.leq (k := .i64) (a := n7) rfl (by rw [hq]; rfl) rfl) rfl rfl rfl ?_
  refine KL.q (R.and (s := decide (n7 ≤ 4000)) rfl rfl (fun hq => by rw [hq]; rfl)) rfl ?_
  refine KL.nil (KQ.seq ?_)
  refine KC.iq rfl ?_ ?_
  · intro hc210
    try dsimp only at hc210
    obtain ⟨cs, hcl, hcx, a, b, rfl, ha, hb, r1⟩ := mv.d.at k7 (by omega)
    have hsz := hZ.d _ (En.getD_memD (l := m.datas) (k := k7) (by omega))
    refine KC.skip (KQ.seq (KC.seq (KC.block (KC.quiet (by kernel_rfl) (by kernel_rfl) (KD.run 2 rfl (KD.ld rfl (cell_of bx rfl) (KD.run 1 rfl ?_)))))))
    refine KD.op (R.index (j := k7) rfl Tryd.underlying31 sz64 rfl rfl (mv.d.old o0) rfl (by omega)) rfl rfl rfl ?_
    refine KD.op (R.fieldAddrP rfl Tryd.underlying64 rfl rfl sz52 rfl) rfl rfl rfl (KD.ld rfl ((o0.cells hcx) 1 _ rfl) ?_)
    obtain ⟨hnh0, hnh1, hnb⟩ := hvy_is (hsz.1)
    refine KD.call rfl rfl rfl rfl Tryd.call18 rfl rfl rfl (heavy_any (ha.old o0) (hsz.1)) ?_
    refine KD.op (R.add rfl rfl rfl (by dsimp only [InR]; omega)) rfl rfl rfl ?_
    refine KD.run 1 rfl (KD.ld rfl (cell_of bx rfl) (KD.run 1 rfl ?_))
    refine KD.op (R.index (j := k7) rfl Tryd.underlying31 sz64 rfl rfl (mv.d.old o0) rfl (by omega)) rfl rfl rfl ?_
    refine KD.op (R.fieldAddrP rfl Tryd.underlying64 rfl rfl sz36 rfl) rfl rfl rfl (KD.ld rfl ((o0.cells hcx) 2 _ rfl) (KD.op (R.lenS rfl Tryd.underlying36 rfl (hb.old o0)) rfl rfl rfl ?_))
    refine KD.op (R.quo rfl rfl rfl (by omega) (by decide) (by dsimp only [InR]; omega)) rfl rfl rfl ?_
    refine KD.op (R.add rfl rfl rfl (by dsimp only [InR]; omega)) rfl rfl rfl ?_
    refine KD.fin 1 rfl (KQ.normBlock (KQ.r (KL.run 1 rfl ?_)))
    refine KL.q ((R.add rfl rfl rfl (by dsimp only [InR]; omega)).val (congrArg (Value.int .i64) (show (k7 : Int) + 1 = ((k7 + 1 : Nat) : Int) by omega))) rfl ?_
    refine KL.fin 1 rfl ?_
    refine KQ.again ((k7 + 1, n7 + hvy (m.datas.getD k7 default).2.1 + ((m.datas.getD k7 default).2.2.length : Nat) / 32)) ?_ ?_ ?_
    · exact Sub.all rfl
    · show m.datas.length - (k7 + 1) < m.datas.length - k7; omega
    exact ⟨by show k7 + 1 ≤ _; omega, by dsimp only; omega, by dsimp only; omega, fun j hj h9 => by dsimp only at hj h9; rcases (by omega : j < k7 ∨ j = k7) with h8 | rfl; exact hP7 j h8 (by omega); omega, rfl⟩
  intro hc210
  try dsimp only at hc210
  simp only [Bool.and_eq_false_iff, decide_eq_false_iff_not] at hc210
  refine KC.exit (KQ.exitThen (KQ.exitThen (KQ.hit (KQ.sr (KL.fin 3 rfl (KQ.seq (KC.ret (KQ.ofRet (KQ.fin1 Tryd.results7 rfl ?_)))))))))
  exact ⟨_, rfl, fun h9 => by (have h7 := of_decide_eq_false h9); exact ⟨by omega, mem_all (fun j hj => hP1 j (by omega) (by omega)), mem_all (fun j hj => hP2 j (by omega) (by omega)), mem_all (fun j hj => hP3 j (by omega) (by omega)), mem_all (fun j hj => hP4 j (by omega) (by omega)), mem_all (fun j hj => hP5 j (by omega) (by omega)), mem_all (fun j hj => hP6 j (by omega) (by omega)), mem_all (fun j hj => hP7 j (by omega) (by omega))⟩, o0⟩
end Go.Proofs.YtldmfchamcpmmaaDoor
namespace Go.Proofs.YtldmfchamcpmmaaDoor
open Go Go.RowKit
set_option linter.unusedVariables false
set_option linter.unusedSimpArgs false
set_option linter.unnecessarySimpa false
instance : Inhabited Mo := ⟨⟨[], [], [], [], [], [], [], false, 0, [], [], []⟩⟩
namespace En
section
variable {m : Mo} {u : Value} {H : Heap}
theorem res_bad (h : ok m = false) (r : ERes m u H) : u = .tuple #[.slice none 0 0, .int .i64 2] := by
  rcases r with ⟨_, r⟩ | ⟨h2, _⟩ | ⟨h2, _⟩
  · exact r
  · rw [h] at h2; cases h2
  rw [h] at h2; cases h2
theorem res_long (h : ok m = true) (hl : 65536 < (bin m).length) (r : ERes m u H) : u = .tuple #[.slice none 0 0, .int .i64 3] := by
  rcases r with ⟨h2, _⟩ | ⟨_, _, r⟩ | ⟨_, h3, _⟩
  · rw [h] at h2; cases h2
  · exact r
  omega
theorem res_good (h : ok m = true) (hl : (bin m).length ≤ 65536) (r : ERes m u H) : ∃ v, u = .tuple #[v, .int .i64 0] ∧ Sl 1 (EInt .u8) H v (bin m) := by
  rcases r with ⟨h2, _⟩ | ⟨_, h3, _⟩ | ⟨_, _, r⟩
  · rw [h] at h2; cases h2
  · omega
  exact r
end
def mo0 : Mo := ⟨[], [], [], [], [], [], [], false, 0, [], [], []⟩
def mo1 : Mo := ⟨[([], [])], [], [0], [], [], [], [], false, 0, [], [([], [])], []⟩
def moa : Mo := ⟨[], [], [0], [], [], [], [], false, 0, [], [], []⟩
def mob : Mo := ⟨[], [⟨⟨#[]⟩, ⟨#[]⟩, 4, 0, (0, 0), (0, false)⟩], [], [], [], [], [], false, 0, [], [], []⟩
def moc : Mo := ⟨[], [], [], [], [], [((124, false), [])], [], false, 0, [], [], []⟩
theorem small0 : Small mo0 := ⟨by simp [mo0], by simp [mo0], by simp [mo0], by simp [mo0], by simp [mo0], by simp [mo0], by simp [mo0], by simp [mo0]⟩
theorem small1 : Small mo1 := ⟨by simp [mo1], by simp [mo1], by simp [mo1], by simp [mo1], by simp [mo1], by simp [mo1], by simp [mo1, Isp.bulk], by simp [mo1]⟩
theorem smalla : Small moa := ⟨by simp [moa], by simp [moa], by simp [moa], by simp [moa], by simp [moa], by simp [moa], by simp [moa], by simp [moa]⟩
theorem smallb : Small mob := ⟨by simp [mob], by simp [mob], by intro x hx; simp only [mob, List.mem_singleton] at hx; subst hx; exact ⟨by decide, by decide⟩, by simp [mob], by simp [mob], by simp [mob], by simp [mob], by simp [mob]⟩
theorem smallc : Small moc := ⟨by simp [moc], by simp [moc], by simp [moc], by simp [moc], by simp [moc, Isp.bulk], by simp [moc], by simp [moc], by simp [moc]⟩
theorem has_nil : has [] = true := has_yes ⟨rfl, fun x hx => by cases hx⟩
theorem expr_nil : exprB [] = [11] := by unfold exprB; rw [if_pos has_nil]; rfl
theorem ok0 : ok mo0 = true := by simp [ok, mo0]
theorem bin0 : bin mo0 = Sc.beg := by simp [bin, secs, sec, mo0, Sc.body]
theorem ok1 : ok mo1 = true := by simp [ok, mo1, codO, typO, locS, has_nil]
theorem body1 : Sc.body (secs mo1) = [1, 4, 1, 96, 0, 0, 3, 2, 1, 0, 10, 4, 1, 2, 0, 11] := by
  simp only [secs, sec, mo1, List.length_nil, List.length_cons, if_true, if_false, List.nil_append, List.append_nil, lst, List.flatMap_cons, List.flatMap_nil, codB, codI, expr_nil, typB]
  rfl
theorem bin1 : bin mo1 = Sc.beg ++ [1, 4, 1, 96, 0, 0, 3, 2, 1, 0, 10, 4, 1, 2, 0, 11] := by
  unfold bin; rw [body1]
theorem oka : ok moa = false := by simp [ok, moa]
theorem okb : ok mob = false := by simp [ok, mob, impO, impO2]
theorem okc : ok moc = false := by simp [ok, moc, gloO, globO, vOk]
def mods : List Mo := [moa, mob, moc]
theorem mods_bad {k : Nat} (hk : k < 3) : ok (mods.getD k default) = false := by
  match k, hk with
  | 0, _ => exact oka
  | 1, _ => exact okb
  | 2, _ => exact okc
theorem mods_small {k : Nat} (hk : k < 3) : Small (mods.getD k default) := by
  match k, hk with
  | 0, _ => exact smalla
  | 1, _ => exact smallb
  | 2, _ => exact smallc
end En
def EMoZ : El Mo := fun H cs m => ∃ t i f tb me g e el c d, cs = [t, i, f, tb, me, g, e, .bool m.hasStart, .int .u32 m.start, el, c, d] ∧ MoV H t i f tb me g e el c d m
instance : Keeps EMoZ := ⟨fun o h => by obtain ⟨t, i, f, tb, me, g, e, el, c, d, hc, mv⟩ := h; exact ⟨t, i, f, tb, me, g, e, el, c, d, hc, mv.old o⟩⟩
theorem Encode_good {H : Heap} {t i f tb me g e el c d : Value} {m : Mo} (mv : MoV H t i f tb me g e el c d m) (hS : En.Small m) (hT : TabU H) (h : En.ok m = true) (hl : (En.bin m).length ≤ 65536) : Ct Tryd.prog 8 [.agg [t, i, f, tb, me, g, e, .bool m.hasStart, .int .u32 m.start, el, c, d].toArray] H (fun u H' => ∃ v, u = .tuple #[v, .int .i64 0] ∧ Sl 1 (EInt .u8) H' v (En.bin m) ∧ Old H H') :=
  (Encode_any mv hS hT).mono (fun _ _ r => by obtain ⟨v, e, s⟩ := En.res_good h hl r.1; exact ⟨v, e, s, r.2⟩)
theorem Encode_bad {H : Heap} {t i f tb me g e el c d : Value} {m : Mo} (mv : MoV H t i f tb me g e el c d m) (hS : En.Small m) (hT : TabU H) (h : En.ok m = false) : Ct Tryd.prog 8 [.agg [t, i, f, tb, me, g, e, .bool m.hasStart, .int .u32 m.start, el, c, d].toArray] H (fun u H' => u = .tuple #[.slice none 0 0, .int .i64 2] ∧ Old H H') :=
  (Encode_any mv hS hT).mono (fun _ _ r => ⟨En.res_bad h r.1, r.2⟩)
theorem REncode_good {H : Heap} {t i f tb me g e el c d : Value} {m : Mo} (mv : MoV H t i f tb me g e el c d m) (hS : En.Small m) (h : En.ok m = true) (hl : (En.bin m).length ≤ 65536) : Ct Tryd.prog 9 [.agg [t, i, f, tb, me, g, e, .bool m.hasStart, .int .u32 m.start, el, c, d].toArray] H (fun u H' => ∃ v, u = .tuple #[v, .int .i64 0] ∧ Sl 1 (EInt .u8) H' v (En.bin m) ∧ Old H H') :=
  (REncode_any mv hS).mono (fun _ _ r => by obtain ⟨v, e, s⟩ := En.res_good h hl r.1; exact ⟨v, e, s, r.2⟩)
theorem REncode_bad {H : Heap} {t i f tb me g e el c d : Value} {m : Mo} (mv : MoV H t i f tb me g e el c d m) (hS : En.Small m) (h : En.ok m = false) : Ct Tryd.prog 9 [.agg [t, i, f, tb, me, g, e, .bool m.hasStart, .int .u32 m.start, el, c, d].toArray] H (fun u H' => u = .tuple #[.slice none 0 0, .int .i64 2] ∧ Old H H') :=
  (REncode_any mv hS).mono (fun _ _ r => ⟨En.res_bad h r.1, r.2⟩)
theorem REncode_long {H : Heap} {t i f tb me g e el c d : Value} {m : Mo} (mv : MoV H t i f tb me g e el c d m) (hS : En.Small m) (h : En.ok m = true) (hl : 65536 < (En.bin m).length) : Ct Tryd.prog 9 [.agg [t, i, f, tb, me, g, e, .bool m.hasStart, .int .u32 m.start, el, c, d].toArray] H (fun u H' => u = .tuple #[.slice none 0 0, .int .i64 3] ∧ Old H H') :=
  (REncode_any mv hS).mono (fun _ _ r => ⟨En.res_long h hl r.1, r.2⟩)
theorem known_any {H : Heap} (hT : TabU H) : Ct Tryd.prog 6 [] H (fun u H' => u = .bool true ∧ Old H H') := by
  refine Ct.mk Tryd.func6 rfl Tryd.ntmps6 rfl ?_
  intro W0 hW0
  have o0 : Old H H := Old.refl H
  refine KC.sr (KL.fin 1 rfl (KQ.sr (KL.b0 bt33 rfl rfl ?_)))
  refine KL.c rfl Tryd.call8 (Encode_good (m := En.mo0) ⟨(Sl.nil _ _ _), (Sl.nil _ _ _), (Sl.nil _ _ _), (Sl.nil _ _ _), (Sl.nil _ _ _), (Sl.nil _ _ _), (Sl.nil _ _ _), (Sl.nil _ _ _), (Sl.nil _ _ _), (Sl.nil _ _ _), by decide⟩ En.small0 (hT.old o0) En.ok0 (by rw [En.bin0]; decide)) ?_
  rintro _ H1 ⟨v0, rfl, sv0, ox⟩
  have zc_H1 := (ox).1
  have o0 := o0.trans ox
  rw [En.bin0] at sv0
  refine KL.fin 5 rfl (KQ.sr (KL.b0 bt44 rfl rfl ?_))
  refine KL.m (M.lit rfl Tryd.underlying22 zs44 (by decide) rfl rfl rfl) rfl ?_
  rintro _ H2 ⟨rfl, n2⟩
  have z2 := n2.2.1
  have o0 := o0.trans n2.1
  have sv0 := sv0.old n2.1
  have b2 := n2.2.2
  have s17 : Sl 2 EFTy H2 _ [(([] : List Int), ([] : List Int))] := Sl.lit1N n2 rfl (by decide) ⟨_, _, rfl, Sl.nil _ _ _, Sl.nil _ _ _⟩
  refine KL.m (M.lit rfl Tryd.underlying24 zs28 (by decide) rfl rfl rfl) rfl ?_
  rintro _ H3 ⟨rfl, n3⟩
  have z3 := n3.2.1
  have o0 := o0.trans n3.1
  have sv0 := sv0.old n3.1
  have s17 := s17.old n3.1
  have b3 := n3.2.2
  have s18 : Sl 1 (EInt .u32) H3 _ [0] := Sl.lits (l := [0]) n3 rfl (by simp) (by decide)
  refine KL.b0 bt58 rfl rfl ?_
  refine KL.m (M.lit rfl Tryd.underlying30 zs58 (by decide) rfl rfl rfl) rfl ?_
  rintro _ H4 ⟨rfl, n4⟩
  have z4 := n4.2.1
  have o0 := o0.trans n4.1
  have sv0 := sv0.old n4.1
  have s17 := s17.old n4.1
  have s18 := s18.old n4.1
  have b4 := n4.2.2
  have s20 : Sl 2 ECod H4 _ [(([] : List (Int × Int)), ([] : List Ins))] := Sl.lit1N n4 rfl (by decide) ⟨_, _, rfl, Sl.nil _ _ _, Sl.nil _ _ _⟩
  refine KL.b0 bt33 rfl rfl ?_
  refine KL.c rfl Tryd.call8 (Encode_good (m := En.mo1) ⟨s17, (Sl.nil _ _ _), s18, (Sl.nil _ _ _), (Sl.nil _ _ _), (Sl.nil _ _ _), (Sl.nil _ _ _), (Sl.nil _ _ _), s20, (Sl.nil _ _ _), by decide⟩ En.small1 (hT.old o0) En.ok1 (by rw [En.bin1]; decide)) ?_
  rintro _ H5 ⟨v1, rfl, sv1, ox⟩
  have zc_H5 := (ox).1
  have o0 := o0.trans ox
  have sv0 := sv0.old ox
  have s17 := s17.old ox
  have s18 := s18.old ox
  have s20 := s20.old ox
  rw [En.bin1] at sv1
  refine KL.fin 5 rfl (KQ.sr ?_)
  refine KL.c rfl Tryd.call17 (Begin_any) ?_
  rintro vw H6 ⟨ww, ox⟩
  have zc_H6 := (ox).1
  have o0 := o0.trans ox
  have sv0 := sv0.old ox
  have s17 := s17.old ox
  have s18 := s18.old ox
  have s20 := s20.old ox
  have sv1 := sv1.old ox
  have sw := ww.sl (emptyOld _) (by decide)
  refine KL.q (R.convBS rfl Tryd.underlying36 Tryd.underlying5 Tryd.underlying9 rfl (sw)) rfl (KL.fin 1 rfl (KQ.seq (KC.seq (KC.sr (KL.run 1 rfl (KL.q (R.convBS rfl Tryd.underlying36 Tryd.underlying5 Tryd.underlying9 rfl (sv0)) rfl (KL.run 1 rfl ?_)))))))
  refine KL.q ((R.neqStr rfl rfl rfl).val (congrArg Value.bool (show _ = false by simp))) rfl ?_
  refine KL.run 2 rfl (KL.q ((R.neq rfl rfl rfl).val ((congrArg (fun b => Value.bool (!b)) (decide_eq_true rfl)))) rfl (KL.run 3 rfl (KL.q (R.convBS rfl Tryd.underlying36 Tryd.underlying5 Tryd.underlying9 rfl (sv1)) rfl (KL.run 1 rfl ?_))))
  refine KL.q (R.addStr rfl rfl rfl (by rw [bstr_size (by decide)]; decide)) rfl ?_
  refine KL.q ((R.neqStr rfl rfl rfl).val (congrArg Value.bool (show _ = false from by decide +kernel))) rfl (KL.run 3 rfl (KL.q ((R.neq rfl rfl rfl).val ((congrArg (fun b => Value.bool (!b)) (decide_eq_true rfl)))) rfl (KL.fin 1 rfl (KQ.seq (KC.condF rfl (KC.skip (KQ.seq (KC.seq (KC.sr ?_)))))))))
  refine KL.m (M.lit rfl Tryd.underlying24 zs28 (by decide) rfl rfl rfl) rfl ?_
  rintro _ H7 ⟨rfl, n7⟩
  have z7 := n7.2.1
  have o0 := o0.trans n7.1
  have sv0 := sv0.old n7.1
  have s17 := s17.old n7.1
  have s18 := s18.old n7.1
  have s20 := s20.old n7.1
  have sv1 := sv1.old n7.1
  have sw := sw.old n7.1
  have b7 := n7.2.2
  have s46 : Sl 1 (EInt .u32) H7 _ [0] := Sl.lits (l := [0]) n7 rfl (by simp) (by decide)
  refine KL.b0 bt33 rfl rfl (KL.b0 bt51 rfl rfl ?_)
  refine KL.m (M.lit rfl Tryd.underlying23 zs51 (by decide) rfl rfl rfl) rfl ?_
  rintro _ H8 ⟨rfl, n8⟩
  have z8 := n8.2.1
  have o0 := o0.trans n8.1
  have sv0 := sv0.old n8.1
  have s17 := s17.old n8.1
  have s18 := s18.old n8.1
  have s20 := s20.old n8.1
  have sv1 := sv1.old n8.1
  have sw := sw.old n8.1
  have s46 := s46.old n8.1
  have b8 := n8.2.2
  have s49 : Sl 8 EImp H8 _ [(⟨⟨#[]⟩, ⟨#[]⟩, 4, 0, (0, 0), (0, false)⟩ : Imp)] := Sl.lit1N n8 rfl (by decide) ⟨rfl, by decide, by decide, by decide, by decide, by decide⟩
  refine KL.b0 bt33 rfl rfl (KL.b0 bt49 rfl rfl (KL.q (R.build (places := #[(0, 2), (2, 1)]) (cs := #[.int .u8 124, .bool false, .slice none 0 0]) rfl Tryd.underlying54 zr54 (fun w => by kernel_rfl) rfl (by kernel_rfl)) rfl ?_))
  refine KL.m (M.lit rfl Tryd.underlying26 zs54 (by decide) rfl rfl rfl) rfl ?_
  rintro _ H9 ⟨rfl, n9⟩
  have z9 := n9.2.1
  have o0 := o0.trans n9.1
  have sv0 := sv0.old n9.1
  have s17 := s17.old n9.1
  have s18 := s18.old n9.1
  have s20 := s20.old n9.1
  have sv1 := sv1.old n9.1
  have sw := sw.old n9.1
  have s46 := s46.old n9.1
  have s49 := s49.old n9.1
  have b9 := n9.2.2
  have s53 : Sl 3 EGlo H9 _ [(((124, false), []) : Glo)] := Sl.lit1N n9 rfl (by decide) ⟨_, rfl, Sl.nil _ _ _, by decide⟩
  refine KL.b0 bt33 rfl rfl ?_
  refine KL.m (M.lit rfl Tryd.underlying74 zs33 (by decide) rfl rfl rfl) rfl ?_
  rintro _ H10 ⟨rfl, n10⟩
  have z10 := n10.2.1
  have o0 := o0.trans n10.1
  have sv0 := sv0.old n10.1
  have s17 := s17.old n10.1
  have s18 := s18.old n10.1
  have s20 := s20.old n10.1
  have sv1 := sv1.old n10.1
  have sw := sw.old n10.1
  have s46 := s46.old n10.1
  have s49 := s49.old n10.1
  have s53 := s53.old n10.1
  have b10 := n10.2.2
  have s55 : Sl 12 EMoZ H10 (.slice (some ⟨_, 0, none⟩) 3 3) En.mods := (Own.litN (E := EMoZ) (H0 := H10) (B := 0) (l := En.mods) (m := 3) n10 (Nat.zero_le _) rfl (by decide) rfl (by
    intro j x hj
    match j, hj with
    | 0, hj => cases hj; exact ⟨_, _, _, _, _, _, _, _, _, _, rfl, Sl.nil _ _ _, Sl.nil _ _ _, s46, Sl.nil _ _ _, Sl.nil _ _ _, Sl.nil _ _ _, Sl.nil _ _ _, Sl.nil _ _ _, Sl.nil _ _ _, Sl.nil _ _ _, by decide⟩
    | 1, hj => cases hj; exact ⟨_, _, _, _, _, _, _, _, _, _, rfl, Sl.nil _ _ _, s49, Sl.nil _ _ _, Sl.nil _ _ _, Sl.nil _ _ _, Sl.nil _ _ _, Sl.nil _ _ _, Sl.nil _ _ _, Sl.nil _ _ _, Sl.nil _ _ _, by decide⟩
    | 2, hj => cases hj; exact ⟨_, _, _, _, _, _, _, _, _, _, rfl, Sl.nil _ _ _, Sl.nil _ _ _, Sl.nil _ _ _, Sl.nil _ _ _, Sl.nil _ _ _, s53, Sl.nil _ _ _, Sl.nil _ _ _, Sl.nil _ _ _, Sl.nil _ _ _, by decide⟩)).sl (Old.refl _) (by decide)
  refine KL.q (R.lenS rfl Tryd.underlying74 rfl s55) rfl (KL.fin 1 rfl (KQ.seq (KC.block ?_)))
  refine KC.loopD (κ := Nat) [58, 59, 60, 7, 62, 63, 61, 64, 65, 8, 9, 66, 67, 68, 69, 70, 71, 72, 0, 73, 57] (fun k => [(57, .int .i64 (k : Nat))]) (fun k Hl => k ≤ 3 ∧ Old H Hl ∧ Sl 12 EMoZ Hl (.slice (some ⟨Array.size H9, 0, none⟩) 3 3) En.mods) (fun k => 3 - k) 0 ?_ ?_ ?_
  · exact Sub.all rfl
  · exact ⟨by omega, o0, s55⟩
  rintro k H11 ⟨hk, o0, s55⟩
  have zl_H11 := o0.1
  have zl := o0.1
  refine KC.sr (KL.fin 1 rfl (KQ.seq (KC.seq ?_)))
  refine KC.iq rfl ?_ ?_
  · intro hc58
    have hk3 : k < 3 := by have h9 : ((En.mods.length : Nat) : Int) = 3 := rfl; omega
    obtain ⟨cs, hcl, hcx, t, i, f, tb, me, g, e, el, c, d, rfl, mv⟩ := s55.at k hk3
    refine KC.skip (KQ.seq (KC.seq (KC.block (KC.sr (KL.q (R.index (j := k) rfl Tryd.underlying74 sz33 rfl rfl s55 rfl hk3) rfl (KL.lda rfl hcx rfl ?_))))))
    have oK : Old H11 H11 := Old.refl _
    have sK := s55
    refine KL.m (M.alloc rfl zr33 rfl) rfl ?_
    rintro _ H12 ⟨rfl, n12⟩
    have z12 := n12.2.1
    have o0 := o0.trans n12.1
    have s55 := s55.old n12.1
    have oK := oK.trans n12.1
    have b12 := n12.2.2
    have b7 := b12
    refine KL.opS (S.storeAgg rfl sz33 rfl rfl (rfl) (by intro z hz; simp only [List.mem_cons, List.not_mem_nil, or_false] at hz; rcases hz with rfl | rfl | rfl | rfl | rfl | rfl | rfl | rfl | rfl | rfl | rfl | rfl <;> first | rfl | exact mv.t.one | exact mv.i.one | exact mv.f.one | exact mv.tb.one | exact mv.me.one | exact mv.g.one | exact mv.e.one | exact mv.el.one | exact mv.c.one | exact mv.d.one) b7 (by simp)) rfl rfl ?_
    rintro H13 ⟨u13, b13⟩
    have o0 := o0.upd u13 (by omega)
    have zu13 := u13.1
    have oK := oK.upd u13 (by omega)
    have b7 := b13
    rw [over_all (by rfl)] at b7
    have s55 := sK.old oK
    refine KL.nil (KQ.sr (KL.lda rfl (cells_of b7) rfl ?_))
    refine KL.c rfl Tryd.call8 (Encode_bad (mv.old oK) (En.mods_small hk3) (hT.old o0) (En.mods_bad hk3)) ?_
    rintro _ H14 ⟨rfl, ox⟩
    have zc_H14 := (ox).1
    have o0 := o0.trans ox
    have oK := oK.trans ox
    have b7 := (ox).blk b7
    have s55 := s55.old ox
    refine KL.fin 5 rfl (KQ.sr (KL.run 1 rfl (KL.q (R.lenS rfl Tryd.underlying36 rfl (Sl.nil 1 (EInt .u8) H)) rfl (KL.q ((R.neq rfl rfl rfl).val ((congrArg (fun b => Value.bool (!b)) (decide_eq_true rfl)))) rfl (KL.run 2 rfl (KL.q ((R.neq rfl rfl rfl).val ((congrArg (fun b => Value.bool (!b)) (decide_eq_true rfl)))) rfl (KL.fin 1 rfl (KQ.seq (KC.condF rfl (KC.skip (KQ.normBlock ?_)))))))))))
    refine KQ.r ?_
    refine KL.q ((R.add rfl rfl rfl (by dsimp only [InR]; omega)).val (congrArg (Value.int .i64) (show (k : Int) + 1 = ((k + 1 : Nat) : Int) by omega))) rfl ?_
    refine KL.fin 1 rfl ?_
    refine KQ.again (k + 1) ?_ ?_ ?_
    · exact Sub.all rfl
    · omega
    exact ⟨by omega, o0, s55⟩
  intro hc58
  refine KC.exit (KQ.exitThen (KQ.exitThen (KQ.hit (KQ.sr (KL.fin 1 rfl (KQ.seq (KC.ret (KQ.ofRet (KQ.fin1 Tryd.results6 rfl ?_)))))))))
  exact ⟨rfl, o0⟩
theorem EncBytes_any {H : Heap} {t i f tb me g e el c d : Value} {m : Mo} (mv : MoV H t i f tb me g e el c d m) (hZ : Szd m) (hT : TabU H) : Ct Tryd.prog 3 [.agg [t, i, f, tb, me, g, e, .bool m.hasStart, .int .u32 m.start, el, c, d].toArray] H (fun u H' => u = .bool true ∧ Old H H') := by
  refine Ct.mk Tryd.func3 rfl Tryd.ntmps3 rfl ?_
  intro W0 hW0
  have o0 : Old H H := Old.refl H
  refine KC.sr ?_
  refine KL.m (M.box rfl rfl rfl) rfl ?_
  rintro _ H1 ⟨rfl, n1⟩
  have z1 := n1.2.1
  have o0 := o0.trans n1.1
  have b1 := n1.2.2
  have bx := b1
  refine KL.fin 1 rfl (KQ.seq (KC.seq (KC.sr ?_)))
  refine KL.c rfl Tryd.call6 (known_any (hT.old o0)) ?_
  rintro _ H2 ⟨rfl, ox⟩
  have zc_H2 := (ox).1
  have o0 := o0.trans ox
  have bx := (ox).blk bx
  refine KL.fin 1 rfl (KQ.seq (KC.condF rfl (KC.skip (KQ.seq (KC.seq (KC.sr (KL.lda rfl (cells_of bx) rfl ?_)))))))
  refine KL.c rfl Tryd.call7 (Great_any (mv.old o0) hZ) ?_
  rintro _ H3 ⟨hv, rfl, hsm, ox⟩
  have zc_H3 := (ox).1
  have o0 := o0.trans ox
  have bx := (ox).blk bx
  refine KL.nil (KQ.seq ?_)
  refine KC.iq rfl ?_ ?_
  · intro hc10
    refine KC.sr (KL.fin 1 rfl (KQ.seq (KC.ret (KQ.retThen (KQ.ofRet (KQ.fin1 Tryd.results3 rfl ?_))))))
    exact ⟨rfl, o0⟩
  intro hc10
  have hS := hsm hc10
  refine KC.skip (KQ.sr (KL.lda rfl (cells_of bx) rfl ?_))
  refine KL.c rfl Tryd.call8 (Encode_any (mv.old o0) hS (hT.old o0)) ?_
  rintro _ H4 ⟨hR, ox⟩
  have zc_H4 := (ox).1
  have o0 := o0.trans ox
  have bx := (ox).blk bx
  rcases hR with ⟨hok, rfl⟩ | ⟨hok, hlen, rfl⟩ | ⟨hok, hlen, v, rfl, sv⟩
  · skip
    refine KL.fin 5 rfl (KQ.sr (KL.lda rfl (cells_of bx) rfl ?_))
    refine KL.c rfl Tryd.call9 (REncode_bad (mv.old o0) hS hok) ?_
    rintro _ H5 ⟨rfl, ox⟩
    have zc_H5 := (ox).1
    have o0 := o0.trans ox
    have bx := (ox).blk bx
    refine KL.fin 5 rfl (KQ.sr (KL.run 1 rfl (KL.q (R.convBS rfl Tryd.underlying36 Tryd.underlying5 Tryd.underlying9 rfl (Sl.nil 1 (EInt .u8) _)) rfl (KL.run 1 rfl (KL.q (R.convBS rfl Tryd.underlying36 Tryd.underlying5 Tryd.underlying9 rfl (Sl.nil 1 (EInt .u8) _)) rfl ?_)))))
    refine KL.q ((R.eqlStr rfl rfl rfl).val (congrArg Value.bool (show _ = true by simp))) rfl ?_
    refine KL.run 3 rfl (KL.q ((R.eql rfl rfl rfl).val (congrArg Value.bool (decide_eq_true rfl))) rfl (KL.fin 2 rfl (KQ.seq (KC.ret (KQ.ofRet (KQ.fin1 Tryd.results3 rfl ?_))))))
    exact ⟨rfl, o0⟩
  · skip
    refine KL.fin 5 rfl (KQ.sr (KL.lda rfl (cells_of bx) rfl ?_))
    refine KL.c rfl Tryd.call9 (REncode_long (mv.old o0) hS hok hlen) ?_
    rintro _ H6 ⟨rfl, ox⟩
    have zc_H6 := (ox).1
    have o0 := o0.trans ox
    have bx := (ox).blk bx
    refine KL.fin 5 rfl (KQ.sr (KL.run 1 rfl (KL.q (R.convBS rfl Tryd.underlying36 Tryd.underlying5 Tryd.underlying9 rfl (Sl.nil 1 (EInt .u8) _)) rfl (KL.run 1 rfl (KL.q (R.convBS rfl Tryd.underlying36 Tryd.underlying5 Tryd.underlying9 rfl (Sl.nil 1 (EInt .u8) _)) rfl ?_)))))
    refine KL.q ((R.eqlStr rfl rfl rfl).val (congrArg Value.bool (show _ = true by simp))) rfl ?_
    refine KL.run 3 rfl (KL.q ((R.eql rfl rfl rfl).val (congrArg Value.bool (decide_eq_true rfl))) rfl (KL.fin 2 rfl (KQ.seq (KC.ret (KQ.ofRet (KQ.fin1 Tryd.results3 rfl ?_))))))
    exact ⟨rfl, o0⟩
  refine KL.fin 5 rfl (KQ.sr (KL.lda rfl (cells_of bx) rfl ?_))
  refine KL.c rfl Tryd.call9 (REncode_good (mv.old o0) hS hok hlen) ?_
  rintro _ H7 ⟨v2, rfl, sv2, ox⟩
  have zc_H7 := (ox).1
  have o0 := o0.trans ox
  have bx := (ox).blk bx
  have sv := sv.old ox
  refine KL.fin 5 rfl (KQ.sr (KL.run 1 rfl (KL.q (R.convBS rfl Tryd.underlying36 Tryd.underlying5 Tryd.underlying9 rfl (sv)) rfl (KL.run 1 rfl (KL.q (R.convBS rfl Tryd.underlying36 Tryd.underlying5 Tryd.underlying9 rfl (sv2)) rfl ?_)))))
  refine KL.q ((R.eqlStr rfl rfl rfl).val (congrArg Value.bool (show _ = true by simp))) rfl ?_
  refine KL.run 3 rfl (KL.q ((R.eql rfl rfl rfl).val (congrArg Value.bool (decide_eq_true rfl))) rfl (KL.fin 2 rfl (KQ.seq (KC.ret (KQ.ofRet (KQ.fin1 Tryd.results3 rfl ?_))))))
  exact ⟨rfl, o0⟩
end Go.Proofs.YtldmfchamcpmmaaDoor
namespace Go.Proofs.YtldmfchamcpmmaaDoor
open Go Go.RowKit Go.ChangeShapes Go.WideShapes Go.Deep
set_option linter.unusedVariables false
set_option linter.unusedSimpArgs false
def OpensW (P : Program) (t : TypeId) {α : Type} (E : El α) : Prop :=
  ∀ (H : Type) (enc : TypeId × Value → H) (w : World) (base : Nat) (spare : Nat → Bool) (held : Bool) (fuel : Nat) (cs : List Value) (x : DataW H × List MemPlace), DataW.trod enc P w base spare held fuel t cs = some x → (∀ n ∈ x.1.weights P t, n ≤ 140737488351232) → ∃ y, E w.heap cs y
theorem Opens.w {P : Program} {t : TypeId} {α : Type} {E : El α} (h : Opens P t E) : OpensW P t E := fun H enc w base spare held fuel cs x hx _ => h H enc w base spare held fuel cs x hx
theorem weightsAll_mem {H : Type} {P : Program} {e : TypeId} : ∀ {l : List (DataW H)} {d : DataW H} {n : Nat}, d ∈ l → n ∈ d.weights P e → n ∈ DataW.weightsAll P e l
  | d' :: l, d, n, hd, hn => by
    simp only [DataW.weightsAll, List.mem_append]
    rcases List.mem_cons.1 hd with rfl | hd
    · exact .inl hn
    exact .inr (weightsAll_mem hd hn)
/-- a slice whose elements read so, and whose bytes are bounded -/
def ESlB {α : Type} (b n : Nat) (E : El α) : El (List α) := fun H cs l => ∃ v, cs = [v] ∧ Sl n E H v l ∧ l.length * b ≤ 140737488351232
theorem opensW_slice {P : Program} {t e : TypeId} {α : Type} [Inhabited α] {n b : Nat} {E : El α} (ht : P.underlying t = some (.slice e)) (hn : P.cellsOf e = n) (hb : P.bytesOf e = b) (hpos : 0 < n) (hE : OpensW P e E) : OpensW P t (ESlB b n E) := by
  intro H enc w base spare held fuel cs x h hwt
  subst hn
  subst hb
  rcases open_slice ht h with ⟨rfl, _⟩ | ⟨a, len, cap, m, f, D, Pl, rfl, _, hl, hm, hmm, rfl, hi⟩
  · exact ⟨[], _, rfl, Sl.nil _ _ _, by simp⟩
  have hlm : len ≤ m := by rw [hmm]; split <;> omega
  have hlb : len * P.bytesOf e ≤ 140737488351232 := by
    have h9 := hwt ((len + (m - len)) * P.bytesOf e) (by simp [DataW.weights, ht])
    exact Nat.le_trans (Nat.mul_le_mul_right _ (by omega)) h9
  have hdi : ∀ i, i < len → ∀ q ∈ (D i).weights P e, q ≤ 140737488351232 := by
    intro i hil q hq
    refine hwt q ?_
    simp only [DataW.weights, ht, List.mem_cons, List.mem_append]
    exact .inr (.inl (weightsAll_mem (List.mem_map.2 ⟨i, List.mem_range.2 hil, rfl⟩) hq))
  have hex : ∀ i, i < len → ∃ y : α, ∃ cs', w.cells? base (a.add (i * P.cellsOf e)) (P.cellsOf e) = some cs' ∧ E w.heap cs' y := by
    intro i hil
    obtain ⟨cs', hc, ht'⟩ := hi i (by omega)
    obtain ⟨y, hy⟩ := hE _ _ _ _ _ _ _ _ _ ht' (hdi i hil)
    exact ⟨y, cs', hc, hy⟩
  obtain ⟨F, hF⟩ := choose_lt hex
  by_cases h0 : len = 0
  · subst h0
    exact ⟨[], _, rfl, ⟨some a, cap, rfl, by simp, hm, by simp, fun h => absurd h (by simp), by simp [nth]⟩, by simp⟩
  have hsp : a.spot = none := by
    obtain ⟨cs0, hc0, _⟩ := hF 0 (by omega)
    obtain ⟨_, hcl0, hat0⟩ := World.cells?_some hc0
    have h1 := hat0 0 hpos
    have h2 : cs0[0]? = some (cs0[0]'(by omega)) := List.getElem?_eq_getElem (by omega)
    rw [h2] at h1
    have := World.cell?_spot h1
    simpa [Addr.add] using this
  refine ⟨(List.range len).map F, _, rfl, ⟨some a, cap, by simp, by simpa using hl, hm, by simp, fun _ p hp => by cases hp; exact hsp, ?_⟩, by simpa using hlb⟩
  intro j y hj
  rw [nth_eq] at hj
  simp only [List.getElem?_map, Option.map_eq_some_iff] at hj
  obtain ⟨i, hi', rfl⟩ := hj
  have hil : i < len ∧ i = j := by
    obtain ⟨h1, h2⟩ := List.getElem?_eq_some_iff.1 hi'
    simp at h1 h2
    omega
  obtain ⟨hil, rfl⟩ := hil
  obtain ⟨cs', hc, hy⟩ := hF i hil
  obtain ⟨_, hcl, hat⟩ := World.cells?_some hc
  refine ⟨cs', hcl, ?_, hy⟩
  intro q u hu
  rw [nth_eq] at hu
  have hq : q < P.cellsOf e := by
    have := (List.getElem?_eq_some_iff.1 hu).1
    omega
  have h1 := hat q hq
  rw [hu] at h1
  exact h1
end Go.Proofs.YtldmfchamcpmmaaDoor
namespace Go.Proofs.YtldmfchamcpmmaaDoor
open Go Go.RowKit Go.ChangeShapes Go.WideShapes Go.Deep
set_option linter.unusedVariables false
set_option linter.unusedSimpArgs false
theorem weightsEach_at {H : Type} {P : Program} {q : Nat} : ∀ (ts : List TypeId) (ds : List (DataW H)) (i : Nat) (t : TypeId) (d : DataW H), ts[i]? = some t → ds[i]? = some d → q ∈ d.weights P t → q ∈ DataW.weightsEach P ts ds
  | [], ds, i, t, d, h, _, _ => by simp at h
  | _ :: ts, [], i, t, d, _, h, _ => by simp at h
  | t' :: ts, d' :: ds, 0, t, d, h1, h2, hq => by
    simp at h1 h2; subst h1 h2
    simp only [DataW.weightsEach, List.mem_append]; exact .inl hq
  | t' :: ts, d' :: ds, i + 1, t, d, h1, h2, hq => by
    simp only [List.getElem?_cons_succ] at h1 h2
    simp only [DataW.weightsEach, List.mem_append]; exact .inr (weightsEach_at ts ds i t d h1 h2 hq)
/-- a struct, field by field -/
theorem trod_structW {P : Program} {H : Type} {enc : TypeId × Value → H} {w : World} {base : Nat} {spare : Nat → Bool} {held : Bool} {fuel : Nat} {t : TypeId} {cs : List Value} {x : DataW H × List MemPlace} {fields : Array Field} {m : Nat}
    (ht : P.underlying t = some (.struct fields)) (hC : P.cellsOf t = m) (h : DataW.trod enc P w base spare held fuel t cs = some x) :
    cs.length = m ∧ ∃ n, ∀ (i : Nat) (f : Field) (o z : Nat), fields[i]? = some f → f.offset = o → P.cellsOf f.type = z → ∃ y, DataW.trod enc P w base spare held n f.type ((cs.drop o).take z) = some y ∧ ∀ q ∈ y.1.weights P f.type, q ∈ x.1.weights P t := by
  obtain ⟨xs, n, _, hxe, hlen, hxl, hg⟩ := DataW.trod_struct ht h
  rw [hC] at hlen
  refine ⟨hlen, n, fun i f o z hf ho hz => ?_⟩
  subst ho hz
  obtain ⟨hlt, hfe⟩ := Array.getElem?_eq_some_iff.1 hf
  have hx : xs[i]? = some (xs[i]'(by rw [hxl]; exact hlt)) := List.getElem?_eq_getElem _
  have := hg i f hf
  rw [hx] at this
  refine ⟨_, this, fun q hq => ?_⟩
  rw [hxe]
  simp only [DataW.weights, ht]
  refine weightsEach_at _ _ i f.type _ ?_ ?_ hq
  · rw [List.getElem?_map, Array.getElem?_toList, hf]; rfl
  rw [List.getElem?_map, hx]; rfl
end Go.Proofs.YtldmfchamcpmmaaDoor
namespace Go.Proofs.YtldmfchamcpmmaaDoor
open Go Go.RowKit Go.ChangeShapes Go.WideShapes Go.Deep
set_option linter.unusedVariables false
end Go.Proofs.YtldmfchamcpmmaaDoor
namespace Go.Proofs.YtldmfchamcpmmaaDoor
open Go Go.RowKit Go.ChangeShapes Go.WideShapes Go.Deep
set_option linter.unusedVariables false
set_option linter.unusedSimpArgs false
theorem weightsEach_mem {H : Type} {P : Program} {q : Nat} : ∀ (ts : List TypeId) (ds : List (DataW H)) (i : Nat) (t : TypeId) (d : DataW H), ts[i]? = some t → ds[i]? = some d → q ∈ d.weights P t → q ∈ DataW.weightsEach P ts ds
  | [], ds, i, t, d, h, _, _ => by simp at h
  | _ :: ts, [], i, t, d, _, h, _ => by simp at h
  | t' :: ts, d' :: ds, 0, t, d, h1, h2, hq => by
    simp at h1 h2; subst h1 h2
    simp only [DataW.weightsEach, List.mem_append]; exact .inl hq
  | t' :: ts, d' :: ds, i + 1, t, d, h1, h2, hq => by
    simp only [List.getElem?_cons_succ] at h1 h2
    simp only [DataW.weightsEach, List.mem_append]; exact .inr (weightsEach_mem ts ds i t d h1 h2 hq)
theorem trod_onesW {P : Program} {H : Type} {enc : TypeId × Value → H} {w : World} {base : Nat} {spare : Nat → Bool} {held : Bool} {fuel : Nat} {t : TypeId} {cs : List Value} {x : DataW H × List MemPlace} {fields : Array Field} {m : Nat}
    (ht : P.underlying t = some (.struct fields)) (hone : oneCellFields P fields = true) (hC : P.cellsOf t = m) (h : DataW.trod enc P w base spare held fuel t cs = some x) :
    cs.length = m ∧ ∃ n, ∀ i f, fields[i]? = some f → i < m → ∃ c y, cs[i]? = some c ∧ DataW.trod enc P w base spare held n f.type [c] = some y ∧ ∀ q ∈ y.1.weights P f.type, q ∈ x.1.weights P t := by
  obtain ⟨xs, n, _, hxe, hlen, hxl, hg⟩ := DataW.trod_struct ht h
  rw [hC] at hlen
  refine ⟨hlen, n, fun i f hf him => ?_⟩
  obtain ⟨o0, k0⟩ := hone_of hone i f hf
  obtain ⟨hlt, hfe⟩ := Array.getElem?_eq_some_iff.1 hf
  have hcs : cs[i]? = some (cs[i]'(by omega)) := List.getElem?_eq_getElem (by omega)
  have hx : xs[i]? = some (xs[i]'(by rw [hxl]; exact hlt)) := List.getElem?_eq_getElem _
  have := hg i f hf
  rw [o0, k0, hx] at this
  refine ⟨_, xs[i]'(by rw [hxl]; exact hlt), hcs, ?_, fun q hq => ?_⟩
  · have e1 : (cs.drop i).take 1 = [cs[i]'(by omega)] := by rw [List.drop_eq_getElem_cons (by omega)]; rfl
    rw [e1] at this
    exact this
  rw [hxe]
  simp only [DataW.weights, ht]
  refine weightsEach_mem _ _ i f.type _ ?_ ?_ hq
  · rw [List.getElem?_map, Array.getElem?_toList, hf]; rfl
  rw [List.getElem?_map, hx]; rfl
def EInsB : El Ins := fun H cs x => EIns H cs x ∧ x.l.length ≤ 70368744177664
theorem opensW_ins : OpensW Tryd.prog 127 EInsB := by
  intro H enc w base spare held fuel cs x h hwt
  obtain ⟨hl, n, hg⟩ := trod_onesW (m := 5) Tryd.underlying127 (by kernel_rfl) (by kernel_rfl) h
  obtain ⟨c0, y0, e0, h0, _⟩ := hg 0 _ rfl (by omega)
  obtain ⟨c1, y1, e1, h1, _⟩ := hg 1 _ rfl (by omega)
  obtain ⟨c2, y2, e2, h2, _⟩ := hg 2 _ rfl (by omega)
  obtain ⟨c3, y3, e3, h3, _⟩ := hg 3 _ rfl (by omega)
  obtain ⟨c4, y4, e4, h4, k4⟩ := hg 4 _ rfl (by omega)
  obtain ⟨a0, u0, w0⟩ := opens_int Tryd.underlying5 _ _ _ _ _ _ _ _ _ h0
  obtain ⟨a1, u1, w1⟩ := opens_int Tryd.underlying28 _ _ _ _ _ _ _ _ _ h1
  obtain ⟨a2, u2, w2⟩ := opens_int Tryd.underlying28 _ _ _ _ _ _ _ _ _ h2
  obtain ⟨a3, u3, w3⟩ := opens_int Tryd.underlying2 _ _ _ _ _ _ _ _ _ h3
  obtain ⟨l, v, u4, w4, w5⟩ := opensW_slice (n := 1) (b := 4) Tryd.underlying24 (by kernel_rfl) (by kernel_rfl) (by decide) (opens_int Tryd.underlying28).w _ _ _ _ _ _ _ _ _ h4 (fun q hq => hwt q (k4 q hq))
  simp only [List.cons.injEq, and_true] at u0 u1 u2 u3 u4
  subst u0 u1 u2 u3 u4
  refine ⟨⟨a0, a1, a2, a3, l⟩, ⟨_, ?_, w4, w0, w1, w2, w3⟩, by show l.length ≤ _; omega⟩
  match cs, hl with
  | [x0, x1, x2, x3, x4], _ =>
    simp only [List.getElem?_cons_zero, List.getElem?_cons_succ, Option.some.injEq] at e0 e1 e2 e3 e4
    rw [e0, e1, e2, e3, e4]
theorem opensW_inss : OpensW Tryd.prog 52 (ESlB 48 5 EInsB) := opensW_slice (n := 5) Tryd.underlying52 (by kernel_rfl) (by kernel_rfl) (by decide) opensW_ins
theorem Sl.unW {H : Heap} {v : Value} {l : List Ins} (h : Sl 5 EInsB H v l) : Sl 5 EIns H v l ∧ ∀ x ∈ l, x.l.length ≤ 70368744177664 := by
  have h1 : Sl 5 EIns H v l := by
    obtain ⟨a, cap, k1, k2, k3, k4, k5, k6⟩ := h
    exact ⟨a, cap, k1, k2, k3, k4, k5, fun j x hj => by obtain ⟨cs, q1, q2, q3⟩ := k6 j x hj; exact ⟨cs, q1, q2, q3.1⟩⟩
  refine ⟨h1, fun s hs => ?_⟩
  obtain ⟨j, hj, rfl⟩ := List.getElem_of_mem hs
  obtain ⟨cs, _, _, hx⟩ := h.at j hj
  have := hx.2
  rwa [List.getD_eq_getElem?_getD, List.getElem?_eq_getElem hj] at this
end Go.Proofs.YtldmfchamcpmmaaDoor
namespace Go.Proofs.YtldmfchamcpmmaaDoor
open Go Go.RowKit Go.ChangeShapes Go.WideShapes Go.Deep
set_option linter.unusedVariables false
set_option linter.unusedSimpArgs false
def EStrB : El ByteArray := fun _ cs x => cs = [.string x] ∧ x.size ≤ 140737488351232
theorem opensW_str {P : Program} {t : TypeId} (ht : P.underlying t = some .string) : OpensW P t EStrB := by
  intro H enc w base spare held fuel cs x h hwt
  obtain ⟨s, hc, hx, _⟩ := DataW.trod_string ht h
  refine ⟨s, hc, ?_⟩
  have h2 := hwt s.data.toList.length (by rw [hx]; simp [DataW.weights])
  rwa [Array.length_toList] at h2
theorem Sl.unS {α : Type} [Inhabited α] {n : Nat} {E F : El α} {p : α → Prop} {H : Heap} {v : Value} {l : List α} (h : Sl n F H v l) (hF : ∀ H cs x, F H cs x → E H cs x ∧ p x) : Sl n E H v l ∧ ∀ x ∈ l, p x := by
  refine ⟨h.mapE fun cs x hx => (hF _ _ _ hx).1, fun s hs => ?_⟩
  obtain ⟨j, hj, rfl⟩ := List.getElem_of_mem hs
  obtain ⟨cs, _, _, hx⟩ := h.at j hj
  have := (hF _ _ _ hx).2
  rwa [List.getD_eq_getElem?_getD, List.getElem?_eq_getElem hj] at this
def EFTyS : El FTy := fun H cs x => EFTy H cs x ∧ x.1.length ≤ 140737488351232 ∧ x.2.length ≤ 140737488351232
def EImpS : El Imp := fun H cs x => EImp H cs x ∧ x.mod.size ≤ 140737488351232 ∧ x.nam.size ≤ 140737488351232
def EExpS : El Exp := fun H cs x => EExp H cs x ∧ x.nam.size ≤ 140737488351232
def EGloS : El Glo := fun H cs x => EGlo H cs x ∧ InsB x.2
def EElmS : El Elm := fun H cs x => EElm H cs x ∧ InsB x.2.1 ∧ x.2.2.length ≤ 140737488351232
def EDatS : El Elm := fun H cs x => EDat H cs x ∧ InsB x.2.1 ∧ x.2.2.length ≤ 140737488351232
def ECodS : El Cod := fun H cs x => ECod H cs x ∧ InsB x.2 ∧ x.1.length ≤ 140737488351232
def EGlbB : El Glb := fun _ cs x => cs = [.int .u8 x.1, .bool x.2] ∧ InR .u8 x.1
theorem opensW_fty : OpensW Tryd.prog 44 EFTyS := by
  intro H enc w base spare held fuel cs x h hwt
  obtain ⟨hl, n, hg⟩ := trod_structW (m := 2) Tryd.underlying44 (by kernel_rfl) h
  obtain ⟨y0, h0, k0⟩ := hg 0 _ 0 1 rfl rfl (by kernel_rfl)
  obtain ⟨y1, h1, k1⟩ := hg 1 _ 1 1 rfl rfl (by kernel_rfl)
  match cs, hl with
  | [c0, c1], _ =>
    obtain ⟨l0, v0, u0, s0, b0⟩ := opensW_slice (n := 1) (b := 1) Tryd.underlying36 (by kernel_rfl) (by kernel_rfl) (by decide) (opens_int Tryd.underlying5).w _ _ _ _ _ _ _ _ _ h0 (fun q hq => hwt q (k0 q hq))
    obtain ⟨l1, v1, u1, s1, b1⟩ := opensW_slice (n := 1) (b := 1) Tryd.underlying36 (by kernel_rfl) (by kernel_rfl) (by decide) (opens_int Tryd.underlying5).w _ _ _ _ _ _ _ _ _ h1 (fun q hq => hwt q (k1 q hq))
    cases u0; cases u1
    exact ⟨(l0, l1), ⟨_, _, rfl, s0, s1⟩, by show l0.length ≤ _; omega, by show l1.length ≤ _; omega⟩
theorem opensW_lim : OpensW Tryd.prog 47 ELim := by
  intro H enc w base spare held fuel cs x h hwt
  obtain ⟨hl, n, hg⟩ := trod_structW (m := 2) Tryd.underlying47 (by kernel_rfl) h
  obtain ⟨y0, h0, k0⟩ := hg 0 _ 0 1 rfl rfl (by kernel_rfl)
  obtain ⟨y1, h1, k1⟩ := hg 1 _ 1 1 rfl rfl (by kernel_rfl)
  match cs, hl with
  | [c0, c1], _ =>
    obtain ⟨a0, u0, r0⟩ := opens_int Tryd.underlying28 _ _ _ _ _ _ _ _ _ h0
    obtain ⟨a1, u1, r1⟩ := opens_int Tryd.underlying2 _ _ _ _ _ _ _ _ _ h1
    cases u0; cases u1
    exact ⟨(a0, a1), rfl, r0, r1⟩
theorem opensW_loc : OpensW Tryd.prog 60 ELoc := by
  intro H enc w base spare held fuel cs x h hwt
  obtain ⟨hl, n, hg⟩ := trod_structW (m := 2) Tryd.underlying60 (by kernel_rfl) h
  obtain ⟨y0, h0, k0⟩ := hg 0 _ 0 1 rfl rfl (by kernel_rfl)
  obtain ⟨y1, h1, k1⟩ := hg 1 _ 1 1 rfl rfl (by kernel_rfl)
  match cs, hl with
  | [c0, c1], _ =>
    obtain ⟨a0, u0, r0⟩ := opens_int Tryd.underlying28 _ _ _ _ _ _ _ _ _ h0
    obtain ⟨a1, u1, r1⟩ := opens_int Tryd.underlying5 _ _ _ _ _ _ _ _ _ h1
    cases u0; cases u1
    exact ⟨(a0, a1), rfl, r0, r1⟩
theorem opensW_glb : OpensW Tryd.prog 49 EGlbB := by
  intro H enc w base spare held fuel cs x h hwt
  obtain ⟨hl, n, hg⟩ := trod_structW (m := 2) Tryd.underlying49 (by kernel_rfl) h
  obtain ⟨y0, h0, k0⟩ := hg 0 _ 0 1 rfl rfl (by kernel_rfl)
  obtain ⟨y1, h1, k1⟩ := hg 1 _ 1 1 rfl rfl (by kernel_rfl)
  match cs, hl with
  | [c0, c1], _ =>
    obtain ⟨a0, u0, r0⟩ := opens_int Tryd.underlying5 _ _ _ _ _ _ _ _ _ h0
    obtain ⟨a1, u1⟩ := opens_bool Tryd.underlying4 _ _ _ _ _ _ _ _ _ h1
    cases u0; cases u1
    exact ⟨(a0, a1), rfl, r0⟩
theorem opensW_imp : OpensW Tryd.prog 51 EImpS := by
  intro H enc w base spare held fuel cs x h hwt
  obtain ⟨hl, n, hg⟩ := trod_structW (m := 8) Tryd.underlying51 (by kernel_rfl) h
  obtain ⟨y0, h0, k0⟩ := hg 0 _ 0 1 rfl rfl (by kernel_rfl)
  obtain ⟨y1, h1, k1⟩ := hg 1 _ 1 1 rfl rfl (by kernel_rfl)
  obtain ⟨y2, h2, k2⟩ := hg 2 _ 2 1 rfl rfl (by kernel_rfl)
  obtain ⟨y3, h3, k3⟩ := hg 3 _ 3 1 rfl rfl (by kernel_rfl)
  obtain ⟨y4, h4, k4⟩ := hg 4 _ 4 2 rfl rfl (by kernel_rfl)
  obtain ⟨y5, h5, k5⟩ := hg 5 _ 6 2 rfl rfl (by kernel_rfl)
  match cs, hl with
  | [c0, c1, c2, c3, c4, c5, c6, c7], _ =>
    obtain ⟨a0, u0, r0⟩ := opensW_str Tryd.underlying9 _ _ _ _ _ _ _ _ _ h0 (fun q hq => hwt q (k0 q hq))
    obtain ⟨a1, u1, r1⟩ := opensW_str Tryd.underlying9 _ _ _ _ _ _ _ _ _ h1 (fun q hq => hwt q (k1 q hq))
    obtain ⟨a2, u2, r2⟩ := opens_int Tryd.underlying5 _ _ _ _ _ _ _ _ _ h2
    obtain ⟨a3, u3, r3⟩ := opens_int Tryd.underlying28 _ _ _ _ _ _ _ _ _ h3
    obtain ⟨a4, u4, r4⟩ := opensW_lim _ _ _ _ _ _ _ _ _ h4 (fun q hq => hwt q (k4 q hq))
    obtain ⟨a5, u5, r5⟩ := opensW_glb _ _ _ _ _ _ _ _ _ h5 (fun q hq => hwt q (k5 q hq))
    cases u0; cases u1; cases u2; cases u3; cases u4; cases u5
    exact ⟨⟨a0, a1, a2, a3, a4, a5⟩, ⟨rfl, r2, r3, r4.1, r4.2, r5⟩, r0, r1⟩
theorem opensW_exp : OpensW Tryd.prog 76 EExpS := by
  intro H enc w base spare held fuel cs x h hwt
  obtain ⟨hl, n, hg⟩ := trod_structW (m := 3) Tryd.underlying76 (by kernel_rfl) h
  obtain ⟨y0, h0, k0⟩ := hg 0 _ 0 1 rfl rfl (by kernel_rfl)
  obtain ⟨y1, h1, k1⟩ := hg 1 _ 1 1 rfl rfl (by kernel_rfl)
  obtain ⟨y2, h2, k2⟩ := hg 2 _ 2 1 rfl rfl (by kernel_rfl)
  match cs, hl with
  | [c0, c1, c2], _ =>
    obtain ⟨a0, u0, r0⟩ := opensW_str Tryd.underlying9 _ _ _ _ _ _ _ _ _ h0 (fun q hq => hwt q (k0 q hq))
    obtain ⟨a1, u1, r1⟩ := opens_int Tryd.underlying5 _ _ _ _ _ _ _ _ _ h1
    obtain ⟨a2, u2, r2⟩ := opens_int Tryd.underlying28 _ _ _ _ _ _ _ _ _ h2
    cases u0; cases u1; cases u2
    exact ⟨⟨a0, a1, a2⟩, ⟨rfl, r1, r2⟩, r0⟩
theorem opensW_glo : OpensW Tryd.prog 54 EGloS := by
  intro H enc w base spare held fuel cs x h hwt
  obtain ⟨hl, n, hg⟩ := trod_structW (m := 3) Tryd.underlying54 (by kernel_rfl) h
  obtain ⟨y0, h0, k0⟩ := hg 0 _ 0 2 rfl rfl (by kernel_rfl)
  obtain ⟨y1, h1, k1⟩ := hg 1 _ 2 1 rfl rfl (by kernel_rfl)
  match cs, hl with
  | [c0, c1, c2], _ =>
    obtain ⟨a0, u0, r0⟩ := opensW_glb _ _ _ _ _ _ _ _ _ h0 (fun q hq => hwt q (k0 q hq))
    obtain ⟨l1, v1, u1, s1, b1⟩ := opensW_inss _ _ _ _ _ _ _ _ _ h1 (fun q hq => hwt q (k1 q hq))
    obtain ⟨s1, w1⟩ := s1.unW
    have g1 : InsB l1 := ⟨by omega, w1⟩
    cases u0; cases u1
    exact ⟨(a0, l1), ⟨_, rfl, s1, r0⟩, g1⟩
theorem opensW_elm : OpensW Tryd.prog 62 EElmS := by
  intro H enc w base spare held fuel cs x h hwt
  obtain ⟨hl, n, hg⟩ := trod_structW (m := 3) Tryd.underlying62 (by kernel_rfl) h
  obtain ⟨y0, h0, k0⟩ := hg 0 _ 0 1 rfl rfl (by kernel_rfl)
  obtain ⟨y1, h1, k1⟩ := hg 1 _ 1 1 rfl rfl (by kernel_rfl)
  obtain ⟨y2, h2, k2⟩ := hg 2 _ 2 1 rfl rfl (by kernel_rfl)
  match cs, hl with
  | [c0, c1, c2], _ =>
    obtain ⟨a0, u0, r0⟩ := opens_int Tryd.underlying28 _ _ _ _ _ _ _ _ _ h0
    obtain ⟨l1, v1, u1, s1, b1⟩ := opensW_inss _ _ _ _ _ _ _ _ _ h1 (fun q hq => hwt q (k1 q hq))
    obtain ⟨s1, w1⟩ := s1.unW
    have g1 : InsB l1 := ⟨by omega, w1⟩
    obtain ⟨l2, v2, u2, s2, b2⟩ := opensW_slice (n := 1) (b := 4) Tryd.underlying24 (by kernel_rfl) (by kernel_rfl) (by decide) (opens_int Tryd.underlying28).w _ _ _ _ _ _ _ _ _ h2 (fun q hq => hwt q (k2 q hq))
    cases u0; cases u1; cases u2
    exact ⟨(a0, l1, l2), ⟨_, _, rfl, s1, s2, r0⟩, g1, by show l2.length ≤ _; omega⟩
theorem opensW_cod : OpensW Tryd.prog 58 ECodS := by
  intro H enc w base spare held fuel cs x h hwt
  obtain ⟨hl, n, hg⟩ := trod_structW (m := 2) Tryd.underlying58 (by kernel_rfl) h
  obtain ⟨y0, h0, k0⟩ := hg 0 _ 0 1 rfl rfl (by kernel_rfl)
  obtain ⟨y1, h1, k1⟩ := hg 1 _ 1 1 rfl rfl (by kernel_rfl)
  match cs, hl with
  | [c0, c1], _ =>
    obtain ⟨l0, v0, u0, s0, b0⟩ := opensW_slice (n := 2) (b := 8) Tryd.underlying56 (by kernel_rfl) (by kernel_rfl) (by decide) opensW_loc _ _ _ _ _ _ _ _ _ h0 (fun q hq => hwt q (k0 q hq))
    obtain ⟨l1, v1, u1, s1, b1⟩ := opensW_inss _ _ _ _ _ _ _ _ _ h1 (fun q hq => hwt q (k1 q hq))
    obtain ⟨s1, w1⟩ := s1.unW
    have g1 : InsB l1 := ⟨by omega, w1⟩
    cases u0; cases u1
    exact ⟨(l0, l1), ⟨_, _, rfl, s0, s1⟩, g1, by show l0.length ≤ _; omega⟩
theorem opensW_dat : OpensW Tryd.prog 64 EDatS := by
  intro H enc w base spare held fuel cs x h hwt
  obtain ⟨hl, n, hg⟩ := trod_structW (m := 3) Tryd.underlying64 (by kernel_rfl) h
  obtain ⟨y0, h0, k0⟩ := hg 0 _ 0 1 rfl rfl (by kernel_rfl)
  obtain ⟨y1, h1, k1⟩ := hg 1 _ 1 1 rfl rfl (by kernel_rfl)
  obtain ⟨y2, h2, k2⟩ := hg 2 _ 2 1 rfl rfl (by kernel_rfl)
  match cs, hl with
  | [c0, c1, c2], _ =>
    obtain ⟨a0, u0, r0⟩ := opens_int Tryd.underlying28 _ _ _ _ _ _ _ _ _ h0
    obtain ⟨l1, v1, u1, s1, b1⟩ := opensW_inss _ _ _ _ _ _ _ _ _ h1 (fun q hq => hwt q (k1 q hq))
    obtain ⟨s1, w1⟩ := s1.unW
    have g1 : InsB l1 := ⟨by omega, w1⟩
    obtain ⟨l2, v2, u2, s2, b2⟩ := opensW_slice (n := 1) (b := 1) Tryd.underlying36 (by kernel_rfl) (by kernel_rfl) (by decide) (opens_int Tryd.underlying5).w _ _ _ _ _ _ _ _ _ h2 (fun q hq => hwt q (k2 q hq))
    cases u0; cases u1; cases u2
    exact ⟨(a0, l1, l2), ⟨_, _, rfl, s1, s2, r0⟩, g1, by show l2.length ≤ _; omega⟩
def EMoS : El Mo := fun H cs m => ∃ t i f tb me g e el c d, cs = [t, i, f, tb, me, g, e, .bool m.hasStart, .int .u32 m.start, el, c, d] ∧ MoV H t i f tb me g e el c d m ∧ Szd m
theorem opensW_mod : OpensW Tryd.prog 33 EMoS := by
  intro H enc w base spare held fuel cs x h hwt
  obtain ⟨hl, n, hg⟩ := trod_structW (m := 12) Tryd.underlying33 (by kernel_rfl) h
  obtain ⟨y0, h0, k0⟩ := hg 0 _ 0 1 rfl rfl (by kernel_rfl)
  obtain ⟨y1, h1, k1⟩ := hg 1 _ 1 1 rfl rfl (by kernel_rfl)
  obtain ⟨y2, h2, k2⟩ := hg 2 _ 2 1 rfl rfl (by kernel_rfl)
  obtain ⟨y3, h3, k3⟩ := hg 3 _ 3 1 rfl rfl (by kernel_rfl)
  obtain ⟨y4, h4, k4⟩ := hg 4 _ 4 1 rfl rfl (by kernel_rfl)
  obtain ⟨y5, h5, k5⟩ := hg 5 _ 5 1 rfl rfl (by kernel_rfl)
  obtain ⟨y6, h6, k6⟩ := hg 6 _ 6 1 rfl rfl (by kernel_rfl)
  obtain ⟨y7, h7, k7⟩ := hg 7 _ 7 1 rfl rfl (by kernel_rfl)
  obtain ⟨y8, h8, k8⟩ := hg 8 _ 8 1 rfl rfl (by kernel_rfl)
  obtain ⟨y9, h9, k9⟩ := hg 9 _ 9 1 rfl rfl (by kernel_rfl)
  obtain ⟨y10, h10, k10⟩ := hg 10 _ 10 1 rfl rfl (by kernel_rfl)
  obtain ⟨y11, h11, k11⟩ := hg 11 _ 11 1 rfl rfl (by kernel_rfl)
  match cs, hl with
  | [c0, c1, c2, c3, c4, c5, c6, c7, c8, c9, c10, c11], _ =>
    obtain ⟨l0, v0, u0, s0, b0⟩ := opensW_slice (n := 2) (b := Tryd.prog.bytesOf 44) Tryd.underlying22 (by kernel_rfl) rfl (by decide) opensW_fty _ _ _ _ _ _ _ _ _ h0 (fun q hq => hwt q (k0 q hq))
    obtain ⟨l1, v1, u1, s1, b1⟩ := opensW_slice (n := 8) (b := Tryd.prog.bytesOf 51) Tryd.underlying23 (by kernel_rfl) rfl (by decide) opensW_imp _ _ _ _ _ _ _ _ _ h1 (fun q hq => hwt q (k1 q hq))
    obtain ⟨l2, v2, u2, s2, b2⟩ := opensW_slice (n := 1) (b := 4) Tryd.underlying24 (by kernel_rfl) (by kernel_rfl) (by decide) (opens_int Tryd.underlying28).w _ _ _ _ _ _ _ _ _ h2 (fun q hq => hwt q (k2 q hq))
    obtain ⟨l3, v3, u3, s3, b3⟩ := opensW_slice (n := 2) (b := Tryd.prog.bytesOf 47) Tryd.underlying25 (by kernel_rfl) rfl (by decide) opensW_lim _ _ _ _ _ _ _ _ _ h3 (fun q hq => hwt q (k3 q hq))
    obtain ⟨l4, v4, u4, s4, b4⟩ := opensW_slice (n := 2) (b := Tryd.prog.bytesOf 47) Tryd.underlying25 (by kernel_rfl) rfl (by decide) opensW_lim _ _ _ _ _ _ _ _ _ h4 (fun q hq => hwt q (k4 q hq))
    obtain ⟨l5, v5, u5, s5, b5⟩ := opensW_slice (n := 3) (b := Tryd.prog.bytesOf 54) Tryd.underlying26 (by kernel_rfl) rfl (by decide) opensW_glo _ _ _ _ _ _ _ _ _ h5 (fun q hq => hwt q (k5 q hq))
    obtain ⟨l6, v6, u6, s6, b6⟩ := opensW_slice (n := 3) (b := Tryd.prog.bytesOf 76) Tryd.underlying27 (by kernel_rfl) rfl (by decide) opensW_exp _ _ _ _ _ _ _ _ _ h6 (fun q hq => hwt q (k6 q hq))
    obtain ⟨a7, u7⟩ := opens_bool Tryd.underlying4 _ _ _ _ _ _ _ _ _ h7
    obtain ⟨a8, u8, r8⟩ := opens_int Tryd.underlying28 _ _ _ _ _ _ _ _ _ h8
    obtain ⟨l9, v9, u9, s9, b9⟩ := opensW_slice (n := 3) (b := Tryd.prog.bytesOf 62) Tryd.underlying29 (by kernel_rfl) rfl (by decide) opensW_elm _ _ _ _ _ _ _ _ _ h9 (fun q hq => hwt q (k9 q hq))
    obtain ⟨l10, v10, u10, s10, b10⟩ := opensW_slice (n := 2) (b := Tryd.prog.bytesOf 58) Tryd.underlying30 (by kernel_rfl) rfl (by decide) opensW_cod _ _ _ _ _ _ _ _ _ h10 (fun q hq => hwt q (k10 q hq))
    obtain ⟨l11, v11, u11, s11, b11⟩ := opensW_slice (n := 3) (b := Tryd.prog.bytesOf 64) Tryd.underlying31 (by kernel_rfl) rfl (by decide) opensW_dat _ _ _ _ _ _ _ _ _ h11 (fun q hq => hwt q (k11 q hq))
    cases u0; cases u1; cases u2; cases u3; cases u4; cases u5; cases u6; cases u7; cases u8; cases u9; cases u10; cases u11
    have p0 : l0.length ≤ 140737488351232 := Nat.le_trans (Nat.le_mul_of_pos_right _ (of_decide_eq_true (by kernel_rfl) : (1 : Nat) ≤ Tryd.prog.bytesOf 44)) b0
    have p1 : l1.length ≤ 140737488351232 := Nat.le_trans (Nat.le_mul_of_pos_right _ (of_decide_eq_true (by kernel_rfl) : (1 : Nat) ≤ Tryd.prog.bytesOf 51)) b1
    have p3 : l3.length ≤ 140737488351232 := Nat.le_trans (Nat.le_mul_of_pos_right _ (of_decide_eq_true (by kernel_rfl) : (1 : Nat) ≤ Tryd.prog.bytesOf 47)) b3
    have p4 : l4.length ≤ 140737488351232 := Nat.le_trans (Nat.le_mul_of_pos_right _ (of_decide_eq_true (by kernel_rfl) : (1 : Nat) ≤ Tryd.prog.bytesOf 47)) b4
    have p5 : l5.length ≤ 140737488351232 := Nat.le_trans (Nat.le_mul_of_pos_right _ (of_decide_eq_true (by kernel_rfl) : (1 : Nat) ≤ Tryd.prog.bytesOf 54)) b5
    have p6 : l6.length ≤ 140737488351232 := Nat.le_trans (Nat.le_mul_of_pos_right _ (of_decide_eq_true (by kernel_rfl) : (1 : Nat) ≤ Tryd.prog.bytesOf 76)) b6
    have p9 : l9.length ≤ 140737488351232 := Nat.le_trans (Nat.le_mul_of_pos_right _ (of_decide_eq_true (by kernel_rfl) : (1 : Nat) ≤ Tryd.prog.bytesOf 62)) b9
    have p10 : l10.length ≤ 140737488351232 := Nat.le_trans (Nat.le_mul_of_pos_right _ (of_decide_eq_true (by kernel_rfl) : (1 : Nat) ≤ Tryd.prog.bytesOf 58)) b10
    have p11 : l11.length ≤ 140737488351232 := Nat.le_trans (Nat.le_mul_of_pos_right _ (of_decide_eq_true (by kernel_rfl) : (1 : Nat) ≤ Tryd.prog.bytesOf 64)) b11
    obtain ⟨s0, w0⟩ := s0.unS (E := EFTy) (fun _ _ _ hx => hx)
    obtain ⟨s1, w1⟩ := s1.unS (E := EImp) (fun _ _ _ hx => hx)
    obtain ⟨s5, w5⟩ := s5.unS (E := EGlo) (fun _ _ _ hx => hx)
    obtain ⟨s6, w6⟩ := s6.unS (E := EExp) (fun _ _ _ hx => hx)
    obtain ⟨s9, w9⟩ := s9.unS (E := EElm) (fun _ _ _ hx => hx)
    obtain ⟨s10, w10⟩ := s10.unS (E := ECod) (fun _ _ _ hx => hx)
    obtain ⟨s11, w11⟩ := s11.unS (E := EDat) (fun _ _ _ hx => hx)
    exact ⟨⟨l0, l1, l2, l3, l4, l5, l6, a7, a8, l9, l10, l11⟩, _, _, _, _, _, _, _, _, _, _, rfl, ⟨s0, s1, s2, s3, s4, s5, s6, s9, s10, s11, r8⟩, ⟨⟨p0, p1, by show l2.length ≤ _; omega, p3, p4, p5, p6, p9, p10, p11⟩, w0, w1, w6, w5, w9, w10, w11⟩⟩
end Go.Proofs.YtldmfchamcpmmaaDoor
namespace Go.Proofs.YtldmfchamcpmmaaDoor
open Go Go.RowKit
set_option linter.unusedVariables false
set_option linter.unusedSimpArgs false
set_option linter.unnecessarySimpa false
theorem tabU_laid {w : World} {row : List (String × DataW Unit)} (e : row = [("unicode/utf8.acceptRanges", Lib.acceptData), ("unicode/utf8.first", Lib.firstData)]) (h : laidMetH Tryd.prog row w) : TabU w.heap := by
  subst e
  rw [MakeChecks.laidMetH_plain _ _ _ (by kernel_rfl)] at h
  have h3 : Lib.VarReads Tryd.prog w "unicode/utf8.first" Lib.firstData := Lib.laidMet.reads h (by simp)
  have h4 : Lib.VarReads Tryd.prog w "unicode/utf8.acceptRanges" Lib.acceptData := Lib.laidMet.reads h (by simp)
  obtain ⟨g, t, cs, fuel, p, hg, hty, hvar, hd⟩ := h3
  obtain rfl := Option.some.inj ((show Tryd.prog.globalNamed "unicode/utf8.first" = some 0 by kernel_rfl).symm.trans hg)
  obtain rfl := Option.some.inj ((show (Tryd.prog.globals[0]?).map (·.type) = some 235 by kernel_rfl).symm.trans hty)
  have hcs := Lib.cells_of_tab Tryd.underlying235 Tryd.underlying5 (by kernel_rfl) (by kernel_rfl) hd
  obtain ⟨g', t', cs', fuel', p', hg', hty', hvar', hd'⟩ := h4
  obtain rfl := Option.some.inj ((show Tryd.prog.globalNamed "unicode/utf8.acceptRanges" = some 1 by kernel_rfl).symm.trans hg')
  obtain rfl := Option.some.inj ((show (Tryd.prog.globals[1]?).map (·.type) = some 238 by kernel_rfl).symm.trans hty')
  have key : ∀ i : Nat, i < 16 → (w.cell? ⟨1, i * 2, none⟩ = some (.int .u8 (Lib.accLo i : Nat)) ∧ w.cell? ⟨1, i * 2 + 1, none⟩ = some (.int .u8 (Lib.accHi i : Nat))) := by
    intro i hi
    obtain ⟨fuel2, d, q, hdi, he⟩ := Lib.array_elem Tryd.underlying238 hd' i hi
    simp only [List.getElem?_map, List.getElem?_range hi, Option.map_some, Option.some.injEq] at hdi
    subst hdi
    have hc2 : Tryd.prog.cellsOf 237 = 2 := by kernel_rfl
    have hc1 : Tryd.prog.cellsOf 5 = 1 := by kernel_rfl
    rw [hc2] at he
    have hw := Lib.ints_of_struct Tryd.underlying237 (fun j f hj => by
      match j, hj with
      | 0, hj => simp at hj; subst hj; exact ⟨Tryd.underlying5, rfl, hc1⟩
      | 1, hj => simp at hj; subst hj; exact ⟨Tryd.underlying5, rfl, hc1⟩
      | j + 2, hj => simp at hj) (by rw [hc2]; rfl) he
    have e0 := congrArg (·[0]?) hw
    have e1 := congrArg (·[1]?) hw
    simp only [List.getElem?_take, List.getElem?_drop] at e0 e1
    refine ⟨?_, ?_⟩
    · rw [World.var?_cell hg' hvar' (i * 2), ← Array.getElem?_toList]
      simpa using e0
    rw [World.var?_cell hg' hvar' (i * 2 + 1), ← Array.getElem?_toList]
    simpa using e1
  refine ⟨fun c hc => ?_, fun i hi => ?_, fun i hi => ?_⟩
  · rw [← cell_w rfl, World.var?_cell hg hvar c, ← Array.getElem?_toList, hcs]
    simp [Lib.firstTab, hc]
  · rw [← cell_w rfl]; exact (key i hi).1
  rw [← cell_w rfl]; exact (key i hi).2
end Go.Proofs.YtldmfchamcpmmaaDoor
