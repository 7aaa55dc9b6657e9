/- What the proof of EncBytes leans on, part 4. No condition but those that each law states. -/
import Derived.Test.YtldmfchamcpmmaaDoorRows
import Derived.WalkKit
import Derived.Deep.Quiet
import Derived.Below
import Derived.WalkLawsBesides
import Derived.Lib.Hide
import Derived.Laws.AppendOwnNone
import Derived.Laws.CopyRow
import Derived.Laws.Tables
import Derived.Orders
import Derived.Deep.Slices
import Derived.Deep.Fields
import Derived.OpenShut
import Derived.Lib.AppendZerosOnto
import Derived.Maps.AppendAt
import Derived.ChangeKeysEq
import Derived.Laws.BytesString
import Derived.Lib.SlBytesConst
import Derived.Laws.IdiomStrings
import Derived.Lib.AppendStr
import Derived.Lib.EndianZ
import Derived.WalkSpells
import Derived.Lib.ItoaNum
import Derived.Lib.DecodeN
import Derived.Lib.ValidLaws
import Derived.Lib.EndianBits
import Derived.ProofKit
import Derived.Defers
import Derived.Recover
import Derived.Scope
import Derived.Laws.StructEq
import Derived.ArgAppend
import Derived.Test.YtldmfchamcpmmaaDoorEncBytesPC
set_option maxHeartbeats 4000000
set_option maxRecDepth 100000
namespace Go.Proofs.YtldmfchamcpmmaaDoor
open Go Go.RowKit
set_option linter.unusedVariables false
set_option linter.unusedSimpArgs false
set_option linter.unnecessarySimpa false
theorem cells_mid {H : Heap} {g k n : Nat} {cs : List Value} {t : TypeId} {z : Nat × Nat} (hb : H[g]? = some (.cells cs.toArray t z)) : CellsH H ⟨g, k, none⟩ ((cs.drop k).take n) := by
  intro i v hv
  rw [nth_eq] at hv
  have hi := (List.getElem?_eq_some_iff.1 hv).1
  rw [List.length_take, List.length_drop] at hi
  rw [List.getElem?_take_of_lt (by omega), List.getElem?_drop] at hv
  have e : (⟨g, k, none⟩ : Addr).add i = ⟨g, k + i, none⟩ := by simp [Addr.add]
  rw [e]
  exact cell_of (g := g) (i := k + i) hb (by rw [nth_eq]; exact hv)
instance keepsLim : Keeps ELim := ⟨fun _ h => h⟩
instance oneLim : One ELim := ⟨fun h u hu => by
  obtain ⟨rfl, _⟩ := h
  simp only [List.mem_cons, List.not_mem_nil, or_false] at hu
  rcases hu with rfl | rfl <;> rfl⟩
theorem Sl.limAt {H : Heap} {v : Value} {l : List (Int × Int)} (h : Sl 2 ELim H v l) (j : Nat) (hj : j < l.length) : CellsH H ((vbase v).add (j * 2)) [.int .u32 (l.getD j default).1, .int .i64 (l.getD j default).2] ∧ InR .u32 (l.getD j default).1 ∧ InR .i64 (l.getD j default).2 := by
  obtain ⟨cs, hl, hc, rfl, h1, h2⟩ := h.at j hj
  exact ⟨hc, h1, h2⟩
def ELoc : El (Int × Int) := fun _ cs x => cs = [.int .u32 x.1, .int .u8 x.2] ∧ InR .u32 x.1 ∧ InR .u8 x.2
instance keepsLoc : Keeps ELoc := ⟨fun _ h => h⟩
instance oneLoc : One ELoc := ⟨fun h u hu => by
  obtain ⟨rfl, _⟩ := h
  simp only [List.mem_cons, List.not_mem_nil, or_false] at hu
  rcases hu with rfl | rfl <;> rfl⟩
theorem Sl.locAt {H : Heap} {v : Value} {l : List (Int × Int)} (h : Sl 2 ELoc H v l) (j : Nat) (hj : j < l.length) : CellsH H ((vbase v).add (j * 2)) [.int .u32 (l.getD j default).1, .int .u8 (l.getD j default).2] ∧ InR .u32 (l.getD j default).1 ∧ InR .u8 (l.getD j default).2 := by
  obtain ⟨cs, hl, hc, rfl, h1, h2⟩ := h.at j hj
  exact ⟨hc, h1, h2⟩
def En.tru (_ : Int) : Bool := true
theorem wu32_t {H : Heap} {g : Nat} {v : Value} {l : List Int} {bad : Bool} (wa : WA H g v l bad) (n : Int) (rn : InR .u32 n) (hN : l.length + 10 ≤ 1099511627776) : Ct Tryd.prog 27 [.pointer (some ⟨g, 0, none⟩), .int .u32 n] H (fun _ H' => ∃ v', WA H' g v' (l ++ En.u n) (bad || !En.tru n) ∧ WS g v H v' H') :=
  (wu32_any wa n rn hN).mono (fun _ _ ⟨v', a, b⟩ => ⟨v', a.cast rfl (by simp [En.tru]), b⟩)
theorem wlocal_any {H : Heap} {g : Nat} {v : Value} {l : List Int} {bad : Bool} (wa : WA H g v l bad) (a b : Int) (ra : InR .u32 a) (rb : InR .u8 b) (hN : l.length + 20 ≤ 1099511627776) : Ct Tryd.prog 83 [.pointer (some ⟨g, 0, none⟩), .agg [.int .u32 a, .int .u8 b].toArray] H (fun _ H' => ∃ v', WA H' g v' (l ++ En.locB (a, b)) (bad || !En.locO (a, b)) ∧ WS g v H v' H') := by
  refine Ct.mk Tryd.func83 rfl Tryd.ntmps83 rfl ?_
  intro W0 hW0
  have o0 : OldB 0 H H := OldB.refl _ H
  have ws := WS.refl g v H
  have zg := wa.lt
  refine KC.sr ?_
  have abx : v = .slice none 0 0 ∨ vblock v ≠ Array.size H := wa.w.lt.imp id (fun e => by omega)
  refine KL.m (M.box rfl rfl rfl) rfl ?_
  rintro _ H1 ⟨rfl, n1⟩
  have z1 := n1.2.1
  have o0 := o0.trans ((n1.1).b (by omega))
  have wa := wa.old n1.1
  have ws := ws.old n1.1
  have b1 := n1.2.2
  have bx := b1
  refine KL.nil (KQ.sr (KL.run 2 rfl (KL.ld rfl (cell_of bx rfl) ?_)))
  refine KL.c rfl Tryd.call27 (wu32_any wa _ ra (by omega)) ?_
  rintro _ H2 ⟨v_1, wa_1, s_1⟩
  have abx2 := s_1.apart abx (blk_lt bx)
  have bx := s_1.blk bx (by omega) abx
  have abx := abx2
  have zs_1 := s_1.sz
  have ws := ws.trans s_1
  have wa := wa_1
  have o0 := o0.trans s_1.ob0
  have hua := En.u_le a
  refine KL.nil (KQ.r (KL.run 2 rfl (KL.ld rfl (cell_of bx rfl) ?_)))
  refine KL.c rfl Tryd.call70 (wvalue_any wa b rb (by simp only [List.length_append, List.length_cons, List.length_nil]; omega)) ?_
  rintro _ H3 ⟨v_2, wa_2, s_2⟩
  have abx2 := s_2.apart abx (blk_lt bx)
  have bx := s_2.blk bx (by omega) abx
  have abx := abx2
  have zs_2 := s_2.sz
  have ws := ws.trans s_2
  have wa := wa_2
  have o0 := o0.trans s_2.ob0
  refine KL.nil (KQ.fin0 Tryd.results83 ?_)
  exact ⟨_, wa.cast (by unfold En.locB; simp) (rfl), ws⟩
theorem wlist_value {H : Heap} {g : Nat} {v : Value} {l : List Int} {bad : Bool} (wa : WA H g v l bad) {Hb : Heap} (oB : Old Hb H) (hgB : Hb.size ≤ g) {u : Value} {xs : List Int} (hs : Sl 1 (EInt .u8) Hb u xs) (hm : xs.length ≤ 4294967295) (hN : l.length + (En.lst En.valB xs).length + 10000000 ≤ 1099511627776) : Ct Tryd.prog 69 [.pointer (some ⟨g, 0, none⟩), u, .func (.func 70) #[.pointer (some ⟨g, 0, none⟩)] #[]] H (fun _ H' => ∃ v', WA H' g v' (l ++ En.lst En.valB xs) (bad || !xs.all En.vOk) ∧ WS g v H v' H') := by
  refine Ct.mk Tryd.func69 rfl Tryd.ntmps69 rfl ?_
  intro W0 hW0
  have o0 : OldB 0 H H := OldB.refl _ H
  have ws := WS.refl g v H
  have zg := wa.lt
  have hlst : 0 ≤ (En.lst En.valB xs).length := Nat.zero_le _
  refine KC.sr (KL.run 2 rfl (KL.q (R.lenS rfl Tryd.underlying36 rfl hs) rfl ?_))
  refine KL.q (R.convI rfl Tryd.underlying3 Tryd.underlying28 rfl (by dsimp only [InR]; omega)) rfl ?_
  refine KL.c rfl Tryd.call27 (wu32_any wa _ (by dsimp only [InR]; omega) (by omega)) ?_
  rintro _ H1 ⟨v_3, wa_3, s_3⟩
  have oB := s_3.om wa oB hgB
  have zs_3 := s_3.sz
  have ws := ws.trans s_3
  have wa := wa_3
  have o0 := o0.trans s_3.ob0
  have hul := En.u_le (xs.length : Nat)
  refine KL.nil (KQ.sr (KL.run 1 rfl (KL.q (R.lenS rfl Tryd.underlying36 rfl hs) rfl (KL.fin 1 rfl (KQ.seq (KC.block ?_))))))
  refine KC.loopD (κ := Nat × Value) [16, 17, 18, 7, 19, 20, 21, 22, 15] (fun k => [(15, .int .i64 (k.1 : Nat))]) (fun k Hl => k.1 ≤ xs.length ∧ WA Hl g k.2 (l ++ (En.u (xs.length : Nat) ++ (xs.take k.1).flatMap En.valB)) (bad || !(xs.take k.1).all En.vOk) ∧ WS g v H k.2 Hl ∧ Old Hb Hl) (fun k => xs.length - k.1) (0, v_3) ?_ ?_ ?_
  · exact Sub.all rfl
  · exact ⟨Nat.zero_le _, wa.cast (by simp) (by simp), ws, oB⟩
  rintro ⟨k, vk⟩ H2 ⟨hk, wa, ws, oB⟩
  dsimp only at hk wa ws
  have zg := wa.lt
  have o0 : OldB 0 H H2 := ws.ob0
  refine KC.sr (KL.fin 1 rfl (KQ.seq (KC.seq ?_)))
  refine KC.iq rfl ?_ ?_
  · intro hc16
    try dsimp only at hc16
    have hk2 : k < xs.length := by omega
    obtain ⟨hcx, hxr⟩ := hs.int k hk2
    have hroom := En.room (f := En.valB) (c := 1099501627776) (a := l) hk2 (by omega)
    refine KC.skip (KQ.seq (KC.seq (KC.block (KC.sr ?_))))
    refine KL.q (R.index1 (j := k) rfl Tryd.underlying36 sz5 rfl rfl hs rfl (by omega)) rfl ?_
    refine KL.ld rfl (oB.cell hcx) (KL.fin 1 rfl (KQ.r (KL.run 2 rfl ?_)))
    refine KL.c rfl Tryd.call70 (wvalue_any wa _ hxr (by omega)) ?_
    rintro _ H3 ⟨v_4, wa_4, s_4⟩
    have oB := s_4.om wa oB hgB
    have zs_4 := s_4.sz
    have ws := ws.trans s_4
    have wa := wa_4
    have o0 := o0.trans s_4.ob0
    refine KL.nil (KQ.normBlock (KQ.r ?_))
    refine KL.q ((R.add rfl rfl rfl (by dsimp only [InR]; omega)).val (congrArg (Value.int .i64) (show (k : Int) + 1 = ((k + 1 : Nat) : Int) by omega))) rfl ?_
    refine KL.fin 1 rfl ?_
    refine KQ.again ((k + 1, v_4)) ?_ ?_ ?_
    · exact Sub.all rfl
    · show xs.length - (k + 1) < xs.length - k; omega
    exact ⟨by show k + 1 ≤ _; omega, by dsimp only; exact wa.cast (En.lst_step (by omega)) (En.all_step (by omega)), ws, oB⟩
  intro hc16
  try dsimp only at hc16
  have hkl : k = xs.length := by omega
  rw [hkl, List.take_length] at wa
  refine KC.exit (KQ.exitThen (KQ.exitThen (KQ.hit (KQ.fin0 Tryd.results69 ?_))))
  exact ⟨_, wa.cast (rfl) (rfl), ws⟩
theorem wlist_u32 {H : Heap} {g : Nat} {v : Value} {l : List Int} {bad : Bool} (wa : WA H g v l bad) {Hb : Heap} (oB : Old Hb H) (hgB : Hb.size ≤ g) {u : Value} {xs : List Int} (hs : Sl 1 (EInt .u32) Hb u xs) (hm : xs.length ≤ 4294967295) (hN : l.length + (En.lst En.u xs).length + 10000000 ≤ 1099511627776) : Ct Tryd.prog 75 [.pointer (some ⟨g, 0, none⟩), u, .func (.func 27) #[.pointer (some ⟨g, 0, none⟩)] #[]] H (fun _ H' => ∃ v', WA H' g v' (l ++ En.lst En.u xs) (bad || !xs.all En.tru) ∧ WS g v H v' H') := by
  refine Ct.mk Tryd.func75 rfl Tryd.ntmps75 rfl ?_
  intro W0 hW0
  have o0 : OldB 0 H H := OldB.refl _ H
  have ws := WS.refl g v H
  have zg := wa.lt
  have hlst : 0 ≤ (En.lst En.u xs).length := Nat.zero_le _
  refine KC.sr (KL.run 2 rfl (KL.q (R.lenS rfl Tryd.underlying24 rfl hs) rfl ?_))
  refine KL.q (R.convI rfl Tryd.underlying3 Tryd.underlying28 rfl (by dsimp only [InR]; omega)) rfl ?_
  refine KL.c rfl Tryd.call27 (wu32_any wa _ (by dsimp only [InR]; omega) (by omega)) ?_
  rintro _ H1 ⟨v_5, wa_5, s_5⟩
  have oB := s_5.om wa oB hgB
  have zs_5 := s_5.sz
  have ws := ws.trans s_5
  have wa := wa_5
  have o0 := o0.trans s_5.ob0
  have hul := En.u_le (xs.length : Nat)
  refine KL.nil (KQ.sr (KL.run 1 rfl (KL.q (R.lenS rfl Tryd.underlying24 rfl hs) rfl (KL.fin 1 rfl (KQ.seq (KC.block ?_))))))
  refine KC.loopD (κ := Nat × Value) [16, 17, 18, 7, 19, 20, 21, 22, 15] (fun k => [(15, .int .i64 (k.1 : Nat))]) (fun k Hl => k.1 ≤ xs.length ∧ WA Hl g k.2 (l ++ (En.u (xs.length : Nat) ++ (xs.take k.1).flatMap En.u)) (bad || !(xs.take k.1).all En.tru) ∧ WS g v H k.2 Hl ∧ Old Hb Hl) (fun k => xs.length - k.1) (0, v_5) ?_ ?_ ?_
  · exact Sub.all rfl
  · exact ⟨Nat.zero_le _, wa.cast (by simp) (by simp), ws, oB⟩
  rintro ⟨k, vk⟩ H2 ⟨hk, wa, ws, oB⟩
  dsimp only at hk wa ws
  have zg := wa.lt
  have o0 : OldB 0 H H2 := ws.ob0
  refine KC.sr (KL.fin 1 rfl (KQ.seq (KC.seq ?_)))
  refine KC.iq rfl ?_ ?_
  · intro hc16
    try dsimp only at hc16
    have hk2 : k < xs.length := by omega
    obtain ⟨hcx, hxr⟩ := hs.int k hk2
    have hroom := En.room (f := En.u) (c := 1099501627776) (a := l) hk2 (by omega)
    refine KC.skip (KQ.seq (KC.seq (KC.block (KC.sr ?_))))
    refine KL.q (R.index1 (j := k) rfl Tryd.underlying24 sz28 rfl rfl hs rfl (by omega)) rfl ?_
    refine KL.ld rfl (oB.cell hcx) (KL.fin 1 rfl (KQ.r (KL.run 2 rfl ?_)))
    refine KL.c rfl Tryd.call27 (wu32_t wa _ hxr (by omega)) ?_
    rintro _ H3 ⟨v_6, wa_6, s_6⟩
    have oB := s_6.om wa oB hgB
    have zs_6 := s_6.sz
    have ws := ws.trans s_6
    have wa := wa_6
    have o0 := o0.trans s_6.ob0
    refine KL.nil (KQ.normBlock (KQ.r ?_))
    refine KL.q ((R.add rfl rfl rfl (by dsimp only [InR]; omega)).val (congrArg (Value.int .i64) (show (k : Int) + 1 = ((k + 1 : Nat) : Int) by omega))) rfl ?_
    refine KL.fin 1 rfl ?_
    refine KQ.again ((k + 1, v_6)) ?_ ?_ ?_
    · exact Sub.all rfl
    · show xs.length - (k + 1) < xs.length - k; omega
    exact ⟨by show k + 1 ≤ _; omega, by dsimp only; exact wa.cast (En.lst_step (by omega)) (En.all_step (by omega)), ws, oB⟩
  intro hc16
  try dsimp only at hc16
  have hkl : k = xs.length := by omega
  rw [hkl, List.take_length] at wa
  refine KC.exit (KQ.exitThen (KQ.exitThen (KQ.hit (KQ.fin0 Tryd.results75 ?_))))
  exact ⟨_, wa.cast (rfl) (rfl), ws⟩
theorem wlist_table {H : Heap} {g : Nat} {v : Value} {l : List Int} {bad : Bool} (wa : WA H g v l bad) {Hb : Heap} (oB : Old Hb H) (hgB : Hb.size ≤ g) {u : Value} {xs : List (Int × Int)} (hs : Sl 2 ELim Hb u xs) (hm : xs.length ≤ 4294967295) (hN : l.length + (En.lst En.tabB xs).length + 10000000 ≤ 1099511627776) : Ct Tryd.prog 76 [.pointer (some ⟨g, 0, none⟩), u, .func (.func 30) #[.pointer (some ⟨g, 0, none⟩)] #[]] H (fun _ H' => ∃ v', WA H' g v' (l ++ En.lst En.tabB xs) (bad || !xs.all En.limO) ∧ WS g v H v' H') := by
  refine Ct.mk Tryd.func76 rfl Tryd.ntmps76 rfl ?_
  intro W0 hW0
  have o0 : OldB 0 H H := OldB.refl _ H
  have ws := WS.refl g v H
  have zg := wa.lt
  have hlst : 0 ≤ (En.lst En.tabB xs).length := Nat.zero_le _
  refine KC.sr (KL.run 2 rfl (KL.q (R.lenS rfl Tryd.underlying25 rfl hs) rfl ?_))
  refine KL.q (R.convI rfl Tryd.underlying3 Tryd.underlying28 rfl (by dsimp only [InR]; omega)) rfl ?_
  refine KL.c rfl Tryd.call27 (wu32_any wa _ (by dsimp only [InR]; omega) (by omega)) ?_
  rintro _ H1 ⟨v_7, wa_7, s_7⟩
  have oB := s_7.om wa oB hgB
  have zs_7 := s_7.sz
  have ws := ws.trans s_7
  have wa := wa_7
  have o0 := o0.trans s_7.ob0
  have hul := En.u_le (xs.length : Nat)
  refine KL.nil (KQ.sr (KL.run 1 rfl (KL.q (R.lenS rfl Tryd.underlying25 rfl hs) rfl (KL.fin 1 rfl (KQ.seq (KC.block ?_))))))
  refine KC.loopD (κ := Nat × Value) [16, 17, 18, 7, 19, 20, 21, 22, 15] (fun k => [(15, .int .i64 (k.1 : Nat))]) (fun k Hl => k.1 ≤ xs.length ∧ WA Hl g k.2 (l ++ (En.u (xs.length : Nat) ++ (xs.take k.1).flatMap En.tabB)) (bad || !(xs.take k.1).all En.limO) ∧ WS g v H k.2 Hl ∧ Old Hb Hl) (fun k => xs.length - k.1) (0, v_7) ?_ ?_ ?_
  · exact Sub.all rfl
  · exact ⟨Nat.zero_le _, wa.cast (by simp) (by simp), ws, oB⟩
  rintro ⟨k, vk⟩ H2 ⟨hk, wa, ws, oB⟩
  dsimp only at hk wa ws
  have zg := wa.lt
  have o0 : OldB 0 H H2 := ws.ob0
  refine KC.sr (KL.fin 1 rfl (KQ.seq (KC.seq ?_)))
  refine KC.iq rfl ?_ ?_
  · intro hc16
    try dsimp only at hc16
    have hk2 : k < xs.length := by omega
    obtain ⟨hcx, hx1, hx2⟩ := hs.limAt k hk2
    have hroom := En.room (f := En.tabB) (c := 1099501627776) (a := l) hk2 (by omega)
    refine KC.skip (KQ.seq (KC.seq (KC.block (KC.sr ?_))))
    refine KL.q (R.index (j := k) rfl Tryd.underlying25 sz47 rfl rfl hs rfl (by omega)) rfl ?_
    refine KL.lda rfl (oB.cells hcx) rfl ?_
    have abv : vk = .slice none 0 0 ∨ vblock vk ≠ Array.size H2 := wa.w.lt.imp id (fun e => by omega)
    have oP : Old H2 H2 := Old.refl _
    have waT := wa
    have wsT := ws
    refine KL.m (M.alloc rfl zr47 rfl) rfl ?_
    rintro _ H3 ⟨rfl, n3⟩
    have z3 := n3.2.1
    have o0 := o0.trans ((n3.1).b (by omega))
    have oB := oB.trans n3.1
    have oP := oP.trans n3.1
    have b3 := n3.2.2
    have bv := b3
    refine KL.opS (S.storeAgg rfl sz47 rfl rfl (rfl) (by intro z hz; simp only [List.mem_cons, List.not_mem_nil, or_false] at hz; rcases hz with rfl | rfl <;> rfl) bv (by simp)) rfl rfl ?_
    rintro H4 ⟨u4, b4⟩
    have o0 := o0.trans (OldB.upd u4 (by omega))
    have zu4 := u4.1
    have oB := oB.upd u4 (by omega)
    have oP := oP.upd u4 (by omega)
    have bv := b4
    rw [over_all (by rfl)] at bv
    have wa := waT.old oP
    have ws := wsT.old oP
    have o0 := ws.ob0
    refine KL.nil (KQ.r (KL.run 1 rfl (KL.lda rfl (cells_of bv) rfl ?_)))
    refine KL.c rfl Tryd.call30 (wtable_any wa _ _ hx1 hx2 (by omega)) ?_
    rintro _ H5 ⟨v_8, wa_8, s_8⟩
    have oB := s_8.om wa oB hgB
    have abv2 := s_8.apart abv (blk_lt bv)
    have bv := s_8.blk bv (by omega) abv
    have abv := abv2
    have zs_8 := s_8.sz
    have ws := ws.trans s_8
    have wa := wa_8
    have o0 := o0.trans s_8.ob0
    refine KL.nil (KQ.normBlock (KQ.r ?_))
    refine KL.q ((R.add rfl rfl rfl (by dsimp only [InR]; omega)).val (congrArg (Value.int .i64) (show (k : Int) + 1 = ((k + 1 : Nat) : Int) by omega))) rfl ?_
    refine KL.fin 1 rfl ?_
    refine KQ.again ((k + 1, v_8)) ?_ ?_ ?_
    · exact Sub.all rfl
    · show xs.length - (k + 1) < xs.length - k; omega
    exact ⟨by show k + 1 ≤ _; omega, by dsimp only; exact wa.cast (En.lst_step (by omega)) (En.all_step (by omega)), ws, oB⟩
  intro hc16
  try dsimp only at hc16
  have hkl : k = xs.length := by omega
  rw [hkl, List.take_length] at wa
  refine KC.exit (KQ.exitThen (KQ.exitThen (KQ.hit (KQ.fin0 Tryd.results76 ?_))))
  exact ⟨_, wa.cast (rfl) (rfl), ws⟩
theorem wlist_limits {H : Heap} {g : Nat} {v : Value} {l : List Int} {bad : Bool} (wa : WA H g v l bad) {Hb : Heap} (oB : Old Hb H) (hgB : Hb.size ≤ g) {u : Value} {xs : List (Int × Int)} (hs : Sl 2 ELim Hb u xs) (hm : xs.length ≤ 4294967295) (hN : l.length + (En.lst En.limB xs).length + 10000000 ≤ 1099511627776) : Ct Tryd.prog 76 [.pointer (some ⟨g, 0, none⟩), u, .func (.func 32) #[.pointer (some ⟨g, 0, none⟩)] #[]] H (fun _ H' => ∃ v', WA H' g v' (l ++ En.lst En.limB xs) (bad || !xs.all En.limO) ∧ WS g v H v' H') := by
  refine Ct.mk Tryd.func76 rfl Tryd.ntmps76 rfl ?_
  intro W0 hW0
  have o0 : OldB 0 H H := OldB.refl _ H
  have ws := WS.refl g v H
  have zg := wa.lt
  have hlst : 0 ≤ (En.lst En.limB xs).length := Nat.zero_le _
  refine KC.sr (KL.run 2 rfl (KL.q (R.lenS rfl Tryd.underlying25 rfl hs) rfl ?_))
  refine KL.q (R.convI rfl Tryd.underlying3 Tryd.underlying28 rfl (by dsimp only [InR]; omega)) rfl ?_
  refine KL.c rfl Tryd.call27 (wu32_any wa _ (by dsimp only [InR]; omega) (by omega)) ?_
  rintro _ H1 ⟨v_9, wa_9, s_9⟩
  have oB := s_9.om wa oB hgB
  have zs_9 := s_9.sz
  have ws := ws.trans s_9
  have wa := wa_9
  have o0 := o0.trans s_9.ob0
  have hul := En.u_le (xs.length : Nat)
  refine KL.nil (KQ.sr (KL.run 1 rfl (KL.q (R.lenS rfl Tryd.underlying25 rfl hs) rfl (KL.fin 1 rfl (KQ.seq (KC.block ?_))))))
  refine KC.loopD (κ := Nat × Value) [16, 17, 18, 7, 19, 20, 21, 22, 15] (fun k => [(15, .int .i64 (k.1 : Nat))]) (fun k Hl => k.1 ≤ xs.length ∧ WA Hl g k.2 (l ++ (En.u (xs.length : Nat) ++ (xs.take k.1).flatMap En.limB)) (bad || !(xs.take k.1).all En.limO) ∧ WS g v H k.2 Hl ∧ Old Hb Hl) (fun k => xs.length - k.1) (0, v_9) ?_ ?_ ?_
  · exact Sub.all rfl
  · exact ⟨Nat.zero_le _, wa.cast (by simp) (by simp), ws, oB⟩
  rintro ⟨k, vk⟩ H2 ⟨hk, wa, ws, oB⟩
  dsimp only at hk wa ws
  have zg := wa.lt
  have o0 : OldB 0 H H2 := ws.ob0
  refine KC.sr (KL.fin 1 rfl (KQ.seq (KC.seq ?_)))
  refine KC.iq rfl ?_ ?_
  · intro hc16
    try dsimp only at hc16
    have hk2 : k < xs.length := by omega
    obtain ⟨hcx, hx1, hx2⟩ := hs.limAt k hk2
    have hroom := En.room (f := En.limB) (c := 1099501627776) (a := l) hk2 (by omega)
    refine KC.skip (KQ.seq (KC.seq (KC.block (KC.sr ?_))))
    refine KL.q (R.index (j := k) rfl Tryd.underlying25 sz47 rfl rfl hs rfl (by omega)) rfl ?_
    refine KL.lda rfl (oB.cells hcx) rfl ?_
    have abv : vk = .slice none 0 0 ∨ vblock vk ≠ Array.size H2 := wa.w.lt.imp id (fun e => by omega)
    have oP : Old H2 H2 := Old.refl _
    have waT := wa
    have wsT := ws
    refine KL.m (M.alloc rfl zr47 rfl) rfl ?_
    rintro _ H3 ⟨rfl, n3⟩
    have z3 := n3.2.1
    have o0 := o0.trans ((n3.1).b (by omega))
    have oB := oB.trans n3.1
    have oP := oP.trans n3.1
    have b3 := n3.2.2
    have bv := b3
    refine KL.opS (S.storeAgg rfl sz47 rfl rfl (rfl) (by intro z hz; simp only [List.mem_cons, List.not_mem_nil, or_false] at hz; rcases hz with rfl | rfl <;> rfl) bv (by simp)) rfl rfl ?_
    rintro H4 ⟨u4, b4⟩
    have o0 := o0.trans (OldB.upd u4 (by omega))
    have zu4 := u4.1
    have oB := oB.upd u4 (by omega)
    have oP := oP.upd u4 (by omega)
    have bv := b4
    rw [over_all (by rfl)] at bv
    have wa := waT.old oP
    have ws := wsT.old oP
    have o0 := ws.ob0
    refine KL.nil (KQ.r (KL.run 1 rfl (KL.lda rfl (cells_of bv) rfl ?_)))
    refine KL.c rfl Tryd.call32 (wlimits_any wa _ _ hx1 hx2 (by omega)) ?_
    rintro _ H5 ⟨v_10, wa_10, s_10⟩
    have oB := s_10.om wa oB hgB
    have abv2 := s_10.apart abv (blk_lt bv)
    have bv := s_10.blk bv (by omega) abv
    have abv := abv2
    have zs_10 := s_10.sz
    have ws := ws.trans s_10
    have wa := wa_10
    have o0 := o0.trans s_10.ob0
    refine KL.nil (KQ.normBlock (KQ.r ?_))
    refine KL.q ((R.add rfl rfl rfl (by dsimp only [InR]; omega)).val (congrArg (Value.int .i64) (show (k : Int) + 1 = ((k + 1 : Nat) : Int) by omega))) rfl ?_
    refine KL.fin 1 rfl ?_
    refine KQ.again ((k + 1, v_10)) ?_ ?_ ?_
    · exact Sub.all rfl
    · show xs.length - (k + 1) < xs.length - k; omega
    exact ⟨by show k + 1 ≤ _; omega, by dsimp only; exact wa.cast (En.lst_step (by omega)) (En.all_step (by omega)), ws, oB⟩
  intro hc16
  try dsimp only at hc16
  have hkl : k = xs.length := by omega
  rw [hkl, List.take_length] at wa
  refine KC.exit (KQ.exitThen (KQ.exitThen (KQ.hit (KQ.fin0 Tryd.results76 ?_))))
  exact ⟨_, wa.cast (rfl) (rfl), ws⟩
theorem wlist_local {H : Heap} {g : Nat} {v : Value} {l : List Int} {bad : Bool} (wa : WA H g v l bad) {Hb : Heap} (oB : Old Hb H) (hgB : Hb.size ≤ g) {u : Value} {xs : List (Int × Int)} (hs : Sl 2 ELoc Hb u xs) (hm : xs.length ≤ 4294967295) (hN : l.length + (En.lst En.locB xs).length + 10000000 ≤ 1099511627776) : Ct Tryd.prog 82 [.pointer (some ⟨g, 0, none⟩), u, .func (.func 83) #[.pointer (some ⟨g, 0, none⟩)] #[]] H (fun _ H' => ∃ v', WA H' g v' (l ++ En.lst En.locB xs) (bad || !xs.all En.locO) ∧ WS g v H v' H') := by
  refine Ct.mk Tryd.func82 rfl Tryd.ntmps82 rfl ?_
  intro W0 hW0
  have o0 : OldB 0 H H := OldB.refl _ H
  have ws := WS.refl g v H
  have zg := wa.lt
  have hlst : 0 ≤ (En.lst En.locB xs).length := Nat.zero_le _
  refine KC.sr (KL.run 2 rfl (KL.q (R.lenS rfl Tryd.underlying56 rfl hs) rfl ?_))
  refine KL.q (R.convI rfl Tryd.underlying3 Tryd.underlying28 rfl (by dsimp only [InR]; omega)) rfl ?_
  refine KL.c rfl Tryd.call27 (wu32_any wa _ (by dsimp only [InR]; omega) (by omega)) ?_
  rintro _ H1 ⟨v_11, wa_11, s_11⟩
  have oB := s_11.om wa oB hgB
  have zs_11 := s_11.sz
  have ws := ws.trans s_11
  have wa := wa_11
  have o0 := o0.trans s_11.ob0
  have hul := En.u_le (xs.length : Nat)
  refine KL.nil (KQ.sr (KL.run 1 rfl (KL.q (R.lenS rfl Tryd.underlying56 rfl hs) rfl (KL.fin 1 rfl (KQ.seq (KC.block ?_))))))
  refine KC.loopD (κ := Nat × Value) [16, 17, 18, 7, 19, 20, 21, 22, 15] (fun k => [(15, .int .i64 (k.1 : Nat))]) (fun k Hl => k.1 ≤ xs.length ∧ WA Hl g k.2 (l ++ (En.u (xs.length : Nat) ++ (xs.take k.1).flatMap En.locB)) (bad || !(xs.take k.1).all En.locO) ∧ WS g v H k.2 Hl ∧ Old Hb Hl) (fun k => xs.length - k.1) (0, v_11) ?_ ?_ ?_
  · exact Sub.all rfl
  · exact ⟨Nat.zero_le _, wa.cast (by simp) (by simp), ws, oB⟩
  rintro ⟨k, vk⟩ H2 ⟨hk, wa, ws, oB⟩
  dsimp only at hk wa ws
  have zg := wa.lt
  have o0 : OldB 0 H H2 := ws.ob0
  refine KC.sr (KL.fin 1 rfl (KQ.seq (KC.seq ?_)))
  refine KC.iq rfl ?_ ?_
  · intro hc16
    try dsimp only at hc16
    have hk2 : k < xs.length := by omega
    obtain ⟨hcx, hx1, hx2⟩ := hs.locAt k hk2
    have hroom := En.room (f := En.locB) (c := 1099501627776) (a := l) hk2 (by omega)
    refine KC.skip (KQ.seq (KC.seq (KC.block (KC.sr ?_))))
    refine KL.q (R.index (j := k) rfl Tryd.underlying56 sz60 rfl rfl hs rfl (by omega)) rfl ?_
    refine KL.lda rfl (oB.cells hcx) rfl ?_
    have abv : vk = .slice none 0 0 ∨ vblock vk ≠ Array.size H2 := wa.w.lt.imp id (fun e => by omega)
    have oP : Old H2 H2 := Old.refl _
    have waT := wa
    have wsT := ws
    refine KL.m (M.alloc rfl zr60 rfl) rfl ?_
    rintro _ H3 ⟨rfl, n3⟩
    have z3 := n3.2.1
    have o0 := o0.trans ((n3.1).b (by omega))
    have oB := oB.trans n3.1
    have oP := oP.trans n3.1
    have b3 := n3.2.2
    have bv := b3
    refine KL.opS (S.storeAgg rfl sz60 rfl rfl (rfl) (by intro z hz; simp only [List.mem_cons, List.not_mem_nil, or_false] at hz; rcases hz with rfl | rfl <;> rfl) bv (by simp)) rfl rfl ?_
    rintro H4 ⟨u4, b4⟩
    have o0 := o0.trans (OldB.upd u4 (by omega))
    have zu4 := u4.1
    have oB := oB.upd u4 (by omega)
    have oP := oP.upd u4 (by omega)
    have bv := b4
    rw [over_all (by rfl)] at bv
    have wa := waT.old oP
    have ws := wsT.old oP
    have o0 := ws.ob0
    refine KL.nil (KQ.r (KL.run 1 rfl (KL.lda rfl (cells_of bv) rfl ?_)))
    refine KL.c rfl Tryd.call83 (wlocal_any wa _ _ hx1 hx2 (by omega)) ?_
    rintro _ H5 ⟨v_12, wa_12, s_12⟩
    have oB := s_12.om wa oB hgB
    have abv2 := s_12.apart abv (blk_lt bv)
    have bv := s_12.blk bv (by omega) abv
    have abv := abv2
    have zs_12 := s_12.sz
    have ws := ws.trans s_12
    have wa := wa_12
    have o0 := o0.trans s_12.ob0
    refine KL.nil (KQ.normBlock (KQ.r ?_))
    refine KL.q ((R.add rfl rfl rfl (by dsimp only [InR]; omega)).val (congrArg (Value.int .i64) (show (k : Int) + 1 = ((k + 1 : Nat) : Int) by omega))) rfl ?_
    refine KL.fin 1 rfl ?_
    refine KQ.again ((k + 1, v_12)) ?_ ?_ ?_
    · exact Sub.all rfl
    · show xs.length - (k + 1) < xs.length - k; omega
    exact ⟨by show k + 1 ≤ _; omega, by dsimp only; exact wa.cast (En.lst_step (by omega)) (En.all_step (by omega)), ws, oB⟩
  intro hc16
  try dsimp only at hc16
  have hkl : k = xs.length := by omega
  rw [hkl, List.take_length] at wa
  refine KC.exit (KQ.exitThen (KQ.exitThen (KQ.hit (KQ.fin0 Tryd.results82 ?_))))
  exact ⟨_, wa.cast (rfl) (rfl), ws⟩
end Go.Proofs.YtldmfchamcpmmaaDoor
namespace Go.Proofs.YtldmfchamcpmmaaDoor
open Go Go.RowKit
set_option linter.unusedVariables false
set_option linter.unusedSimpArgs false
set_option linter.unnecessarySimpa false
theorem wtyped_any {H : Heap} {g : Nat} {v : Value} {l : List Int} {bad : Bool} (wa : WA H g v l bad) {Hb : Heap} (oB : Old Hb H) (hgB : Hb.size ≤ g) {a b : Value} {x : FTy} (ha : Sl 1 (EInt .u8) Hb a x.1) (hb : Sl 1 (EInt .u8) Hb b x.2) (h1 : x.1.length ≤ 4000) (h2 : x.2.length ≤ 4000) (hN : l.length + 20000 + 20000000 ≤ 1099511627776) : Ct Tryd.prog 21 [.pointer (some ⟨g, 0, none⟩), .agg [a, b].toArray] H (fun _ H' => ∃ v', WA H' g v' (l ++ En.typB x) (bad || !En.typO x) ∧ WS g v H v' H') := by
  refine Ct.mk Tryd.func21 rfl Tryd.ntmps21 rfl ?_
  intro W0 hW0
  have o0 : OldB 0 H H := OldB.refl _ H
  have ws := WS.refl g v H
  have zg := wa.lt
  have q1 := En.lst_le (f := En.valB) (c := 1) (l := x.1) (fun _ _ => by simp [En.valB])
  have q2 := En.lst_le (f := En.valB) (c := 1) (l := x.2) (fun _ _ => by simp [En.valB])
  refine KC.sr ?_
  have abx : v = .slice none 0 0 ∨ vblock v ≠ Array.size H := wa.w.lt.imp id (fun e => by omega)
  refine KL.m (M.box rfl rfl rfl) rfl ?_
  rintro _ H1 ⟨rfl, n1⟩
  have z1 := n1.2.1
  have o0 := o0.trans ((n1.1).b (by omega))
  have wa := wa.old n1.1
  have ws := ws.old n1.1
  have oB := oB.trans n1.1
  have b1 := n1.2.2
  have bx := b1
  refine KL.nil (KQ.sr (KL.run 1 rfl ?_))
  refine KL.m (M.lit rfl Tryd.underlying36 zs5 (by decide) rfl rfl rfl) rfl ?_
  rintro _ H2 ⟨rfl, n2⟩
  have z2 := n2.2.1
  have o0 := o0.trans ((n2.1).b (by omega))
  have wa := wa.old n2.1
  have ws := ws.old n2.1
  have oB := oB.trans n2.1
  have bx := (n2.1).blk bx
  have b2 := n2.2.2
  have s0 : Sl 1 (EInt .u8) H2 _ [96] := Sl.lits (l := [96]) n2 rfl (by simp) (by intro y hy; simp only [List.mem_cons, List.not_mem_nil, or_false] at hy; subst hy; dsimp only [InR] at *; omega)
  refine KL.c rfl Tryd.call68 (wbyte_any wa s0 (by simp only [List.length_singleton]; omega)) ?_
  rintro _ H3 ⟨v_1, wa_1, s_1⟩
  have oB := s_1.om wa oB hgB
  have abx2 := s_1.apart abx (blk_lt bx)
  have bx := s_1.blk bx (by omega) abx
  have abx := abx2
  have zs_1 := s_1.sz
  have ws := ws.trans s_1
  have wa := wa_1
  have o0 := o0.trans s_1.ob0
  refine KL.nil (KQ.sr (KL.run 2 rfl (KL.ld rfl (cell_of bx rfl) (KL.run 2 rfl ?_))))
  refine KL.c rfl Tryd.call69 (wlist_value wa oB hgB ha (by omega) (by simp only [List.length_append, List.length_cons, List.length_nil]; omega)) ?_
  rintro _ H4 ⟨v_2, wa_2, s_2⟩
  have oB := s_2.om wa oB hgB
  have abx2 := s_2.apart abx (blk_lt bx)
  have bx := s_2.blk bx (by omega) abx
  have abx := abx2
  have zs_2 := s_2.sz
  have ws := ws.trans s_2
  have wa := wa_2
  have o0 := o0.trans s_2.ob0
  refine KL.nil (KQ.r (KL.run 2 rfl (KL.ld rfl (cell_of bx rfl) (KL.run 2 rfl ?_))))
  refine KL.c rfl Tryd.call69 (wlist_value wa oB hgB hb (by omega) (by simp only [List.length_append, List.length_cons, List.length_nil]; omega)) ?_
  rintro _ H5 ⟨v_3, wa_3, s_3⟩
  have oB := s_3.om wa oB hgB
  have abx2 := s_3.apart abx (blk_lt bx)
  have bx := s_3.blk bx (by omega) abx
  have abx := abx2
  have zs_3 := s_3.sz
  have ws := ws.trans s_3
  have wa := wa_3
  have o0 := o0.trans s_3.ob0
  refine KL.nil (KQ.fin0 Tryd.results21 ?_)
  exact ⟨_, wa.cast (by unfold En.typB; simp) (by unfold En.typO; simp [Bool.or_assoc]), ws⟩
theorem wglobal_any {H : Heap} {g : Nat} {v : Value} {l : List Int} {bad : Bool} (wa : WA H g v l bad) {Hb : Heap} (oB : Old Hb H) (hgB : Hb.size ≤ g) (t : Int) (mu : Bool) (rt : InR .u8 t) {u : Value} {xs : List Ins} (hs : Sl 5 EIns Hb u xs) (hb : Isp.bulk xs ≤ 4000) (hN : l.length + 20000000 ≤ 1099511627776) : Ct Tryd.prog 35 [.pointer (some ⟨g, 0, none⟩), .agg [.int .u8 t, .bool mu, u].toArray] H (fun _ H' => ∃ v', WA H' g v' (l ++ En.gloB ((t, mu), xs)) (bad || !En.gloO ((t, mu), xs)) ∧ WS g v H v' H') := by
  refine Ct.mk Tryd.func35 rfl Tryd.ntmps35 rfl ?_
  intro W0 hW0
  have o0 : OldB 0 H H := OldB.refl _ H
  have ws := WS.refl g v H
  have zg := wa.lt
  refine KC.sr ?_
  have abx : v = .slice none 0 0 ∨ vblock v ≠ Array.size H := wa.w.lt.imp id (fun e => by omega)
  refine KL.m (M.box rfl rfl rfl) rfl ?_
  rintro _ H1 ⟨rfl, n1⟩
  have z1 := n1.2.1
  have o0 := o0.trans ((n1.1).b (by omega))
  have wa := wa.old n1.1
  have ws := ws.old n1.1
  have oB := oB.trans n1.1
  have b1 := n1.2.2
  have bx := b1
  refine KL.nil (KQ.sr (KL.run 2 rfl (KL.lda rfl (cells_mid (k := 0) (n := 2) bx) rfl ?_)))
  refine KL.c rfl Tryd.call74 (wglob_any wa t mu rt (by omega)) ?_
  rintro _ H2 ⟨v_4, wa_4, s_4⟩
  have oB := s_4.om wa oB hgB
  have abx2 := s_4.apart abx (blk_lt bx)
  have bx := s_4.blk bx (by omega) abx
  have abx := abx2
  have zs_4 := s_4.sz
  have ws := ws.trans s_4
  have wa := wa_4
  have o0 := o0.trans s_4.ob0
  have hgl := En.glob_le (t, mu)
  refine KL.nil (KQ.r (KL.run 2 rfl (KL.ld rfl (cell_of bx rfl) ?_)))
  refine KL.c rfl Tryd.call78 (wexpr_any wa oB hgB hs hb (by rw [List.length_append]; omega)) ?_
  rintro _ H3 ⟨v_5, wa_5, s_5⟩
  have oB := s_5.om wa oB hgB
  have abx2 := s_5.apart abx (blk_lt bx)
  have bx := s_5.blk bx (by omega) abx
  have abx := abx2
  have zs_5 := s_5.sz
  have ws := ws.trans s_5
  have wa := wa_5
  have o0 := o0.trans s_5.ob0
  refine KL.nil (KQ.fin0 Tryd.results35 ?_)
  exact ⟨_, wa.cast (by unfold En.gloB; simp) (by unfold En.gloO; simp [Bool.or_assoc]), ws⟩
theorem wexport_any {H : Heap} {g : Nat} {v : Value} {l : List Int} {bad : Bool} (wa : WA H g v l bad) {Hb : Heap} (oB : Old Hb H) (hgB : Hb.size ≤ g) (hT : TabU Hb) (s : ByteArray) (kd ix : Int) (hz : s.size ≤ 4000) (rk : InR .u8 kd) (ri : InR .u32 ix) (hN : l.length + 20000000 ≤ 1099511627776) : Ct Tryd.prog 38 [.pointer (some ⟨g, 0, none⟩), .agg [.string s, .int .u8 kd, .int .u32 ix].toArray] H (fun _ H' => ∃ v', WA H' g v' (l ++ En.expB ⟨s, kd, ix⟩) (bad || !En.expO ⟨s, kd, ix⟩) ∧ WS g v H v' H') := by
  refine Ct.mk Tryd.func38 rfl Tryd.ntmps38 rfl ?_
  intro W0 hW0
  have o0 : OldB 0 H H := OldB.refl _ H
  have ws := WS.refl g v H
  have zg := wa.lt
  dsimp only [InR] at rk
  refine KC.sr ?_
  have abx : v = .slice none 0 0 ∨ vblock v ≠ Array.size H := wa.w.lt.imp id (fun e => by omega)
  refine KL.m (M.box rfl rfl rfl) rfl ?_
  rintro _ H1 ⟨rfl, n1⟩
  have z1 := n1.2.1
  have o0 := o0.trans ((n1.1).b (by omega))
  have wa := wa.old n1.1
  have ws := ws.old n1.1
  have oB := oB.trans n1.1
  have b1 := n1.2.2
  have bx := b1
  refine KL.nil (KQ.sr (KL.run 2 rfl (KL.ld rfl (cell_of bx rfl) ?_)))
  refine KL.c rfl Tryd.call72 (wname_any wa oB hgB hT s (by omega) (by omega)) ?_
  rintro _ H2 ⟨v_6, wa_6, s_6⟩
  have oB := s_6.om wa oB hgB
  have abx2 := s_6.apart abx (blk_lt bx)
  have bx := s_6.blk bx (by omega) abx
  have abx := abx2
  have zs_6 := s_6.sz
  have ws := ws.trans s_6
  have wa := wa_6
  have o0 := o0.trans s_6.ob0
  have htx := En.txt_le hz
  refine KL.nil (KQ.sr (KL.run 2 rfl (KL.ld rfl (cell_of bx rfl) (KL.run 1 rfl ?_))))
  refine KL.c rfl Tryd.call73 (wmay_any wa _) ?_
  rintro _ H3 ⟨wa_7, s_7⟩
  have oB := s_7.om wa oB hgB
  have abx2 := s_7.apart abx (blk_lt bx)
  have bx := s_7.blk bx (by omega) abx
  have abx := abx2
  have zs_7 := s_7.sz
  have ws := ws.trans s_7
  have wa := wa_7
  have o0 := o0.trans s_7.ob0
  refine KL.nil (KQ.sr (KL.run 2 rfl (KL.ld rfl (cell_of bx rfl) ?_)))
  refine KL.m (M.lit rfl Tryd.underlying36 zs5 (by decide) rfl rfl rfl) rfl ?_
  rintro _ H4 ⟨rfl, n4⟩
  have z4 := n4.2.1
  have o0 := o0.trans ((n4.1).b (by omega))
  have wa := wa.old n4.1
  have ws := ws.old n4.1
  have oB := oB.trans n4.1
  have bx := (n4.1).blk bx
  have b4 := n4.2.2
  have s0 : Sl 1 (EInt .u8) H4 _ [kd] := Sl.lits (l := [kd]) n4 rfl (by simp) (by intro y hy; simp only [List.mem_cons, List.not_mem_nil, or_false] at hy; subst hy; dsimp only [InR] at *; omega)
  refine KL.c rfl Tryd.call68 (wbyte_any wa s0 (by simp only [List.length_append, List.length_cons, List.length_nil]; omega)) ?_
  rintro _ H5 ⟨v_8, wa_8, s_8⟩
  have oB := s_8.om wa oB hgB
  have abx2 := s_8.apart abx (blk_lt bx)
  have bx := s_8.blk bx (by omega) abx
  have abx := abx2
  have zs_8 := s_8.sz
  have ws := ws.trans s_8
  have wa := wa_8
  have o0 := o0.trans s_8.ob0
  refine KL.nil (KQ.r (KL.run 2 rfl (KL.ld rfl (cell_of bx rfl) ?_)))
  refine KL.c rfl Tryd.call27 (wu32_any wa _ ri (by simp only [List.length_append, List.length_cons, List.length_nil]; omega)) ?_
  rintro _ H6 ⟨v_9, wa_9, s_9⟩
  have oB := s_9.om wa oB hgB
  have abx2 := s_9.apart abx (blk_lt bx)
  have bx := s_9.blk bx (by omega) abx
  have abx := abx2
  have zs_9 := s_9.sz
  have ws := ws.trans s_9
  have wa := wa_9
  have o0 := o0.trans s_9.ob0
  refine KL.nil (KQ.fin0 Tryd.results38 ?_)
  exact ⟨_, wa.cast (by unfold En.expB; simp) (by unfold En.expO; simp [Bool.or_assoc]), ws⟩
theorem welem_any {H : Heap} {g : Nat} {v : Value} {l : List Int} {bad : Bool} (wa : WA H g v l bad) {Hb : Heap} (oB : Old Hb H) (hgB : Hb.size ≤ g) (tb : Int) (rt : InR .u32 tb) {u w : Value} {xs : List Ins} {fs : List Int} (hs : Sl 5 EIns Hb u xs) (hf : Sl 1 (EInt .u32) Hb w fs) (hb : Isp.bulk xs ≤ 4000) (hl : fs.length ≤ 4000) (hN : l.length + 1000000 + 20000000 ≤ 1099511627776) : Ct Tryd.prog 42 [.pointer (some ⟨g, 0, none⟩), .agg [.int .u32 tb, u, w].toArray] H (fun _ H' => ∃ v', WA H' g v' (l ++ En.elmB (tb, xs, fs)) (bad || !En.elmO (tb, xs, fs)) ∧ WS g v H v' H') := by
  refine Ct.mk Tryd.func42 rfl Tryd.ntmps42 rfl ?_
  intro W0 hW0
  have o0 : OldB 0 H H := OldB.refl _ H
  have ws := WS.refl g v H
  have zg := wa.lt
  have q1 := En.lst_le (f := En.u) (c := 10) (l := fs) (fun _ _ => En.u_le _)
  refine KC.sr ?_
  have abx : v = .slice none 0 0 ∨ vblock v ≠ Array.size H := wa.w.lt.imp id (fun e => by omega)
  refine KL.m (M.box rfl rfl rfl) rfl ?_
  rintro _ H1 ⟨rfl, n1⟩
  have z1 := n1.2.1
  have o0 := o0.trans ((n1.1).b (by omega))
  have wa := wa.old n1.1
  have ws := ws.old n1.1
  have oB := oB.trans n1.1
  have b1 := n1.2.2
  have bx := b1
  refine KL.nil (KQ.sr (KL.run 2 rfl (KL.ld rfl (cell_of bx rfl) ?_)))
  refine KL.c rfl Tryd.call27 (wu32_any wa _ rt (by omega)) ?_
  rintro _ H2 ⟨v_10, wa_10, s_10⟩
  have oB := s_10.om wa oB hgB
  have abx2 := s_10.apart abx (blk_lt bx)
  have bx := s_10.blk bx (by omega) abx
  have abx := abx2
  have zs_10 := s_10.sz
  have ws := ws.trans s_10
  have wa := wa_10
  have o0 := o0.trans s_10.ob0
  have hut := En.u_le tb
  refine KL.nil (KQ.sr (KL.run 2 rfl (KL.ld rfl (cell_of bx rfl) ?_)))
  refine KL.c rfl Tryd.call78 (wexpr_any wa oB hgB hs hb (by rw [List.length_append]; omega)) ?_
  rintro _ H3 ⟨v_11, wa_11, s_11⟩
  have oB := s_11.om wa oB hgB
  have abx2 := s_11.apart abx (blk_lt bx)
  have bx := s_11.blk bx (by omega) abx
  have abx := abx2
  have zs_11 := s_11.sz
  have ws := ws.trans s_11
  have wa := wa_11
  have o0 := o0.trans s_11.ob0
  have hxl := En.expr_le hb
  refine KL.nil (KQ.r (KL.run 2 rfl (KL.ld rfl (cell_of bx rfl) (KL.run 2 rfl ?_))))
  refine KL.c rfl Tryd.call75 (wlist_u32 wa oB hgB hf (by omega) (by simp only [List.length_append, List.length_cons, List.length_nil]; omega)) ?_
  rintro _ H4 ⟨v_12, wa_12, s_12⟩
  have oB := s_12.om wa oB hgB
  have abx2 := s_12.apart abx (blk_lt bx)
  have bx := s_12.blk bx (by omega) abx
  have abx := abx2
  have zs_12 := s_12.sz
  have ws := ws.trans s_12
  have wa := wa_12
  have o0 := o0.trans s_12.ob0
  refine KL.nil (KQ.fin0 Tryd.results42 ?_)
  exact ⟨_, wa.cast (by unfold En.elmB; simp) (by unfold En.elmO; rw [show fs.all En.tru = true from List.all_eq_true.2 (fun _ _ => rfl)]; simp), ws⟩
theorem wdata_any {H : Heap} {g : Nat} {v : Value} {l : List Int} {bad : Bool} (wa : WA H g v l bad) {Hb : Heap} (oB : Old Hb H) (hgB : Hb.size ≤ g) (tb : Int) (rt : InR .u32 tb) {u w : Value} {xs : List Ins} {fs : List Int} (hs : Sl 5 EIns Hb u xs) (hf : Sl 1 (EInt .u8) Hb w fs) (hb : Isp.bulk xs ≤ 4000) (hl : fs.length ≤ 200000) (hN : l.length + 1000000 + 20000000 ≤ 1099511627776) : Ct Tryd.prog 48 [.pointer (some ⟨g, 0, none⟩), .agg [.int .u32 tb, u, w].toArray] H (fun _ H' => ∃ v', WA H' g v' (l ++ En.datB (tb, xs, fs)) (bad || !En.datO (tb, xs, fs)) ∧ WS g v H v' H') := by
  refine Ct.mk Tryd.func48 rfl Tryd.ntmps48 rfl ?_
  intro W0 hW0
  have o0 : OldB 0 H H := OldB.refl _ H
  have ws := WS.refl g v H
  have zg := wa.lt
  refine KC.sr ?_
  have abx : v = .slice none 0 0 ∨ vblock v ≠ Array.size H := wa.w.lt.imp id (fun e => by omega)
  refine KL.m (M.box rfl rfl rfl) rfl ?_
  rintro _ H1 ⟨rfl, n1⟩
  have z1 := n1.2.1
  have o0 := o0.trans ((n1.1).b (by omega))
  have wa := wa.old n1.1
  have ws := ws.old n1.1
  have oB := oB.trans n1.1
  have b1 := n1.2.2
  have bx := b1
  refine KL.nil (KQ.sr (KL.run 2 rfl (KL.ld rfl (cell_of bx rfl) ?_)))
  refine KL.c rfl Tryd.call27 (wu32_any wa _ rt (by omega)) ?_
  rintro _ H2 ⟨v_13, wa_13, s_13⟩
  have oB := s_13.om wa oB hgB
  have abx2 := s_13.apart abx (blk_lt bx)
  have bx := s_13.blk bx (by omega) abx
  have abx := abx2
  have zs_13 := s_13.sz
  have ws := ws.trans s_13
  have wa := wa_13
  have o0 := o0.trans s_13.ob0
  have hut := En.u_le tb
  refine KL.nil (KQ.sr (KL.run 2 rfl (KL.ld rfl (cell_of bx rfl) ?_)))
  refine KL.c rfl Tryd.call78 (wexpr_any wa oB hgB hs hb (by rw [List.length_append]; omega)) ?_
  rintro _ H3 ⟨v_14, wa_14, s_14⟩
  have oB := s_14.om wa oB hgB
  have abx2 := s_14.apart abx (blk_lt bx)
  have bx := s_14.blk bx (by omega) abx
  have abx := abx2
  have zs_14 := s_14.sz
  have ws := ws.trans s_14
  have wa := wa_14
  have o0 := o0.trans s_14.ob0
  have hxl := En.expr_le hb
  refine KL.nil (KQ.r (KL.run 2 rfl (KL.ld rfl (cell_of bx rfl) ?_)))
  refine KL.c rfl Tryd.call84 (wbytes_any wa oB hgB hf (by omega) (by simp only [List.length_append, List.length_cons, List.length_nil]; omega)) ?_
  rintro _ H4 ⟨v_15, wa_15, s_15⟩
  have oB := s_15.om wa oB hgB
  have abx2 := s_15.apart abx (blk_lt bx)
  have bx := s_15.blk bx (by omega) abx
  have abx := abx2
  have zs_15 := s_15.sz
  have ws := ws.trans s_15
  have wa := wa_15
  have o0 := o0.trans s_15.ob0
  refine KL.nil (KQ.fin0 Tryd.results48 ?_)
  exact ⟨_, wa.cast (by unfold En.datB; simp) (by unfold En.datO; simp), ws⟩
end Go.Proofs.YtldmfchamcpmmaaDoor
namespace Go.Proofs.YtldmfchamcpmmaaDoor
open Go Go.RowKit
set_option linter.unusedVariables false
set_option linter.unusedSimpArgs false
set_option linter.unnecessarySimpa false
theorem wcode_any {H : Heap} {g : Nat} {v : Value} {l : List Int} {bad : Bool} (wa : WA H g v l bad) {Hb : Heap} (oB : Old Hb H) (hgB : Hb.size ≤ g) {u w : Value} {ls : List (Int × Int)} {xs : List Ins} (hL : Sl 2 ELoc Hb u ls) (hs : Sl 5 EIns Hb w xs) (h1 : ls.length ≤ 4000) (hb : Isp.bulk xs ≤ 4000) (hN : l.length + 1000000 + 20000000 ≤ 1099511627776) : Ct Tryd.prog 45 [.pointer (some ⟨g, 0, none⟩), .agg [u, w].toArray] H (fun _ H' => ∃ v', WA H' g v' (l ++ En.codB (ls, xs)) (bad || !En.codO (ls, xs)) ∧ WS g v H v' H') := by
  refine Ct.mk Tryd.func45 rfl Tryd.ntmps45 rfl ?_
  intro W0 hW0
  have o0 : OldB 0 H H := OldB.refl _ H
  have ws := WS.refl g v H
  have zg := wa.lt
  have q1 := En.lst_le (f := En.locB) (c := 11) (l := ls) (fun y _ => by have := En.u_le y.1; unfold En.locB; simp; omega)
  have hlr : ∀ x ∈ ls, 0 ≤ x.1 ∧ x.1 ≤ 4294967295 := by
    intro x hx
    obtain ⟨j, hj, rfl⟩ := List.getElem_of_mem hx
    have h := (hL.locAt j hj).2.1
    rw [List.getD_eq_getElem?_getD, List.getElem?_eq_getElem hj] at h
    exact h
  refine KC.sr ?_
  have abx : v = .slice none 0 0 ∨ vblock v ≠ Array.size H := wa.w.lt.imp id (fun e => by omega)
  refine KL.m (M.box rfl rfl rfl) rfl ?_
  rintro _ H1 ⟨rfl, n1⟩
  have z1 := n1.2.1
  have o0 := o0.trans ((n1.1).b (by omega))
  have wa := wa.old n1.1
  have ws := ws.old n1.1
  have oB := oB.trans n1.1
  have b1 := n1.2.2
  have bx := b1
  refine KL.nil (KQ.sr (KL.b0 bt137 rfl rfl ?_))
  have hvg : v = .slice none 0 0 ∨ vblock v < Array.size H1 := wa.w.lt.imp id (fun e => by omega)
  have hgg : g < Array.size H1 := wa.lt
  have hzg : Array.size H ≤ Array.size H1 := ws.sz
  refine KL.m (M.box rfl rfl rfl) rfl ?_
  rintro _ H2 ⟨rfl, n2⟩
  have z2 := n2.2.1
  have o0 := o0.trans ((n2.1).b (by omega))
  have wa := wa.old n2.1
  have ws := ws.old n2.1
  have oB := oB.trans n2.1
  have bx := (n2.1).blk bx
  have b2 := n2.2.2
  have b9 := b2
  have wi : WA H2 (Array.size H1) (.slice none 0 0) [] false := ⟨b9, Own.nil _ _ _ _ _ _⟩
  refine KL.fin 1 rfl (KQ.sr (KL.run 2 rfl (KL.ld rfl (cell_of bx rfl) (KL.run 2 rfl ?_))))
  refine KL.c rfl Tryd.call82 (wlist_local wi oB (by omega) hL (by omega) (by simp only [List.length_nil]; omega)) ?_
  rintro _ H3 ⟨y_1, wi_1, t_1⟩
  have lo_1 := t_1.low wi
  have oB := t_1.om wi oB (by omega)
  have bx := (lo_1.2 _ (by omega)).trans bx
  have zt_1 := t_1.sz
  have wa := wa.keep lo_1 hgg hvg
  have ws := ws.behind lo_1 hzg
  have o0 := o0.trans t_1.ob0
  have wi := wi_1
  refine KL.nil (KQ.sr (KL.fin 1 rfl (KQ.seq (KC.seq (KC.sr (KL.run 1 rfl (KL.ld rfl (cell_of bx rfl) (KL.q (R.lenS rfl Tryd.underlying56 rfl hL) rfl (KL.fin 1 rfl (KQ.seq ?_))))))))))
  refine KC.block ?_
  refine KC.loopD (κ := Nat) [20, 21, 22, 7, 23, 24, 25, 26, 27, 5, 28, 19] (fun k => [(5, .int .u64 (En.locS (ls.take k))), (19, .int .i64 (k : Nat))]) (fun k Hl => k ≤ ls.length ∧ WA Hl g v l bad ∧ WS g v H v Hl ∧ WA Hl (Array.size H1) y_1 (([] : List Int) ++ En.lst En.locB ls) (false || !ls.all En.locO) ∧ Old Hb Hl ∧ Hl[Array.size H]? = some (.cells [u, w].toArray 58 (0, 0))) (fun k => ls.length - k) 0 ?_ ?_ ?_
  · exact Sub.all rfl
  · exact ⟨Nat.zero_le _, wa, ws, wi, oB, bx⟩
  rintro k H4 ⟨hk, wa, ws, wi, oB, bx⟩
  have o0 : OldB 0 H H4 := ws.ob0
  have zgi := wi.lt
  refine KC.sr (KL.fin 1 rfl (KQ.seq (KC.seq ?_)))
  refine KC.iq rfl ?_ ?_
  · intro hc20
    have hk2 : k < ls.length := by omega
    obtain ⟨hcx, hx1, hx2⟩ := hL.locAt k hk2
    have hls := En.locS_rng (l := ls.take k) (fun x hx => hlr x (List.mem_of_mem_take hx))
    rw [List.length_take] at hls
    dsimp only [InR] at hx1
    refine KC.skip (KQ.seq (KC.seq (KC.block (KC.sr ?_))))
    refine KL.q (R.index (j := k) rfl Tryd.underlying56 sz60 rfl rfl hL rfl (by omega)) rfl ?_
    refine KL.lda rfl (oB.cells hcx) rfl ?_
    have oP : Old H4 H4 := Old.refl _
    have waT := wa
    have wsT := ws
    have wiT := wi
    refine KL.m (M.alloc rfl zr60 rfl) rfl ?_
    rintro _ H5 ⟨rfl, n5⟩
    have z5 := n5.2.1
    have o0 := o0.trans ((n5.1).b (by omega))
    have oB := oB.trans n5.1
    have bx := (n5.1).blk bx
    have oP := oP.trans n5.1
    have b5 := n5.2.2
    have bv := b5
    refine KL.opS (S.storeAgg rfl sz60 rfl rfl (rfl) (by intro z hz; simp only [List.mem_cons, List.not_mem_nil, or_false] at hz; rcases hz with rfl | rfl <;> rfl) bv (by simp)) rfl rfl ?_
    rintro H6 ⟨u6, b6⟩
    have o0 := o0.trans (OldB.upd u6 (by omega))
    have zu6 := u6.1
    have oB := oB.upd u6 (by omega)
    have bx := ((u6).2 _ (by omega)).trans bx
    have oP := oP.upd u6 (by omega)
    have bv := b6
    rw [over_all (by rfl)] at bv
    have wa := waT.old oP
    have ws := wsT.old oP
    have wi := wiT.old oP
    have o0 := ws.ob0
    refine KL.nil (KQ.r (KL.run 2 rfl (KL.ld rfl (cell_of bv rfl) ?_)))
    refine KL.q (R.convI rfl Tryd.underlying28 Tryd.underlying101 rfl (by dsimp only [InR]; omega)) rfl ?_
    refine KL.q ((R.add rfl rfl rfl (by dsimp only [InR]; omega)).val (congrArg (Value.int .u64) (En.locS_step hk2).symm)) rfl ?_
    refine KL.fin 1 rfl (KQ.normBlock (KQ.r ?_))
    refine KL.q ((R.add rfl rfl rfl (by dsimp only [InR]; omega)).val (congrArg (Value.int .i64) (show (k : Int) + 1 = ((k + 1 : Nat) : Int) by omega))) rfl ?_
    refine KL.fin 1 rfl ?_
    refine KQ.again (k + 1) ?_ ?_ ?_
    · exact Sub.all rfl
    · omega
    exact ⟨by omega, wa, ws, wi, oB, bx⟩
  intro hc20
  have hkl : k = ls.length := by omega
  subst hkl
  rw [List.take_length]
  refine KC.exit (KQ.exitThen (KQ.exitThen (KQ.hit (KQ.sr (KL.run 2 rfl (KL.ld rfl (cell_of bx rfl) ?_))))))
  refine KL.c rfl Tryd.call78 (wexpr_any wi oB (by omega) hs hb (by rw [List.length_append, List.length_nil]; omega)) ?_
  rintro _ H7 ⟨y_2, wi_2, t_2⟩
  have lo_2 := t_2.low wi
  have oB := t_2.om wi oB (by omega)
  have bx := (lo_2.2 _ (by omega)).trans bx
  have zt_2 := t_2.sz
  have wa := wa.keep lo_2 hgg hvg
  have ws := ws.behind lo_2 hzg
  have o0 := o0.trans t_2.ob0
  have wi := wi_2
  refine KL.nil (KQ.sr (KL.run 4 rfl (KL.ld rfl (cell_of wi.b rfl) (KL.run 2 rfl ?_))))
  refine KL.cq 39 rfl ?_ ?_
  · intro hg39
    refine KL.run 3 rfl ?_
    refine KL.c rfl Tryd.call73 (wmay_any wa _) ?_
    rintro _ H8 ⟨wa_1, s_1⟩
    have wi : WA H8 (Array.size H1) y_2 _ _ := ⟨s_1.blk wi.b (by omega) (hvg.imp id (fun e => by omega)), s_1.own wi.w (wi.w.lt.imp id (fun e => by omega)) (wi.w.lt.elim .inl (fun e => .inr (hvg.imp id (fun q => by omega))))⟩
    have oB := s_1.om wa oB hgB
    have abx2 := s_1.apart abx (blk_lt bx)
    have bx := s_1.blk bx (by omega) abx
    have abx := abx2
    have zs_1 := s_1.sz
    have ws := ws.trans s_1
    have wa := wa_1
    have o0 := o0.trans s_1.ob0
    refine KL.nil (KQ.r (KL.run 4 rfl (KL.ld rfl (cell_of wi.b rfl) ?_)))
    refine KL.c rfl Tryd.call84 (wbytes_own wa wi.w (wi.w.lt.imp id (fun e => by omega)) (wi.w.lt.elim .inl (fun e => .inr (hvg.imp id (fun q => by omega)))) (by rw [List.nil_append]; have := (show (En.lst En.locB ls ++ En.exprB xs).length ≤ 500000 from En.codI_le (x := (ls, xs)) ⟨hb, h1⟩); omega) (by rw [List.nil_append]; have := (show (En.lst En.locB ls ++ En.exprB xs).length ≤ 500000 from En.codI_le (x := (ls, xs)) ⟨hb, h1⟩); omega)) ?_
    rintro _ H9 ⟨v_2, wa_2, s_2⟩
    have oB := s_2.om wa oB hgB
    have abx2 := s_2.apart abx (blk_lt bx)
    have bx := s_2.blk bx (by omega) abx
    have abx := abx2
    have zs_2 := s_2.sz
    have ws := ws.trans s_2
    have wa := wa_2
    have o0 := o0.trans s_2.ob0
    refine KL.nil (KQ.fin0 Tryd.results45 ?_)
    exact ⟨_, wa.cast (by unfold En.codB En.codI; simp) (by unfold En.codO; revert hg39; cases ls.all En.locO <;> cases En.has xs <;> simp), ws⟩
  intro hg39
  refine KL.run 3 rfl ?_
  refine KL.c rfl Tryd.call73 (wmay_any wa _) ?_
  rintro _ H10 ⟨wa_3, s_3⟩
  have wi : WA H10 (Array.size H1) y_2 _ _ := ⟨s_3.blk wi.b (by omega) (hvg.imp id (fun e => by omega)), s_3.own wi.w (wi.w.lt.imp id (fun e => by omega)) (wi.w.lt.elim .inl (fun e => .inr (hvg.imp id (fun q => by omega))))⟩
  have oB := s_3.om wa oB hgB
  have abx2 := s_3.apart abx (blk_lt bx)
  have bx := s_3.blk bx (by omega) abx
  have abx := abx2
  have zs_3 := s_3.sz
  have ws := ws.trans s_3
  have wa := wa_3
  have o0 := o0.trans s_3.ob0
  refine KL.nil (KQ.r (KL.run 4 rfl (KL.ld rfl (cell_of wi.b rfl) ?_)))
  refine KL.c rfl Tryd.call84 (wbytes_own wa wi.w (wi.w.lt.imp id (fun e => by omega)) (wi.w.lt.elim .inl (fun e => .inr (hvg.imp id (fun q => by omega)))) (by rw [List.nil_append]; have := (show (En.lst En.locB ls ++ En.exprB xs).length ≤ 500000 from En.codI_le (x := (ls, xs)) ⟨hb, h1⟩); omega) (by rw [List.nil_append]; have := (show (En.lst En.locB ls ++ En.exprB xs).length ≤ 500000 from En.codI_le (x := (ls, xs)) ⟨hb, h1⟩); omega)) ?_
  rintro _ H11 ⟨v_4, wa_4, s_4⟩
  have oB := s_4.om wa oB hgB
  have abx2 := s_4.apart abx (blk_lt bx)
  have bx := s_4.blk bx (by omega) abx
  have abx := abx2
  have zs_4 := s_4.sz
  have ws := ws.trans s_4
  have wa := wa_4
  have o0 := o0.trans s_4.ob0
  refine KL.nil (KQ.fin0 Tryd.results45 ?_)
  exact ⟨_, wa.cast (by unfold En.codB En.codI; simp) (by unfold En.codO; revert hg39; cases ls.all En.locO <;> cases En.has xs <;> simp), ws⟩
end Go.Proofs.YtldmfchamcpmmaaDoor
namespace Go.Proofs.YtldmfchamcpmmaaDoor
open Go Go.RowKit
set_option linter.unusedVariables false
set_option linter.unusedSimpArgs false
section
variable {P : Program} {E : Env} {H : Heap} {o : Oper}
/-- two structs' fields are alike, or not -/
inductive EqFs (P : Program) (xs ys : Array Value) : List Field → Bool → Prop
  | nil : EqFs P xs ys [] true
  | int {f : Field} {fs : List Field} {k k' : IntKind} {a b : Int} {r : Bool} (hn : f.name ≠ "_") (hu : P.underlying f.type = some (.int k')) (hx : nth xs.toList f.offset = some (.int k a)) (hy : nth ys.toList f.offset = some (.int k b)) (h : EqFs P xs ys fs r) : EqFs P xs ys (f :: fs) (decide (a = b) && r)
  | bool {f : Field} {fs : List Field} {a b : Bool} {r : Bool} (hn : f.name ≠ "_") (hu : P.underlying f.type = some .bool) (hx : nth xs.toList f.offset = some (.bool a)) (hy : nth ys.toList f.offset = some (.bool b)) (h : EqFs P xs ys fs r) : EqFs P xs ys (f :: fs) ((a == b) && r)
theorem part_one {t : TypeId} {ds : TypeDesc} {cs : Array Value} {i : Nat} {v : Value} (hu : P.underlying t = some ds) (hd : isAggD ds = false) (hv : nth cs.toList i = some v) (w : World) : (part t cs i).run P w = .ok v w := by
  have h2 : (isAgg t).run P w = .ok false w := by
    cases ds <;> simp [isAggD] at hd <;> simp [isAgg, underlying, program, hu, Sem.run_bind, Sem.run_pure, Result.andThen, Sem.run]
  rw [nth_eq] at hv
  have hv' : cs[i]? = some v := by simpa using hv
  simp [part, h2, hv', Sem.run_bind, Sem.run_pure, Result.andThen]
theorem EqFs.run {xs ys : Array Value} {fs : List Field} {r : Bool} (h : EqFs P xs ys fs r) (d : Nat) (w : World) : (Op.eqFields (d + 1) xs ys fs).run P w = .ok r w := by
  induction h with
  | nil => simp [Op.eqFields, Sem.run_pure]
  | @int f fs k k' a b r hn hu hx hy h ih =>
    have e : (a == b) = decide (a = b) := rfl
    simp only [Op.eqFields, hn, ne_eq, not_false_eq_true, if_true, Sem.run_bind, part_one hu rfl hx, part_one hu rfl hy, run_equalIn_int w d _ k k' a b hu, Result.andThen_ok, e]
    by_cases hc : a = b
    · simp [hc, ih]
    simp [hc, Sem.run_pure]
  | @bool f fs a b r hn hu hx hy h ih =>
    simp only [Op.eqFields, hn, ne_eq, not_false_eq_true, if_true, Sem.run_bind, part_one hu rfl hx, part_one hu rfl hy, run_equalIn_bool' w d _ a b hu, Result.andThen_ok]
    cases hc : (a == b)
    · simp [Sem.run_pure]
    simp [ih]
theorem R.eqlSt {T T' : TypeId} {x y : Operand} {xs ys : Array Value} {fs : Array Field} {r : Bool} (ho : o.op = .binOp .eql T x y T') (ht : P.underlying T = some (.struct fs)) (hst : P.stoodInHeld T = false) (hG : P.eqGuardType P.depth T = false) (hx : ev E x = some (.agg xs)) (hy : ev E y = some (.agg ys)) (hf : EqFs P xs ys fs.toList r) : Run P E H o (.bool r) := by
  intro ρ w ha hw
  have e : P.fieldsOf T = fs := by simp [Program.fieldsOf, ht]
  have h1 : (Op.equal T (.agg xs) (.agg ys)).run P w = .ok r w := by
    show (Op.equalIn (9999 + 1) T _ _).run P w = _
    rw [run_equalIn_struct w 9999 T xs ys (by rw [e]; exact ht) hst, e]
    exact hf.run 9998 w
  simp [execOp, ho, ha x _ hx, ha y _ hy, run_eqGuard_agg w _ T x y xs ys hG, binOp, program, h1, Sem.run_bind, Sem.run_pure, Result.andThen, Sem.run]
end
end Go.Proofs.YtldmfchamcpmmaaDoor
namespace Go.Proofs.YtldmfchamcpmmaaDoor
open Go Go.RowKit
set_option linter.unusedVariables false
set_option linter.unusedSimpArgs false
set_option linter.unnecessarySimpa false
theorem wimp_0 {H : Heap} {g : Nat} {v : Value} {l : List Int} {bad : Bool} (wa : WA H g v l bad) {Hb : Heap} (oB : Old Hb H) (hgB : Hb.size ≤ g) (hT : TabU Hb) (s1 s2 : ByteArray) (ty la lb gt : Int) (gm : Bool) (h1 : s1.size ≤ 4000) (h2 : s2.size ≤ 4000) (rty : InR .u32 ty) (rla : InR .u32 la) (rlb : InR .i64 lb) (rgt : InR .u8 gt) (hN : l.length + 20000 + 20000000 ≤ 1099511627776) : Ct Tryd.prog 24 [.pointer (some ⟨g, 0, none⟩), .agg [.string s1, .string s2, .int .u8 0, .int .u32 ty, .int .u32 la, .int .i64 lb, .int .u8 gt, .bool gm].toArray] H (fun _ H' => ∃ v', WA H' g v' (l ++ En.impB ⟨s1, s2, 0, ty, (la, lb), (gt, gm)⟩) (bad || !En.impO ⟨s1, s2, 0, ty, (la, lb), (gt, gm)⟩) ∧ WS g v H v' H') := by
  refine Ct.mk Tryd.func24 rfl Tryd.ntmps24 rfl ?_
  intro W0 hW0
  have o0 : OldB 0 H H := OldB.refl _ H
  have ws := WS.refl g v H
  have zg := wa.lt
  refine KC.sr ?_
  have abx : v = .slice none 0 0 ∨ vblock v ≠ Array.size H := wa.w.lt.imp id (fun e => by omega)
  refine KL.m (M.box rfl rfl rfl) rfl ?_
  rintro _ H1 ⟨rfl, n1⟩
  have z1 := n1.2.1
  have o0 := o0.trans ((n1.1).b (by omega))
  have wa := wa.old n1.1
  have ws := ws.old n1.1
  have oB := oB.trans n1.1
  have b1 := n1.2.2
  have bx := b1
  refine KL.nil (KQ.sr (KL.run 2 rfl (KL.ld rfl (cell_of bx rfl) ?_)))
  refine KL.c rfl Tryd.call72 (wname_any wa oB hgB hT s1 (by omega) (by omega)) ?_
  rintro _ H2 ⟨v_1, wa_1, s_1⟩
  have oB := s_1.om wa oB hgB
  have abx2 := s_1.apart abx (blk_lt bx)
  have bx := s_1.blk bx (by omega) abx
  have abx := abx2
  have zs_1 := s_1.sz
  have ws := ws.trans s_1
  have wa := wa_1
  have o0 := o0.trans s_1.ob0
  have ht1 := En.txt_le h1
  refine KL.nil (KQ.sr (KL.run 2 rfl (KL.ld rfl (cell_of bx rfl) ?_)))
  refine KL.c rfl Tryd.call72 (wname_any wa oB hgB hT s2 (by omega) (by simp only [List.length_append, List.length_cons, List.length_nil]; omega)) ?_
  rintro _ H3 ⟨v_2, wa_2, s_2⟩
  have oB := s_2.om wa oB hgB
  have abx2 := s_2.apart abx (blk_lt bx)
  have bx := s_2.blk bx (by omega) abx
  have abx := abx2
  have zs_2 := s_2.sz
  have ws := ws.trans s_2
  have wa := wa_2
  have o0 := o0.trans s_2.ob0
  have ht2 := En.txt_le h2
  refine KL.nil (KQ.sr (KL.run 2 rfl (KL.ld rfl (cell_of bx rfl) ?_)))
  refine KL.m (M.lit rfl Tryd.underlying36 zs5 (by decide) rfl rfl rfl) rfl ?_
  rintro _ H4 ⟨rfl, n4⟩
  have z4 := n4.2.1
  have o0 := o0.trans ((n4.1).b (by omega))
  have wa := wa.old n4.1
  have ws := ws.old n4.1
  have oB := oB.trans n4.1
  have bx := (n4.1).blk bx
  have b4 := n4.2.2
  have s0 : Sl 1 (EInt .u8) H4 _ [0] := Sl.lits (l := [0]) n4 rfl (by simp) (by intro y hy; simp only [List.mem_cons, List.not_mem_nil, or_false] at hy; subst hy; dsimp only [InR] at *; omega)
  refine KL.c rfl Tryd.call68 (wbyte_any wa s0 (by simp only [List.length_append, List.length_cons, List.length_nil]; omega)) ?_
  rintro _ H5 ⟨v_3, wa_3, s_3⟩
  have oB := s_3.om wa oB hgB
  have abx2 := s_3.apart abx (blk_lt bx)
  have bx := s_3.blk bx (by omega) abx
  have abx := abx2
  have zs_3 := s_3.sz
  have ws := ws.trans s_3
  have wa := wa_3
  have o0 := o0.trans s_3.ob0
  refine KL.nil (KQ.sr (KL.run 2 rfl (KL.ld rfl (cell_of bx rfl) (KL.q ((R.eql rfl rfl rfl).val (congrArg Value.bool (decide_eq_true rfl))) rfl (KL.run 5 rfl ?_)))))
  refine KL.c rfl Tryd.call73 (wmay_any wa _) ?_
  rintro _ H6 ⟨wa_4, s_4⟩
  have oB := s_4.om wa oB hgB
  have abx2 := s_4.apart abx (blk_lt bx)
  have bx := s_4.blk bx (by omega) abx
  have abx := abx2
  have zs_4 := s_4.sz
  have ws := ws.trans s_4
  have wa := wa_4
  have o0 := o0.trans s_4.ob0
  refine KL.nil (KQ.sr (KL.run 2 rfl (KL.ld rfl (cell_of bx rfl) (KL.e0 rfl (by decide) (KL.run 2 rfl (KL.ld rfl (cell_of bx rfl) (KL.e0 rfl (by decide) (KL.run 3 rfl (KL.lda rfl (cells_mid (k := 4) (n := 2) bx) rfl (KL.b0 bt47 rfl rfl (KL.q (R.eqlSt rfl Tryd.underlying47 (by kernel_rfl) (by kernel_rfl) rfl rfl (EqFs.int (by decide) Tryd.underlying28 rfl rfl (EqFs.int (by decide) Tryd.underlying2 rfl rfl EqFs.nil))) rfl ?_)))))))))))
  refine KL.run 1 rfl ?_
  refine KL.c rfl Tryd.call73 (wmay_any wa _) ?_
  rintro _ H7 ⟨wa_5, s_5⟩
  have oB := s_5.om wa oB hgB
  have abx2 := s_5.apart abx (blk_lt bx)
  have bx := s_5.blk bx (by omega) abx
  have abx := abx2
  have zs_5 := s_5.sz
  have ws := ws.trans s_5
  have wa := wa_5
  have o0 := o0.trans s_5.ob0
  refine KL.nil (KQ.sr (KL.run 2 rfl (KL.ld rfl (cell_of bx rfl) (KL.e0 rfl (by decide) (KL.run 2 rfl (KL.lda rfl (cells_mid (k := 6) (n := 2) bx) rfl (KL.b0 bt49 rfl rfl (KL.q (R.eqlSt rfl Tryd.underlying49 (by kernel_rfl) (by kernel_rfl) rfl rfl (EqFs.int (by decide) Tryd.underlying5 rfl rfl (EqFs.bool (by decide) Tryd.underlying4 rfl rfl EqFs.nil))) rfl (KL.run 1 rfl ?_)))))))))
  refine KL.c rfl Tryd.call73 (wmay_any wa _) ?_
  rintro _ H8 ⟨wa_6, s_6⟩
  have oB := s_6.om wa oB hgB
  have abx2 := s_6.apart abx (blk_lt bx)
  have bx := s_6.blk bx (by omega) abx
  have abx := abx2
  have zs_6 := s_6.sz
  have ws := ws.trans s_6
  have wa := wa_6
  have o0 := o0.trans s_6.ob0
  refine KL.nil (KQ.sr (KL.run 1 rfl (KL.ld rfl (cell_of bx rfl) (KL.nil (KQ.seq (KC.block (KC.sr (KL.q ((R.eql rfl rfl rfl).val (congrArg Value.bool (decide_eq_true rfl))) rfl (KL.fin 1 rfl (KQ.seq ?_))))))))))
  refine KC.condT rfl (KC.region (KL.run 2 rfl (KL.ld rfl (cell_of bx rfl) ?_)))
  refine KL.c rfl Tryd.call27 (wu32_any wa _ rty (by simp only [List.length_append, List.length_cons, List.length_nil]; omega)) ?_
  rintro _ H9 ⟨v_7, wa_7, s_7⟩
  have oB := s_7.om wa oB hgB
  have abx2 := s_7.apart abx (blk_lt bx)
  have bx := s_7.blk bx (by omega) abx
  have abx := abx2
  have zs_7 := s_7.sz
  have ws := ws.trans s_7
  have wa := wa_7
  have o0 := o0.trans s_7.ob0
  refine KL.nil (KQ.normBlock (KQ.fin0 Tryd.results24 ?_))
  exact ⟨_, wa.cast (by unfold En.impB En.impM; simp) (by unfold En.impO En.impO2; simp [Bool.or_assoc]), ws⟩
theorem wimp_1 {H : Heap} {g : Nat} {v : Value} {l : List Int} {bad : Bool} (wa : WA H g v l bad) {Hb : Heap} (oB : Old Hb H) (hgB : Hb.size ≤ g) (hT : TabU Hb) (s1 s2 : ByteArray) (ty la lb gt : Int) (gm : Bool) (h1 : s1.size ≤ 4000) (h2 : s2.size ≤ 4000) (rty : InR .u32 ty) (rla : InR .u32 la) (rlb : InR .i64 lb) (rgt : InR .u8 gt) (hN : l.length + 20000 + 20000000 ≤ 1099511627776) : Ct Tryd.prog 24 [.pointer (some ⟨g, 0, none⟩), .agg [.string s1, .string s2, .int .u8 1, .int .u32 ty, .int .u32 la, .int .i64 lb, .int .u8 gt, .bool gm].toArray] H (fun _ H' => ∃ v', WA H' g v' (l ++ En.impB ⟨s1, s2, 1, ty, (la, lb), (gt, gm)⟩) (bad || !En.impO ⟨s1, s2, 1, ty, (la, lb), (gt, gm)⟩) ∧ WS g v H v' H') := by
  refine Ct.mk Tryd.func24 rfl Tryd.ntmps24 rfl ?_
  intro W0 hW0
  have o0 : OldB 0 H H := OldB.refl _ H
  have ws := WS.refl g v H
  have zg := wa.lt
  refine KC.sr ?_
  have abx : v = .slice none 0 0 ∨ vblock v ≠ Array.size H := wa.w.lt.imp id (fun e => by omega)
  refine KL.m (M.box rfl rfl rfl) rfl ?_
  rintro _ H1 ⟨rfl, n1⟩
  have z1 := n1.2.1
  have o0 := o0.trans ((n1.1).b (by omega))
  have wa := wa.old n1.1
  have ws := ws.old n1.1
  have oB := oB.trans n1.1
  have b1 := n1.2.2
  have bx := b1
  refine KL.nil (KQ.sr (KL.run 2 rfl (KL.ld rfl (cell_of bx rfl) ?_)))
  refine KL.c rfl Tryd.call72 (wname_any wa oB hgB hT s1 (by omega) (by omega)) ?_
  rintro _ H2 ⟨v_8, wa_8, s_8⟩
  have oB := s_8.om wa oB hgB
  have abx2 := s_8.apart abx (blk_lt bx)
  have bx := s_8.blk bx (by omega) abx
  have abx := abx2
  have zs_8 := s_8.sz
  have ws := ws.trans s_8
  have wa := wa_8
  have o0 := o0.trans s_8.ob0
  have ht1 := En.txt_le h1
  refine KL.nil (KQ.sr (KL.run 2 rfl (KL.ld rfl (cell_of bx rfl) ?_)))
  refine KL.c rfl Tryd.call72 (wname_any wa oB hgB hT s2 (by omega) (by simp only [List.length_append, List.length_cons, List.length_nil]; omega)) ?_
  rintro _ H3 ⟨v_9, wa_9, s_9⟩
  have oB := s_9.om wa oB hgB
  have abx2 := s_9.apart abx (blk_lt bx)
  have bx := s_9.blk bx (by omega) abx
  have abx := abx2
  have zs_9 := s_9.sz
  have ws := ws.trans s_9
  have wa := wa_9
  have o0 := o0.trans s_9.ob0
  have ht2 := En.txt_le h2
  refine KL.nil (KQ.sr (KL.run 2 rfl (KL.ld rfl (cell_of bx rfl) ?_)))
  refine KL.m (M.lit rfl Tryd.underlying36 zs5 (by decide) rfl rfl rfl) rfl ?_
  rintro _ H4 ⟨rfl, n4⟩
  have z4 := n4.2.1
  have o0 := o0.trans ((n4.1).b (by omega))
  have wa := wa.old n4.1
  have ws := ws.old n4.1
  have oB := oB.trans n4.1
  have bx := (n4.1).blk bx
  have b4 := n4.2.2
  have s0 : Sl 1 (EInt .u8) H4 _ [1] := Sl.lits (l := [1]) n4 rfl (by simp) (by intro y hy; simp only [List.mem_cons, List.not_mem_nil, or_false] at hy; subst hy; dsimp only [InR] at *; omega)
  refine KL.c rfl Tryd.call68 (wbyte_any wa s0 (by simp only [List.length_append, List.length_cons, List.length_nil]; omega)) ?_
  rintro _ H5 ⟨v_10, wa_10, s_10⟩
  have oB := s_10.om wa oB hgB
  have abx2 := s_10.apart abx (blk_lt bx)
  have bx := s_10.blk bx (by omega) abx
  have abx := abx2
  have zs_10 := s_10.sz
  have ws := ws.trans s_10
  have wa := wa_10
  have o0 := o0.trans s_10.ob0
  refine KL.nil (KQ.sr (KL.run 2 rfl (KL.ld rfl (cell_of bx rfl) (KL.e0 rfl (by decide) (KL.run 2 rfl (KL.ld rfl (cell_of bx rfl) (KL.run 2 rfl ?_)))))))
  refine KL.c rfl Tryd.call73 (wmay_any wa _) ?_
  rintro _ H6 ⟨wa_11, s_11⟩
  have oB := s_11.om wa oB hgB
  have abx2 := s_11.apart abx (blk_lt bx)
  have bx := s_11.blk bx (by omega) abx
  have abx := abx2
  have zs_11 := s_11.sz
  have ws := ws.trans s_11
  have wa := wa_11
  have o0 := o0.trans s_11.ob0
  refine KL.nil (KQ.sr (KL.run 2 rfl (KL.ld rfl (cell_of bx rfl) (KL.q ((R.eql rfl rfl rfl).val (congrArg Value.bool (decide_eq_true rfl))) rfl (KL.run 11 rfl ?_)))))
  refine KL.c rfl Tryd.call73 (wmay_any wa _) ?_
  rintro _ H7 ⟨wa_12, s_12⟩
  have oB := s_12.om wa oB hgB
  have abx2 := s_12.apart abx (blk_lt bx)
  have bx := s_12.blk bx (by omega) abx
  have abx := abx2
  have zs_12 := s_12.sz
  have ws := ws.trans s_12
  have wa := wa_12
  have o0 := o0.trans s_12.ob0
  refine KL.nil (KQ.sr (KL.run 2 rfl (KL.ld rfl (cell_of bx rfl) (KL.e0 rfl (by decide) (KL.run 2 rfl (KL.lda rfl (cells_mid (k := 6) (n := 2) bx) rfl (KL.b0 bt49 rfl rfl (KL.q (R.eqlSt rfl Tryd.underlying49 (by kernel_rfl) (by kernel_rfl) rfl rfl (EqFs.int (by decide) Tryd.underlying5 rfl rfl (EqFs.bool (by decide) Tryd.underlying4 rfl rfl EqFs.nil))) rfl (KL.run 1 rfl ?_)))))))))
  refine KL.c rfl Tryd.call73 (wmay_any wa _) ?_
  rintro _ H8 ⟨wa_13, s_13⟩
  have oB := s_13.om wa oB hgB
  have abx2 := s_13.apart abx (blk_lt bx)
  have bx := s_13.blk bx (by omega) abx
  have abx := abx2
  have zs_13 := s_13.sz
  have ws := ws.trans s_13
  have wa := wa_13
  have o0 := o0.trans s_13.ob0
  refine KL.nil (KQ.sr (KL.run 1 rfl (KL.ld rfl (cell_of bx rfl) (KL.nil (KQ.seq (KC.block (KC.sr (KL.e0 rfl (by decide) (KL.fin 1 rfl (KQ.seq ?_))))))))))
  refine KC.condF rfl (KC.sr (KL.q ((R.eql rfl rfl rfl).val (congrArg Value.bool (decide_eq_true rfl))) rfl (KL.fin 1 rfl (KQ.seq (KC.condT rfl (KC.region (KL.run 2 rfl (KL.lda rfl (cells_mid (k := 4) (n := 2) bx) rfl ?_))))))))
  refine KL.c rfl Tryd.call30 (wtable_any wa la lb rla rlb (by simp only [List.length_append, List.length_cons, List.length_nil]; omega)) ?_
  rintro _ H9 ⟨v_14, wa_14, s_14⟩
  have oB := s_14.om wa oB hgB
  have abx2 := s_14.apart abx (blk_lt bx)
  have bx := s_14.blk bx (by omega) abx
  have abx := abx2
  have zs_14 := s_14.sz
  have ws := ws.trans s_14
  have wa := wa_14
  have o0 := o0.trans s_14.ob0
  refine KL.nil (KQ.normBlock (KQ.fin0 Tryd.results24 ?_))
  exact ⟨_, wa.cast (by unfold En.impB En.impM; simp) (by unfold En.impO En.impO2; simp [Bool.or_assoc]), ws⟩
theorem wimp_2 {H : Heap} {g : Nat} {v : Value} {l : List Int} {bad : Bool} (wa : WA H g v l bad) {Hb : Heap} (oB : Old Hb H) (hgB : Hb.size ≤ g) (hT : TabU Hb) (s1 s2 : ByteArray) (ty la lb gt : Int) (gm : Bool) (h1 : s1.size ≤ 4000) (h2 : s2.size ≤ 4000) (rty : InR .u32 ty) (rla : InR .u32 la) (rlb : InR .i64 lb) (rgt : InR .u8 gt) (hN : l.length + 20000 + 20000000 ≤ 1099511627776) : Ct Tryd.prog 24 [.pointer (some ⟨g, 0, none⟩), .agg [.string s1, .string s2, .int .u8 2, .int .u32 ty, .int .u32 la, .int .i64 lb, .int .u8 gt, .bool gm].toArray] H (fun _ H' => ∃ v', WA H' g v' (l ++ En.impB ⟨s1, s2, 2, ty, (la, lb), (gt, gm)⟩) (bad || !En.impO ⟨s1, s2, 2, ty, (la, lb), (gt, gm)⟩) ∧ WS g v H v' H') := by
  refine Ct.mk Tryd.func24 rfl Tryd.ntmps24 rfl ?_
  intro W0 hW0
  have o0 : OldB 0 H H := OldB.refl _ H
  have ws := WS.refl g v H
  have zg := wa.lt
  refine KC.sr ?_
  have abx : v = .slice none 0 0 ∨ vblock v ≠ Array.size H := wa.w.lt.imp id (fun e => by omega)
  refine KL.m (M.box rfl rfl rfl) rfl ?_
  rintro _ H1 ⟨rfl, n1⟩
  have z1 := n1.2.1
  have o0 := o0.trans ((n1.1).b (by omega))
  have wa := wa.old n1.1
  have ws := ws.old n1.1
  have oB := oB.trans n1.1
  have b1 := n1.2.2
  have bx := b1
  refine KL.nil (KQ.sr (KL.run 2 rfl (KL.ld rfl (cell_of bx rfl) ?_)))
  refine KL.c rfl Tryd.call72 (wname_any wa oB hgB hT s1 (by omega) (by omega)) ?_
  rintro _ H2 ⟨v_15, wa_15, s_15⟩
  have oB := s_15.om wa oB hgB
  have abx2 := s_15.apart abx (blk_lt bx)
  have bx := s_15.blk bx (by omega) abx
  have abx := abx2
  have zs_15 := s_15.sz
  have ws := ws.trans s_15
  have wa := wa_15
  have o0 := o0.trans s_15.ob0
  have ht1 := En.txt_le h1
  refine KL.nil (KQ.sr (KL.run 2 rfl (KL.ld rfl (cell_of bx rfl) ?_)))
  refine KL.c rfl Tryd.call72 (wname_any wa oB hgB hT s2 (by omega) (by simp only [List.length_append, List.length_cons, List.length_nil]; omega)) ?_
  rintro _ H3 ⟨v_16, wa_16, s_16⟩
  have oB := s_16.om wa oB hgB
  have abx2 := s_16.apart abx (blk_lt bx)
  have bx := s_16.blk bx (by omega) abx
  have abx := abx2
  have zs_16 := s_16.sz
  have ws := ws.trans s_16
  have wa := wa_16
  have o0 := o0.trans s_16.ob0
  have ht2 := En.txt_le h2
  refine KL.nil (KQ.sr (KL.run 2 rfl (KL.ld rfl (cell_of bx rfl) ?_)))
  refine KL.m (M.lit rfl Tryd.underlying36 zs5 (by decide) rfl rfl rfl) rfl ?_
  rintro _ H4 ⟨rfl, n4⟩
  have z4 := n4.2.1
  have o0 := o0.trans ((n4.1).b (by omega))
  have wa := wa.old n4.1
  have ws := ws.old n4.1
  have oB := oB.trans n4.1
  have bx := (n4.1).blk bx
  have b4 := n4.2.2
  have s0 : Sl 1 (EInt .u8) H4 _ [2] := Sl.lits (l := [2]) n4 rfl (by simp) (by intro y hy; simp only [List.mem_cons, List.not_mem_nil, or_false] at hy; subst hy; dsimp only [InR] at *; omega)
  refine KL.c rfl Tryd.call68 (wbyte_any wa s0 (by simp only [List.length_append, List.length_cons, List.length_nil]; omega)) ?_
  rintro _ H5 ⟨v_17, wa_17, s_17⟩
  have oB := s_17.om wa oB hgB
  have abx2 := s_17.apart abx (blk_lt bx)
  have bx := s_17.blk bx (by omega) abx
  have abx := abx2
  have zs_17 := s_17.sz
  have ws := ws.trans s_17
  have wa := wa_17
  have o0 := o0.trans s_17.ob0
  refine KL.nil (KQ.sr (KL.run 2 rfl (KL.ld rfl (cell_of bx rfl) (KL.e0 rfl (by decide) (KL.run 2 rfl (KL.ld rfl (cell_of bx rfl) (KL.run 2 rfl ?_)))))))
  refine KL.c rfl Tryd.call73 (wmay_any wa _) ?_
  rintro _ H6 ⟨wa_18, s_18⟩
  have oB := s_18.om wa oB hgB
  have abx2 := s_18.apart abx (blk_lt bx)
  have bx := s_18.blk bx (by omega) abx
  have abx := abx2
  have zs_18 := s_18.sz
  have ws := ws.trans s_18
  have wa := wa_18
  have o0 := o0.trans s_18.ob0
  refine KL.nil (KQ.sr (KL.run 2 rfl (KL.ld rfl (cell_of bx rfl) (KL.e0 rfl (by decide) (KL.run 2 rfl (KL.ld rfl (cell_of bx rfl) (KL.q ((R.eql rfl rfl rfl).val (congrArg Value.bool (decide_eq_true rfl))) rfl (KL.run 7 rfl ?_))))))))
  refine KL.c rfl Tryd.call73 (wmay_any wa _) ?_
  rintro _ H7 ⟨wa_19, s_19⟩
  have oB := s_19.om wa oB hgB
  have abx2 := s_19.apart abx (blk_lt bx)
  have bx := s_19.blk bx (by omega) abx
  have abx := abx2
  have zs_19 := s_19.sz
  have ws := ws.trans s_19
  have wa := wa_19
  have o0 := o0.trans s_19.ob0
  refine KL.nil (KQ.sr (KL.run 2 rfl (KL.ld rfl (cell_of bx rfl) (KL.e0 rfl (by decide) (KL.run 2 rfl (KL.lda rfl (cells_mid (k := 6) (n := 2) bx) rfl (KL.b0 bt49 rfl rfl (KL.q (R.eqlSt rfl Tryd.underlying49 (by kernel_rfl) (by kernel_rfl) rfl rfl (EqFs.int (by decide) Tryd.underlying5 rfl rfl (EqFs.bool (by decide) Tryd.underlying4 rfl rfl EqFs.nil))) rfl (KL.run 1 rfl ?_)))))))))
  refine KL.c rfl Tryd.call73 (wmay_any wa _) ?_
  rintro _ H8 ⟨wa_20, s_20⟩
  have oB := s_20.om wa oB hgB
  have abx2 := s_20.apart abx (blk_lt bx)
  have bx := s_20.blk bx (by omega) abx
  have abx := abx2
  have zs_20 := s_20.sz
  have ws := ws.trans s_20
  have wa := wa_20
  have o0 := o0.trans s_20.ob0
  refine KL.nil (KQ.sr (KL.run 1 rfl (KL.ld rfl (cell_of bx rfl) (KL.nil (KQ.seq (KC.block (KC.sr (KL.e0 rfl (by decide) (KL.fin 1 rfl (KQ.seq ?_))))))))))
  refine KC.condF rfl (KC.sr (KL.e0 rfl (by decide) (KL.fin 1 rfl (KQ.seq (KC.condF rfl (KC.sr (KL.q ((R.eql rfl rfl rfl).val (congrArg Value.bool (decide_eq_true rfl))) rfl (KL.fin 1 rfl (KQ.seq (KC.condT rfl (KC.region ?_)))))))))))
  refine KL.run 2 rfl (KL.lda rfl (cells_mid (k := 4) (n := 2) bx) rfl ?_)
  refine KL.c rfl Tryd.call32 (wlimits_any wa la lb rla rlb (by simp only [List.length_append, List.length_cons, List.length_nil]; omega)) ?_
  rintro _ H9 ⟨v_21, wa_21, s_21⟩
  have oB := s_21.om wa oB hgB
  have abx2 := s_21.apart abx (blk_lt bx)
  have bx := s_21.blk bx (by omega) abx
  have abx := abx2
  have zs_21 := s_21.sz
  have ws := ws.trans s_21
  have wa := wa_21
  have o0 := o0.trans s_21.ob0
  refine KL.nil (KQ.normBlock (KQ.fin0 Tryd.results24 ?_))
  exact ⟨_, wa.cast (by unfold En.impB En.impM; simp) (by unfold En.impO En.impO2; simp [Bool.or_assoc]), ws⟩
theorem wimp_3 {H : Heap} {g : Nat} {v : Value} {l : List Int} {bad : Bool} (wa : WA H g v l bad) {Hb : Heap} (oB : Old Hb H) (hgB : Hb.size ≤ g) (hT : TabU Hb) (s1 s2 : ByteArray) (ty la lb gt : Int) (gm : Bool) (h1 : s1.size ≤ 4000) (h2 : s2.size ≤ 4000) (rty : InR .u32 ty) (rla : InR .u32 la) (rlb : InR .i64 lb) (rgt : InR .u8 gt) (hN : l.length + 20000 + 20000000 ≤ 1099511627776) : Ct Tryd.prog 24 [.pointer (some ⟨g, 0, none⟩), .agg [.string s1, .string s2, .int .u8 3, .int .u32 ty, .int .u32 la, .int .i64 lb, .int .u8 gt, .bool gm].toArray] H (fun _ H' => ∃ v', WA H' g v' (l ++ En.impB ⟨s1, s2, 3, ty, (la, lb), (gt, gm)⟩) (bad || !En.impO ⟨s1, s2, 3, ty, (la, lb), (gt, gm)⟩) ∧ WS g v H v' H') := by
  refine Ct.mk Tryd.func24 rfl Tryd.ntmps24 rfl ?_
  intro W0 hW0
  have o0 : OldB 0 H H := OldB.refl _ H
  have ws := WS.refl g v H
  have zg := wa.lt
  refine KC.sr ?_
  have abx : v = .slice none 0 0 ∨ vblock v ≠ Array.size H := wa.w.lt.imp id (fun e => by omega)
  refine KL.m (M.box rfl rfl rfl) rfl ?_
  rintro _ H1 ⟨rfl, n1⟩
  have z1 := n1.2.1
  have o0 := o0.trans ((n1.1).b (by omega))
  have wa := wa.old n1.1
  have ws := ws.old n1.1
  have oB := oB.trans n1.1
  have b1 := n1.2.2
  have bx := b1
  refine KL.nil (KQ.sr (KL.run 2 rfl (KL.ld rfl (cell_of bx rfl) ?_)))
  refine KL.c rfl Tryd.call72 (wname_any wa oB hgB hT s1 (by omega) (by omega)) ?_
  rintro _ H2 ⟨v_22, wa_22, s_22⟩
  have oB := s_22.om wa oB hgB
  have abx2 := s_22.apart abx (blk_lt bx)
  have bx := s_22.blk bx (by omega) abx
  have abx := abx2
  have zs_22 := s_22.sz
  have ws := ws.trans s_22
  have wa := wa_22
  have o0 := o0.trans s_22.ob0
  have ht1 := En.txt_le h1
  refine KL.nil (KQ.sr (KL.run 2 rfl (KL.ld rfl (cell_of bx rfl) ?_)))
  refine KL.c rfl Tryd.call72 (wname_any wa oB hgB hT s2 (by omega) (by simp only [List.length_append, List.length_cons, List.length_nil]; omega)) ?_
  rintro _ H3 ⟨v_23, wa_23, s_23⟩
  have oB := s_23.om wa oB hgB
  have abx2 := s_23.apart abx (blk_lt bx)
  have bx := s_23.blk bx (by omega) abx
  have abx := abx2
  have zs_23 := s_23.sz
  have ws := ws.trans s_23
  have wa := wa_23
  have o0 := o0.trans s_23.ob0
  have ht2 := En.txt_le h2
  refine KL.nil (KQ.sr (KL.run 2 rfl (KL.ld rfl (cell_of bx rfl) ?_)))
  refine KL.m (M.lit rfl Tryd.underlying36 zs5 (by decide) rfl rfl rfl) rfl ?_
  rintro _ H4 ⟨rfl, n4⟩
  have z4 := n4.2.1
  have o0 := o0.trans ((n4.1).b (by omega))
  have wa := wa.old n4.1
  have ws := ws.old n4.1
  have oB := oB.trans n4.1
  have bx := (n4.1).blk bx
  have b4 := n4.2.2
  have s0 : Sl 1 (EInt .u8) H4 _ [3] := Sl.lits (l := [3]) n4 rfl (by simp) (by intro y hy; simp only [List.mem_cons, List.not_mem_nil, or_false] at hy; subst hy; dsimp only [InR] at *; omega)
  refine KL.c rfl Tryd.call68 (wbyte_any wa s0 (by simp only [List.length_append, List.length_cons, List.length_nil]; omega)) ?_
  rintro _ H5 ⟨v_24, wa_24, s_24⟩
  have oB := s_24.om wa oB hgB
  have abx2 := s_24.apart abx (blk_lt bx)
  have bx := s_24.blk bx (by omega) abx
  have abx := abx2
  have zs_24 := s_24.sz
  have ws := ws.trans s_24
  have wa := wa_24
  have o0 := o0.trans s_24.ob0
  refine KL.nil (KQ.sr (KL.run 2 rfl (KL.ld rfl (cell_of bx rfl) (KL.e0 rfl (by decide) (KL.run 2 rfl (KL.ld rfl (cell_of bx rfl) (KL.run 2 rfl ?_)))))))
  refine KL.c rfl Tryd.call73 (wmay_any wa _) ?_
  rintro _ H6 ⟨wa_25, s_25⟩
  have oB := s_25.om wa oB hgB
  have abx2 := s_25.apart abx (blk_lt bx)
  have bx := s_25.blk bx (by omega) abx
  have abx := abx2
  have zs_25 := s_25.sz
  have ws := ws.trans s_25
  have wa := wa_25
  have o0 := o0.trans s_25.ob0
  refine KL.nil (KQ.sr (KL.run 2 rfl (KL.ld rfl (cell_of bx rfl) (KL.e0 rfl (by decide) (KL.run 2 rfl (KL.ld rfl (cell_of bx rfl) (KL.e0 rfl (by decide) (KL.run 3 rfl (KL.lda rfl (cells_mid (k := 4) (n := 2) bx) rfl (KL.b0 bt47 rfl rfl (KL.q (R.eqlSt rfl Tryd.underlying47 (by kernel_rfl) (by kernel_rfl) rfl rfl (EqFs.int (by decide) Tryd.underlying28 rfl rfl (EqFs.int (by decide) Tryd.underlying2 rfl rfl EqFs.nil))) rfl ?_)))))))))))
  refine KL.run 1 rfl ?_
  refine KL.c rfl Tryd.call73 (wmay_any wa _) ?_
  rintro _ H7 ⟨wa_26, s_26⟩
  have oB := s_26.om wa oB hgB
  have abx2 := s_26.apart abx (blk_lt bx)
  have bx := s_26.blk bx (by omega) abx
  have abx := abx2
  have zs_26 := s_26.sz
  have ws := ws.trans s_26
  have wa := wa_26
  have o0 := o0.trans s_26.ob0
  refine KL.nil (KQ.sr (KL.run 2 rfl (KL.ld rfl (cell_of bx rfl) (KL.q ((R.eql rfl rfl rfl).val (congrArg Value.bool (decide_eq_true rfl))) rfl (KL.run 6 rfl ?_)))))
  refine KL.c rfl Tryd.call73 (wmay_any wa _) ?_
  rintro _ H8 ⟨wa_27, s_27⟩
  have oB := s_27.om wa oB hgB
  have abx2 := s_27.apart abx (blk_lt bx)
  have bx := s_27.blk bx (by omega) abx
  have abx := abx2
  have zs_27 := s_27.sz
  have ws := ws.trans s_27
  have wa := wa_27
  have o0 := o0.trans s_27.ob0
  refine KL.nil (KQ.sr (KL.run 1 rfl (KL.ld rfl (cell_of bx rfl) (KL.nil (KQ.seq (KC.block (KC.sr (KL.e0 rfl (by decide) (KL.fin 1 rfl (KQ.seq ?_))))))))))
  refine KC.condF rfl (KC.sr (KL.e0 rfl (by decide) (KL.fin 1 rfl (KQ.seq (KC.condF rfl (KC.sr (KL.e0 rfl (by decide) (KL.fin 1 rfl (KQ.seq (KC.condF rfl (KC.seq ?_)))))))))))
  refine KC.region (KL.q ((R.eql rfl rfl rfl).val (congrArg Value.bool (decide_eq_true rfl))) rfl (KL.fin 1 rfl (KQ.seq (KC.condT rfl (KC.region (KL.run 2 rfl (KL.lda rfl (cells_mid (k := 6) (n := 2) bx) rfl ?_)))))))
  refine KL.c rfl Tryd.call74 (wglob_any wa gt gm rgt (by simp only [List.length_append, List.length_cons, List.length_nil]; omega)) ?_
  rintro _ H9 ⟨v_28, wa_28, s_28⟩
  have oB := s_28.om wa oB hgB
  have abx2 := s_28.apart abx (blk_lt bx)
  have bx := s_28.blk bx (by omega) abx
  have abx := abx2
  have zs_28 := s_28.sz
  have ws := ws.trans s_28
  have wa := wa_28
  have o0 := o0.trans s_28.ob0
  refine KL.nil (KQ.normBlock (KQ.fin0 Tryd.results24 ?_))
  exact ⟨_, wa.cast (by unfold En.impB En.impM; simp) (by unfold En.impO En.impO2; simp [Bool.or_assoc]), ws⟩
theorem wimp_x {H : Heap} {g : Nat} {v : Value} {l : List Int} {bad : Bool} (wa : WA H g v l bad) {Hb : Heap} (oB : Old Hb H) (hgB : Hb.size ≤ g) (hT : TabU Hb) (s1 s2 : ByteArray) (kd : Int) (rkd : InR .u8 kd) (hkd : 3 < kd) (ty la lb gt : Int) (gm : Bool) (h1 : s1.size ≤ 4000) (h2 : s2.size ≤ 4000) (rty : InR .u32 ty) (rla : InR .u32 la) (rlb : InR .i64 lb) (rgt : InR .u8 gt) (hN : l.length + 20000 + 20000000 ≤ 1099511627776) : Ct Tryd.prog 24 [.pointer (some ⟨g, 0, none⟩), .agg [.string s1, .string s2, .int .u8 kd, .int .u32 ty, .int .u32 la, .int .i64 lb, .int .u8 gt, .bool gm].toArray] H (fun _ H' => ∃ v', WA H' g v' (l ++ En.impB ⟨s1, s2, kd, ty, (la, lb), (gt, gm)⟩) (bad || !En.impO ⟨s1, s2, kd, ty, (la, lb), (gt, gm)⟩) ∧ WS g v H v' H') := by
  refine Ct.mk Tryd.func24 rfl Tryd.ntmps24 rfl ?_
  intro W0 hW0
  have o0 : OldB 0 H H := OldB.refl _ H
  have ws := WS.refl g v H
  have zg := wa.lt
  have hkr := rkd
  dsimp only [InR] at hkr
  refine KC.sr ?_
  have abx : v = .slice none 0 0 ∨ vblock v ≠ Array.size H := wa.w.lt.imp id (fun e => by omega)
  refine KL.m (M.box rfl rfl rfl) rfl ?_
  rintro _ H1 ⟨rfl, n1⟩
  have z1 := n1.2.1
  have o0 := o0.trans ((n1.1).b (by omega))
  have wa := wa.old n1.1
  have ws := ws.old n1.1
  have oB := oB.trans n1.1
  have b1 := n1.2.2
  have bx := b1
  refine KL.nil (KQ.sr (KL.run 2 rfl (KL.ld rfl (cell_of bx rfl) ?_)))
  refine KL.c rfl Tryd.call72 (wname_any wa oB hgB hT s1 (by omega) (by omega)) ?_
  rintro _ H2 ⟨v_29, wa_29, s_29⟩
  have oB := s_29.om wa oB hgB
  have abx2 := s_29.apart abx (blk_lt bx)
  have bx := s_29.blk bx (by omega) abx
  have abx := abx2
  have zs_29 := s_29.sz
  have ws := ws.trans s_29
  have wa := wa_29
  have o0 := o0.trans s_29.ob0
  have ht1 := En.txt_le h1
  refine KL.nil (KQ.sr (KL.run 2 rfl (KL.ld rfl (cell_of bx rfl) ?_)))
  refine KL.c rfl Tryd.call72 (wname_any wa oB hgB hT s2 (by omega) (by simp only [List.length_append, List.length_cons, List.length_nil]; omega)) ?_
  rintro _ H3 ⟨v_30, wa_30, s_30⟩
  have oB := s_30.om wa oB hgB
  have abx2 := s_30.apart abx (blk_lt bx)
  have bx := s_30.blk bx (by omega) abx
  have abx := abx2
  have zs_30 := s_30.sz
  have ws := ws.trans s_30
  have wa := wa_30
  have o0 := o0.trans s_30.ob0
  have ht2 := En.txt_le h2
  refine KL.nil (KQ.sr (KL.run 2 rfl (KL.ld rfl (cell_of bx rfl) ?_)))
  refine KL.m (M.lit rfl Tryd.underlying36 zs5 (by decide) rfl rfl rfl) rfl ?_
  rintro _ H4 ⟨rfl, n4⟩
  have z4 := n4.2.1
  have o0 := o0.trans ((n4.1).b (by omega))
  have wa := wa.old n4.1
  have ws := ws.old n4.1
  have oB := oB.trans n4.1
  have bx := (n4.1).blk bx
  have b4 := n4.2.2
  have s0 : Sl 1 (EInt .u8) H4 _ [kd] := Sl.lits (l := [kd]) n4 rfl (by simp) (by intro y hy; simp only [List.mem_cons, List.not_mem_nil, or_false] at hy; subst hy; dsimp only [InR] at *; omega)
  refine KL.c rfl Tryd.call68 (wbyte_any wa s0 (by simp only [List.length_append, List.length_cons, List.length_nil]; omega)) ?_
  rintro _ H5 ⟨v_31, wa_31, s_31⟩
  have oB := s_31.om wa oB hgB
  have abx2 := s_31.apart abx (blk_lt bx)
  have bx := s_31.blk bx (by omega) abx
  have abx := abx2
  have zs_31 := s_31.sz
  have ws := ws.trans s_31
  have wa := wa_31
  have o0 := o0.trans s_31.ob0
  refine KL.nil (KQ.sr (KL.run 2 rfl (KL.ld rfl (cell_of bx rfl) ?_)))
  refine KL.e0 rfl (by omega) ?_
  refine KL.run 2 rfl (KL.ld rfl (cell_of bx rfl) (KL.run 2 rfl ?_))
  refine KL.c rfl Tryd.call73 (wmay_any wa _) ?_
  rintro _ H6 ⟨wa_32, s_32⟩
  have oB := s_32.om wa oB hgB
  have abx2 := s_32.apart abx (blk_lt bx)
  have bx := s_32.blk bx (by omega) abx
  have abx := abx2
  have zs_32 := s_32.sz
  have ws := ws.trans s_32
  have wa := wa_32
  have o0 := o0.trans s_32.ob0
  refine KL.nil (KQ.sr (KL.run 2 rfl (KL.ld rfl (cell_of bx rfl) ?_)))
  refine KL.e0 rfl (by omega) ?_
  refine KL.run 2 rfl (KL.ld rfl (cell_of bx rfl) ?_)
  refine KL.e0 rfl (by omega) ?_
  refine KL.run 3 rfl (KL.lda rfl (cells_mid (k := 4) (n := 2) bx) rfl (KL.b0 bt47 rfl rfl (KL.q (R.eqlSt rfl Tryd.underlying47 (by kernel_rfl) (by kernel_rfl) rfl rfl (EqFs.int (by decide) Tryd.underlying28 rfl rfl (EqFs.int (by decide) Tryd.underlying2 rfl rfl EqFs.nil))) rfl (KL.run 1 rfl ?_))))
  refine KL.c rfl Tryd.call73 (wmay_any wa _) ?_
  rintro _ H7 ⟨wa_33, s_33⟩
  have oB := s_33.om wa oB hgB
  have abx2 := s_33.apart abx (blk_lt bx)
  have bx := s_33.blk bx (by omega) abx
  have abx := abx2
  have zs_33 := s_33.sz
  have ws := ws.trans s_33
  have wa := wa_33
  have o0 := o0.trans s_33.ob0
  refine KL.nil (KQ.sr (KL.run 2 rfl (KL.ld rfl (cell_of bx rfl) ?_)))
  refine KL.e0 rfl (by omega) ?_
  refine KL.run 2 rfl (KL.lda rfl (cells_mid (k := 6) (n := 2) bx) rfl (KL.b0 bt49 rfl rfl (KL.q (R.eqlSt rfl Tryd.underlying49 (by kernel_rfl) (by kernel_rfl) rfl rfl (EqFs.int (by decide) Tryd.underlying5 rfl rfl (EqFs.bool (by decide) Tryd.underlying4 rfl rfl EqFs.nil))) rfl (KL.run 1 rfl ?_))))
  refine KL.c rfl Tryd.call73 (wmay_any wa _) ?_
  rintro _ H8 ⟨wa_34, s_34⟩
  have oB := s_34.om wa oB hgB
  have abx2 := s_34.apart abx (blk_lt bx)
  have bx := s_34.blk bx (by omega) abx
  have abx := abx2
  have zs_34 := s_34.sz
  have ws := ws.trans s_34
  have wa := wa_34
  have o0 := o0.trans s_34.ob0
  refine KL.nil (KQ.sr (KL.run 1 rfl (KL.ld rfl (cell_of bx rfl) (KL.nil (KQ.seq (KC.block (KC.sr ?_)))))))
  refine KL.e0 rfl (by omega) ?_
  refine KL.fin 1 rfl (KQ.seq (KC.condF rfl (KC.sr ?_)))
  refine KL.e0 rfl (by omega) ?_
  refine KL.fin 1 rfl (KQ.seq (KC.condF rfl (KC.sr ?_)))
  refine KL.e0 rfl (by omega) ?_
  refine KL.fin 1 rfl (KQ.seq (KC.condF rfl (KC.sr ?_)))
  refine KL.e0 rfl (by omega) ?_
  refine KL.fin 1 rfl (KQ.seq (KC.condF rfl (KC.region (KL.run 1 rfl ?_))))
  refine KL.c rfl Tryd.call73 (wmay_any wa _) ?_
  rintro _ H9 ⟨wa_35, s_35⟩
  have oB := s_35.om wa oB hgB
  have abx2 := s_35.apart abx (blk_lt bx)
  have bx := s_35.blk bx (by omega) abx
  have abx := abx2
  have zs_35 := s_35.sz
  have ws := ws.trans s_35
  have wa := wa_35
  have o0 := o0.trans s_35.ob0
  refine KL.nil (KQ.normBlock (KQ.fin0 Tryd.results24 ?_))
  exact ⟨_, wa.cast (by unfold En.impB En.impM; simp only []; rw [if_neg (by omega), if_neg (by omega), if_neg (by omega), if_neg (by omega)]; simp) (by unfold En.impO En.impO2; dsimp only; rw [if_neg (by omega), if_neg (by omega), if_neg (by omega), if_neg (by omega)]; simp), ws⟩
theorem wimported_any {H : Heap} {g : Nat} {v : Value} {l : List Int} {bad : Bool} (wa : WA H g v l bad) {Hb : Heap} (oB : Old Hb H) (hgB : Hb.size ≤ g) (hT : TabU Hb) (s1 s2 : ByteArray) (kd ty la lb gt : Int) (gm : Bool) (rkd : InR .u8 kd) (h1 : s1.size ≤ 4000) (h2 : s2.size ≤ 4000) (rty : InR .u32 ty) (rla : InR .u32 la) (rlb : InR .i64 lb) (rgt : InR .u8 gt) (hN : l.length + 20000 + 20000000 ≤ 1099511627776) :
    Ct Tryd.prog 24 [.pointer (some ⟨g, 0, none⟩), .agg [.string s1, .string s2, .int .u8 kd, .int .u32 ty, .int .u32 la, .int .i64 lb, .int .u8 gt, .bool gm].toArray] H (fun _ H' => ∃ v', WA H' g v' (l ++ En.impB ⟨s1, s2, kd, ty, (la, lb), (gt, gm)⟩) (bad || !En.impO ⟨s1, s2, kd, ty, (la, lb), (gt, gm)⟩) ∧ WS g v H v' H') := by
  have hk := rkd
  dsimp only [InR] at hk
  rcases (by omega : kd = 0 ∨ kd = 1 ∨ kd = 2 ∨ kd = 3 ∨ 3 < kd) with rfl | rfl | rfl | rfl | h
  · exact wimp_0 wa oB hgB hT s1 s2 ty la lb gt gm h1 h2 rty rla rlb rgt hN
  · exact wimp_1 wa oB hgB hT s1 s2 ty la lb gt gm h1 h2 rty rla rlb rgt hN
  · exact wimp_2 wa oB hgB hT s1 s2 ty la lb gt gm h1 h2 rty rla rlb rgt hN
  · exact wimp_3 wa oB hgB hT s1 s2 ty la lb gt gm h1 h2 rty rla rlb rgt hN
  exact wimp_x wa oB hgB hT s1 s2 kd rkd h ty la lb gt gm h1 h2 rty rla rlb rgt hN
end Go.Proofs.YtldmfchamcpmmaaDoor
namespace Go.Proofs.YtldmfchamcpmmaaDoor
open Go Go.RowKit
set_option linter.unusedVariables false
set_option linter.unusedSimpArgs false
set_option linter.unnecessarySimpa false
def EFTy : El FTy := fun H cs x => ∃ v w, cs = [v, w] ∧ Sl 1 (EInt .u8) H v x.1 ∧ Sl 1 (EInt .u8) H w x.2
def EImp : El Imp := fun _ cs x => cs = [.string x.mod, .string x.nam, .int .u8 x.kind, .int .u32 x.typ, .int .u32 x.lim.1, .int .i64 x.lim.2, .int .u8 x.glob.1, .bool x.glob.2] ∧ InR .u8 x.kind ∧ InR .u32 x.typ ∧ InR .u32 x.lim.1 ∧ InR .i64 x.lim.2 ∧ InR .u8 x.glob.1
def EGlo : El Glo := fun H cs x => ∃ v, cs = [.int .u8 x.1.1, .bool x.1.2, v] ∧ Sl 5 EIns H v x.2 ∧ InR .u8 x.1.1
def EExp : El Exp := fun _ cs x => cs = [.string x.nam, .int .u8 x.kind, .int .u32 x.idx] ∧ InR .u8 x.kind ∧ InR .u32 x.idx
def EElm : El Elm := fun H cs x => ∃ v w, cs = [.int .u32 x.1, v, w] ∧ Sl 5 EIns H v x.2.1 ∧ Sl 1 (EInt .u32) H w x.2.2 ∧ InR .u32 x.1
def EDat : El Elm := fun H cs x => ∃ v w, cs = [.int .u32 x.1, v, w] ∧ Sl 5 EIns H v x.2.1 ∧ Sl 1 (EInt .u8) H w x.2.2 ∧ InR .u32 x.1
def ECod : El Cod := fun H cs x => ∃ v w, cs = [v, w] ∧ Sl 2 ELoc H v x.1 ∧ Sl 5 EIns H w x.2
instance : Keeps EFTy := ⟨fun ho h => by obtain ⟨v, w, e, a, b⟩ := h; exact ⟨v, w, e, a.old ho, b.old ho⟩⟩
instance : Keeps EImp := ⟨fun _ h => h⟩
instance : Keeps EGlo := ⟨fun ho h => by obtain ⟨v, e, a, b⟩ := h; exact ⟨v, e, a.old ho, b⟩⟩
instance : Keeps EExp := ⟨fun _ h => h⟩
instance : Keeps EElm := ⟨fun ho h => by obtain ⟨v, w, e, a, b, c⟩ := h; exact ⟨v, w, e, a.old ho, b.old ho, c⟩⟩
instance : Keeps EDat := ⟨fun ho h => by obtain ⟨v, w, e, a, b, c⟩ := h; exact ⟨v, w, e, a.old ho, b.old ho, c⟩⟩
instance : Keeps ECod := ⟨fun ho h => by obtain ⟨v, w, e, a, b⟩ := h; exact ⟨v, w, e, a.old ho, b.old ho⟩⟩
theorem wlist_typed {H : Heap} {g : Nat} {v : Value} {l : List Int} {bad : Bool} (wa : WA H g v l bad) {Hb : Heap} (oB : Old Hb H) (hgB : Hb.size ≤ g) {u : Value} {xs : List FTy} (hs : Sl 2 EFTy Hb u xs) (hm : xs.length ≤ 4294967295) (hz : ∀ x ∈ xs, x.1.length ≤ 4000 ∧ x.2.length ≤ 4000) (hN : l.length + (En.lst En.typB xs).length + 30000000 ≤ 1099511627776) : Ct Tryd.prog 67 [.pointer (some ⟨g, 0, none⟩), u, .func (.func 21) #[.pointer (some ⟨g, 0, none⟩)] #[]] H (fun _ H' => ∃ v', WA H' g v' (l ++ En.lst En.typB xs) (bad || !xs.all En.typO) ∧ WS g v H v' H') := by
  refine Ct.mk Tryd.func67 rfl Tryd.ntmps67 rfl ?_
  intro W0 hW0
  have o0 : OldB 0 H H := OldB.refl _ H
  have ws := WS.refl g v H
  have zg := wa.lt
  have hlst : 0 ≤ (En.lst En.typB xs).length := Nat.zero_le _
  refine KC.sr (KL.run 2 rfl (KL.q (R.lenS rfl Tryd.underlying22 rfl hs) rfl ?_))
  refine KL.q (R.convI rfl Tryd.underlying3 Tryd.underlying28 rfl (by dsimp only [InR]; omega)) rfl ?_
  refine KL.c rfl Tryd.call27 (wu32_any wa _ (by dsimp only [InR]; omega) (by omega)) ?_
  rintro _ H1 ⟨v_1, wa_1, s_1⟩
  have oB := s_1.om wa oB hgB
  have zs_1 := s_1.sz
  have ws := ws.trans s_1
  have wa := wa_1
  have o0 := o0.trans s_1.ob0
  have hul := En.u_le (xs.length : Nat)
  refine KL.nil (KQ.sr (KL.run 1 rfl (KL.q (R.lenS rfl Tryd.underlying22 rfl hs) rfl (KL.fin 1 rfl (KQ.seq (KC.block ?_))))))
  refine KC.loopD (κ := Nat × Value) [16, 17, 18, 7, 19, 20, 21, 22, 15] (fun k => [(15, .int .i64 (k.1 : Nat))]) (fun k Hl => k.1 ≤ xs.length ∧ WA Hl g k.2 (l ++ (En.u (xs.length : Nat) ++ (xs.take k.1).flatMap En.typB)) (bad || !(xs.take k.1).all En.typO) ∧ WS g v H k.2 Hl ∧ Old Hb Hl) (fun k => xs.length - k.1) (0, v_1) ?_ ?_ ?_
  · exact Sub.all rfl
  · exact ⟨Nat.zero_le _, wa.cast (by simp) (by simp), ws, oB⟩
  rintro ⟨k, vk⟩ H2 ⟨hk, wa, ws, oB⟩
  dsimp only at hk wa ws
  have zg := wa.lt
  have o0 : OldB 0 H H2 := ws.ob0
  refine KC.sr (KL.fin 1 rfl (KQ.seq (KC.seq ?_)))
  refine KC.iq rfl ?_ ?_
  · intro hc16
    try dsimp only at hc16
    have hk2 : k < xs.length := by omega
    obtain ⟨cs, hcl, hcx, a, b, rfl, ha, hb⟩ := hs.at k hk2
    have hzk := hz _ (En.getD_memD hk2)
    have hroom := En.room (f := En.typB) (c := 1099481627776) (a := l) hk2 (by omega)
    refine KC.skip (KQ.seq (KC.seq (KC.block (KC.sr ?_))))
    refine KL.q (R.index (j := k) rfl Tryd.underlying22 sz44 rfl rfl hs rfl (by omega)) rfl ?_
    refine KL.lda rfl (oB.cells hcx) rfl ?_
    have abv : vk = .slice none 0 0 ∨ vblock vk ≠ Array.size H2 := wa.w.lt.imp id (fun e => by omega)
    have oP : Old H2 H2 := Old.refl _
    have waT := wa
    have wsT := ws
    refine KL.m (M.alloc rfl zr44 rfl) rfl ?_
    rintro _ H3 ⟨rfl, n3⟩
    have z3 := n3.2.1
    have o0 := o0.trans ((n3.1).b (by omega))
    have oB := oB.trans n3.1
    have oP := oP.trans n3.1
    have b3 := n3.2.2
    have bv := b3
    refine KL.opS (S.storeAgg rfl sz44 rfl rfl (rfl) (by intro z hz2; simp only [List.mem_cons, List.not_mem_nil, or_false] at hz2; rcases hz2 with rfl | rfl <;> first | rfl | exact ha.one | exact hb.one) bv (by simp)) rfl rfl ?_
    rintro H4 ⟨u4, b4⟩
    have o0 := o0.trans (OldB.upd u4 (by omega))
    have zu4 := u4.1
    have oB := oB.upd u4 (by omega)
    have oP := oP.upd u4 (by omega)
    have bv := b4
    rw [over_all (by rfl)] at bv
    have wa := waT.old oP
    have ws := wsT.old oP
    have o0 := ws.ob0
    refine KL.nil (KQ.r (KL.run 1 rfl (KL.lda rfl (cells_of bv) rfl ?_)))
    refine KL.c rfl Tryd.call21 (wtyped_any wa oB hgB ha hb hzk.1 hzk.2 (by omega)) ?_
    rintro _ H5 ⟨v_2, wa_2, s_2⟩
    have oB := s_2.om wa oB hgB
    have abv2 := s_2.apart abv (blk_lt bv)
    have bv := s_2.blk bv (by omega) abv
    have abv := abv2
    have zs_2 := s_2.sz
    have ws := ws.trans s_2
    have wa := wa_2
    have o0 := o0.trans s_2.ob0
    refine KL.nil (KQ.normBlock (KQ.r ?_))
    refine KL.q ((R.add rfl rfl rfl (by dsimp only [InR]; omega)).val (congrArg (Value.int .i64) (show (k : Int) + 1 = ((k + 1 : Nat) : Int) by omega))) rfl ?_
    refine KL.fin 1 rfl ?_
    refine KQ.again ((k + 1, v_2)) ?_ ?_ ?_
    · exact Sub.all rfl
    · show xs.length - (k + 1) < xs.length - k; omega
    exact ⟨by show k + 1 ≤ _; omega, by dsimp only; exact wa.cast (En.lst_step (by omega)) (En.all_step (by omega)), ws, oB⟩
  intro hc16
  try dsimp only at hc16
  have hkl : k = xs.length := by omega
  rw [hkl, List.take_length] at wa
  refine KC.exit (KQ.exitThen (KQ.exitThen (KQ.hit (KQ.fin0 Tryd.results67 ?_))))
  exact ⟨_, wa.cast (rfl) (rfl), ws⟩
theorem wlist_imported {H : Heap} {g : Nat} {v : Value} {l : List Int} {bad : Bool} (wa : WA H g v l bad) {Hb : Heap} (oB : Old Hb H) (hgB : Hb.size ≤ g) (hT : TabU Hb) {u : Value} {xs : List Imp} (hs : Sl 8 EImp Hb u xs) (hm : xs.length ≤ 4294967295) (hz : ∀ x ∈ xs, x.mod.size ≤ 4000 ∧ x.nam.size ≤ 4000) (hN : l.length + (En.lst En.impB xs).length + 30000000 ≤ 1099511627776) : Ct Tryd.prog 71 [.pointer (some ⟨g, 0, none⟩), u, .func (.func 24) #[.pointer (some ⟨g, 0, none⟩)] #[]] H (fun _ H' => ∃ v', WA H' g v' (l ++ En.lst En.impB xs) (bad || !xs.all En.impO) ∧ WS g v H v' H') := by
  refine Ct.mk Tryd.func71 rfl Tryd.ntmps71 rfl ?_
  intro W0 hW0
  have o0 : OldB 0 H H := OldB.refl _ H
  have ws := WS.refl g v H
  have zg := wa.lt
  have hlst : 0 ≤ (En.lst En.impB xs).length := Nat.zero_le _
  refine KC.sr (KL.run 2 rfl (KL.q (R.lenS rfl Tryd.underlying23 rfl hs) rfl ?_))
  refine KL.q (R.convI rfl Tryd.underlying3 Tryd.underlying28 rfl (by dsimp only [InR]; omega)) rfl ?_
  refine KL.c rfl Tryd.call27 (wu32_any wa _ (by dsimp only [InR]; omega) (by omega)) ?_
  rintro _ H1 ⟨v_3, wa_3, s_3⟩
  have oB := s_3.om wa oB hgB
  have zs_3 := s_3.sz
  have ws := ws.trans s_3
  have wa := wa_3
  have o0 := o0.trans s_3.ob0
  have hul := En.u_le (xs.length : Nat)
  refine KL.nil (KQ.sr (KL.run 1 rfl (KL.q (R.lenS rfl Tryd.underlying23 rfl hs) rfl (KL.fin 1 rfl (KQ.seq (KC.block ?_))))))
  refine KC.loopD (κ := Nat × Value) [16, 17, 18, 7, 19, 20, 21, 22, 15] (fun k => [(15, .int .i64 (k.1 : Nat))]) (fun k Hl => k.1 ≤ xs.length ∧ WA Hl g k.2 (l ++ (En.u (xs.length : Nat) ++ (xs.take k.1).flatMap En.impB)) (bad || !(xs.take k.1).all En.impO) ∧ WS g v H k.2 Hl ∧ Old Hb Hl) (fun k => xs.length - k.1) (0, v_3) ?_ ?_ ?_
  · exact Sub.all rfl
  · exact ⟨Nat.zero_le _, wa.cast (by simp) (by simp), ws, oB⟩
  rintro ⟨k, vk⟩ H2 ⟨hk, wa, ws, oB⟩
  dsimp only at hk wa ws
  have zg := wa.lt
  have o0 : OldB 0 H H2 := ws.ob0
  refine KC.sr (KL.fin 1 rfl (KQ.seq (KC.seq ?_)))
  refine KC.iq rfl ?_ ?_
  · intro hc16
    try dsimp only at hc16
    have hk2 : k < xs.length := by omega
    obtain ⟨cs, hcl, hcx, rfl, r1, r2, r3, r4, r5⟩ := hs.at k hk2
    have hzk := hz _ (En.getD_memD hk2)
    have hroom := En.room (f := En.impB) (c := 1099481627776) (a := l) hk2 (by omega)
    refine KC.skip (KQ.seq (KC.seq (KC.block (KC.sr ?_))))
    refine KL.q (R.index (j := k) rfl Tryd.underlying23 sz51 rfl rfl hs rfl (by omega)) rfl ?_
    refine KL.lda rfl (oB.cells hcx) rfl ?_
    have abv : vk = .slice none 0 0 ∨ vblock vk ≠ Array.size H2 := wa.w.lt.imp id (fun e => by omega)
    have oP : Old H2 H2 := Old.refl _
    have waT := wa
    have wsT := ws
    refine KL.m (M.alloc rfl zr51 rfl) rfl ?_
    rintro _ H3 ⟨rfl, n3⟩
    have z3 := n3.2.1
    have o0 := o0.trans ((n3.1).b (by omega))
    have oB := oB.trans n3.1
    have oP := oP.trans n3.1
    have b3 := n3.2.2
    have bv := b3
    refine KL.opS (S.storeAgg rfl sz51 rfl rfl (rfl) (by intro z hz2; simp only [List.mem_cons, List.not_mem_nil, or_false] at hz2; rcases hz2 with rfl | rfl | rfl | rfl | rfl | rfl | rfl | rfl <;> first | rfl) bv (by simp)) rfl rfl ?_
    rintro H4 ⟨u4, b4⟩
    have o0 := o0.trans (OldB.upd u4 (by omega))
    have zu4 := u4.1
    have oB := oB.upd u4 (by omega)
    have oP := oP.upd u4 (by omega)
    have bv := b4
    rw [over_all (by rfl)] at bv
    have wa := waT.old oP
    have ws := wsT.old oP
    have o0 := ws.ob0
    refine KL.nil (KQ.r (KL.run 1 rfl (KL.lda rfl (cells_of bv) rfl ?_)))
    refine KL.c rfl Tryd.call24 (wimported_any wa oB hgB hT _ _ _ _ _ _ _ _ r1 hzk.1 hzk.2 r2 r3 r4 r5 (by omega)) ?_
    rintro _ H5 ⟨v_4, wa_4, s_4⟩
    have oB := s_4.om wa oB hgB
    have abv2 := s_4.apart abv (blk_lt bv)
    have bv := s_4.blk bv (by omega) abv
    have abv := abv2
    have zs_4 := s_4.sz
    have ws := ws.trans s_4
    have wa := wa_4
    have o0 := o0.trans s_4.ob0
    refine KL.nil (KQ.normBlock (KQ.r ?_))
    refine KL.q ((R.add rfl rfl rfl (by dsimp only [InR]; omega)).val (congrArg (Value.int .i64) (show (k : Int) + 1 = ((k + 1 : Nat) : Int) by omega))) rfl ?_
    refine KL.fin 1 rfl ?_
    refine KQ.again ((k + 1, v_4)) ?_ ?_ ?_
    · exact Sub.all rfl
    · show xs.length - (k + 1) < xs.length - k; omega
    exact ⟨by show k + 1 ≤ _; omega, by dsimp only; exact wa.cast (En.lst_step (by omega)) (En.all_step (by omega)), ws, oB⟩
  intro hc16
  try dsimp only at hc16
  have hkl : k = xs.length := by omega
  rw [hkl, List.take_length] at wa
  refine KC.exit (KQ.exitThen (KQ.exitThen (KQ.hit (KQ.fin0 Tryd.results71 ?_))))
  exact ⟨_, wa.cast (rfl) (rfl), ws⟩
theorem wlist_global {H : Heap} {g : Nat} {v : Value} {l : List Int} {bad : Bool} (wa : WA H g v l bad) {Hb : Heap} (oB : Old Hb H) (hgB : Hb.size ≤ g) {u : Value} {xs : List Glo} (hs : Sl 3 EGlo Hb u xs) (hm : xs.length ≤ 4294967295) (hz : ∀ x ∈ xs, Isp.bulk x.2 ≤ 4000) (hN : l.length + (En.lst En.gloB xs).length + 30000000 ≤ 1099511627776) : Ct Tryd.prog 77 [.pointer (some ⟨g, 0, none⟩), u, .func (.func 35) #[.pointer (some ⟨g, 0, none⟩)] #[]] H (fun _ H' => ∃ v', WA H' g v' (l ++ En.lst En.gloB xs) (bad || !xs.all En.gloO) ∧ WS g v H v' H') := by
  refine Ct.mk Tryd.func77 rfl Tryd.ntmps77 rfl ?_
  intro W0 hW0
  have o0 : OldB 0 H H := OldB.refl _ H
  have ws := WS.refl g v H
  have zg := wa.lt
  have hlst : 0 ≤ (En.lst En.gloB xs).length := Nat.zero_le _
  refine KC.sr (KL.run 2 rfl (KL.q (R.lenS rfl Tryd.underlying26 rfl hs) rfl ?_))
  refine KL.q (R.convI rfl Tryd.underlying3 Tryd.underlying28 rfl (by dsimp only [InR]; omega)) rfl ?_
  refine KL.c rfl Tryd.call27 (wu32_any wa _ (by dsimp only [InR]; omega) (by omega)) ?_
  rintro _ H1 ⟨v_5, wa_5, s_5⟩
  have oB := s_5.om wa oB hgB
  have zs_5 := s_5.sz
  have ws := ws.trans s_5
  have wa := wa_5
  have o0 := o0.trans s_5.ob0
  have hul := En.u_le (xs.length : Nat)
  refine KL.nil (KQ.sr (KL.run 1 rfl (KL.q (R.lenS rfl Tryd.underlying26 rfl hs) rfl (KL.fin 1 rfl (KQ.seq (KC.block ?_))))))
  refine KC.loopD (κ := Nat × Value) [16, 17, 18, 7, 19, 20, 21, 22, 15] (fun k => [(15, .int .i64 (k.1 : Nat))]) (fun k Hl => k.1 ≤ xs.length ∧ WA Hl g k.2 (l ++ (En.u (xs.length : Nat) ++ (xs.take k.1).flatMap En.gloB)) (bad || !(xs.take k.1).all En.gloO) ∧ WS g v H k.2 Hl ∧ Old Hb Hl) (fun k => xs.length - k.1) (0, v_5) ?_ ?_ ?_
  · exact Sub.all rfl
  · exact ⟨Nat.zero_le _, wa.cast (by simp) (by simp), ws, oB⟩
  rintro ⟨k, vk⟩ H2 ⟨hk, wa, ws, oB⟩
  dsimp only at hk wa ws
  have zg := wa.lt
  have o0 : OldB 0 H H2 := ws.ob0
  refine KC.sr (KL.fin 1 rfl (KQ.seq (KC.seq ?_)))
  refine KC.iq rfl ?_ ?_
  · intro hc16
    try dsimp only at hc16
    have hk2 : k < xs.length := by omega
    obtain ⟨cs, hcl, hcx, a, rfl, ha, r1⟩ := hs.at k hk2
    have hzk := hz _ (En.getD_memD hk2)
    have hroom := En.room (f := En.gloB) (c := 1099481627776) (a := l) hk2 (by omega)
    refine KC.skip (KQ.seq (KC.seq (KC.block (KC.sr ?_))))
    refine KL.q (R.index (j := k) rfl Tryd.underlying26 sz54 rfl rfl hs rfl (by omega)) rfl ?_
    refine KL.lda rfl (oB.cells hcx) rfl ?_
    have abv : vk = .slice none 0 0 ∨ vblock vk ≠ Array.size H2 := wa.w.lt.imp id (fun e => by omega)
    have oP : Old H2 H2 := Old.refl _
    have waT := wa
    have wsT := ws
    refine KL.m (M.alloc rfl zr54 rfl) rfl ?_
    rintro _ H3 ⟨rfl, n3⟩
    have z3 := n3.2.1
    have o0 := o0.trans ((n3.1).b (by omega))
    have oB := oB.trans n3.1
    have oP := oP.trans n3.1
    have b3 := n3.2.2
    have bv := b3
    refine KL.opS (S.storeAgg rfl sz54 rfl rfl (rfl) (by intro z hz2; simp only [List.mem_cons, List.not_mem_nil, or_false] at hz2; rcases hz2 with rfl | rfl | rfl <;> first | rfl | exact ha.one) bv (by simp)) rfl rfl ?_
    rintro H4 ⟨u4, b4⟩
    have o0 := o0.trans (OldB.upd u4 (by omega))
    have zu4 := u4.1
    have oB := oB.upd u4 (by omega)
    have oP := oP.upd u4 (by omega)
    have bv := b4
    rw [over_all (by rfl)] at bv
    have wa := waT.old oP
    have ws := wsT.old oP
    have o0 := ws.ob0
    refine KL.nil (KQ.r (KL.run 1 rfl (KL.lda rfl (cells_of bv) rfl ?_)))
    refine KL.c rfl Tryd.call35 (wglobal_any wa oB hgB _ _ r1 ha hzk (by omega)) ?_
    rintro _ H5 ⟨v_6, wa_6, s_6⟩
    have oB := s_6.om wa oB hgB
    have abv2 := s_6.apart abv (blk_lt bv)
    have bv := s_6.blk bv (by omega) abv
    have abv := abv2
    have zs_6 := s_6.sz
    have ws := ws.trans s_6
    have wa := wa_6
    have o0 := o0.trans s_6.ob0
    refine KL.nil (KQ.normBlock (KQ.r ?_))
    refine KL.q ((R.add rfl rfl rfl (by dsimp only [InR]; omega)).val (congrArg (Value.int .i64) (show (k : Int) + 1 = ((k + 1 : Nat) : Int) by omega))) rfl ?_
    refine KL.fin 1 rfl ?_
    refine KQ.again ((k + 1, v_6)) ?_ ?_ ?_
    · exact Sub.all rfl
    · show xs.length - (k + 1) < xs.length - k; omega
    exact ⟨by show k + 1 ≤ _; omega, by dsimp only; exact wa.cast (En.lst_step (by omega)) (En.all_step (by omega)), ws, oB⟩
  intro hc16
  try dsimp only at hc16
  have hkl : k = xs.length := by omega
  rw [hkl, List.take_length] at wa
  refine KC.exit (KQ.exitThen (KQ.exitThen (KQ.hit (KQ.fin0 Tryd.results77 ?_))))
  exact ⟨_, wa.cast (rfl) (rfl), ws⟩
theorem wlist_export {H : Heap} {g : Nat} {v : Value} {l : List Int} {bad : Bool} (wa : WA H g v l bad) {Hb : Heap} (oB : Old Hb H) (hgB : Hb.size ≤ g) (hT : TabU Hb) {u : Value} {xs : List Exp} (hs : Sl 3 EExp Hb u xs) (hm : xs.length ≤ 4294967295) (hz : ∀ x ∈ xs, x.nam.size ≤ 4000) (hN : l.length + (En.lst En.expB xs).length + 30000000 ≤ 1099511627776) : Ct Tryd.prog 79 [.pointer (some ⟨g, 0, none⟩), u, .func (.func 38) #[.pointer (some ⟨g, 0, none⟩)] #[]] H (fun _ H' => ∃ v', WA H' g v' (l ++ En.lst En.expB xs) (bad || !xs.all En.expO) ∧ WS g v H v' H') := by
  refine Ct.mk Tryd.func79 rfl Tryd.ntmps79 rfl ?_
  intro W0 hW0
  have o0 : OldB 0 H H := OldB.refl _ H
  have ws := WS.refl g v H
  have zg := wa.lt
  have hlst : 0 ≤ (En.lst En.expB xs).length := Nat.zero_le _
  refine KC.sr (KL.run 2 rfl (KL.q (R.lenS rfl Tryd.underlying27 rfl hs) rfl ?_))
  refine KL.q (R.convI rfl Tryd.underlying3 Tryd.underlying28 rfl (by dsimp only [InR]; omega)) rfl ?_
  refine KL.c rfl Tryd.call27 (wu32_any wa _ (by dsimp only [InR]; omega) (by omega)) ?_
  rintro _ H1 ⟨v_7, wa_7, s_7⟩
  have oB := s_7.om wa oB hgB
  have zs_7 := s_7.sz
  have ws := ws.trans s_7
  have wa := wa_7
  have o0 := o0.trans s_7.ob0
  have hul := En.u_le (xs.length : Nat)
  refine KL.nil (KQ.sr (KL.run 1 rfl (KL.q (R.lenS rfl Tryd.underlying27 rfl hs) rfl (KL.fin 1 rfl (KQ.seq (KC.block ?_))))))
  refine KC.loopD (κ := Nat × Value) [16, 17, 18, 7, 19, 20, 21, 22, 15] (fun k => [(15, .int .i64 (k.1 : Nat))]) (fun k Hl => k.1 ≤ xs.length ∧ WA Hl g k.2 (l ++ (En.u (xs.length : Nat) ++ (xs.take k.1).flatMap En.expB)) (bad || !(xs.take k.1).all En.expO) ∧ WS g v H k.2 Hl ∧ Old Hb Hl) (fun k => xs.length - k.1) (0, v_7) ?_ ?_ ?_
  · exact Sub.all rfl
  · exact ⟨Nat.zero_le _, wa.cast (by simp) (by simp), ws, oB⟩
  rintro ⟨k, vk⟩ H2 ⟨hk, wa, ws, oB⟩
  dsimp only at hk wa ws
  have zg := wa.lt
  have o0 : OldB 0 H H2 := ws.ob0
  refine KC.sr (KL.fin 1 rfl (KQ.seq (KC.seq ?_)))
  refine KC.iq rfl ?_ ?_
  · intro hc16
    try dsimp only at hc16
    have hk2 : k < xs.length := by omega
    obtain ⟨cs, hcl, hcx, rfl, r1, r2⟩ := hs.at k hk2
    have hzk := hz _ (En.getD_memD hk2)
    have hroom := En.room (f := En.expB) (c := 1099481627776) (a := l) hk2 (by omega)
    refine KC.skip (KQ.seq (KC.seq (KC.block (KC.sr ?_))))
    refine KL.q (R.index (j := k) rfl Tryd.underlying27 sz76 rfl rfl hs rfl (by omega)) rfl ?_
    refine KL.lda rfl (oB.cells hcx) rfl ?_
    have abv : vk = .slice none 0 0 ∨ vblock vk ≠ Array.size H2 := wa.w.lt.imp id (fun e => by omega)
    have oP : Old H2 H2 := Old.refl _
    have waT := wa
    have wsT := ws
    refine KL.m (M.alloc rfl zr76 rfl) rfl ?_
    rintro _ H3 ⟨rfl, n3⟩
    have z3 := n3.2.1
    have o0 := o0.trans ((n3.1).b (by omega))
    have oB := oB.trans n3.1
    have oP := oP.trans n3.1
    have b3 := n3.2.2
    have bv := b3
    refine KL.opS (S.storeAgg rfl sz76 rfl rfl (rfl) (by intro z hz2; simp only [List.mem_cons, List.not_mem_nil, or_false] at hz2; rcases hz2 with rfl | rfl | rfl <;> first | rfl) bv (by simp)) rfl rfl ?_
    rintro H4 ⟨u4, b4⟩
    have o0 := o0.trans (OldB.upd u4 (by omega))
    have zu4 := u4.1
    have oB := oB.upd u4 (by omega)
    have oP := oP.upd u4 (by omega)
    have bv := b4
    rw [over_all (by rfl)] at bv
    have wa := waT.old oP
    have ws := wsT.old oP
    have o0 := ws.ob0
    refine KL.nil (KQ.r (KL.run 1 rfl (KL.lda rfl (cells_of bv) rfl ?_)))
    refine KL.c rfl Tryd.call38 (wexport_any wa oB hgB hT _ _ _ hzk r1 r2 (by omega)) ?_
    rintro _ H5 ⟨v_8, wa_8, s_8⟩
    have oB := s_8.om wa oB hgB
    have abv2 := s_8.apart abv (blk_lt bv)
    have bv := s_8.blk bv (by omega) abv
    have abv := abv2
    have zs_8 := s_8.sz
    have ws := ws.trans s_8
    have wa := wa_8
    have o0 := o0.trans s_8.ob0
    refine KL.nil (KQ.normBlock (KQ.r ?_))
    refine KL.q ((R.add rfl rfl rfl (by dsimp only [InR]; omega)).val (congrArg (Value.int .i64) (show (k : Int) + 1 = ((k + 1 : Nat) : Int) by omega))) rfl ?_
    refine KL.fin 1 rfl ?_
    refine KQ.again ((k + 1, v_8)) ?_ ?_ ?_
    · exact Sub.all rfl
    · show xs.length - (k + 1) < xs.length - k; omega
    exact ⟨by show k + 1 ≤ _; omega, by dsimp only; exact wa.cast (En.lst_step (by omega)) (En.all_step (by omega)), ws, oB⟩
  intro hc16
  try dsimp only at hc16
  have hkl : k = xs.length := by omega
  rw [hkl, List.take_length] at wa
  refine KC.exit (KQ.exitThen (KQ.exitThen (KQ.hit (KQ.fin0 Tryd.results79 ?_))))
  exact ⟨_, wa.cast (rfl) (rfl), ws⟩
theorem wlist_elem {H : Heap} {g : Nat} {v : Value} {l : List Int} {bad : Bool} (wa : WA H g v l bad) {Hb : Heap} (oB : Old Hb H) (hgB : Hb.size ≤ g) {u : Value} {xs : List Elm} (hs : Sl 3 EElm Hb u xs) (hm : xs.length ≤ 4294967295) (hz : ∀ x ∈ xs, Isp.bulk x.2.1 ≤ 4000 ∧ x.2.2.length ≤ 4000) (hN : l.length + (En.lst En.elmB xs).length + 30000000 ≤ 1099511627776) : Ct Tryd.prog 80 [.pointer (some ⟨g, 0, none⟩), u, .func (.func 42) #[.pointer (some ⟨g, 0, none⟩)] #[]] H (fun _ H' => ∃ v', WA H' g v' (l ++ En.lst En.elmB xs) (bad || !xs.all En.elmO) ∧ WS g v H v' H') := by
  refine Ct.mk Tryd.func80 rfl Tryd.ntmps80 rfl ?_
  intro W0 hW0
  have o0 : OldB 0 H H := OldB.refl _ H
  have ws := WS.refl g v H
  have zg := wa.lt
  have hlst : 0 ≤ (En.lst En.elmB xs).length := Nat.zero_le _
  refine KC.sr (KL.run 2 rfl (KL.q (R.lenS rfl Tryd.underlying29 rfl hs) rfl ?_))
  refine KL.q (R.convI rfl Tryd.underlying3 Tryd.underlying28 rfl (by dsimp only [InR]; omega)) rfl ?_
  refine KL.c rfl Tryd.call27 (wu32_any wa _ (by dsimp only [InR]; omega) (by omega)) ?_
  rintro _ H1 ⟨v_9, wa_9, s_9⟩
  have oB := s_9.om wa oB hgB
  have zs_9 := s_9.sz
  have ws := ws.trans s_9
  have wa := wa_9
  have o0 := o0.trans s_9.ob0
  have hul := En.u_le (xs.length : Nat)
  refine KL.nil (KQ.sr (KL.run 1 rfl (KL.q (R.lenS rfl Tryd.underlying29 rfl hs) rfl (KL.fin 1 rfl (KQ.seq (KC.block ?_))))))
  refine KC.loopD (κ := Nat × Value) [16, 17, 18, 7, 19, 20, 21, 22, 15] (fun k => [(15, .int .i64 (k.1 : Nat))]) (fun k Hl => k.1 ≤ xs.length ∧ WA Hl g k.2 (l ++ (En.u (xs.length : Nat) ++ (xs.take k.1).flatMap En.elmB)) (bad || !(xs.take k.1).all En.elmO) ∧ WS g v H k.2 Hl ∧ Old Hb Hl) (fun k => xs.length - k.1) (0, v_9) ?_ ?_ ?_
  · exact Sub.all rfl
  · exact ⟨Nat.zero_le _, wa.cast (by simp) (by simp), ws, oB⟩
  rintro ⟨k, vk⟩ H2 ⟨hk, wa, ws, oB⟩
  dsimp only at hk wa ws
  have zg := wa.lt
  have o0 : OldB 0 H H2 := ws.ob0
  refine KC.sr (KL.fin 1 rfl (KQ.seq (KC.seq ?_)))
  refine KC.iq rfl ?_ ?_
  · intro hc16
    try dsimp only at hc16
    have hk2 : k < xs.length := by omega
    obtain ⟨cs, hcl, hcx, a, b, rfl, ha, hb, r1⟩ := hs.at k hk2
    have hzk := hz _ (En.getD_memD hk2)
    have hroom := En.room (f := En.elmB) (c := 1099481627776) (a := l) hk2 (by omega)
    refine KC.skip (KQ.seq (KC.seq (KC.block (KC.sr ?_))))
    refine KL.q (R.index (j := k) rfl Tryd.underlying29 sz62 rfl rfl hs rfl (by omega)) rfl ?_
    refine KL.lda rfl (oB.cells hcx) rfl ?_
    have abv : vk = .slice none 0 0 ∨ vblock vk ≠ Array.size H2 := wa.w.lt.imp id (fun e => by omega)
    have oP : Old H2 H2 := Old.refl _
    have waT := wa
    have wsT := ws
    refine KL.m (M.alloc rfl zr62 rfl) rfl ?_
    rintro _ H3 ⟨rfl, n3⟩
    have z3 := n3.2.1
    have o0 := o0.trans ((n3.1).b (by omega))
    have oB := oB.trans n3.1
    have oP := oP.trans n3.1
    have b3 := n3.2.2
    have bv := b3
    refine KL.opS (S.storeAgg rfl sz62 rfl rfl (rfl) (by intro z hz2; simp only [List.mem_cons, List.not_mem_nil, or_false] at hz2; rcases hz2 with rfl | rfl | rfl <;> first | rfl | exact ha.one | exact hb.one) bv (by simp)) rfl rfl ?_
    rintro H4 ⟨u4, b4⟩
    have o0 := o0.trans (OldB.upd u4 (by omega))
    have zu4 := u4.1
    have oB := oB.upd u4 (by omega)
    have oP := oP.upd u4 (by omega)
    have bv := b4
    rw [over_all (by rfl)] at bv
    have wa := waT.old oP
    have ws := wsT.old oP
    have o0 := ws.ob0
    refine KL.nil (KQ.r (KL.run 1 rfl (KL.lda rfl (cells_of bv) rfl ?_)))
    refine KL.c rfl Tryd.call42 (welem_any wa oB hgB _ r1 ha hb hzk.1 hzk.2 (by omega)) ?_
    rintro _ H5 ⟨v_10, wa_10, s_10⟩
    have oB := s_10.om wa oB hgB
    have abv2 := s_10.apart abv (blk_lt bv)
    have bv := s_10.blk bv (by omega) abv
    have abv := abv2
    have zs_10 := s_10.sz
    have ws := ws.trans s_10
    have wa := wa_10
    have o0 := o0.trans s_10.ob0
    refine KL.nil (KQ.normBlock (KQ.r ?_))
    refine KL.q ((R.add rfl rfl rfl (by dsimp only [InR]; omega)).val (congrArg (Value.int .i64) (show (k : Int) + 1 = ((k + 1 : Nat) : Int) by omega))) rfl ?_
    refine KL.fin 1 rfl ?_
    refine KQ.again ((k + 1, v_10)) ?_ ?_ ?_
    · exact Sub.all rfl
    · show xs.length - (k + 1) < xs.length - k; omega
    exact ⟨by show k + 1 ≤ _; omega, by dsimp only; exact wa.cast (En.lst_step (by omega)) (En.all_step (by omega)), ws, oB⟩
  intro hc16
  try dsimp only at hc16
  have hkl : k = xs.length := by omega
  rw [hkl, List.take_length] at wa
  refine KC.exit (KQ.exitThen (KQ.exitThen (KQ.hit (KQ.fin0 Tryd.results80 ?_))))
  exact ⟨_, wa.cast (rfl) (rfl), ws⟩
theorem wlist_code {H : Heap} {g : Nat} {v : Value} {l : List Int} {bad : Bool} (wa : WA H g v l bad) {Hb : Heap} (oB : Old Hb H) (hgB : Hb.size ≤ g) {u : Value} {xs : List Cod} (hs : Sl 2 ECod Hb u xs) (hm : xs.length ≤ 4294967295) (hz : ∀ x ∈ xs, Isp.bulk x.2 ≤ 4000 ∧ x.1.length ≤ 4000) (hN : l.length + (En.lst En.codB xs).length + 30000000 ≤ 1099511627776) : Ct Tryd.prog 81 [.pointer (some ⟨g, 0, none⟩), u, .func (.func 45) #[.pointer (some ⟨g, 0, none⟩)] #[]] H (fun _ H' => ∃ v', WA H' g v' (l ++ En.lst En.codB xs) (bad || !xs.all En.codO) ∧ WS g v H v' H') := by
  refine Ct.mk Tryd.func81 rfl Tryd.ntmps81 rfl ?_
  intro W0 hW0
  have o0 : OldB 0 H H := OldB.refl _ H
  have ws := WS.refl g v H
  have zg := wa.lt
  have hlst : 0 ≤ (En.lst En.codB xs).length := Nat.zero_le _
  refine KC.sr (KL.run 2 rfl (KL.q (R.lenS rfl Tryd.underlying30 rfl hs) rfl ?_))
  refine KL.q (R.convI rfl Tryd.underlying3 Tryd.underlying28 rfl (by dsimp only [InR]; omega)) rfl ?_
  refine KL.c rfl Tryd.call27 (wu32_any wa _ (by dsimp only [InR]; omega) (by omega)) ?_
  rintro _ H1 ⟨v_11, wa_11, s_11⟩
  have oB := s_11.om wa oB hgB
  have zs_11 := s_11.sz
  have ws := ws.trans s_11
  have wa := wa_11
  have o0 := o0.trans s_11.ob0
  have hul := En.u_le (xs.length : Nat)
  refine KL.nil (KQ.sr (KL.run 1 rfl (KL.q (R.lenS rfl Tryd.underlying30 rfl hs) rfl (KL.fin 1 rfl (KQ.seq (KC.block ?_))))))
  refine KC.loopD (κ := Nat × Value) [16, 17, 18, 7, 19, 20, 21, 22, 15] (fun k => [(15, .int .i64 (k.1 : Nat))]) (fun k Hl => k.1 ≤ xs.length ∧ WA Hl g k.2 (l ++ (En.u (xs.length : Nat) ++ (xs.take k.1).flatMap En.codB)) (bad || !(xs.take k.1).all En.codO) ∧ WS g v H k.2 Hl ∧ Old Hb Hl) (fun k => xs.length - k.1) (0, v_11) ?_ ?_ ?_
  · exact Sub.all rfl
  · exact ⟨Nat.zero_le _, wa.cast (by simp) (by simp), ws, oB⟩
  rintro ⟨k, vk⟩ H2 ⟨hk, wa, ws, oB⟩
  dsimp only at hk wa ws
  have zg := wa.lt
  have o0 : OldB 0 H H2 := ws.ob0
  refine KC.sr (KL.fin 1 rfl (KQ.seq (KC.seq ?_)))
  refine KC.iq rfl ?_ ?_
  · intro hc16
    try dsimp only at hc16
    have hk2 : k < xs.length := by omega
    obtain ⟨cs, hcl, hcx, a, b, rfl, ha, hb⟩ := hs.at k hk2
    have hzk := hz _ (En.getD_memD hk2)
    have hroom := En.room (f := En.codB) (c := 1099481627776) (a := l) hk2 (by omega)
    refine KC.skip (KQ.seq (KC.seq (KC.block (KC.sr ?_))))
    refine KL.q (R.index (j := k) rfl Tryd.underlying30 sz58 rfl rfl hs rfl (by omega)) rfl ?_
    refine KL.lda rfl (oB.cells hcx) rfl ?_
    have abv : vk = .slice none 0 0 ∨ vblock vk ≠ Array.size H2 := wa.w.lt.imp id (fun e => by omega)
    have oP : Old H2 H2 := Old.refl _
    have waT := wa
    have wsT := ws
    refine KL.m (M.alloc rfl zr58 rfl) rfl ?_
    rintro _ H3 ⟨rfl, n3⟩
    have z3 := n3.2.1
    have o0 := o0.trans ((n3.1).b (by omega))
    have oB := oB.trans n3.1
    have oP := oP.trans n3.1
    have b3 := n3.2.2
    have bv := b3
    refine KL.opS (S.storeAgg rfl sz58 rfl rfl (rfl) (by intro z hz2; simp only [List.mem_cons, List.not_mem_nil, or_false] at hz2; rcases hz2 with rfl | rfl <;> first | rfl | exact ha.one | exact hb.one) bv (by simp)) rfl rfl ?_
    rintro H4 ⟨u4, b4⟩
    have o0 := o0.trans (OldB.upd u4 (by omega))
    have zu4 := u4.1
    have oB := oB.upd u4 (by omega)
    have oP := oP.upd u4 (by omega)
    have bv := b4
    rw [over_all (by rfl)] at bv
    have wa := waT.old oP
    have ws := wsT.old oP
    have o0 := ws.ob0
    refine KL.nil (KQ.r (KL.run 1 rfl (KL.lda rfl (cells_of bv) rfl ?_)))
    refine KL.c rfl Tryd.call45 (wcode_any wa oB hgB ha hb hzk.2 hzk.1 (by omega)) ?_
    rintro _ H5 ⟨v_12, wa_12, s_12⟩
    have oB := s_12.om wa oB hgB
    have abv2 := s_12.apart abv (blk_lt bv)
    have bv := s_12.blk bv (by omega) abv
    have abv := abv2
    have zs_12 := s_12.sz
    have ws := ws.trans s_12
    have wa := wa_12
    have o0 := o0.trans s_12.ob0
    refine KL.nil (KQ.normBlock (KQ.r ?_))
    refine KL.q ((R.add rfl rfl rfl (by dsimp only [InR]; omega)).val (congrArg (Value.int .i64) (show (k : Int) + 1 = ((k + 1 : Nat) : Int) by omega))) rfl ?_
    refine KL.fin 1 rfl ?_
    refine KQ.again ((k + 1, v_12)) ?_ ?_ ?_
    · exact Sub.all rfl
    · show xs.length - (k + 1) < xs.length - k; omega
    exact ⟨by show k + 1 ≤ _; omega, by dsimp only; exact wa.cast (En.lst_step (by omega)) (En.all_step (by omega)), ws, oB⟩
  intro hc16
  try dsimp only at hc16
  have hkl : k = xs.length := by omega
  rw [hkl, List.take_length] at wa
  refine KC.exit (KQ.exitThen (KQ.exitThen (KQ.hit (KQ.fin0 Tryd.results81 ?_))))
  exact ⟨_, wa.cast (rfl) (rfl), ws⟩
theorem wlist_data {H : Heap} {g : Nat} {v : Value} {l : List Int} {bad : Bool} (wa : WA H g v l bad) {Hb : Heap} (oB : Old Hb H) (hgB : Hb.size ≤ g) {u : Value} {xs : List Elm} (hs : Sl 3 EDat Hb u xs) (hm : xs.length ≤ 4294967295) (hz : ∀ x ∈ xs, Isp.bulk x.2.1 ≤ 4000 ∧ x.2.2.length ≤ 200000) (hN : l.length + (En.lst En.datB xs).length + 30000000 ≤ 1099511627776) : Ct Tryd.prog 85 [.pointer (some ⟨g, 0, none⟩), u, .func (.func 48) #[.pointer (some ⟨g, 0, none⟩)] #[]] H (fun _ H' => ∃ v', WA H' g v' (l ++ En.lst En.datB xs) (bad || !xs.all En.datO) ∧ WS g v H v' H') := by
  refine Ct.mk Tryd.func85 rfl Tryd.ntmps85 rfl ?_
  intro W0 hW0
  have o0 : OldB 0 H H := OldB.refl _ H
  have ws := WS.refl g v H
  have zg := wa.lt
  have hlst : 0 ≤ (En.lst En.datB xs).length := Nat.zero_le _
  refine KC.sr (KL.run 2 rfl (KL.q (R.lenS rfl Tryd.underlying31 rfl hs) rfl ?_))
  refine KL.q (R.convI rfl Tryd.underlying3 Tryd.underlying28 rfl (by dsimp only [InR]; omega)) rfl ?_
  refine KL.c rfl Tryd.call27 (wu32_any wa _ (by dsimp only [InR]; omega) (by omega)) ?_
  rintro _ H1 ⟨v_13, wa_13, s_13⟩
  have oB := s_13.om wa oB hgB
  have zs_13 := s_13.sz
  have ws := ws.trans s_13
  have wa := wa_13
  have o0 := o0.trans s_13.ob0
  have hul := En.u_le (xs.length : Nat)
  refine KL.nil (KQ.sr (KL.run 1 rfl (KL.q (R.lenS rfl Tryd.underlying31 rfl hs) rfl (KL.fin 1 rfl (KQ.seq (KC.block ?_))))))
  refine KC.loopD (κ := Nat × Value) [16, 17, 18, 7, 19, 20, 21, 22, 15] (fun k => [(15, .int .i64 (k.1 : Nat))]) (fun k Hl => k.1 ≤ xs.length ∧ WA Hl g k.2 (l ++ (En.u (xs.length : Nat) ++ (xs.take k.1).flatMap En.datB)) (bad || !(xs.take k.1).all En.datO) ∧ WS g v H k.2 Hl ∧ Old Hb Hl) (fun k => xs.length - k.1) (0, v_13) ?_ ?_ ?_
  · exact Sub.all rfl
  · exact ⟨Nat.zero_le _, wa.cast (by simp) (by simp), ws, oB⟩
  rintro ⟨k, vk⟩ H2 ⟨hk, wa, ws, oB⟩
  dsimp only at hk wa ws
  have zg := wa.lt
  have o0 : OldB 0 H H2 := ws.ob0
  refine KC.sr (KL.fin 1 rfl (KQ.seq (KC.seq ?_)))
  refine KC.iq rfl ?_ ?_
  · intro hc16
    try dsimp only at hc16
    have hk2 : k < xs.length := by omega
    obtain ⟨cs, hcl, hcx, a, b, rfl, ha, hb, r1⟩ := hs.at k hk2
    have hzk := hz _ (En.getD_memD hk2)
    have hroom := En.room (f := En.datB) (c := 1099481627776) (a := l) hk2 (by omega)
    refine KC.skip (KQ.seq (KC.seq (KC.block (KC.sr ?_))))
    refine KL.q (R.index (j := k) rfl Tryd.underlying31 sz64 rfl rfl hs rfl (by omega)) rfl ?_
    refine KL.lda rfl (oB.cells hcx) rfl ?_
    have abv : vk = .slice none 0 0 ∨ vblock vk ≠ Array.size H2 := wa.w.lt.imp id (fun e => by omega)
    have oP : Old H2 H2 := Old.refl _
    have waT := wa
    have wsT := ws
    refine KL.m (M.alloc rfl zr64 rfl) rfl ?_
    rintro _ H3 ⟨rfl, n3⟩
    have z3 := n3.2.1
    have o0 := o0.trans ((n3.1).b (by omega))
    have oB := oB.trans n3.1
    have oP := oP.trans n3.1
    have b3 := n3.2.2
    have bv := b3
    refine KL.opS (S.storeAgg rfl sz64 rfl rfl (rfl) (by intro z hz2; simp only [List.mem_cons, List.not_mem_nil, or_false] at hz2; rcases hz2 with rfl | rfl | rfl <;> first | rfl | exact ha.one | exact hb.one) bv (by simp)) rfl rfl ?_
    rintro H4 ⟨u4, b4⟩
    have o0 := o0.trans (OldB.upd u4 (by omega))
    have zu4 := u4.1
    have oB := oB.upd u4 (by omega)
    have oP := oP.upd u4 (by omega)
    have bv := b4
    rw [over_all (by rfl)] at bv
    have wa := waT.old oP
    have ws := wsT.old oP
    have o0 := ws.ob0
    refine KL.nil (KQ.r (KL.run 1 rfl (KL.lda rfl (cells_of bv) rfl ?_)))
    refine KL.c rfl Tryd.call48 (wdata_any wa oB hgB _ r1 ha hb hzk.1 hzk.2 (by omega)) ?_
    rintro _ H5 ⟨v_14, wa_14, s_14⟩
    have oB := s_14.om wa oB hgB
    have abv2 := s_14.apart abv (blk_lt bv)
    have bv := s_14.blk bv (by omega) abv
    have abv := abv2
    have zs_14 := s_14.sz
    have ws := ws.trans s_14
    have wa := wa_14
    have o0 := o0.trans s_14.ob0
    refine KL.nil (KQ.normBlock (KQ.r ?_))
    refine KL.q ((R.add rfl rfl rfl (by dsimp only [InR]; omega)).val (congrArg (Value.int .i64) (show (k : Int) + 1 = ((k + 1 : Nat) : Int) by omega))) rfl ?_
    refine KL.fin 1 rfl ?_
    refine KQ.again ((k + 1, v_14)) ?_ ?_ ?_
    · exact Sub.all rfl
    · show xs.length - (k + 1) < xs.length - k; omega
    exact ⟨by show k + 1 ≤ _; omega, by dsimp only; exact wa.cast (En.lst_step (by omega)) (En.all_step (by omega)), ws, oB⟩
  intro hc16
  try dsimp only at hc16
  have hkl : k = xs.length := by omega
  rw [hkl, List.take_length] at wa
  refine KC.exit (KQ.exitThen (KQ.exitThen (KQ.hit (KQ.fin0 Tryd.results85 ?_))))
  exact ⟨_, wa.cast (rfl) (rfl), ws⟩
end Go.Proofs.YtldmfchamcpmmaaDoor
namespace Go.Proofs.YtldmfchamcpmmaaDoor
open Go Go.RowKit Go.ChangeShapes Go.WideShapes Go.Deep
set_option linter.unusedVariables false
set_option linter.unusedSimpArgs false
theorem Sl.keepB {k : IntKind} {H H' : Heap} {v : Value} {l : List Int} (h : Sl 1 (EInt k) H v l) (hk : l = [] ∨ H'[vblock v]? = H[vblock v]?) : Sl 1 (EInt k) H' v l := by
  rcases hk with rfl | hk
  · exact h.empty H'
  obtain ⟨a, cap, h1, h2, h3, h4, h5, h6⟩ := h
  refine ⟨a, cap, h1, h2, h3, h4, h5, fun j x hj => ?_⟩
  obtain ⟨cs, e1, e2, e3⟩ := h6 j x hj
  refine ⟨cs, e1, fun i u hu => ?_, e3⟩
  have := e2 i u hu
  have hb : (((vbase v).add (j * 1)).add i).block = vblock v := by simp [vblock, Addr.add]; split <;> split <;> rfl
  unfold cellH at this ⊢
  rw [hb] at this ⊢
  rw [hk]; exact this
/-- full: no room behind it -/
structure Full (B : Nat) (H : Heap) (v : Value) (l : List Int) : Prop where
  sl : Sl 1 (EInt .u8) H v l
  pos : 0 < l.length
  at_ : ∃ g, v = .slice (some ⟨g, 0, none⟩) l.length l.length ∧ B ≤ g ∧ g < H.size
/-- a row of the call's own, or full -/
def Out (e : TypeId) (B : Nat) (H : Heap) (v : Value) (l : List Int) : Prop := Own 1 (EInt .u8) e #[] B H v l ∨ Full B H v l
section
variable {e : TypeId} {B : Nat} {H H' : Heap} {v : Value} {l : List Int}
theorem Out.sl (h : Out e B H v l) : Sl 1 (EInt .u8) H v l := h.elim (fun h => h.sl (emptyOld _) (by omega)) (fun h => h.sl)
theorem Out.lt (h : Out e B H v l) : v = .slice none 0 0 ∨ (B ≤ vblock v ∧ vblock v < H.size) := h.elim (fun h => h.lt) (fun h => by
  obtain ⟨g, hv, h1, h2⟩ := h.at_
  subst hv; exact .inr ⟨h1, h2⟩)
theorem Out.one (h : Out e B H v l) : v.oneCell' = true := h.sl.one
theorem Out.keep (h : Out e B H v l) (hk : H'[vblock v]? = H[vblock v]?) (hs : H.size ≤ H'.size) : Out e B H' v l := h.elim (fun h => .inl (h.keep hk)) (fun h => .inr (by
  obtain ⟨g, hv, h1, h2⟩ := h.at_
  exact ⟨h.sl.keepB (.inr hk), h.pos, g, hv, h1, by omega⟩))
theorem Out.old (h : Out e B H v l) (o : Old H H') : Out e B H' v l := h.elim (fun h => .inl (h.old o)) (fun h => .inr (by
  obtain ⟨g, hv, h1, h2⟩ := h.at_
  exact ⟨h.sl.old o, h.pos, g, hv, h1, by have := o.1; omega⟩))
theorem Out.upd {g : Nat} (h : Out e B H v l) (u : Upd g H H') (hne : v = .slice none 0 0 ∨ vblock v ≠ g) : Out e B H' v l := h.elim (fun h => .inl (h.upd u hne)) (fun h => .inr (by
  obtain ⟨g', hv, h1, h2⟩ := h.at_
  have hne : vblock v ≠ g := by rcases hne with hn | hn; (subst hn; cases hv); exact hn
  exact ⟨h.sl.keepB (.inr (u.2 _ hne)), h.pos, g', hv, h1, by have := u.1; omega⟩))
end
section
variable {P : Program} {En : Env} {H : Heap} {o : Oper} {v : Value} {e : TypeId} {B : Nat} {l : List Int}
theorem M.appendFullO {T : TypeId} {s x : Operand} {u : Value} {m : List Int} {z : Value} {by' : Nat} (ho : o.op = .call { callee := .builtin .append, args := #[s, x], argTypes := #[T, T] }) (ht : P.underlying T = some (.slice e)) (hi : (P.info? e).map (fun i => (i.zero, i.size, i.bytes)) = some (some z, 1, by')) (hz : z.cells.size = 1)
    (hs : ev En s = some v) (hx : ev En x = some u) (hf : Full B H v l) (hm : Sl 1 (EInt .u8) H u m) (hm0 : 0 < m.length) (hB : B ≤ H.size) (hsz : (l.length + m.length) * by' ≤ 140737488355328) (hlen : l.length + m.length ≤ maxLen) :
    RunM P En H o (fun v' H' => Own 1 (EInt .u8) e #[] B H' v' (l ++ m) ∧ Grown v H H' ∧ Nx H v v' ∧ Old H H') := by
  intro ρ w ha hw
  obtain ⟨i, hi', hz0, hz1, hz2⟩ : ∃ i, P.info? e = some i ∧ i.zero = some z ∧ i.size = 1 ∧ i.bytes = by' := by
    cases hq : P.info? e with
    | none => simp [hq] at hi
    | some i => simp [hq] at hi; exact ⟨i, rfl, hi⟩
  obtain ⟨ad, cap, hu, hsp, hb⟩ := hm.addr hm0
  obtain ⟨fm, hfl, hfc, hfe⟩ := hm.flat hm0
  obtain ⟨fo, hol, hoc, hoe⟩ := hf.sl.flat hf.pos
  obtain ⟨g, hv, hg1, hg2⟩ := hf.at_
  rw [hb] at hfc
  have hvb : vbase v = ⟨g, 0, none⟩ := by rw [hv]; rfl
  rw [hvb] at hoc
  obtain ⟨v', w', hr, h2, h3⟩ := run_append_arg_grows (P := P) w T o.type e i z 1 by' ht hi' hz0 hz1 hz2 hz (by omega) ⟨g, 0, none⟩ l.length l.length fo hol (fun j q hj => by rw [cell_w hw]; exact hoc j q hj) ad m.length cap fm hfl (fun j q hj => by rw [cell_w hw]; exact hfc j q hj) (by omega) hlen hsz
  have hrow : OwnH H.size e 1 w'.heap v' (l ++ m).length (fo ++ fm) := by
    rw [← hw, List.length_append]; exact ownH_w.1 h2
  have hel : ∀ j x, nth (l ++ m) j = some x → EInt .u8 #[] (((fo ++ fm).drop (j * 1)).take 1) x := by
    intro j x hj
    rw [nth_eq] at hj
    by_cases hjl : j < l.length
    · rw [List.getElem?_append_left hjl] at hj
      rw [List.drop_append_of_le_length (by omega), List.take_append_of_le_length (by simp; omega)]
      exact hoe j x (by rw [nth_eq]; exact hj)
    rw [List.getElem?_append_right (by omega)] at hj
    have hge : j * 1 = fo.length + (j - l.length) * 1 := by omega
    rw [hge, List.drop_append]
    simp only [Nat.le_add_right, List.drop_eq_nil_of_le, List.nil_append, Nat.add_sub_cancel_left]
    exact hfe _ x (by rw [nth_eq]; exact hj)
  have hold : Old H w'.heap := ⟨by rw [← hw]; exact h3.size, fun k hk => by rw [← hw] at hk ⊢; exact h3.block k hk (by simp)⟩
  have hown : Own 1 (EInt .u8) e #[] H.size w'.heap v' (l ++ m) := ⟨fo ++ fm, hrow, hel⟩
  refine ⟨v', w', ?_, ⟨rfl, h3.os, h3.tape, h3.output⟩, hown.weak hB, ⟨hold.1, fun k hk _ => hold.2 k hk⟩, ?_, hold⟩
  · subst hu
    subst hv
    simp [execOp, ho, resolve, invoke, builtin, ha s _ hs, ha x _ hx, Sem.run_bind, Sem.run_pure, Result.andThen]
    simp [hr]
  rcases hown.lt with h | h
  · exact .inl h
  exact .inr (.inr h.1)
theorem M.appendFull {T : TypeId} {s x : Operand} {u : Value} {m : List Int} {z : Value} {by' : Nat} (ho : o.op = .call { callee := .builtin .append, args := #[s, x], argTypes := #[T, T] }) (ht : P.underlying T = some (.slice e)) (hi : (P.info? e).map (fun i => (i.zero, i.size, i.bytes)) = some (some z, 1, by')) (hz : z.cells.size = 1)
    (hs : ev En s = some v) (hx : ev En x = some u) (hf : Full B H v l) (hm : Sl 1 (EInt .u8) H u m) (hm0 : 0 < m.length) (hB : B ≤ H.size) (hsz : (l.length + m.length) * by' ≤ 140737488355328) (hlen : l.length + m.length ≤ maxLen) :
    RunM P En H o (fun v' H' => Own 1 (EInt .u8) e #[] B H' v' (l ++ m) ∧ Grown v H H' ∧ Nx H v v') := fun ρ w ha hw => let ⟨v', w', h1, h2, h3, h4, h5, _⟩ := M.appendFullO ho ht hi hz hs hx hf hm hm0 hB hsz hlen ρ w ha hw; ⟨v', w', h1, h2, h3, h4, h5⟩
theorem M.appendOut {T : TypeId} {s x : Operand} {u : Value} {m : List Int} {z : Value} {by' : Nat} (ho : o.op = .call { callee := .builtin .append, args := #[s, x], argTypes := #[T, T] }) (ht : P.underlying T = some (.slice e)) (hi : (P.info? e).map (fun i => (i.zero, i.size, i.bytes)) = some (some z, 1, by')) (hz : z.cells.size = 1)
    (hs : ev En s = some v) (hx : ev En x = some u) (hf : Out e B H v l) (hm : Sl 1 (EInt .u8) H u m) (hm0 : 0 < m.length) (hB : B ≤ H.size) (hsz : (l.length + m.length) * by' ≤ 140737488355328) (hlen : l.length + m.length ≤ maxLen) :
    RunM P En H o (fun v' H' => Own 1 (EInt .u8) e #[] B H' v' (l ++ m) ∧ Grown v H H' ∧ Nx H v v') := by
  rcases hf with hf | hf
  · exact M.appendN ho ht hi hz (by omega) hs hx hf hm (fun _ _ h _ => h) hB hsz hlen
  exact M.appendFull ho ht hi hz hs hx hf hm hm0 hB hsz hlen
end
end Go.Proofs.YtldmfchamcpmmaaDoor
namespace Go.Proofs.YtldmfchamcpmmaaDoor
open Go Go.RowKit
set_option linter.unusedVariables false
set_option linter.unusedSimpArgs false
theorem take_succ_getD {α : Type} [Inhabited α] {l : List α} {k : Nat} (h : k < l.length) : l.take (k + 1) = l.take k ++ [l.getD k default] := by
  rw [List.take_add_one, List.getD_eq_getElem?_getD, List.getElem?_eq_getElem h]; rfl
namespace Sc
theorem rise_step {l : List Sec} {k : Nat} (h : k < l.length) : rise 0 (l.take (k + 1)) = (rise 0 (l.take k) && decide (lst 0 (l.take k) < (l.getD k default).1 ∧ (l.getD k default).1 ≤ 11)) := by
  rw [take_succ_getD h, rise_app]; simp [rise]
theorem lst_step {l : List Sec} {k : Nat} (h : k < l.length) : lst 0 (l.take (k + 1)) = (l.getD k default).1 := by
  rw [take_succ_getD h, lst_app]; rfl
theorem body_step {l : List Sec} {k : Nat} (h : k < l.length) : body (l.take (k + 1)) = body (l.take k) ++ ([(l.getD k default).1] ++ Lb.ap ((l.getD k default).2.length : Int) ++ (l.getD k default).2) := by
  rw [take_succ_getD h, body_app]; simp [body]
theorem body_le (l : List Sec) (k : Nat) : (body (l.take k)).length ≤ (body l).length := by
  conv => rhs; rw [← List.take_append_drop k l, body_app, List.length_append]
  omega
theorem rise_no {l : List Sec} {k : Nat} (h : rise 0 (l.take k) = false) : rise 0 l = false := by
  rw [← List.take_append_drop k l, rise_app, h, Bool.false_and]
theorem join_no {l : List Sec} {k : Nat} (h : k < l.length) (hb : ¬ (lst 0 (l.take k) < (l.getD k default).1 ∧ (l.getD k default).1 ≤ 11)) : join l = none := by
  unfold join
  rw [if_neg]
  rw [rise_no (k := k + 1) (by rw [rise_step h, decide_eq_false hb, Bool.and_false])]; simp
theorem join_yes {l : List Sec} {k : Nat} (h : l.length ≤ k) (hr : rise 0 (l.take k) = true) : join l = some (beg ++ body (l.take k)) := by
  rw [List.take_of_length_le h] at *
  unfold join; rw [if_pos hr]
theorem rise_yes {l : List Sec} {k : Nat} (h : k < l.length) (hr : rise 0 (l.take k) = true) (hb : lst 0 (l.take k) < (l.getD k default).1 ∧ (l.getD k default).1 ≤ 11) : rise 0 (l.take (k + 1)) = true := by
  rw [rise_step h, hr, decide_eq_true hb]; rfl
/-- what a joining hands back -/
def JRes (o : Option (List Int)) (bad good : Value) (u : Value) (H : Heap) : Prop := match o with
  | none => u = .tuple #[.slice none 0 0, bad]
  | some m => ∃ v, u = .tuple #[v, good] ∧ Sl 1 (EInt .u8) H v m
theorem body_bytes {l : List Sec} {k : Nat} (h : k < l.length) : (body (l.take k)).length + 1 + (Lb.ap ((l.getD k default).2.length : Int)).length + (l.getD k default).2.length = (body (l.take (k + 1))).length := by
  rw [body_step h]; simp only [List.length_append, List.length_cons, List.length_nil]; omega
/-- the entries and the bytes of sections -/
def wt : List Sec → Nat
  | [] => 0
  | s :: l => 1 + s.2.length + wt l
end Sc
end Go.Proofs.YtldmfchamcpmmaaDoor
namespace Go.Proofs.YtldmfchamcpmmaaDoor
open Go Go.RowKit
set_option linter.unusedVariables false
set_option linter.unusedSimpArgs false
set_option linter.unnecessarySimpa false
namespace Lb
def apI (f : Nat) (z : Int) : List Int := uints (Leb.ap false f z)
theorem apI_step {f : Nat} {z : Int} (h : 128 ≤ z) : apI (f + 1) z = (z % 128 + 128) :: apI f (z / 128) := by
  unfold apI
  rw [Leb.ap, if_neg (by simp [Leb.small]; omega)]
  simp only [uints, List.map_cons, List.cons.injEq, and_true]
  rw [UInt8.toNat_ofNat']
  omega
theorem apI_last {f : Nat} {z : Int} (h0 : 0 ≤ z) (h : z < 128) : apI (f + 1) z = [z] := by
  unfold apI
  rw [Leb.ap, if_pos (by simp [Leb.small]; omega)]
  simp only [uints, List.map_cons, List.map_nil, List.cons.injEq, and_true]
  rw [UInt8.toNat_ofNat']
  omega
theorem pow_step {f : Nat} {z : Int} (h : 128 ≤ z) (hz : z < 128 ^ (f + 1)) : 1 ≤ f ∧ z / 128 < 128 ^ f := by
  refine ⟨?_, ?_⟩
  · cases f with
    | zero => simp at hz; omega
    | succ f => omega
  rw [Int.pow_succ] at hz
  exact Int.ediv_lt_of_lt_mul (by omega) hz
theorem or128 (z : Int) : bits .or .u8 (IntKind.u8.wrap z) 128 = z % 128 + 128 := by
  have key : ∀ a : Fin 256, bits .or .u8 ((a.val : Nat) : Int) 128 = ((a.val % 128 + 128 : Nat) : Int) := by decide +kernel
  have hw := inR_wrap .u8 z
  have e : IntKind.u8.wrap z = z % 256 := by simp [IntKind.wrap, IntKind.signed, IntKind.bits]
  rw [e]
  have := key ⟨(z % 256).toNat, by omega⟩
  simp only at this
  rw [show (((z % 256).toNat : Nat) : Int) = z % 256 from by omega] at this
  rw [this]; omega
end Lb
theorem AppendU_big {H : Heap} (v : Value) (l : List Int) (z : Int) (hs : Sl 1 (EInt .u8) H v l) (hl : l.length ≤ 140737488355300) (h0 : 0 ≤ z) (h1 : z < 18446744073709551616) : Ct Tryd.prog 39 [v, .int .u64 z] H (fun u H' => Own 1 (EInt .u8) 5 #[] H.size H' u (l ++ Lb.ap z) ∧ Old H H') := by
  refine Ct.mk Tryd.func39 rfl Tryd.ntmps39 rfl ?_
  intro W0 hW0
  have o0 : Old H H := Old.refl H
  have wn : Own 1 (EInt .u8) 5 #[] H.size H (.slice none 0 0) ([] : List Int) := Own.nil _ _ _ _ _ _
  refine KC.sr (KL.fin 1 rfl (KQ.sr (KL.run 1 rfl ?_)))
  have lt1 := wn.lt
  refine KL.m (M.append rfl Tryd.underlying36 inf5 rfl (by decide) rfl rfl wn hs (fun _ _ h _ => h) (by omega) (by simp; omega) (by unfold maxLen; simp; omega)) rfl ?_
  rintro v7 H1 ⟨w1, g1⟩
  have ob1 := g1.oldB wn (by omega)
  have o0 := o0.then ob1 (by omega)
  have z1 := ob1.1
  have wn := w1
  have wo : Own 1 (EInt .u8) 5 #[] H.size H1 v7 l := wn
  refine KL.fin 1 rfl (KQ.seq (KC.seq (KC.block ?_)))
  refine KC.loopD (κ := Value × List Int × Nat × Int) [8, 9, 10, 11, 12, 13, 14, 15, 5, 16, 17, 1] (fun k => [(5, k.1), (1, .int .u64 k.2.2.2)]) (fun k Hl => Own 1 (EInt .u8) 5 #[] H.size Hl k.1 k.2.1 ∧ k.2.1 ++ Lb.apI (k.2.2.1 + 1) k.2.2.2 = l ++ Lb.ap z ∧ k.2.1.length + k.2.2.1 + 1 ≤ l.length + 10 ∧ 0 ≤ k.2.2.2 ∧ k.2.2.2 < 128 ^ (k.2.2.1 + 1) ∧ k.2.2.2 < 18446744073709551616 ∧ Old H Hl) (fun k => k.2.2.2.toNat) (v7, l, 9, z) ?_ ?_ ?_
  · exact Sub.all rfl
  · exact ⟨wo, rfl, Nat.le_refl _, h0, by show z < 128 ^ 10; rw [show (128 : Int) ^ 10 = 1180591620717411303424 from by decide]; omega, h1, o0⟩
  rintro ⟨vo, acc, f, y⟩ H2 ⟨wo, hap, hle, hy0, hyp, hy1, o0⟩
  have zl_H2 := o0.1
  dsimp only at wo hap hle hy0 hyp hy1
  have zl := o0.1
  refine KC.seq (KC.sr (KL.fin 2 rfl (KQ.seq ?_)))
  refine KC.iq rfl ?_ ?_
  · intro hc9
    try dsimp only at hc9
    have hps := Lb.pow_step (by omega) hyp
    refine KC.skip (KQ.seq (KC.block (KC.sr (KL.run 2 rfl (KL.q (R.convW rfl Tryd.underlying101 Tryd.underlying5 rfl) rfl (KL.q ((R.bits rfl rfl rfl rfl).val (congrArg (Value.int .u8) (Lb.or128 y))) rfl ?_))))))
    refine KL.m (M.lit rfl Tryd.underlying36 zs5 (by decide) rfl rfl rfl) rfl ?_
    rintro _ H3 ⟨rfl, n3⟩
    have z3 := n3.2.1
    have o0 := o0.trans n3.1
    have wo := wo.old n3.1
    have b3 := n3.2.2
    have s1 : Sl 1 (EInt .u8) H3 _ [y % 128 + 128] := Sl.lits (l := [y % 128 + 128]) n3 rfl (by simp) (by intro x hx; simp only [List.mem_singleton] at hx; subst hx; dsimp only [InR]; omega)
    have lt4 := wo.lt
    refine KL.m (M.append rfl Tryd.underlying36 inf5 rfl (by decide) rfl rfl wo s1 (fun _ _ h _ => h) (by omega) (by simp only [List.length_singleton]; omega) (by unfold maxLen; simp only [List.length_singleton]; omega)) rfl ?_
    rintro v4 H4 ⟨w4, g4⟩
    try dsimp only at g4
    have ob4 := g4.oldB wo (by omega)
    have o0 := o0.then ob4 (by omega)
    have z4 := ob4.1
    have wo := w4
    refine KL.fin 1 rfl (KQ.r (KL.run 1 rfl ?_))
    refine KL.q ((R.shr rfl rfl rfl (by omega)).val (congrArg (Value.int .u64) (congrArg (y / ·) (show (2 : Int) ^ (min (7 : Int).toNat IntKind.u64.bits) = 128 from by decide)))) rfl ?_
    refine KL.fin 1 rfl (KQ.normBlock ?_)
    refine KQ.again ((v4, acc ++ [y % 128 + 128], f - 1, y / 128)) ?_ ?_ ?_
    · exact Sub.all rfl
    · show (y / 128).toNat < y.toNat; omega
    exact ⟨wo, by show (acc ++ [y % 128 + 128]) ++ Lb.apI (f - 1 + 1) (y / 128) = _; rw [show f - 1 + 1 = f from by omega, ← hap, Lb.apI_step (f := f) (z := y) (by omega), List.append_assoc]; rfl, by show (acc ++ [_]).length + (f - 1) + 1 ≤ _; rw [List.length_append, List.length_singleton]; omega, by show 0 ≤ y / 128; omega, by show y / 128 < 128 ^ (f - 1 + 1); rw [show f - 1 + 1 = f from by omega]; exact hps.2, by show y / 128 < _; omega, o0⟩
  intro hc9
  try dsimp only at hc9
  refine KC.exit (KQ.exitThen (KQ.exitThen (KQ.hit (KQ.sr (KL.run 2 rfl ?_)))))
  refine KL.q (R.convI rfl Tryd.underlying101 Tryd.underlying5 rfl (by dsimp only [InR]; omega)) rfl ?_
  refine KL.m (M.lit rfl Tryd.underlying36 zs5 (by decide) rfl rfl rfl) rfl ?_
  rintro _ H5 ⟨rfl, n5⟩
  have z5 := n5.2.1
  have o0 := o0.trans n5.1
  have wo := wo.old n5.1
  have b5 := n5.2.2
  have s1 : Sl 1 (EInt .u8) H5 _ [y] := Sl.lits (l := [y]) n5 rfl (by simp) (by intro x hx; simp only [List.mem_singleton] at hx; subst hx; dsimp only [InR]; omega)
  have lt6 := wo.lt
  refine KL.m (M.append rfl Tryd.underlying36 inf5 rfl (by decide) rfl rfl wo s1 (fun _ _ h _ => h) (by omega) (by simp only [List.length_singleton]; omega) (by unfold maxLen; simp only [List.length_singleton]; omega)) rfl ?_
  rintro v6 H6 ⟨w6, g6⟩
  try dsimp only at g6
  have ob6 := g6.oldB wo (by omega)
  have o0 := o0.then ob6 (by omega)
  have z6 := ob6.1
  have wo := w6
  refine KL.fin 1 rfl (KQ.seq (KC.ret (KQ.ofRet (KQ.fin1 Tryd.results39 rfl ?_))))
  exact ⟨by rw [← hap, Lb.apI_last hy0 (by omega)]; exact wo, o0⟩
end Go.Proofs.YtldmfchamcpmmaaDoor
namespace Go.Proofs.YtldmfchamcpmmaaDoor
open Go Go.RowKit
set_option linter.unusedVariables false
set_option linter.unusedSimpArgs false
set_option linter.unnecessarySimpa false
theorem lt2 {g1 g2 B : Nat} (h1 : g1 < B) (h2 : g2 < B) : ∀ g ∈ [g1, g2], g < B := by
  intro g hg
  simp only [List.mem_cons, List.not_mem_nil, or_false] at hg
  rcases hg with rfl | rfl <;> assumption
theorem rk1 {a b : Int} (h : a < b) : decide (b ≤ 11) = decide (a < b ∧ b ≤ 11) := by simp [h]
theorem rk0 {a b : Int} (h : ¬ a < b) : false = decide (a < b ∧ b ≤ 11) := (decide_eq_false (fun k => h k.1)).symm
theorem rising1_any {H : Heap} (x last : Int) (b : Nat) (bl : H[b]? = some (.cells [.int .u8 last].toArray 5 (0, 0))) : Ct Tryd.prog 117 [.int .u8 x, .pointer (some ⟨b, 0, none⟩)] H (fun u H' => u = .bool (decide (last < x ∧ x ≤ 11)) ∧ Upd b H H' ∧ H'[b]? = some (.cells [.int .u8 x].toArray 5 (0, 0))) := by
  refine Ct.mk Tryd.func117 rfl Tryd.ntmps117 rfl ?_
  intro W0 hW0
  have o0 : OldB 0 H H := OldB.refl _ H
  refine KC.sr (KL.fin 1 rfl (KQ.sr (KL.run 1 rfl (KL.ld rfl (cell_of bl rfl) (KL.run 2 rfl ?_)))))
  refine KL.cq 8 rfl ?_ ?_
  · intro hg8
    refine KL.fin 4 rfl (KQ.sr (KL.run 1 rfl ?_))
    refine KL.opS (S.store rfl sz5 rfl rfl rfl rfl bl (by simp)) rfl rfl ?_
    rintro H1 ⟨u1, b1⟩
    have o0 := o0.trans (OldB.upd u1 (by omega))
    have zu1 := u1.1
    have bl := b1
    have uu := u1
    refine KL.nil (KQ.sr (KL.fin 2 rfl (KQ.seq (KC.ret (KQ.ofRet (KQ.fin1 Tryd.results117 rfl ?_))))))
    exact ⟨congrArg Value.bool (rk1 (by assumption)), uu, bl⟩
  intro hg8
  refine KL.fin 4 rfl (KQ.sr (KL.run 1 rfl ?_))
  refine KL.opS (S.store rfl sz5 rfl rfl rfl rfl bl (by simp)) rfl rfl ?_
  rintro H2 ⟨u2, b2⟩
  have o0 := o0.trans (OldB.upd u2 (by omega))
  have zu2 := u2.1
  have bl := b2
  have uu := u2
  refine KL.nil (KQ.sr (KL.fin 2 rfl (KQ.seq (KC.ret (KQ.ofRet (KQ.fin1 Tryd.results117 rfl ?_))))))
  exact ⟨congrArg Value.bool (rk0 (by assumption)), uu, bl⟩
theorem rising_any {H : Heap} : Ct Tryd.prog 63 [] H (fun u H' => u = .func (.func 117) #[] #[.pointer (some ⟨H.size, 0, none⟩)] ∧ Old H H' ∧ H'[H.size]? = some (.cells [.int .u8 0].toArray 5 (0, 0)) ∧ H'.size = H.size + 1) := by
  refine Ct.mk Tryd.func63 rfl Tryd.ntmps63 rfl ?_
  intro W0 hW0
  have o0 : Old H H := Old.refl H
  refine KC.sr (KL.fin 1 rfl (KQ.sr ?_))
  refine KL.m (M.alloc (cs := [.int .u8 0]) rfl zr5 rfl) rfl ?_
  rintro _ H1 ⟨rfl, n1⟩
  have z1 := n1.2.1
  have o0 := o0.trans n1.1
  have b1 := n1.2.2
  have bl := b1
  refine KL.opS (S.store rfl sz5 rfl rfl rfl rfl bl (by simp)) rfl rfl ?_
  rintro H2 ⟨u2, b2⟩
  have o0 := o0.upd u2 (by omega)
  have zu2 := u2.1
  have bl := b2
  refine KL.nil (KQ.sr (KL.fin 2 rfl (KQ.seq (KC.ret (KQ.ofRet (KQ.fin1 Tryd.results63 rfl ?_))))))
  exact ⟨rfl, o0, bl, by omega⟩
theorem Begin_any {H : Heap} : Ct Tryd.prog 17 [] H (fun u H' => Own 1 (EInt .u8) 5 #[] H.size H' u Sc.beg ∧ Old H H') := by
  refine Ct.mk Tryd.func17 rfl Tryd.ntmps17 rfl ?_
  intro W0 hW0
  have o0 : Old H H := Old.refl H
  refine KC.sr (KL.fin 1 rfl (KQ.sr ?_))
  refine KL.m (M.lit rfl Tryd.underlying36 zs5 (by decide) rfl rfl rfl) rfl ?_
  rintro _ H1 ⟨rfl, n1⟩
  have z1 := n1.2.1
  have o0 := o0.trans n1.1
  have b1 := n1.2.2
  have wa : Own 1 (EInt .u8) 5 #[] H.size H1 _ Sc.beg := Own.litI (l := Sc.beg) n1 (Nat.le_refl _) rfl (by decide) (by decide)
  refine KL.fin 1 rfl (KQ.seq (KC.ret (KQ.ofRet (KQ.fin1 Tryd.results17 rfl ?_))))
  exact ⟨wa, o0⟩
theorem Join_any {H : Heap} (v : Value) (l : List Sec) (hs : Sl 2 ESec H v l) (hz : (Sc.body l).length ≤ 140737488351232) : Ct Tryd.prog 16 [v] H (fun u H' => Old H H' ∧ Sc.JRes (Sc.join l) (.int .i64 2) (.int .i64 0) u H') := by
  refine Ct.mk Tryd.func16 rfl Tryd.ntmps16 rfl ?_
  intro W0 hW0
  have o0 : Old H H := Old.refl H
  have hll := hs.len
  refine KC.sr (KL.fin 2 rfl (KQ.sr ?_))
  refine KL.m (M.lit rfl Tryd.underlying36 zs5 (by decide) rfl rfl rfl) rfl ?_
  rintro _ H1 ⟨rfl, n1⟩
  have z1 := n1.2.1
  have o0 := o0.trans n1.1
  have b1 := n1.2.2
  have bm := b1
  refine KL.m (M.mark rfl Tryd.underlying36 Tryd.underlying5 rfl bm) rfl ?_
  rintro _ H2 ⟨rfl, um, bmk⟩
  have zum := um.1
  have o0 := o0.upd um (by omega)
  have sm : Full H.size H2 (.slice (some ⟨_, 0, none⟩) 8 8) Sc.beg := ⟨Sl.ofCells (l := Sc.beg) bmk (by decide) (by decide), by decide, _, rfl, Nat.le_refl _, blk_lt bmk⟩
  refine KL.fin 1 rfl (KQ.sr ?_)
  refine KL.c rfl Tryd.call63 (rising_any) ?_
  rintro _ H3 ⟨rfl, ox, bl, zr⟩
  have zc_H3 := (ox).1
  have o0 := o0.trans ox
  have wo : Out 5 H.size H3 _ Sc.beg := .inr (sm.sl.old ox |> fun s => ⟨s, sm.pos, sm.at_.imp fun g h => ⟨h.1, h.2.1, by omega⟩⟩)
  refine KL.fin 1 rfl (KQ.seq (KC.seq (KC.sr (KL.run 1 rfl (KL.q (R.lenS rfl Tryd.underlying66 rfl hs) rfl (KL.fin 1 rfl (KQ.seq (KC.block ?_))))))))
  refine KC.loopD (κ := Nat × Value) [14, 15, 16, 7, 17, 18, 19, 20, 21, 2, 3, 22, 23, 24, 25, 26, 27, 28, 29, 30, 31, 32, 33, 34, 4, 35, 13] (fun k => [(13, .int .i64 (k.1 : Nat)), (4, k.2)]) (fun k Hl => k.1 ≤ l.length ∧ Out 5 H.size Hl k.2 (Sc.beg ++ Sc.body (l.take k.1)) ∧ vblock k.2 ≠ (Array.size H2) ∧ Hl[(Array.size H2)]? = some (.cells [.int .u8 (Sc.lst 0 (l.take k.1))].toArray 5 (0, 0)) ∧ Sc.rise 0 (l.take k.1) = true ∧ Old H Hl) (fun k => l.length - k.1) (0, (Value.slice (some ⟨Array.size H, 0, none⟩) 8 8)) ?_ ?_ ?_
  · exact Sub.all rfl
  · exact ⟨Nat.zero_le _, by simpa [Sc.body] using wo, by show Array.size H ≠ _; omega, bl, rfl, o0⟩
  rintro ⟨k, vo⟩ H4 ⟨hk, wo, hne, bl, hr, o0⟩
  have zl_H4 := o0.1
  dsimp only at hk wo hne bl hr
  have zl := o0.1
  have hg := blk_lt bl
  have hvo := wo.lt
  refine KC.sr (KL.fin 1 rfl (KQ.seq (KC.seq ?_)))
  refine KC.iq rfl ?_ ?_
  · intro hc14
    try dsimp only at hc14
    obtain ⟨u, hcx, hu, q0⟩ := hs.secAt k (by omega)
    have q1 := q0
    dsimp only [InR] at q1
    have hbs := Sc.body_bytes (l := l) (k := k) (by omega)
    have hbl := Sc.body_le l (k + 1)
    have hbk := Sc.body_le l k
    have hul := hu.len
    have hal := (Lb.ap_length (z := ((l.getD k default).2.length : Int)) (by omega) (by omega)).2
    refine KC.skip (KQ.seq (KC.seq (KC.block (KC.sr ?_))))
    refine KL.q (R.index (j := k) rfl Tryd.underlying66 sz71 rfl rfl (hs.old o0) rfl (by omega)) rfl ?_
    refine KL.lda rfl (o0.cells hcx) rfl ?_
    refine KL.m (M.alloc rfl zr71 rfl) rfl ?_
    rintro _ H5 ⟨rfl, n5⟩
    have z5 := n5.2.1
    have o0 := o0.trans n5.1
    have bl := (n5.1).blk bl
    have b5 := n5.2.2
    have bx := b5
    have wo := wo.old n5.1
    have gx := n5.2.1
    refine KL.opS (S.storeAgg rfl sz71 rfl rfl (rfl) (by intro q hq; simp only [List.mem_cons, List.not_mem_nil, or_false] at hq; rcases hq with rfl | rfl <;> first | rfl | exact hu.one) bx (by simp)) rfl rfl ?_
    rintro H6 ⟨u6, b6⟩
    have o0 := o0.upd u6 (by omega)
    have zu6 := u6.1
    have bl := ((u6).2 _ (by omega)).trans bl
    have bx := b6
    have wo := wo.upd u6 (hvo.imp id (fun h => by omega))
    refine KL.nil (KQ.seq (KC.seq (KC.sr (KL.run 2 rfl (KL.ld rfl (cell_of bx rfl) ?_)))))
    refine KL.c rfl Tryd.call117 (rising1_any _ _ _ bl) ?_
    rintro _ H7 ⟨rfl, uu, bl⟩
    have o0 := o0.upd uu (by omega)
    have zuu := uu.1
    have bx := ((uu).2 _ (by omega)).trans bx
    have wo := wo.upd uu (.inr hne)
    refine KL.fin 1 rfl (KQ.seq ?_)
    refine KC.iq rfl ?_ ?_
    · intro hc21
      try dsimp only at hc21
      refine KC.sr (KL.fin 2 rfl (KQ.seq (KC.ret (KQ.retThen (KQ.retBlock (KQ.retThen (KQ.retThen (KQ.retBlock (KQ.retThen (KQ.ofRet (KQ.fin2 Tryd.results16 rfl rfl ?_)))))))))))
      (exact ⟨o0, by rw [Sc.join_no (l := l) (k := k) (by omega) hc21]; rfl⟩)
    intro hc21
    try dsimp only at hc21
    refine KC.skip (KQ.seq ?_)
    refine KC.text (clOf [(3, 2), (4, 2), (9, 2), (12, 2)]) (fun _ Hc => Hc[_]? = some _) (by kernel_rfl) (by kernel_rfl) (fun _ => bx) ?_
    refine KP.run 2 rfl rfl ?_
    refine KP.op rfl (fun Hg hg => R.load rfl Tryd.underlying5 rfl rfl (cell_of hg rfl)) rfl rfl rfl ?_
    refine KP.opM rfl (M.lit rfl Tryd.underlying36 zs5 (by decide) rfl rfl rfl) rfl rfl rfl (fun _ _ h _ _ _ => h.2.1.blk bx) ?_
    rintro _ H8 ⟨rfl, n8⟩
    have z8 := n8.2.1
    have o0 := o0.trans n8.1
    have bl := (n8.1).blk bl
    have bx := (n8.1).blk bx
    have b8 := n8.2.2
    have s1 : Sl 1 (EInt .u8) H8 _ [(l.getD k default).1] := Sl.lits (l := [(l.getD k default).1]) n8 rfl (by simp) (by intro x hx; simp only [List.mem_singleton] at hx; subst hx; exact q0)
    have wo := wo.old n8.1
    have ltv := wo.lt
    have zo := o0.1
    have hnx : vblock vo ≠ Array.size H4 := by
      rcases hvo with h | h
      · rw [h]; show (0 : Nat) ≠ _; omega
      omega
    refine KP.opM rfl (M.appendOut (m := [(l.getD k default).1]) rfl Tryd.underlying36 inf5 rfl rfl rfl wo s1 (by simp) (by omega) (by rw [List.length_append]; simp only [List.length_singleton, show Sc.beg.length = 8 from rfl, List.length_append]; omega) (by unfold maxLen; rw [List.length_append]; simp only [List.length_singleton, show Sc.beg.length = 8 from rfl]; omega)) rfl rfl rfl (fun _ _ h _ _ _ => (h.2.1.2 _ (blk_lt bx) (.inr hnx.symm)).trans bx) ?_
    rintro v1 H10 ⟨w1, g1, nx1⟩
    dsimp only at g1 nx1
    have ob1 := OldB.trans (OldB.refl H.size _) ((⟨g1.1, fun i hi => g1.2 i (by omega) (ltv.imp id (fun h => by omega))⟩ : OldB H.size H8 H10))
    have o0 := o0.then ob1 (by omega)
    have bx := (g1.2 _ (blk_lt bx) (.inr hnx.symm)).trans bx
    have bl := (g1.2 _ (blk_lt bl) (.inr (Ne.symm hne))).trans bl
    have zg1 := g1.1
    have sw := w1.sl (emptyOld _) (by omega)
    refine KP.run 1 rfl rfl ?_
    refine KP.op rfl (fun Hg hg => R.load rfl Tryd.underlying36 rfl rfl (cell_of hg rfl)) rfl rfl rfl ?_
    refine KP.op rfl (fun Hg hg => R.lenS rfl Tryd.underlying36 rfl hu) rfl rfl rfl ?_
    refine KP.op rfl (fun Hg hg => R.convI rfl Tryd.underlying3 Tryd.underlying101 rfl (by dsimp only [InR]; omega)) rfl rfl rfl ?_
    refine KP.call rfl rfl rfl rfl rfl Tryd.call39 rfl rfl rfl (AppendU_big _ _ _ sw (by rw [List.length_append, List.length_append]; simp only [List.length_singleton, show Sc.beg.length = 8 from rfl]; omega) (by omega) (by omega)) (fun _ _ h _ _ _ => h.2.blk bx) ?_
    rintro va H11 ⟨wa, ox⟩
    have zc_H11 := (ox).1
    have o0 := o0.trans ox
    have bl := (ox).blk bl
    have bx := (ox).blk bx
    have hva := wa.lt
    refine KP.run 1 rfl rfl ?_
    refine KP.op rfl (fun Hg hg => R.load rfl Tryd.underlying36 rfl rfl (cell_of hg rfl)) rfl rfl rfl ?_
    have lt12 := wa.lt
    refine KP.opM rfl (M.appendN rfl Tryd.underlying36 inf5 rfl (by decide) rfl rfl wa (by exact (hu.old o0)) (fun _ _ h _ => h) (by omega) (by simp only [List.length_append, List.length_singleton, show Sc.beg.length = 8 from rfl]; omega) (by unfold maxLen; simp only [List.length_append, List.length_singleton, show Sc.beg.length = 8 from rfl]; omega)) rfl rfl rfl (fun _ _ h _ _ _ => (h.2.1.2 _ (blk_lt bx) (wa.lt.imp id (fun h => by omega))).trans bx) ?_
    rintro v12 H12 ⟨w12, g12, nx12⟩
    try dsimp only at g12 nx12
    have ob12 := g12.oldB wa (by omega)
    have o0 := o0.then ob12 (by omega)
    have z12 := ob12.1
    have bl := (g12.2 _ (blk_lt bl) (by exact lt12.imp id (fun h => by omega))).trans bl
    have bx := (g12.2 _ (blk_lt bx) (by exact lt12.imp id (fun h => by omega))).trans bx
    have wa := w12
    have hne2 : vblock v12 ≠ (Array.size H2) := by
      rcases wa.lt with h | h
      · exact absurd (congrArg (fun v => match v with | Value.slice _ n _ => n | _ => 0) h) (by obtain ⟨a, c, hv, _⟩ := wa.val; rw [hv]; simp only [List.length_append, List.length_singleton, show Sc.beg.length = 8 from rfl]; omega)
      omega
    refine KP.fin 1 rfl rfl (KQ.normBlock (KQ.r ?_))
    refine KL.q ((R.add rfl rfl rfl (by dsimp only [InR]; omega)).val (congrArg (Value.int .i64) (show (k : Int) + 1 = ((k + 1 : Nat) : Int) by omega))) rfl ?_
    refine KL.fin 1 rfl ?_
    refine KQ.again ((k + 1, v12)) ?_ ?_ ?_
    · exact Sub.all rfl
    · show l.length - (k + 1) < l.length - k; omega
    exact ⟨by show k + 1 ≤ _; omega, .inl (by have h9 := wa.weak (B' := H.size) (by omega); rw [Sc.body_step (by omega)]; simpa only [List.append_assoc] using h9), hne2, by rw [Sc.lst_step (by omega)]; exact bl, Sc.rise_yes (by omega) hr hc21, o0⟩
  intro hc14
  try dsimp only at hc14
  refine KC.exit (KQ.exitThen (KQ.exitThen (KQ.hit (KQ.sr (KL.fin 3 rfl (KQ.seq (KC.ret (KQ.ofRet (KQ.fin2 Tryd.results16 rfl rfl ?_)))))))))
  (exact ⟨o0, by rw [Sc.join_yes (l := l) (k := k) (by omega) hr]; exact ⟨vo, rfl, wo.sl⟩⟩)
end Go.Proofs.YtldmfchamcpmmaaDoor
namespace Go.Proofs.YtldmfchamcpmmaaDoor
open Go Go.RowKit
set_option linter.unusedVariables false
set_option linter.unusedSimpArgs false
set_option linter.unnecessarySimpa false
/-- a maker of sections: its row, and whether something has no bytes -/
structure MK (H : Heap) (g : Nat) (v : Value) (l : List Sec) (bad : Bool) : Prop where
  b : H[g]? = some (.cells [v, .bool bad].toArray 80 (0, 0))
  w : OwnE 2 ESec 71 (g + 1) H v [g] l
theorem MK.cast {H : Heap} {g : Nat} {v : Value} {l l' : List Sec} {bad bad' : Bool} (h : MK H g v l bad) (e1 : l = l') (e2 : bad = bad') : MK H g v l' bad' := by subst e1 e2; exact h
theorem MK.old {H H' : Heap} {g : Nat} {v : Value} {l : List Sec} {bad : Bool} (h : MK H g v l bad) (o : Old H H') : MK H' g v l bad := ⟨o.blk h.b, h.w.old o⟩
theorem MK.lt {H : Heap} {g : Nat} {v : Value} {l : List Sec} {bad : Bool} (h : MK H g v l bad) : g < H.size := blk_lt h.b
theorem En.sec_nil {α : Type} {id : Int} {f : α → List Int} {l : List α} (h : (l.length : Int) = 0) : En.sec id f l = [] := by unfold En.sec; rw [if_pos (by omega)]
theorem En.sec_cons {α : Type} {id : Int} {f : α → List Int} {l : List α} (h : ¬ (l.length : Int) = 0) : En.sec id f l = [(id, En.lst f l)] := by unfold En.sec; rw [if_neg (by omega)]
theorem En.all_nil {α : Type} {f : α → Bool} {l : List α} (h : (l.length : Int) = 0) : l.all f = true := by rw [List.eq_nil_of_length_eq_zero (by omega : l.length = 0)]; rfl
theorem typed_of {H : Heap} {p : Value} : Ct Tryd.prog 20 [p] H (fun u H' => u = .func (.func 21) #[p] #[] ∧ H = H') := by
  refine Ct.mk Tryd.func20 rfl Tryd.ntmps20 rfl ?_
  intro W0 hW0
  have o0 : Old H H := Old.refl H
  refine KC.sr (KL.fin 1 rfl (KQ.sr (KL.fin 3 rfl (KQ.seq (KC.ret (KQ.ofRet (KQ.fin1 Tryd.results20 rfl ?_)))))))
  exact ⟨rfl, rfl⟩
theorem typed_sec {H : Heap} {gm : Nat} {vm : Value} {acc : List Sec} {bad : Bool} (mk : MK H gm vm acc bad) {Hb : Heap} (oB : Old Hb H) (hgB : Hb.size ≤ gm) {u : Value} {xs : List FTy} (hs : Sl 2 EFTy Hb u xs) (hm : xs.length ≤ 4000) (hz : ∀ x ∈ xs, x.1.length ≤ 4000 ∧ x.2.length ≤ 4000) (ix : Int) (rid : InR .u8 ix) (hac : acc.length ≤ 1000) (hN : (En.lst En.typB xs).length + 100000000 ≤ 1099511627776) : Ct Tryd.prog 19 [.pointer (some ⟨gm, 0, none⟩), .int .u8 ix, u, .func (.func 20) #[] #[]] H (fun _ H' => ∃ vm', MK H' gm vm' (acc ++ En.sec ix En.typB xs) (bad || !xs.all En.typO) ∧ Old Hb H') := by
  refine Ct.mk Tryd.func19 rfl Tryd.ntmps19 rfl ?_
  intro W0 hW0
  have o0 : OldB 0 H H := OldB.refl _ H
  obtain ⟨bm, wo⟩ := mk
  have zm := blk_lt bm
  have bm0 := bm
  have wo0 := wo
  have oB0 := oB
  have hvm2 : vm = .slice none 0 0 ∨ vblock vm < Array.size H := wo.lt.imp id And.right
  have oP : Old H H := Old.refl _
  have hvl : vblock vm < Array.size H + 1 := by
    rcases wo.lt with e | e
    · rw [e]; show 0 < _; omega
    omega
  refine KC.seq (KC.sr (KL.run 1 rfl (KL.q (R.lenS rfl Tryd.underlying22 rfl hs) rfl (KL.fin 1 rfl (KQ.seq ?_)))))
  refine KC.iq rfl ?_ ?_
  · intro hx0
    refine KC.ret (KQ.retThen (KQ.ofRet (KQ.fin0 Tryd.results19 ?_)))
    (exact ⟨_, (MK.mk bm0 wo0).cast (by rw [En.sec_nil hx0]; simp) (by rw [En.all_nil hx0]; simp), oB0⟩)
  intro hx0
  refine KC.skip (KQ.sr (KL.b0 bt137 rfl rfl ?_))
  refine KL.m (M.box rfl rfl rfl) rfl ?_
  rintro _ H1 ⟨rfl, n1⟩
  have z1 := n1.2.1
  have o0 := o0.trans ((n1.1).b (by omega))
  have oP := oP.trans n1.1
  have b1 := n1.2.2
  have wb := b1
  have wi : WA H1 (Array.size H) (.slice none 0 0) [] false := ⟨wb, Own.nil _ _ _ _ _ _⟩
  have wiP := wi
  have oPP := oP
  refine KL.fin 1 rfl (KQ.sr (KL.run 4 rfl ?_))
  refine KL.c rfl Tryd.call20 (typed_of) ?_
  rintro _ _ ⟨rfl, rfl⟩
  refine KL.c rfl Tryd.call67 (wlist_typed wi (oB.trans oP) (by omega) hs (by omega) hz (by simp only [List.length_nil]; omega)) ?_
  rintro _ H2 ⟨vw, wi, tW⟩
  have zt := tW.sz
  have oP : Old H H2 := tW.om wiP oPP (Nat.le_refl _)
  have bm := oP.blk bm0
  have wo := wo0.old oP
  have oB := oB0.trans oP
  have o0 : OldB 0 H H2 := ⟨oP.1, fun k hk => absurd hk (by omega)⟩
  have wb := wi.b
  have ww := wi.w
  have zm := blk_lt wb
  refine KL.nil (KQ.seq (KC.seq ?_))
  refine KC.cutD (κ := Unit) [20, 21, 22, 23, 24, 25, 26, 27, 28, 29, 30, 31, 32] (fun _ => []) (fun _ Hl => Hl[gm]? = some (.cells [vm, .bool (bad || !xs.all En.typO)].toArray 80 (0, 0)) ∧ OwnE 2 ESec 71 (gm + 1) Hl vm [gm] acc ∧ Hl[Array.size H]? = some (.cells [vw, .bool (false || !xs.all En.typO)].toArray 137 (0, 0)) ∧ Own 1 (EInt .u8) 5 #[] (Array.size H + 1) Hl vw (([] : List Int) ++ (En.lst En.typB xs)) ∧ Old Hb Hl) ?_ ?_
  · skip
    refine KC.region (KL.run 4 rfl (KL.ld rfl (cell_of bm rfl) (KL.run 1 rfl ?_)))
    refine KL.cq 25 rfl ?_ ?_
    · intro hg25
      refine KL.run 7 rfl ?_
      refine KL.opS (S.store rfl sz4 rfl rfl rfl rfl bm (by simp)) rfl rfl ?_
      rintro H3 ⟨u3, b3⟩
      have o0 := o0.trans (OldB.upd u3 (by omega))
      have zu3 := u3.1
      have wo := wo.upd u3 (by simp) (by exact wo.lt.imp id (fun h => by omega))
      have oB := oB.upd u3 (by omega)
      have wb := ((u3).2 _ (by omega)).trans wb
      have ww := ww.upd u3 (by exact ww.lt.imp id (fun h => by omega))
      have bm := b3
      refine KL.nil ?_
      refine KQ.meet () ?_ ?_
      · exact Sub.all rfl
      exact ⟨by rw [hg25]; exact bm, wo, wb, ww, oB⟩
    intro hg25
    refine KL.run 3 rfl (KL.ld rfl (cell_of wb rfl) (KL.run 3 rfl ?_))
    refine KL.opS (S.store rfl sz4 rfl rfl rfl rfl bm (by simp)) rfl rfl ?_
    rintro H4 ⟨u4, b4⟩
    have o0 := o0.trans (OldB.upd u4 (by omega))
    have zu4 := u4.1
    have wo := wo.upd u4 (by simp) (by exact wo.lt.imp id (fun h => by omega))
    have oB := oB.upd u4 (by omega)
    have wb := ((u4).2 _ (by omega)).trans wb
    have ww := ww.upd u4 (by exact ww.lt.imp id (fun h => by omega))
    have bm := b4
    refine KL.nil ?_
    refine KQ.meet () ?_ ?_
    · exact Sub.all rfl
    exact ⟨by rw [hg25]; exact bm, wo, wb, ww, oB⟩
  rintro _ H5 ⟨bm, wo, wb, ww, oB⟩
  have zm := blk_lt wb
  have o0 : OldB 0 H H5 := ⟨by omega, fun k hk => absurd hk (by omega)⟩
  refine KQ.seq ?_
  refine KC.text (clOf [(11, 2), (12, 2), (15, 2)]) (fun i Hc => (i = 4 → Hc[gm]? = some _) ∧ (i = 9 → Hc[Array.size H]? = some _)) (by kernel_rfl) (by kernel_rfl) (fun _ => ⟨fun _ => bm, fun _ => wb⟩) ?_
  refine KP.run 4 rfl rfl ?_
  refine KP.op rfl (fun Hg hg => R.load rfl Tryd.underlying66 rfl rfl (cell_of (hg.1 rfl) rfl)) rfl rfl rfl ?_
  refine KP.run 4 rfl rfl ?_
  refine KP.op rfl (fun Hg hg => R.load rfl Tryd.underlying36 rfl rfl (cell_of (hg.2 rfl) rfl)) rfl rfl rfl ?_
  refine KP.op rfl (fun Hg hg => R.buildL rfl Tryd.underlying71 zr71 [(0, 1), (1, 1)] (fun w => by kernel_rfl) rfl ⟨⟨_, rfl, rfl⟩, ⟨_, rfl, rfl⟩, trivial⟩ rfl rfl ⟨⟨_, rfl, by rfl⟩, ⟨_, rfl, by exact ww.cells1⟩, trivial⟩ rfl) rfl rfl rfl ?_
  refine KP.opM rfl (M.lit rfl Tryd.underlying66 zs71 (by decide) rfl rfl rfl) rfl rfl rfl (fun _ _ hR j _ _ => ⟨fun _ => hR.2.1.blk bm, fun _ => hR.2.1.blk wb⟩) ?_
  rintro _ H6 ⟨rfl, n6⟩
  have z6 := n6.2.1
  have o0 := o0.trans ((n6.1).b (by omega))
  have bm := (n6.1).blk bm
  have wo := wo.old n6.1
  have oB := oB.trans n6.1
  have wb := (n6.1).blk wb
  have ww := ww.old n6.1
  have b6 := n6.2.2
  have se : Sl 2 (FK ESec H6 (vblock vm :: [gm])) H6 _ [(ix, ([] : List Int) ++ (En.lst En.typB xs))] := Sl.lit1N n6 rfl (by decide) (fun H2 kx => ⟨_, rfl, fk_own ww (lt2 hvl (by omega)) H2 kx, rid⟩)
  have hvm := wo.lt
  have lt7 := wo.lt
  refine KP.opM rfl (M.appendE rfl Tryd.underlying66 inf71 rfl (by decide) rfl rfl wo (se) (by omega) (by simp only [List.length_singleton]; omega) (by unfold maxLen; simp only [List.length_singleton]; omega)) rfl rfl rfl (fun _ _ hR j _ _ => ⟨fun _ => (hR.2.1.2 _ (blk_lt bm) (hvm.imp id (fun e => by omega))).trans bm, fun _ => (hR.2.1.2 _ (blk_lt wb) (hvm2.imp id (fun e => by omega))).trans wb⟩) ?_
  rintro vn H7 ⟨w7, g7, nx7⟩
  try dsimp only at g7 nx7
  have ob7 := g7.oldBE wo (by omega)
  have o0 := o0.trans (ob7.mono (by omega))
  have z7 := ob7.1
  have bm := (g7.2 _ (blk_lt bm) (by exact lt7.imp id (fun h => by omega))).trans bm
  have oB := oB.then ob7 (by omega)
  have wb := (g7.2 _ (blk_lt wb) (by exact hvm2.imp id (fun e => by omega))).trans wb
  have wo := w7
  refine KP.run 2 rfl rfl ?_
  refine KP.opS rfl (S.store rfl sz66 rfl rfl (OwnE.own wo).cells1 (OwnE.own wo).one bm (by simp)) rfl rfl (fun _ h j hj1 hj2 => ⟨fun hj => by subst hj; exact absurd (by decide +kernel) hj2, fun hj => by subst hj; exact absurd (by decide +kernel) hj2⟩) ?_
  rintro H8 ⟨u8, b8⟩
  have o0 := o0.trans (OldB.upd u8 (by omega))
  have zu8 := u8.1
  have wo := wo.upd u8 (by simp) (by exact wo.lt.imp id (fun h => by omega))
  have oB := oB.upd u8 (by omega)
  have wb := ((u8).2 _ (by omega)).trans wb
  have bm := b8
  refine KP.nil (KQ.fin0 Tryd.results19 ?_)
  (exact ⟨_, (MK.mk bm wo).cast (by rw [En.sec_cons hx0]; simp) rfl, oB⟩)
theorem imported_of {H : Heap} {p : Value} : Ct Tryd.prog 23 [p] H (fun u H' => u = .func (.func 24) #[p] #[] ∧ H = H') := by
  refine Ct.mk Tryd.func23 rfl Tryd.ntmps23 rfl ?_
  intro W0 hW0
  have o0 : Old H H := Old.refl H
  refine KC.sr (KL.fin 1 rfl (KQ.sr (KL.fin 3 rfl (KQ.seq (KC.ret (KQ.ofRet (KQ.fin1 Tryd.results23 rfl ?_)))))))
  exact ⟨rfl, rfl⟩
theorem imported_sec {H : Heap} {gm : Nat} {vm : Value} {acc : List Sec} {bad : Bool} (mk : MK H gm vm acc bad) {Hb : Heap} (oB : Old Hb H) (hgB : Hb.size ≤ gm) (hT : TabU Hb) {u : Value} {xs : List Imp} (hs : Sl 8 EImp Hb u xs) (hm : xs.length ≤ 4000) (hz : ∀ x ∈ xs, x.mod.size ≤ 4000 ∧ x.nam.size ≤ 4000) (ix : Int) (rid : InR .u8 ix) (hac : acc.length ≤ 1000) (hN : (En.lst En.impB xs).length + 100000000 ≤ 1099511627776) : Ct Tryd.prog 22 [.pointer (some ⟨gm, 0, none⟩), .int .u8 ix, u, .func (.func 23) #[] #[]] H (fun _ H' => ∃ vm', MK H' gm vm' (acc ++ En.sec ix En.impB xs) (bad || !xs.all En.impO) ∧ Old Hb H') := by
  refine Ct.mk Tryd.func22 rfl Tryd.ntmps22 rfl ?_
  intro W0 hW0
  have o0 : OldB 0 H H := OldB.refl _ H
  obtain ⟨bm, wo⟩ := mk
  have zm := blk_lt bm
  have bm0 := bm
  have wo0 := wo
  have oB0 := oB
  have hvm2 : vm = .slice none 0 0 ∨ vblock vm < Array.size H := wo.lt.imp id And.right
  have oP : Old H H := Old.refl _
  have hvl : vblock vm < Array.size H + 1 := by
    rcases wo.lt with e | e
    · rw [e]; show 0 < _; omega
    omega
  refine KC.seq (KC.sr (KL.run 1 rfl (KL.q (R.lenS rfl Tryd.underlying23 rfl hs) rfl (KL.fin 1 rfl (KQ.seq ?_)))))
  refine KC.iq rfl ?_ ?_
  · intro hx0
    refine KC.ret (KQ.retThen (KQ.ofRet (KQ.fin0 Tryd.results22 ?_)))
    (exact ⟨_, (MK.mk bm0 wo0).cast (by rw [En.sec_nil hx0]; simp) (by rw [En.all_nil hx0]; simp), oB0⟩)
  intro hx0
  refine KC.skip (KQ.sr (KL.b0 bt137 rfl rfl ?_))
  refine KL.m (M.box rfl rfl rfl) rfl ?_
  rintro _ H1 ⟨rfl, n1⟩
  have z1 := n1.2.1
  have o0 := o0.trans ((n1.1).b (by omega))
  have oP := oP.trans n1.1
  have b1 := n1.2.2
  have wb := b1
  have wi : WA H1 (Array.size H) (.slice none 0 0) [] false := ⟨wb, Own.nil _ _ _ _ _ _⟩
  have wiP := wi
  have oPP := oP
  refine KL.fin 1 rfl (KQ.sr (KL.run 4 rfl ?_))
  refine KL.c rfl Tryd.call23 (imported_of) ?_
  rintro _ _ ⟨rfl, rfl⟩
  refine KL.c rfl Tryd.call71 (wlist_imported wi (oB.trans oP) (by omega) hT hs (by omega) hz (by simp only [List.length_nil]; omega)) ?_
  rintro _ H2 ⟨vw, wi, tW⟩
  have zt := tW.sz
  have oP : Old H H2 := tW.om wiP oPP (Nat.le_refl _)
  have bm := oP.blk bm0
  have wo := wo0.old oP
  have oB := oB0.trans oP
  have o0 : OldB 0 H H2 := ⟨oP.1, fun k hk => absurd hk (by omega)⟩
  have wb := wi.b
  have ww := wi.w
  have zm := blk_lt wb
  refine KL.nil (KQ.seq (KC.seq ?_))
  refine KC.cutD (κ := Unit) [20, 21, 22, 23, 24, 25, 26, 27, 28, 29, 30, 31, 32] (fun _ => []) (fun _ Hl => Hl[gm]? = some (.cells [vm, .bool (bad || !xs.all En.impO)].toArray 80 (0, 0)) ∧ OwnE 2 ESec 71 (gm + 1) Hl vm [gm] acc ∧ Hl[Array.size H]? = some (.cells [vw, .bool (false || !xs.all En.impO)].toArray 137 (0, 0)) ∧ Own 1 (EInt .u8) 5 #[] (Array.size H + 1) Hl vw (([] : List Int) ++ (En.lst En.impB xs)) ∧ Old Hb Hl) ?_ ?_
  · skip
    refine KC.region (KL.run 4 rfl (KL.ld rfl (cell_of bm rfl) (KL.run 1 rfl ?_)))
    refine KL.cq 25 rfl ?_ ?_
    · intro hg25
      refine KL.run 7 rfl ?_
      refine KL.opS (S.store rfl sz4 rfl rfl rfl rfl bm (by simp)) rfl rfl ?_
      rintro H3 ⟨u3, b3⟩
      have o0 := o0.trans (OldB.upd u3 (by omega))
      have zu3 := u3.1
      have wo := wo.upd u3 (by simp) (by exact wo.lt.imp id (fun h => by omega))
      have oB := oB.upd u3 (by omega)
      have wb := ((u3).2 _ (by omega)).trans wb
      have ww := ww.upd u3 (by exact ww.lt.imp id (fun h => by omega))
      have bm := b3
      refine KL.nil ?_
      refine KQ.meet () ?_ ?_
      · exact Sub.all rfl
      exact ⟨by rw [hg25]; exact bm, wo, wb, ww, oB⟩
    intro hg25
    refine KL.run 3 rfl (KL.ld rfl (cell_of wb rfl) (KL.run 3 rfl ?_))
    refine KL.opS (S.store rfl sz4 rfl rfl rfl rfl bm (by simp)) rfl rfl ?_
    rintro H4 ⟨u4, b4⟩
    have o0 := o0.trans (OldB.upd u4 (by omega))
    have zu4 := u4.1
    have wo := wo.upd u4 (by simp) (by exact wo.lt.imp id (fun h => by omega))
    have oB := oB.upd u4 (by omega)
    have wb := ((u4).2 _ (by omega)).trans wb
    have ww := ww.upd u4 (by exact ww.lt.imp id (fun h => by omega))
    have bm := b4
    refine KL.nil ?_
    refine KQ.meet () ?_ ?_
    · exact Sub.all rfl
    exact ⟨by rw [hg25]; exact bm, wo, wb, ww, oB⟩
  rintro _ H5 ⟨bm, wo, wb, ww, oB⟩
  have zm := blk_lt wb
  have o0 : OldB 0 H H5 := ⟨by omega, fun k hk => absurd hk (by omega)⟩
  refine KQ.seq ?_
  refine KC.text (clOf [(11, 2), (12, 2), (15, 2)]) (fun i Hc => (i = 4 → Hc[gm]? = some _) ∧ (i = 9 → Hc[Array.size H]? = some _)) (by kernel_rfl) (by kernel_rfl) (fun _ => ⟨fun _ => bm, fun _ => wb⟩) ?_
  refine KP.run 4 rfl rfl ?_
  refine KP.op rfl (fun Hg hg => R.load rfl Tryd.underlying66 rfl rfl (cell_of (hg.1 rfl) rfl)) rfl rfl rfl ?_
  refine KP.run 4 rfl rfl ?_
  refine KP.op rfl (fun Hg hg => R.load rfl Tryd.underlying36 rfl rfl (cell_of (hg.2 rfl) rfl)) rfl rfl rfl ?_
  refine KP.op rfl (fun Hg hg => R.buildL rfl Tryd.underlying71 zr71 [(0, 1), (1, 1)] (fun w => by kernel_rfl) rfl ⟨⟨_, rfl, rfl⟩, ⟨_, rfl, rfl⟩, trivial⟩ rfl rfl ⟨⟨_, rfl, by rfl⟩, ⟨_, rfl, by exact ww.cells1⟩, trivial⟩ rfl) rfl rfl rfl ?_
  refine KP.opM rfl (M.lit rfl Tryd.underlying66 zs71 (by decide) rfl rfl rfl) rfl rfl rfl (fun _ _ hR j _ _ => ⟨fun _ => hR.2.1.blk bm, fun _ => hR.2.1.blk wb⟩) ?_
  rintro _ H6 ⟨rfl, n6⟩
  have z6 := n6.2.1
  have o0 := o0.trans ((n6.1).b (by omega))
  have bm := (n6.1).blk bm
  have wo := wo.old n6.1
  have oB := oB.trans n6.1
  have wb := (n6.1).blk wb
  have ww := ww.old n6.1
  have b6 := n6.2.2
  have se : Sl 2 (FK ESec H6 (vblock vm :: [gm])) H6 _ [(ix, ([] : List Int) ++ (En.lst En.impB xs))] := Sl.lit1N n6 rfl (by decide) (fun H2 kx => ⟨_, rfl, fk_own ww (lt2 hvl (by omega)) H2 kx, rid⟩)
  have hvm := wo.lt
  have lt7 := wo.lt
  refine KP.opM rfl (M.appendE rfl Tryd.underlying66 inf71 rfl (by decide) rfl rfl wo (se) (by omega) (by simp only [List.length_singleton]; omega) (by unfold maxLen; simp only [List.length_singleton]; omega)) rfl rfl rfl (fun _ _ hR j _ _ => ⟨fun _ => (hR.2.1.2 _ (blk_lt bm) (hvm.imp id (fun e => by omega))).trans bm, fun _ => (hR.2.1.2 _ (blk_lt wb) (hvm2.imp id (fun e => by omega))).trans wb⟩) ?_
  rintro vn H7 ⟨w7, g7, nx7⟩
  try dsimp only at g7 nx7
  have ob7 := g7.oldBE wo (by omega)
  have o0 := o0.trans (ob7.mono (by omega))
  have z7 := ob7.1
  have bm := (g7.2 _ (blk_lt bm) (by exact lt7.imp id (fun h => by omega))).trans bm
  have oB := oB.then ob7 (by omega)
  have wb := (g7.2 _ (blk_lt wb) (by exact hvm2.imp id (fun e => by omega))).trans wb
  have wo := w7
  refine KP.run 2 rfl rfl ?_
  refine KP.opS rfl (S.store rfl sz66 rfl rfl (OwnE.own wo).cells1 (OwnE.own wo).one bm (by simp)) rfl rfl (fun _ h j hj1 hj2 => ⟨fun hj => by subst hj; exact absurd (by decide +kernel) hj2, fun hj => by subst hj; exact absurd (by decide +kernel) hj2⟩) ?_
  rintro H8 ⟨u8, b8⟩
  have o0 := o0.trans (OldB.upd u8 (by omega))
  have zu8 := u8.1
  have wo := wo.upd u8 (by simp) (by exact wo.lt.imp id (fun h => by omega))
  have oB := oB.upd u8 (by omega)
  have wb := ((u8).2 _ (by omega)).trans wb
  have bm := b8
  refine KP.nil (KQ.fin0 Tryd.results22 ?_)
  (exact ⟨_, (MK.mk bm wo).cast (by rw [En.sec_cons hx0]; simp) rfl, oB⟩)
theorem u32_of {H : Heap} {p : Value} : Ct Tryd.prog 26 [p] H (fun u H' => u = .func (.func 27) #[p] #[] ∧ H = H') := by
  refine Ct.mk Tryd.func26 rfl Tryd.ntmps26 rfl ?_
  intro W0 hW0
  have o0 : Old H H := Old.refl H
  refine KC.sr (KL.fin 1 rfl (KQ.sr (KL.fin 3 rfl (KQ.seq (KC.ret (KQ.ofRet (KQ.fin1 Tryd.results26 rfl ?_)))))))
  exact ⟨rfl, rfl⟩
theorem u32_sec {H : Heap} {gm : Nat} {vm : Value} {acc : List Sec} {bad : Bool} (mk : MK H gm vm acc bad) {Hb : Heap} (oB : Old Hb H) (hgB : Hb.size ≤ gm) {u : Value} {xs : List Int} (hs : Sl 1 (EInt .u32) Hb u xs) (hm : xs.length ≤ 4000) (ix : Int) (rid : InR .u8 ix) (hac : acc.length ≤ 1000) (hN : (En.lst En.u xs).length + 100000000 ≤ 1099511627776) : Ct Tryd.prog 25 [.pointer (some ⟨gm, 0, none⟩), .int .u8 ix, u, .func (.func 26) #[] #[]] H (fun _ H' => ∃ vm', MK H' gm vm' (acc ++ En.sec ix En.u xs) (bad || !xs.all En.tru) ∧ Old Hb H') := by
  refine Ct.mk Tryd.func25 rfl Tryd.ntmps25 rfl ?_
  intro W0 hW0
  have o0 : OldB 0 H H := OldB.refl _ H
  obtain ⟨bm, wo⟩ := mk
  have zm := blk_lt bm
  have bm0 := bm
  have wo0 := wo
  have oB0 := oB
  have hvm2 : vm = .slice none 0 0 ∨ vblock vm < Array.size H := wo.lt.imp id And.right
  have oP : Old H H := Old.refl _
  have hvl : vblock vm < Array.size H + 1 := by
    rcases wo.lt with e | e
    · rw [e]; show 0 < _; omega
    omega
  refine KC.seq (KC.sr (KL.run 1 rfl (KL.q (R.lenS rfl Tryd.underlying24 rfl hs) rfl (KL.fin 1 rfl (KQ.seq ?_)))))
  refine KC.iq rfl ?_ ?_
  · intro hx0
    refine KC.ret (KQ.retThen (KQ.ofRet (KQ.fin0 Tryd.results25 ?_)))
    (exact ⟨_, (MK.mk bm0 wo0).cast (by rw [En.sec_nil hx0]; simp) (by rw [En.all_nil hx0]; simp), oB0⟩)
  intro hx0
  refine KC.skip (KQ.sr (KL.b0 bt137 rfl rfl ?_))
  refine KL.m (M.box rfl rfl rfl) rfl ?_
  rintro _ H1 ⟨rfl, n1⟩
  have z1 := n1.2.1
  have o0 := o0.trans ((n1.1).b (by omega))
  have oP := oP.trans n1.1
  have b1 := n1.2.2
  have wb := b1
  have wi : WA H1 (Array.size H) (.slice none 0 0) [] false := ⟨wb, Own.nil _ _ _ _ _ _⟩
  have wiP := wi
  have oPP := oP
  refine KL.fin 1 rfl (KQ.sr (KL.run 4 rfl ?_))
  refine KL.c rfl Tryd.call26 (u32_of) ?_
  rintro _ _ ⟨rfl, rfl⟩
  refine KL.c rfl Tryd.call75 (wlist_u32 wi (oB.trans oP) (by omega) hs (by omega) (by simp only [List.length_nil]; omega)) ?_
  rintro _ H2 ⟨vw, wi, tW⟩
  have zt := tW.sz
  have oP : Old H H2 := tW.om wiP oPP (Nat.le_refl _)
  have bm := oP.blk bm0
  have wo := wo0.old oP
  have oB := oB0.trans oP
  have o0 : OldB 0 H H2 := ⟨oP.1, fun k hk => absurd hk (by omega)⟩
  have wb := wi.b
  have ww := wi.w
  have zm := blk_lt wb
  refine KL.nil (KQ.seq (KC.seq ?_))
  refine KC.cutD (κ := Unit) [20, 21, 22, 23, 24, 25, 26, 27, 28, 29, 30, 31, 32] (fun _ => []) (fun _ Hl => Hl[gm]? = some (.cells [vm, .bool (bad || !xs.all En.tru)].toArray 80 (0, 0)) ∧ OwnE 2 ESec 71 (gm + 1) Hl vm [gm] acc ∧ Hl[Array.size H]? = some (.cells [vw, .bool (false || !xs.all En.tru)].toArray 137 (0, 0)) ∧ Own 1 (EInt .u8) 5 #[] (Array.size H + 1) Hl vw (([] : List Int) ++ (En.lst En.u xs)) ∧ Old Hb Hl) ?_ ?_
  · skip
    refine KC.region (KL.run 4 rfl (KL.ld rfl (cell_of bm rfl) (KL.run 1 rfl ?_)))
    refine KL.cq 25 rfl ?_ ?_
    · intro hg25
      refine KL.run 7 rfl ?_
      refine KL.opS (S.store rfl sz4 rfl rfl rfl rfl bm (by simp)) rfl rfl ?_
      rintro H3 ⟨u3, b3⟩
      have o0 := o0.trans (OldB.upd u3 (by omega))
      have zu3 := u3.1
      have wo := wo.upd u3 (by simp) (by exact wo.lt.imp id (fun h => by omega))
      have oB := oB.upd u3 (by omega)
      have wb := ((u3).2 _ (by omega)).trans wb
      have ww := ww.upd u3 (by exact ww.lt.imp id (fun h => by omega))
      have bm := b3
      refine KL.nil ?_
      refine KQ.meet () ?_ ?_
      · exact Sub.all rfl
      exact ⟨by rw [hg25]; exact bm, wo, wb, ww, oB⟩
    intro hg25
    refine KL.run 3 rfl (KL.ld rfl (cell_of wb rfl) (KL.run 3 rfl ?_))
    refine KL.opS (S.store rfl sz4 rfl rfl rfl rfl bm (by simp)) rfl rfl ?_
    rintro H4 ⟨u4, b4⟩
    have o0 := o0.trans (OldB.upd u4 (by omega))
    have zu4 := u4.1
    have wo := wo.upd u4 (by simp) (by exact wo.lt.imp id (fun h => by omega))
    have oB := oB.upd u4 (by omega)
    have wb := ((u4).2 _ (by omega)).trans wb
    have ww := ww.upd u4 (by exact ww.lt.imp id (fun h => by omega))
    have bm := b4
    refine KL.nil ?_
    refine KQ.meet () ?_ ?_
    · exact Sub.all rfl
    exact ⟨by rw [hg25]; exact bm, wo, wb, ww, oB⟩
  rintro _ H5 ⟨bm, wo, wb, ww, oB⟩
  have zm := blk_lt wb
  have o0 : OldB 0 H H5 := ⟨by omega, fun k hk => absurd hk (by omega)⟩
  refine KQ.seq ?_
  refine KC.text (clOf [(11, 2), (12, 2), (15, 2)]) (fun i Hc => (i = 4 → Hc[gm]? = some _) ∧ (i = 9 → Hc[Array.size H]? = some _)) (by kernel_rfl) (by kernel_rfl) (fun _ => ⟨fun _ => bm, fun _ => wb⟩) ?_
  refine KP.run 4 rfl rfl ?_
  refine KP.op rfl (fun Hg hg => R.load rfl Tryd.underlying66 rfl rfl (cell_of (hg.1 rfl) rfl)) rfl rfl rfl ?_
  refine KP.run 4 rfl rfl ?_
  refine KP.op rfl (fun Hg hg => R.load rfl Tryd.underlying36 rfl rfl (cell_of (hg.2 rfl) rfl)) rfl rfl rfl ?_
  refine KP.op rfl (fun Hg hg => R.buildL rfl Tryd.underlying71 zr71 [(0, 1), (1, 1)] (fun w => by kernel_rfl) rfl ⟨⟨_, rfl, rfl⟩, ⟨_, rfl, rfl⟩, trivial⟩ rfl rfl ⟨⟨_, rfl, by rfl⟩, ⟨_, rfl, by exact ww.cells1⟩, trivial⟩ rfl) rfl rfl rfl ?_
  refine KP.opM rfl (M.lit rfl Tryd.underlying66 zs71 (by decide) rfl rfl rfl) rfl rfl rfl (fun _ _ hR j _ _ => ⟨fun _ => hR.2.1.blk bm, fun _ => hR.2.1.blk wb⟩) ?_
  rintro _ H6 ⟨rfl, n6⟩
  have z6 := n6.2.1
  have o0 := o0.trans ((n6.1).b (by omega))
  have bm := (n6.1).blk bm
  have wo := wo.old n6.1
  have oB := oB.trans n6.1
  have wb := (n6.1).blk wb
  have ww := ww.old n6.1
  have b6 := n6.2.2
  have se : Sl 2 (FK ESec H6 (vblock vm :: [gm])) H6 _ [(ix, ([] : List Int) ++ (En.lst En.u xs))] := Sl.lit1N n6 rfl (by decide) (fun H2 kx => ⟨_, rfl, fk_own ww (lt2 hvl (by omega)) H2 kx, rid⟩)
  have hvm := wo.lt
  have lt7 := wo.lt
  refine KP.opM rfl (M.appendE rfl Tryd.underlying66 inf71 rfl (by decide) rfl rfl wo (se) (by omega) (by simp only [List.length_singleton]; omega) (by unfold maxLen; simp only [List.length_singleton]; omega)) rfl rfl rfl (fun _ _ hR j _ _ => ⟨fun _ => (hR.2.1.2 _ (blk_lt bm) (hvm.imp id (fun e => by omega))).trans bm, fun _ => (hR.2.1.2 _ (blk_lt wb) (hvm2.imp id (fun e => by omega))).trans wb⟩) ?_
  rintro vn H7 ⟨w7, g7, nx7⟩
  try dsimp only at g7 nx7
  have ob7 := g7.oldBE wo (by omega)
  have o0 := o0.trans (ob7.mono (by omega))
  have z7 := ob7.1
  have bm := (g7.2 _ (blk_lt bm) (by exact lt7.imp id (fun h => by omega))).trans bm
  have oB := oB.then ob7 (by omega)
  have wb := (g7.2 _ (blk_lt wb) (by exact hvm2.imp id (fun e => by omega))).trans wb
  have wo := w7
  refine KP.run 2 rfl rfl ?_
  refine KP.opS rfl (S.store rfl sz66 rfl rfl (OwnE.own wo).cells1 (OwnE.own wo).one bm (by simp)) rfl rfl (fun _ h j hj1 hj2 => ⟨fun hj => by subst hj; exact absurd (by decide +kernel) hj2, fun hj => by subst hj; exact absurd (by decide +kernel) hj2⟩) ?_
  rintro H8 ⟨u8, b8⟩
  have o0 := o0.trans (OldB.upd u8 (by omega))
  have zu8 := u8.1
  have wo := wo.upd u8 (by simp) (by exact wo.lt.imp id (fun h => by omega))
  have oB := oB.upd u8 (by omega)
  have wb := ((u8).2 _ (by omega)).trans wb
  have bm := b8
  refine KP.nil (KQ.fin0 Tryd.results25 ?_)
  (exact ⟨_, (MK.mk bm wo).cast (by rw [En.sec_cons hx0]; simp) rfl, oB⟩)
theorem table_of {H : Heap} {p : Value} : Ct Tryd.prog 29 [p] H (fun u H' => u = .func (.func 30) #[p] #[] ∧ H = H') := by
  refine Ct.mk Tryd.func29 rfl Tryd.ntmps29 rfl ?_
  intro W0 hW0
  have o0 : Old H H := Old.refl H
  refine KC.sr (KL.fin 1 rfl (KQ.sr (KL.fin 3 rfl (KQ.seq (KC.ret (KQ.ofRet (KQ.fin1 Tryd.results29 rfl ?_)))))))
  exact ⟨rfl, rfl⟩
theorem table_sec {H : Heap} {gm : Nat} {vm : Value} {acc : List Sec} {bad : Bool} (mk : MK H gm vm acc bad) {Hb : Heap} (oB : Old Hb H) (hgB : Hb.size ≤ gm) {u : Value} {xs : List (Int × Int)} (hs : Sl 2 ELim Hb u xs) (hm : xs.length ≤ 4000) (ix : Int) (rid : InR .u8 ix) (hac : acc.length ≤ 1000) (hN : (En.lst En.tabB xs).length + 100000000 ≤ 1099511627776) : Ct Tryd.prog 28 [.pointer (some ⟨gm, 0, none⟩), .int .u8 ix, u, .func (.func 29) #[] #[]] H (fun _ H' => ∃ vm', MK H' gm vm' (acc ++ En.sec ix En.tabB xs) (bad || !xs.all En.limO) ∧ Old Hb H') := by
  refine Ct.mk Tryd.func28 rfl Tryd.ntmps28 rfl ?_
  intro W0 hW0
  have o0 : OldB 0 H H := OldB.refl _ H
  obtain ⟨bm, wo⟩ := mk
  have zm := blk_lt bm
  have bm0 := bm
  have wo0 := wo
  have oB0 := oB
  have hvm2 : vm = .slice none 0 0 ∨ vblock vm < Array.size H := wo.lt.imp id And.right
  have oP : Old H H := Old.refl _
  have hvl : vblock vm < Array.size H + 1 := by
    rcases wo.lt with e | e
    · rw [e]; show 0 < _; omega
    omega
  refine KC.seq (KC.sr (KL.run 1 rfl (KL.q (R.lenS rfl Tryd.underlying25 rfl hs) rfl (KL.fin 1 rfl (KQ.seq ?_)))))
  refine KC.iq rfl ?_ ?_
  · intro hx0
    refine KC.ret (KQ.retThen (KQ.ofRet (KQ.fin0 Tryd.results28 ?_)))
    (exact ⟨_, (MK.mk bm0 wo0).cast (by rw [En.sec_nil hx0]; simp) (by rw [En.all_nil hx0]; simp), oB0⟩)
  intro hx0
  refine KC.skip (KQ.sr (KL.b0 bt137 rfl rfl ?_))
  refine KL.m (M.box rfl rfl rfl) rfl ?_
  rintro _ H1 ⟨rfl, n1⟩
  have z1 := n1.2.1
  have o0 := o0.trans ((n1.1).b (by omega))
  have oP := oP.trans n1.1
  have b1 := n1.2.2
  have wb := b1
  have wi : WA H1 (Array.size H) (.slice none 0 0) [] false := ⟨wb, Own.nil _ _ _ _ _ _⟩
  have wiP := wi
  have oPP := oP
  refine KL.fin 1 rfl (KQ.sr (KL.run 4 rfl ?_))
  refine KL.c rfl Tryd.call29 (table_of) ?_
  rintro _ _ ⟨rfl, rfl⟩
  refine KL.c rfl Tryd.call76 (wlist_table wi (oB.trans oP) (by omega) hs (by omega) (by simp only [List.length_nil]; omega)) ?_
  rintro _ H2 ⟨vw, wi, tW⟩
  have zt := tW.sz
  have oP : Old H H2 := tW.om wiP oPP (Nat.le_refl _)
  have bm := oP.blk bm0
  have wo := wo0.old oP
  have oB := oB0.trans oP
  have o0 : OldB 0 H H2 := ⟨oP.1, fun k hk => absurd hk (by omega)⟩
  have wb := wi.b
  have ww := wi.w
  have zm := blk_lt wb
  refine KL.nil (KQ.seq (KC.seq ?_))
  refine KC.cutD (κ := Unit) [20, 21, 22, 23, 24, 25, 26, 27, 28, 29, 30, 31, 32] (fun _ => []) (fun _ Hl => Hl[gm]? = some (.cells [vm, .bool (bad || !xs.all En.limO)].toArray 80 (0, 0)) ∧ OwnE 2 ESec 71 (gm + 1) Hl vm [gm] acc ∧ Hl[Array.size H]? = some (.cells [vw, .bool (false || !xs.all En.limO)].toArray 137 (0, 0)) ∧ Own 1 (EInt .u8) 5 #[] (Array.size H + 1) Hl vw (([] : List Int) ++ (En.lst En.tabB xs)) ∧ Old Hb Hl) ?_ ?_
  · skip
    refine KC.region (KL.run 4 rfl (KL.ld rfl (cell_of bm rfl) (KL.run 1 rfl ?_)))
    refine KL.cq 25 rfl ?_ ?_
    · intro hg25
      refine KL.run 7 rfl ?_
      refine KL.opS (S.store rfl sz4 rfl rfl rfl rfl bm (by simp)) rfl rfl ?_
      rintro H3 ⟨u3, b3⟩
      have o0 := o0.trans (OldB.upd u3 (by omega))
      have zu3 := u3.1
      have wo := wo.upd u3 (by simp) (by exact wo.lt.imp id (fun h => by omega))
      have oB := oB.upd u3 (by omega)
      have wb := ((u3).2 _ (by omega)).trans wb
      have ww := ww.upd u3 (by exact ww.lt.imp id (fun h => by omega))
      have bm := b3
      refine KL.nil ?_
      refine KQ.meet () ?_ ?_
      · exact Sub.all rfl
      exact ⟨by rw [hg25]; exact bm, wo, wb, ww, oB⟩
    intro hg25
    refine KL.run 3 rfl (KL.ld rfl (cell_of wb rfl) (KL.run 3 rfl ?_))
    refine KL.opS (S.store rfl sz4 rfl rfl rfl rfl bm (by simp)) rfl rfl ?_
    rintro H4 ⟨u4, b4⟩
    have o0 := o0.trans (OldB.upd u4 (by omega))
    have zu4 := u4.1
    have wo := wo.upd u4 (by simp) (by exact wo.lt.imp id (fun h => by omega))
    have oB := oB.upd u4 (by omega)
    have wb := ((u4).2 _ (by omega)).trans wb
    have ww := ww.upd u4 (by exact ww.lt.imp id (fun h => by omega))
    have bm := b4
    refine KL.nil ?_
    refine KQ.meet () ?_ ?_
    · exact Sub.all rfl
    exact ⟨by rw [hg25]; exact bm, wo, wb, ww, oB⟩
  rintro _ H5 ⟨bm, wo, wb, ww, oB⟩
  have zm := blk_lt wb
  have o0 : OldB 0 H H5 := ⟨by omega, fun k hk => absurd hk (by omega)⟩
  refine KQ.seq ?_
  refine KC.text (clOf [(11, 2), (12, 2), (15, 2)]) (fun i Hc => (i = 4 → Hc[gm]? = some _) ∧ (i = 9 → Hc[Array.size H]? = some _)) (by kernel_rfl) (by kernel_rfl) (fun _ => ⟨fun _ => bm, fun _ => wb⟩) ?_
  refine KP.run 4 rfl rfl ?_
  refine KP.op rfl (fun Hg hg => R.load rfl Tryd.underlying66 rfl rfl (cell_of (hg.1 rfl) rfl)) rfl rfl rfl ?_
  refine KP.run 4 rfl rfl ?_
  refine KP.op rfl (fun Hg hg => R.load rfl Tryd.underlying36 rfl rfl (cell_of (hg.2 rfl) rfl)) rfl rfl rfl ?_
  refine KP.op rfl (fun Hg hg => R.buildL rfl Tryd.underlying71 zr71 [(0, 1), (1, 1)] (fun w => by kernel_rfl) rfl ⟨⟨_, rfl, rfl⟩, ⟨_, rfl, rfl⟩, trivial⟩ rfl rfl ⟨⟨_, rfl, by rfl⟩, ⟨_, rfl, by exact ww.cells1⟩, trivial⟩ rfl) rfl rfl rfl ?_
  refine KP.opM rfl (M.lit rfl Tryd.underlying66 zs71 (by decide) rfl rfl rfl) rfl rfl rfl (fun _ _ hR j _ _ => ⟨fun _ => hR.2.1.blk bm, fun _ => hR.2.1.blk wb⟩) ?_
  rintro _ H6 ⟨rfl, n6⟩
  have z6 := n6.2.1
  have o0 := o0.trans ((n6.1).b (by omega))
  have bm := (n6.1).blk bm
  have wo := wo.old n6.1
  have oB := oB.trans n6.1
  have wb := (n6.1).blk wb
  have ww := ww.old n6.1
  have b6 := n6.2.2
  have se : Sl 2 (FK ESec H6 (vblock vm :: [gm])) H6 _ [(ix, ([] : List Int) ++ (En.lst En.tabB xs))] := Sl.lit1N n6 rfl (by decide) (fun H2 kx => ⟨_, rfl, fk_own ww (lt2 hvl (by omega)) H2 kx, rid⟩)
  have hvm := wo.lt
  have lt7 := wo.lt
  refine KP.opM rfl (M.appendE rfl Tryd.underlying66 inf71 rfl (by decide) rfl rfl wo (se) (by omega) (by simp only [List.length_singleton]; omega) (by unfold maxLen; simp only [List.length_singleton]; omega)) rfl rfl rfl (fun _ _ hR j _ _ => ⟨fun _ => (hR.2.1.2 _ (blk_lt bm) (hvm.imp id (fun e => by omega))).trans bm, fun _ => (hR.2.1.2 _ (blk_lt wb) (hvm2.imp id (fun e => by omega))).trans wb⟩) ?_
  rintro vn H7 ⟨w7, g7, nx7⟩
  try dsimp only at g7 nx7
  have ob7 := g7.oldBE wo (by omega)
  have o0 := o0.trans (ob7.mono (by omega))
  have z7 := ob7.1
  have bm := (g7.2 _ (blk_lt bm) (by exact lt7.imp id (fun h => by omega))).trans bm
  have oB := oB.then ob7 (by omega)
  have wb := (g7.2 _ (blk_lt wb) (by exact hvm2.imp id (fun e => by omega))).trans wb
  have wo := w7
  refine KP.run 2 rfl rfl ?_
  refine KP.opS rfl (S.store rfl sz66 rfl rfl (OwnE.own wo).cells1 (OwnE.own wo).one bm (by simp)) rfl rfl (fun _ h j hj1 hj2 => ⟨fun hj => by subst hj; exact absurd (by decide +kernel) hj2, fun hj => by subst hj; exact absurd (by decide +kernel) hj2⟩) ?_
  rintro H8 ⟨u8, b8⟩
  have o0 := o0.trans (OldB.upd u8 (by omega))
  have zu8 := u8.1
  have wo := wo.upd u8 (by simp) (by exact wo.lt.imp id (fun h => by omega))
  have oB := oB.upd u8 (by omega)
  have wb := ((u8).2 _ (by omega)).trans wb
  have bm := b8
  refine KP.nil (KQ.fin0 Tryd.results28 ?_)
  (exact ⟨_, (MK.mk bm wo).cast (by rw [En.sec_cons hx0]; simp) rfl, oB⟩)
theorem limits_of {H : Heap} {p : Value} : Ct Tryd.prog 31 [p] H (fun u H' => u = .func (.func 32) #[p] #[] ∧ H = H') := by
  refine Ct.mk Tryd.func31 rfl Tryd.ntmps31 rfl ?_
  intro W0 hW0
  have o0 : Old H H := Old.refl H
  refine KC.sr (KL.fin 1 rfl (KQ.sr (KL.fin 3 rfl (KQ.seq (KC.ret (KQ.ofRet (KQ.fin1 Tryd.results31 rfl ?_)))))))
  exact ⟨rfl, rfl⟩
theorem limits_sec {H : Heap} {gm : Nat} {vm : Value} {acc : List Sec} {bad : Bool} (mk : MK H gm vm acc bad) {Hb : Heap} (oB : Old Hb H) (hgB : Hb.size ≤ gm) {u : Value} {xs : List (Int × Int)} (hs : Sl 2 ELim Hb u xs) (hm : xs.length ≤ 4000) (ix : Int) (rid : InR .u8 ix) (hac : acc.length ≤ 1000) (hN : (En.lst En.limB xs).length + 100000000 ≤ 1099511627776) : Ct Tryd.prog 28 [.pointer (some ⟨gm, 0, none⟩), .int .u8 ix, u, .func (.func 31) #[] #[]] H (fun _ H' => ∃ vm', MK H' gm vm' (acc ++ En.sec ix En.limB xs) (bad || !xs.all En.limO) ∧ Old Hb H') := by
  refine Ct.mk Tryd.func28 rfl Tryd.ntmps28 rfl ?_
  intro W0 hW0
  have o0 : OldB 0 H H := OldB.refl _ H
  obtain ⟨bm, wo⟩ := mk
  have zm := blk_lt bm
  have bm0 := bm
  have wo0 := wo
  have oB0 := oB
  have hvm2 : vm = .slice none 0 0 ∨ vblock vm < Array.size H := wo.lt.imp id And.right
  have oP : Old H H := Old.refl _
  have hvl : vblock vm < Array.size H + 1 := by
    rcases wo.lt with e | e
    · rw [e]; show 0 < _; omega
    omega
  refine KC.seq (KC.sr (KL.run 1 rfl (KL.q (R.lenS rfl Tryd.underlying25 rfl hs) rfl (KL.fin 1 rfl (KQ.seq ?_)))))
  refine KC.iq rfl ?_ ?_
  · intro hx0
    refine KC.ret (KQ.retThen (KQ.ofRet (KQ.fin0 Tryd.results28 ?_)))
    (exact ⟨_, (MK.mk bm0 wo0).cast (by rw [En.sec_nil hx0]; simp) (by rw [En.all_nil hx0]; simp), oB0⟩)
  intro hx0
  refine KC.skip (KQ.sr (KL.b0 bt137 rfl rfl ?_))
  refine KL.m (M.box rfl rfl rfl) rfl ?_
  rintro _ H1 ⟨rfl, n1⟩
  have z1 := n1.2.1
  have o0 := o0.trans ((n1.1).b (by omega))
  have oP := oP.trans n1.1
  have b1 := n1.2.2
  have wb := b1
  have wi : WA H1 (Array.size H) (.slice none 0 0) [] false := ⟨wb, Own.nil _ _ _ _ _ _⟩
  have wiP := wi
  have oPP := oP
  refine KL.fin 1 rfl (KQ.sr (KL.run 4 rfl ?_))
  refine KL.c rfl Tryd.call31 (limits_of) ?_
  rintro _ _ ⟨rfl, rfl⟩
  refine KL.c rfl Tryd.call76 (wlist_limits wi (oB.trans oP) (by omega) hs (by omega) (by simp only [List.length_nil]; omega)) ?_
  rintro _ H2 ⟨vw, wi, tW⟩
  have zt := tW.sz
  have oP : Old H H2 := tW.om wiP oPP (Nat.le_refl _)
  have bm := oP.blk bm0
  have wo := wo0.old oP
  have oB := oB0.trans oP
  have o0 : OldB 0 H H2 := ⟨oP.1, fun k hk => absurd hk (by omega)⟩
  have wb := wi.b
  have ww := wi.w
  have zm := blk_lt wb
  refine KL.nil (KQ.seq (KC.seq ?_))
  refine KC.cutD (κ := Unit) [20, 21, 22, 23, 24, 25, 26, 27, 28, 29, 30, 31, 32] (fun _ => []) (fun _ Hl => Hl[gm]? = some (.cells [vm, .bool (bad || !xs.all En.limO)].toArray 80 (0, 0)) ∧ OwnE 2 ESec 71 (gm + 1) Hl vm [gm] acc ∧ Hl[Array.size H]? = some (.cells [vw, .bool (false || !xs.all En.limO)].toArray 137 (0, 0)) ∧ Own 1 (EInt .u8) 5 #[] (Array.size H + 1) Hl vw (([] : List Int) ++ (En.lst En.limB xs)) ∧ Old Hb Hl) ?_ ?_
  · skip
    refine KC.region (KL.run 4 rfl (KL.ld rfl (cell_of bm rfl) (KL.run 1 rfl ?_)))
    refine KL.cq 25 rfl ?_ ?_
    · intro hg25
      refine KL.run 7 rfl ?_
      refine KL.opS (S.store rfl sz4 rfl rfl rfl rfl bm (by simp)) rfl rfl ?_
      rintro H3 ⟨u3, b3⟩
      have o0 := o0.trans (OldB.upd u3 (by omega))
      have zu3 := u3.1
      have wo := wo.upd u3 (by simp) (by exact wo.lt.imp id (fun h => by omega))
      have oB := oB.upd u3 (by omega)
      have wb := ((u3).2 _ (by omega)).trans wb
      have ww := ww.upd u3 (by exact ww.lt.imp id (fun h => by omega))
      have bm := b3
      refine KL.nil ?_
      refine KQ.meet () ?_ ?_
      · exact Sub.all rfl
      exact ⟨by rw [hg25]; exact bm, wo, wb, ww, oB⟩
    intro hg25
    refine KL.run 3 rfl (KL.ld rfl (cell_of wb rfl) (KL.run 3 rfl ?_))
    refine KL.opS (S.store rfl sz4 rfl rfl rfl rfl bm (by simp)) rfl rfl ?_
    rintro H4 ⟨u4, b4⟩
    have o0 := o0.trans (OldB.upd u4 (by omega))
    have zu4 := u4.1
    have wo := wo.upd u4 (by simp) (by exact wo.lt.imp id (fun h => by omega))
    have oB := oB.upd u4 (by omega)
    have wb := ((u4).2 _ (by omega)).trans wb
    have ww := ww.upd u4 (by exact ww.lt.imp id (fun h => by omega))
    have bm := b4
    refine KL.nil ?_
    refine KQ.meet () ?_ ?_
    · exact Sub.all rfl
    exact ⟨by rw [hg25]; exact bm, wo, wb, ww, oB⟩
  rintro _ H5 ⟨bm, wo, wb, ww, oB⟩
  have zm := blk_lt wb
  have o0 : OldB 0 H H5 := ⟨by omega, fun k hk => absurd hk (by omega)⟩
  refine KQ.seq ?_
  refine KC.text (clOf [(11, 2), (12, 2), (15, 2)]) (fun i Hc => (i = 4 → Hc[gm]? = some _) ∧ (i = 9 → Hc[Array.size H]? = some _)) (by kernel_rfl) (by kernel_rfl) (fun _ => ⟨fun _ => bm, fun _ => wb⟩) ?_
  refine KP.run 4 rfl rfl ?_
  refine KP.op rfl (fun Hg hg => R.load rfl Tryd.underlying66 rfl rfl (cell_of (hg.1 rfl) rfl)) rfl rfl rfl ?_
  refine KP.run 4 rfl rfl ?_
  refine KP.op rfl (fun Hg hg => R.load rfl Tryd.underlying36 rfl rfl (cell_of (hg.2 rfl) rfl)) rfl rfl rfl ?_
  refine KP.op rfl (fun Hg hg => R.buildL rfl Tryd.underlying71 zr71 [(0, 1), (1, 1)] (fun w => by kernel_rfl) rfl ⟨⟨_, rfl, rfl⟩, ⟨_, rfl, rfl⟩, trivial⟩ rfl rfl ⟨⟨_, rfl, by rfl⟩, ⟨_, rfl, by exact ww.cells1⟩, trivial⟩ rfl) rfl rfl rfl ?_
  refine KP.opM rfl (M.lit rfl Tryd.underlying66 zs71 (by decide) rfl rfl rfl) rfl rfl rfl (fun _ _ hR j _ _ => ⟨fun _ => hR.2.1.blk bm, fun _ => hR.2.1.blk wb⟩) ?_
  rintro _ H6 ⟨rfl, n6⟩
  have z6 := n6.2.1
  have o0 := o0.trans ((n6.1).b (by omega))
  have bm := (n6.1).blk bm
  have wo := wo.old n6.1
  have oB := oB.trans n6.1
  have wb := (n6.1).blk wb
  have ww := ww.old n6.1
  have b6 := n6.2.2
  have se : Sl 2 (FK ESec H6 (vblock vm :: [gm])) H6 _ [(ix, ([] : List Int) ++ (En.lst En.limB xs))] := Sl.lit1N n6 rfl (by decide) (fun H2 kx => ⟨_, rfl, fk_own ww (lt2 hvl (by omega)) H2 kx, rid⟩)
  have hvm := wo.lt
  have lt7 := wo.lt
  refine KP.opM rfl (M.appendE rfl Tryd.underlying66 inf71 rfl (by decide) rfl rfl wo (se) (by omega) (by simp only [List.length_singleton]; omega) (by unfold maxLen; simp only [List.length_singleton]; omega)) rfl rfl rfl (fun _ _ hR j _ _ => ⟨fun _ => (hR.2.1.2 _ (blk_lt bm) (hvm.imp id (fun e => by omega))).trans bm, fun _ => (hR.2.1.2 _ (blk_lt wb) (hvm2.imp id (fun e => by omega))).trans wb⟩) ?_
  rintro vn H7 ⟨w7, g7, nx7⟩
  try dsimp only at g7 nx7
  have ob7 := g7.oldBE wo (by omega)
  have o0 := o0.trans (ob7.mono (by omega))
  have z7 := ob7.1
  have bm := (g7.2 _ (blk_lt bm) (by exact lt7.imp id (fun h => by omega))).trans bm
  have oB := oB.then ob7 (by omega)
  have wb := (g7.2 _ (blk_lt wb) (by exact hvm2.imp id (fun e => by omega))).trans wb
  have wo := w7
  refine KP.run 2 rfl rfl ?_
  refine KP.opS rfl (S.store rfl sz66 rfl rfl (OwnE.own wo).cells1 (OwnE.own wo).one bm (by simp)) rfl rfl (fun _ h j hj1 hj2 => ⟨fun hj => by subst hj; exact absurd (by decide +kernel) hj2, fun hj => by subst hj; exact absurd (by decide +kernel) hj2⟩) ?_
  rintro H8 ⟨u8, b8⟩
  have o0 := o0.trans (OldB.upd u8 (by omega))
  have zu8 := u8.1
  have wo := wo.upd u8 (by simp) (by exact wo.lt.imp id (fun h => by omega))
  have oB := oB.upd u8 (by omega)
  have wb := ((u8).2 _ (by omega)).trans wb
  have bm := b8
  refine KP.nil (KQ.fin0 Tryd.results28 ?_)
  (exact ⟨_, (MK.mk bm wo).cast (by rw [En.sec_cons hx0]; simp) rfl, oB⟩)
theorem global_of {H : Heap} {p : Value} : Ct Tryd.prog 34 [p] H (fun u H' => u = .func (.func 35) #[p] #[] ∧ H = H') := by
  refine Ct.mk Tryd.func34 rfl Tryd.ntmps34 rfl ?_
  intro W0 hW0
  have o0 : Old H H := Old.refl H
  refine KC.sr (KL.fin 1 rfl (KQ.sr (KL.fin 3 rfl (KQ.seq (KC.ret (KQ.ofRet (KQ.fin1 Tryd.results34 rfl ?_)))))))
  exact ⟨rfl, rfl⟩
theorem global_sec {H : Heap} {gm : Nat} {vm : Value} {acc : List Sec} {bad : Bool} (mk : MK H gm vm acc bad) {Hb : Heap} (oB : Old Hb H) (hgB : Hb.size ≤ gm) {u : Value} {xs : List Glo} (hs : Sl 3 EGlo Hb u xs) (hm : xs.length ≤ 4000) (hz : ∀ x ∈ xs, Isp.bulk x.2 ≤ 4000) (ix : Int) (rid : InR .u8 ix) (hac : acc.length ≤ 1000) (hN : (En.lst En.gloB xs).length + 100000000 ≤ 1099511627776) : Ct Tryd.prog 33 [.pointer (some ⟨gm, 0, none⟩), .int .u8 ix, u, .func (.func 34) #[] #[]] H (fun _ H' => ∃ vm', MK H' gm vm' (acc ++ En.sec ix En.gloB xs) (bad || !xs.all En.gloO) ∧ Old Hb H') := by
  refine Ct.mk Tryd.func33 rfl Tryd.ntmps33 rfl ?_
  intro W0 hW0
  have o0 : OldB 0 H H := OldB.refl _ H
  obtain ⟨bm, wo⟩ := mk
  have zm := blk_lt bm
  have bm0 := bm
  have wo0 := wo
  have oB0 := oB
  have hvm2 : vm = .slice none 0 0 ∨ vblock vm < Array.size H := wo.lt.imp id And.right
  have oP : Old H H := Old.refl _
  have hvl : vblock vm < Array.size H + 1 := by
    rcases wo.lt with e | e
    · rw [e]; show 0 < _; omega
    omega
  refine KC.seq (KC.sr (KL.run 1 rfl (KL.q (R.lenS rfl Tryd.underlying26 rfl hs) rfl (KL.fin 1 rfl (KQ.seq ?_)))))
  refine KC.iq rfl ?_ ?_
  · intro hx0
    refine KC.ret (KQ.retThen (KQ.ofRet (KQ.fin0 Tryd.results33 ?_)))
    (exact ⟨_, (MK.mk bm0 wo0).cast (by rw [En.sec_nil hx0]; simp) (by rw [En.all_nil hx0]; simp), oB0⟩)
  intro hx0
  refine KC.skip (KQ.sr (KL.b0 bt137 rfl rfl ?_))
  refine KL.m (M.box rfl rfl rfl) rfl ?_
  rintro _ H1 ⟨rfl, n1⟩
  have z1 := n1.2.1
  have o0 := o0.trans ((n1.1).b (by omega))
  have oP := oP.trans n1.1
  have b1 := n1.2.2
  have wb := b1
  have wi : WA H1 (Array.size H) (.slice none 0 0) [] false := ⟨wb, Own.nil _ _ _ _ _ _⟩
  have wiP := wi
  have oPP := oP
  refine KL.fin 1 rfl (KQ.sr (KL.run 4 rfl ?_))
  refine KL.c rfl Tryd.call34 (global_of) ?_
  rintro _ _ ⟨rfl, rfl⟩
  refine KL.c rfl Tryd.call77 (wlist_global wi (oB.trans oP) (by omega) hs (by omega) hz (by simp only [List.length_nil]; omega)) ?_
  rintro _ H2 ⟨vw, wi, tW⟩
  have zt := tW.sz
  have oP : Old H H2 := tW.om wiP oPP (Nat.le_refl _)
  have bm := oP.blk bm0
  have wo := wo0.old oP
  have oB := oB0.trans oP
  have o0 : OldB 0 H H2 := ⟨oP.1, fun k hk => absurd hk (by omega)⟩
  have wb := wi.b
  have ww := wi.w
  have zm := blk_lt wb
  refine KL.nil (KQ.seq (KC.seq ?_))
  refine KC.cutD (κ := Unit) [20, 21, 22, 23, 24, 25, 26, 27, 28, 29, 30, 31, 32] (fun _ => []) (fun _ Hl => Hl[gm]? = some (.cells [vm, .bool (bad || !xs.all En.gloO)].toArray 80 (0, 0)) ∧ OwnE 2 ESec 71 (gm + 1) Hl vm [gm] acc ∧ Hl[Array.size H]? = some (.cells [vw, .bool (false || !xs.all En.gloO)].toArray 137 (0, 0)) ∧ Own 1 (EInt .u8) 5 #[] (Array.size H + 1) Hl vw (([] : List Int) ++ (En.lst En.gloB xs)) ∧ Old Hb Hl) ?_ ?_
  · skip
    refine KC.region (KL.run 4 rfl (KL.ld rfl (cell_of bm rfl) (KL.run 1 rfl ?_)))
    refine KL.cq 25 rfl ?_ ?_
    · intro hg25
      refine KL.run 7 rfl ?_
      refine KL.opS (S.store rfl sz4 rfl rfl rfl rfl bm (by simp)) rfl rfl ?_
      rintro H3 ⟨u3, b3⟩
      have o0 := o0.trans (OldB.upd u3 (by omega))
      have zu3 := u3.1
      have wo := wo.upd u3 (by simp) (by exact wo.lt.imp id (fun h => by omega))
      have oB := oB.upd u3 (by omega)
      have wb := ((u3).2 _ (by omega)).trans wb
      have ww := ww.upd u3 (by exact ww.lt.imp id (fun h => by omega))
      have bm := b3
      refine KL.nil ?_
      refine KQ.meet () ?_ ?_
      · exact Sub.all rfl
      exact ⟨by rw [hg25]; exact bm, wo, wb, ww, oB⟩
    intro hg25
    refine KL.run 3 rfl (KL.ld rfl (cell_of wb rfl) (KL.run 3 rfl ?_))
    refine KL.opS (S.store rfl sz4 rfl rfl rfl rfl bm (by simp)) rfl rfl ?_
    rintro H4 ⟨u4, b4⟩
    have o0 := o0.trans (OldB.upd u4 (by omega))
    have zu4 := u4.1
    have wo := wo.upd u4 (by simp) (by exact wo.lt.imp id (fun h => by omega))
    have oB := oB.upd u4 (by omega)
    have wb := ((u4).2 _ (by omega)).trans wb
    have ww := ww.upd u4 (by exact ww.lt.imp id (fun h => by omega))
    have bm := b4
    refine KL.nil ?_
    refine KQ.meet () ?_ ?_
    · exact Sub.all rfl
    exact ⟨by rw [hg25]; exact bm, wo, wb, ww, oB⟩
  rintro _ H5 ⟨bm, wo, wb, ww, oB⟩
  have zm := blk_lt wb
  have o0 : OldB 0 H H5 := ⟨by omega, fun k hk => absurd hk (by omega)⟩
  refine KQ.seq ?_
  refine KC.text (clOf [(11, 2), (12, 2), (15, 2)]) (fun i Hc => (i = 4 → Hc[gm]? = some _) ∧ (i = 9 → Hc[Array.size H]? = some _)) (by kernel_rfl) (by kernel_rfl) (fun _ => ⟨fun _ => bm, fun _ => wb⟩) ?_
  refine KP.run 4 rfl rfl ?_
  refine KP.op rfl (fun Hg hg => R.load rfl Tryd.underlying66 rfl rfl (cell_of (hg.1 rfl) rfl)) rfl rfl rfl ?_
  refine KP.run 4 rfl rfl ?_
  refine KP.op rfl (fun Hg hg => R.load rfl Tryd.underlying36 rfl rfl (cell_of (hg.2 rfl) rfl)) rfl rfl rfl ?_
  refine KP.op rfl (fun Hg hg => R.buildL rfl Tryd.underlying71 zr71 [(0, 1), (1, 1)] (fun w => by kernel_rfl) rfl ⟨⟨_, rfl, rfl⟩, ⟨_, rfl, rfl⟩, trivial⟩ rfl rfl ⟨⟨_, rfl, by rfl⟩, ⟨_, rfl, by exact ww.cells1⟩, trivial⟩ rfl) rfl rfl rfl ?_
  refine KP.opM rfl (M.lit rfl Tryd.underlying66 zs71 (by decide) rfl rfl rfl) rfl rfl rfl (fun _ _ hR j _ _ => ⟨fun _ => hR.2.1.blk bm, fun _ => hR.2.1.blk wb⟩) ?_
  rintro _ H6 ⟨rfl, n6⟩
  have z6 := n6.2.1
  have o0 := o0.trans ((n6.1).b (by omega))
  have bm := (n6.1).blk bm
  have wo := wo.old n6.1
  have oB := oB.trans n6.1
  have wb := (n6.1).blk wb
  have ww := ww.old n6.1
  have b6 := n6.2.2
  have se : Sl 2 (FK ESec H6 (vblock vm :: [gm])) H6 _ [(ix, ([] : List Int) ++ (En.lst En.gloB xs))] := Sl.lit1N n6 rfl (by decide) (fun H2 kx => ⟨_, rfl, fk_own ww (lt2 hvl (by omega)) H2 kx, rid⟩)
  have hvm := wo.lt
  have lt7 := wo.lt
  refine KP.opM rfl (M.appendE rfl Tryd.underlying66 inf71 rfl (by decide) rfl rfl wo (se) (by omega) (by simp only [List.length_singleton]; omega) (by unfold maxLen; simp only [List.length_singleton]; omega)) rfl rfl rfl (fun _ _ hR j _ _ => ⟨fun _ => (hR.2.1.2 _ (blk_lt bm) (hvm.imp id (fun e => by omega))).trans bm, fun _ => (hR.2.1.2 _ (blk_lt wb) (hvm2.imp id (fun e => by omega))).trans wb⟩) ?_
  rintro vn H7 ⟨w7, g7, nx7⟩
  try dsimp only at g7 nx7
  have ob7 := g7.oldBE wo (by omega)
  have o0 := o0.trans (ob7.mono (by omega))
  have z7 := ob7.1
  have bm := (g7.2 _ (blk_lt bm) (by exact lt7.imp id (fun h => by omega))).trans bm
  have oB := oB.then ob7 (by omega)
  have wb := (g7.2 _ (blk_lt wb) (by exact hvm2.imp id (fun e => by omega))).trans wb
  have wo := w7
  refine KP.run 2 rfl rfl ?_
  refine KP.opS rfl (S.store rfl sz66 rfl rfl (OwnE.own wo).cells1 (OwnE.own wo).one bm (by simp)) rfl rfl (fun _ h j hj1 hj2 => ⟨fun hj => by subst hj; exact absurd (by decide +kernel) hj2, fun hj => by subst hj; exact absurd (by decide +kernel) hj2⟩) ?_
  rintro H8 ⟨u8, b8⟩
  have o0 := o0.trans (OldB.upd u8 (by omega))
  have zu8 := u8.1
  have wo := wo.upd u8 (by simp) (by exact wo.lt.imp id (fun h => by omega))
  have oB := oB.upd u8 (by omega)
  have wb := ((u8).2 _ (by omega)).trans wb
  have bm := b8
  refine KP.nil (KQ.fin0 Tryd.results33 ?_)
  (exact ⟨_, (MK.mk bm wo).cast (by rw [En.sec_cons hx0]; simp) rfl, oB⟩)
theorem export_of {H : Heap} {p : Value} : Ct Tryd.prog 37 [p] H (fun u H' => u = .func (.func 38) #[p] #[] ∧ H = H') := by
  refine Ct.mk Tryd.func37 rfl Tryd.ntmps37 rfl ?_
  intro W0 hW0
  have o0 : Old H H := Old.refl H
  refine KC.sr (KL.fin 1 rfl (KQ.sr (KL.fin 3 rfl (KQ.seq (KC.ret (KQ.ofRet (KQ.fin1 Tryd.results37 rfl ?_)))))))
  exact ⟨rfl, rfl⟩
theorem export_sec {H : Heap} {gm : Nat} {vm : Value} {acc : List Sec} {bad : Bool} (mk : MK H gm vm acc bad) {Hb : Heap} (oB : Old Hb H) (hgB : Hb.size ≤ gm) (hT : TabU Hb) {u : Value} {xs : List Exp} (hs : Sl 3 EExp Hb u xs) (hm : xs.length ≤ 4000) (hz : ∀ x ∈ xs, x.nam.size ≤ 4000) (ix : Int) (rid : InR .u8 ix) (hac : acc.length ≤ 1000) (hN : (En.lst En.expB xs).length + 100000000 ≤ 1099511627776) : Ct Tryd.prog 36 [.pointer (some ⟨gm, 0, none⟩), .int .u8 ix, u, .func (.func 37) #[] #[]] H (fun _ H' => ∃ vm', MK H' gm vm' (acc ++ En.sec ix En.expB xs) (bad || !xs.all En.expO) ∧ Old Hb H') := by
  refine Ct.mk Tryd.func36 rfl Tryd.ntmps36 rfl ?_
  intro W0 hW0
  have o0 : OldB 0 H H := OldB.refl _ H
  obtain ⟨bm, wo⟩ := mk
  have zm := blk_lt bm
  have bm0 := bm
  have wo0 := wo
  have oB0 := oB
  have hvm2 : vm = .slice none 0 0 ∨ vblock vm < Array.size H := wo.lt.imp id And.right
  have oP : Old H H := Old.refl _
  have hvl : vblock vm < Array.size H + 1 := by
    rcases wo.lt with e | e
    · rw [e]; show 0 < _; omega
    omega
  refine KC.seq (KC.sr (KL.run 1 rfl (KL.q (R.lenS rfl Tryd.underlying27 rfl hs) rfl (KL.fin 1 rfl (KQ.seq ?_)))))
  refine KC.iq rfl ?_ ?_
  · intro hx0
    refine KC.ret (KQ.retThen (KQ.ofRet (KQ.fin0 Tryd.results36 ?_)))
    (exact ⟨_, (MK.mk bm0 wo0).cast (by rw [En.sec_nil hx0]; simp) (by rw [En.all_nil hx0]; simp), oB0⟩)
  intro hx0
  refine KC.skip (KQ.sr (KL.b0 bt137 rfl rfl ?_))
  refine KL.m (M.box rfl rfl rfl) rfl ?_
  rintro _ H1 ⟨rfl, n1⟩
  have z1 := n1.2.1
  have o0 := o0.trans ((n1.1).b (by omega))
  have oP := oP.trans n1.1
  have b1 := n1.2.2
  have wb := b1
  have wi : WA H1 (Array.size H) (.slice none 0 0) [] false := ⟨wb, Own.nil _ _ _ _ _ _⟩
  have wiP := wi
  have oPP := oP
  refine KL.fin 1 rfl (KQ.sr (KL.run 4 rfl ?_))
  refine KL.c rfl Tryd.call37 (export_of) ?_
  rintro _ _ ⟨rfl, rfl⟩
  refine KL.c rfl Tryd.call79 (wlist_export wi (oB.trans oP) (by omega) hT hs (by omega) hz (by simp only [List.length_nil]; omega)) ?_
  rintro _ H2 ⟨vw, wi, tW⟩
  have zt := tW.sz
  have oP : Old H H2 := tW.om wiP oPP (Nat.le_refl _)
  have bm := oP.blk bm0
  have wo := wo0.old oP
  have oB := oB0.trans oP
  have o0 : OldB 0 H H2 := ⟨oP.1, fun k hk => absurd hk (by omega)⟩
  have wb := wi.b
  have ww := wi.w
  have zm := blk_lt wb
  refine KL.nil (KQ.seq (KC.seq ?_))
  refine KC.cutD (κ := Unit) [20, 21, 22, 23, 24, 25, 26, 27, 28, 29, 30, 31, 32] (fun _ => []) (fun _ Hl => Hl[gm]? = some (.cells [vm, .bool (bad || !xs.all En.expO)].toArray 80 (0, 0)) ∧ OwnE 2 ESec 71 (gm + 1) Hl vm [gm] acc ∧ Hl[Array.size H]? = some (.cells [vw, .bool (false || !xs.all En.expO)].toArray 137 (0, 0)) ∧ Own 1 (EInt .u8) 5 #[] (Array.size H + 1) Hl vw (([] : List Int) ++ (En.lst En.expB xs)) ∧ Old Hb Hl) ?_ ?_
  · skip
    refine KC.region (KL.run 4 rfl (KL.ld rfl (cell_of bm rfl) (KL.run 1 rfl ?_)))
    refine KL.cq 25 rfl ?_ ?_
    · intro hg25
      refine KL.run 7 rfl ?_
      refine KL.opS (S.store rfl sz4 rfl rfl rfl rfl bm (by simp)) rfl rfl ?_
      rintro H3 ⟨u3, b3⟩
      have o0 := o0.trans (OldB.upd u3 (by omega))
      have zu3 := u3.1
      have wo := wo.upd u3 (by simp) (by exact wo.lt.imp id (fun h => by omega))
      have oB := oB.upd u3 (by omega)
      have wb := ((u3).2 _ (by omega)).trans wb
      have ww := ww.upd u3 (by exact ww.lt.imp id (fun h => by omega))
      have bm := b3
      refine KL.nil ?_
      refine KQ.meet () ?_ ?_
      · exact Sub.all rfl
      exact ⟨by rw [hg25]; exact bm, wo, wb, ww, oB⟩
    intro hg25
    refine KL.run 3 rfl (KL.ld rfl (cell_of wb rfl) (KL.run 3 rfl ?_))
    refine KL.opS (S.store rfl sz4 rfl rfl rfl rfl bm (by simp)) rfl rfl ?_
    rintro H4 ⟨u4, b4⟩
    have o0 := o0.trans (OldB.upd u4 (by omega))
    have zu4 := u4.1
    have wo := wo.upd u4 (by simp) (by exact wo.lt.imp id (fun h => by omega))
    have oB := oB.upd u4 (by omega)
    have wb := ((u4).2 _ (by omega)).trans wb
    have ww := ww.upd u4 (by exact ww.lt.imp id (fun h => by omega))
    have bm := b4
    refine KL.nil ?_
    refine KQ.meet () ?_ ?_
    · exact Sub.all rfl
    exact ⟨by rw [hg25]; exact bm, wo, wb, ww, oB⟩
  rintro _ H5 ⟨bm, wo, wb, ww, oB⟩
  have zm := blk_lt wb
  have o0 : OldB 0 H H5 := ⟨by omega, fun k hk => absurd hk (by omega)⟩
  refine KQ.seq ?_
  refine KC.text (clOf [(11, 2), (12, 2), (15, 2)]) (fun i Hc => (i = 4 → Hc[gm]? = some _) ∧ (i = 9 → Hc[Array.size H]? = some _)) (by kernel_rfl) (by kernel_rfl) (fun _ => ⟨fun _ => bm, fun _ => wb⟩) ?_
  refine KP.run 4 rfl rfl ?_
  refine KP.op rfl (fun Hg hg => R.load rfl Tryd.underlying66 rfl rfl (cell_of (hg.1 rfl) rfl)) rfl rfl rfl ?_
  refine KP.run 4 rfl rfl ?_
  refine KP.op rfl (fun Hg hg => R.load rfl Tryd.underlying36 rfl rfl (cell_of (hg.2 rfl) rfl)) rfl rfl rfl ?_
  refine KP.op rfl (fun Hg hg => R.buildL rfl Tryd.underlying71 zr71 [(0, 1), (1, 1)] (fun w => by kernel_rfl) rfl ⟨⟨_, rfl, rfl⟩, ⟨_, rfl, rfl⟩, trivial⟩ rfl rfl ⟨⟨_, rfl, by rfl⟩, ⟨_, rfl, by exact ww.cells1⟩, trivial⟩ rfl) rfl rfl rfl ?_
  refine KP.opM rfl (M.lit rfl Tryd.underlying66 zs71 (by decide) rfl rfl rfl) rfl rfl rfl (fun _ _ hR j _ _ => ⟨fun _ => hR.2.1.blk bm, fun _ => hR.2.1.blk wb⟩) ?_
  rintro _ H6 ⟨rfl, n6⟩
  have z6 := n6.2.1
  have o0 := o0.trans ((n6.1).b (by omega))
  have bm := (n6.1).blk bm
  have wo := wo.old n6.1
  have oB := oB.trans n6.1
  have wb := (n6.1).blk wb
  have ww := ww.old n6.1
  have b6 := n6.2.2
  have se : Sl 2 (FK ESec H6 (vblock vm :: [gm])) H6 _ [(ix, ([] : List Int) ++ (En.lst En.expB xs))] := Sl.lit1N n6 rfl (by decide) (fun H2 kx => ⟨_, rfl, fk_own ww (lt2 hvl (by omega)) H2 kx, rid⟩)
  have hvm := wo.lt
  have lt7 := wo.lt
  refine KP.opM rfl (M.appendE rfl Tryd.underlying66 inf71 rfl (by decide) rfl rfl wo (se) (by omega) (by simp only [List.length_singleton]; omega) (by unfold maxLen; simp only [List.length_singleton]; omega)) rfl rfl rfl (fun _ _ hR j _ _ => ⟨fun _ => (hR.2.1.2 _ (blk_lt bm) (hvm.imp id (fun e => by omega))).trans bm, fun _ => (hR.2.1.2 _ (blk_lt wb) (hvm2.imp id (fun e => by omega))).trans wb⟩) ?_
  rintro vn H7 ⟨w7, g7, nx7⟩
  try dsimp only at g7 nx7
  have ob7 := g7.oldBE wo (by omega)
  have o0 := o0.trans (ob7.mono (by omega))
  have z7 := ob7.1
  have bm := (g7.2 _ (blk_lt bm) (by exact lt7.imp id (fun h => by omega))).trans bm
  have oB := oB.then ob7 (by omega)
  have wb := (g7.2 _ (blk_lt wb) (by exact hvm2.imp id (fun e => by omega))).trans wb
  have wo := w7
  refine KP.run 2 rfl rfl ?_
  refine KP.opS rfl (S.store rfl sz66 rfl rfl (OwnE.own wo).cells1 (OwnE.own wo).one bm (by simp)) rfl rfl (fun _ h j hj1 hj2 => ⟨fun hj => by subst hj; exact absurd (by decide +kernel) hj2, fun hj => by subst hj; exact absurd (by decide +kernel) hj2⟩) ?_
  rintro H8 ⟨u8, b8⟩
  have o0 := o0.trans (OldB.upd u8 (by omega))
  have zu8 := u8.1
  have wo := wo.upd u8 (by simp) (by exact wo.lt.imp id (fun h => by omega))
  have oB := oB.upd u8 (by omega)
  have wb := ((u8).2 _ (by omega)).trans wb
  have bm := b8
  refine KP.nil (KQ.fin0 Tryd.results36 ?_)
  (exact ⟨_, (MK.mk bm wo).cast (by rw [En.sec_cons hx0]; simp) rfl, oB⟩)
theorem elem_of {H : Heap} {p : Value} : Ct Tryd.prog 41 [p] H (fun u H' => u = .func (.func 42) #[p] #[] ∧ H = H') := by
  refine Ct.mk Tryd.func41 rfl Tryd.ntmps41 rfl ?_
  intro W0 hW0
  have o0 : Old H H := Old.refl H
  refine KC.sr (KL.fin 1 rfl (KQ.sr (KL.fin 3 rfl (KQ.seq (KC.ret (KQ.ofRet (KQ.fin1 Tryd.results41 rfl ?_)))))))
  exact ⟨rfl, rfl⟩
theorem elem_sec {H : Heap} {gm : Nat} {vm : Value} {acc : List Sec} {bad : Bool} (mk : MK H gm vm acc bad) {Hb : Heap} (oB : Old Hb H) (hgB : Hb.size ≤ gm) {u : Value} {xs : List Elm} (hs : Sl 3 EElm Hb u xs) (hm : xs.length ≤ 4000) (hz : ∀ x ∈ xs, Isp.bulk x.2.1 ≤ 4000 ∧ x.2.2.length ≤ 4000) (ix : Int) (rid : InR .u8 ix) (hac : acc.length ≤ 1000) (hN : (En.lst En.elmB xs).length + 100000000 ≤ 1099511627776) : Ct Tryd.prog 40 [.pointer (some ⟨gm, 0, none⟩), .int .u8 ix, u, .func (.func 41) #[] #[]] H (fun _ H' => ∃ vm', MK H' gm vm' (acc ++ En.sec ix En.elmB xs) (bad || !xs.all En.elmO) ∧ Old Hb H') := by
  refine Ct.mk Tryd.func40 rfl Tryd.ntmps40 rfl ?_
  intro W0 hW0
  have o0 : OldB 0 H H := OldB.refl _ H
  obtain ⟨bm, wo⟩ := mk
  have zm := blk_lt bm
  have bm0 := bm
  have wo0 := wo
  have oB0 := oB
  have hvm2 : vm = .slice none 0 0 ∨ vblock vm < Array.size H := wo.lt.imp id And.right
  have oP : Old H H := Old.refl _
  have hvl : vblock vm < Array.size H + 1 := by
    rcases wo.lt with e | e
    · rw [e]; show 0 < _; omega
    omega
  refine KC.seq (KC.sr (KL.run 1 rfl (KL.q (R.lenS rfl Tryd.underlying29 rfl hs) rfl (KL.fin 1 rfl (KQ.seq ?_)))))
  refine KC.iq rfl ?_ ?_
  · intro hx0
    refine KC.ret (KQ.retThen (KQ.ofRet (KQ.fin0 Tryd.results40 ?_)))
    (exact ⟨_, (MK.mk bm0 wo0).cast (by rw [En.sec_nil hx0]; simp) (by rw [En.all_nil hx0]; simp), oB0⟩)
  intro hx0
  refine KC.skip (KQ.sr (KL.b0 bt137 rfl rfl ?_))
  refine KL.m (M.box rfl rfl rfl) rfl ?_
  rintro _ H1 ⟨rfl, n1⟩
  have z1 := n1.2.1
  have o0 := o0.trans ((n1.1).b (by omega))
  have oP := oP.trans n1.1
  have b1 := n1.2.2
  have wb := b1
  have wi : WA H1 (Array.size H) (.slice none 0 0) [] false := ⟨wb, Own.nil _ _ _ _ _ _⟩
  have wiP := wi
  have oPP := oP
  refine KL.fin 1 rfl (KQ.sr (KL.run 4 rfl ?_))
  refine KL.c rfl Tryd.call41 (elem_of) ?_
  rintro _ _ ⟨rfl, rfl⟩
  refine KL.c rfl Tryd.call80 (wlist_elem wi (oB.trans oP) (by omega) hs (by omega) hz (by simp only [List.length_nil]; omega)) ?_
  rintro _ H2 ⟨vw, wi, tW⟩
  have zt := tW.sz
  have oP : Old H H2 := tW.om wiP oPP (Nat.le_refl _)
  have bm := oP.blk bm0
  have wo := wo0.old oP
  have oB := oB0.trans oP
  have o0 : OldB 0 H H2 := ⟨oP.1, fun k hk => absurd hk (by omega)⟩
  have wb := wi.b
  have ww := wi.w
  have zm := blk_lt wb
  refine KL.nil (KQ.seq (KC.seq ?_))
  refine KC.cutD (κ := Unit) [20, 21, 22, 23, 24, 25, 26, 27, 28, 29, 30, 31, 32] (fun _ => []) (fun _ Hl => Hl[gm]? = some (.cells [vm, .bool (bad || !xs.all En.elmO)].toArray 80 (0, 0)) ∧ OwnE 2 ESec 71 (gm + 1) Hl vm [gm] acc ∧ Hl[Array.size H]? = some (.cells [vw, .bool (false || !xs.all En.elmO)].toArray 137 (0, 0)) ∧ Own 1 (EInt .u8) 5 #[] (Array.size H + 1) Hl vw (([] : List Int) ++ (En.lst En.elmB xs)) ∧ Old Hb Hl) ?_ ?_
  · skip
    refine KC.region (KL.run 4 rfl (KL.ld rfl (cell_of bm rfl) (KL.run 1 rfl ?_)))
    refine KL.cq 25 rfl ?_ ?_
    · intro hg25
      refine KL.run 7 rfl ?_
      refine KL.opS (S.store rfl sz4 rfl rfl rfl rfl bm (by simp)) rfl rfl ?_
      rintro H3 ⟨u3, b3⟩
      have o0 := o0.trans (OldB.upd u3 (by omega))
      have zu3 := u3.1
      have wo := wo.upd u3 (by simp) (by exact wo.lt.imp id (fun h => by omega))
      have oB := oB.upd u3 (by omega)
      have wb := ((u3).2 _ (by omega)).trans wb
      have ww := ww.upd u3 (by exact ww.lt.imp id (fun h => by omega))
      have bm := b3
      refine KL.nil ?_
      refine KQ.meet () ?_ ?_
      · exact Sub.all rfl
      exact ⟨by rw [hg25]; exact bm, wo, wb, ww, oB⟩
    intro hg25
    refine KL.run 3 rfl (KL.ld rfl (cell_of wb rfl) (KL.run 3 rfl ?_))
    refine KL.opS (S.store rfl sz4 rfl rfl rfl rfl bm (by simp)) rfl rfl ?_
    rintro H4 ⟨u4, b4⟩
    have o0 := o0.trans (OldB.upd u4 (by omega))
    have zu4 := u4.1
    have wo := wo.upd u4 (by simp) (by exact wo.lt.imp id (fun h => by omega))
    have oB := oB.upd u4 (by omega)
    have wb := ((u4).2 _ (by omega)).trans wb
    have ww := ww.upd u4 (by exact ww.lt.imp id (fun h => by omega))
    have bm := b4
    refine KL.nil ?_
    refine KQ.meet () ?_ ?_
    · exact Sub.all rfl
    exact ⟨by rw [hg25]; exact bm, wo, wb, ww, oB⟩
  rintro _ H5 ⟨bm, wo, wb, ww, oB⟩
  have zm := blk_lt wb
  have o0 : OldB 0 H H5 := ⟨by omega, fun k hk => absurd hk (by omega)⟩
  refine KQ.seq ?_
  refine KC.text (clOf [(11, 2), (12, 2), (15, 2)]) (fun i Hc => (i = 4 → Hc[gm]? = some _) ∧ (i = 9 → Hc[Array.size H]? = some _)) (by kernel_rfl) (by kernel_rfl) (fun _ => ⟨fun _ => bm, fun _ => wb⟩) ?_
  refine KP.run 4 rfl rfl ?_
  refine KP.op rfl (fun Hg hg => R.load rfl Tryd.underlying66 rfl rfl (cell_of (hg.1 rfl) rfl)) rfl rfl rfl ?_
  refine KP.run 4 rfl rfl ?_
  refine KP.op rfl (fun Hg hg => R.load rfl Tryd.underlying36 rfl rfl (cell_of (hg.2 rfl) rfl)) rfl rfl rfl ?_
  refine KP.op rfl (fun Hg hg => R.buildL rfl Tryd.underlying71 zr71 [(0, 1), (1, 1)] (fun w => by kernel_rfl) rfl ⟨⟨_, rfl, rfl⟩, ⟨_, rfl, rfl⟩, trivial⟩ rfl rfl ⟨⟨_, rfl, by rfl⟩, ⟨_, rfl, by exact ww.cells1⟩, trivial⟩ rfl) rfl rfl rfl ?_
  refine KP.opM rfl (M.lit rfl Tryd.underlying66 zs71 (by decide) rfl rfl rfl) rfl rfl rfl (fun _ _ hR j _ _ => ⟨fun _ => hR.2.1.blk bm, fun _ => hR.2.1.blk wb⟩) ?_
  rintro _ H6 ⟨rfl, n6⟩
  have z6 := n6.2.1
  have o0 := o0.trans ((n6.1).b (by omega))
  have bm := (n6.1).blk bm
  have wo := wo.old n6.1
  have oB := oB.trans n6.1
  have wb := (n6.1).blk wb
  have ww := ww.old n6.1
  have b6 := n6.2.2
  have se : Sl 2 (FK ESec H6 (vblock vm :: [gm])) H6 _ [(ix, ([] : List Int) ++ (En.lst En.elmB xs))] := Sl.lit1N n6 rfl (by decide) (fun H2 kx => ⟨_, rfl, fk_own ww (lt2 hvl (by omega)) H2 kx, rid⟩)
  have hvm := wo.lt
  have lt7 := wo.lt
  refine KP.opM rfl (M.appendE rfl Tryd.underlying66 inf71 rfl (by decide) rfl rfl wo (se) (by omega) (by simp only [List.length_singleton]; omega) (by unfold maxLen; simp only [List.length_singleton]; omega)) rfl rfl rfl (fun _ _ hR j _ _ => ⟨fun _ => (hR.2.1.2 _ (blk_lt bm) (hvm.imp id (fun e => by omega))).trans bm, fun _ => (hR.2.1.2 _ (blk_lt wb) (hvm2.imp id (fun e => by omega))).trans wb⟩) ?_
  rintro vn H7 ⟨w7, g7, nx7⟩
  try dsimp only at g7 nx7
  have ob7 := g7.oldBE wo (by omega)
  have o0 := o0.trans (ob7.mono (by omega))
  have z7 := ob7.1
  have bm := (g7.2 _ (blk_lt bm) (by exact lt7.imp id (fun h => by omega))).trans bm
  have oB := oB.then ob7 (by omega)
  have wb := (g7.2 _ (blk_lt wb) (by exact hvm2.imp id (fun e => by omega))).trans wb
  have wo := w7
  refine KP.run 2 rfl rfl ?_
  refine KP.opS rfl (S.store rfl sz66 rfl rfl (OwnE.own wo).cells1 (OwnE.own wo).one bm (by simp)) rfl rfl (fun _ h j hj1 hj2 => ⟨fun hj => by subst hj; exact absurd (by decide +kernel) hj2, fun hj => by subst hj; exact absurd (by decide +kernel) hj2⟩) ?_
  rintro H8 ⟨u8, b8⟩
  have o0 := o0.trans (OldB.upd u8 (by omega))
  have zu8 := u8.1
  have wo := wo.upd u8 (by simp) (by exact wo.lt.imp id (fun h => by omega))
  have oB := oB.upd u8 (by omega)
  have wb := ((u8).2 _ (by omega)).trans wb
  have bm := b8
  refine KP.nil (KQ.fin0 Tryd.results40 ?_)
  (exact ⟨_, (MK.mk bm wo).cast (by rw [En.sec_cons hx0]; simp) rfl, oB⟩)
theorem code_of {H : Heap} {p : Value} : Ct Tryd.prog 44 [p] H (fun u H' => u = .func (.func 45) #[p] #[] ∧ H = H') := by
  refine Ct.mk Tryd.func44 rfl Tryd.ntmps44 rfl ?_
  intro W0 hW0
  have o0 : Old H H := Old.refl H
  refine KC.sr (KL.fin 1 rfl (KQ.sr (KL.fin 3 rfl (KQ.seq (KC.ret (KQ.ofRet (KQ.fin1 Tryd.results44 rfl ?_)))))))
  exact ⟨rfl, rfl⟩
theorem code_sec {H : Heap} {gm : Nat} {vm : Value} {acc : List Sec} {bad : Bool} (mk : MK H gm vm acc bad) {Hb : Heap} (oB : Old Hb H) (hgB : Hb.size ≤ gm) {u : Value} {xs : List Cod} (hs : Sl 2 ECod Hb u xs) (hm : xs.length ≤ 4000) (hz : ∀ x ∈ xs, Isp.bulk x.2 ≤ 4000 ∧ x.1.length ≤ 4000) (ix : Int) (rid : InR .u8 ix) (hac : acc.length ≤ 1000) (hN : (En.lst En.codB xs).length + 100000000 ≤ 1099511627776) : Ct Tryd.prog 43 [.pointer (some ⟨gm, 0, none⟩), .int .u8 ix, u, .func (.func 44) #[] #[]] H (fun _ H' => ∃ vm', MK H' gm vm' (acc ++ En.sec ix En.codB xs) (bad || !xs.all En.codO) ∧ Old Hb H') := by
  refine Ct.mk Tryd.func43 rfl Tryd.ntmps43 rfl ?_
  intro W0 hW0
  have o0 : OldB 0 H H := OldB.refl _ H
  obtain ⟨bm, wo⟩ := mk
  have zm := blk_lt bm
  have bm0 := bm
  have wo0 := wo
  have oB0 := oB
  have hvm2 : vm = .slice none 0 0 ∨ vblock vm < Array.size H := wo.lt.imp id And.right
  have oP : Old H H := Old.refl _
  have hvl : vblock vm < Array.size H + 1 := by
    rcases wo.lt with e | e
    · rw [e]; show 0 < _; omega
    omega
  refine KC.seq (KC.sr (KL.run 1 rfl (KL.q (R.lenS rfl Tryd.underlying30 rfl hs) rfl (KL.fin 1 rfl (KQ.seq ?_)))))
  refine KC.iq rfl ?_ ?_
  · intro hx0
    refine KC.ret (KQ.retThen (KQ.ofRet (KQ.fin0 Tryd.results43 ?_)))
    (exact ⟨_, (MK.mk bm0 wo0).cast (by rw [En.sec_nil hx0]; simp) (by rw [En.all_nil hx0]; simp), oB0⟩)
  intro hx0
  refine KC.skip (KQ.sr (KL.b0 bt137 rfl rfl ?_))
  refine KL.m (M.box rfl rfl rfl) rfl ?_
  rintro _ H1 ⟨rfl, n1⟩
  have z1 := n1.2.1
  have o0 := o0.trans ((n1.1).b (by omega))
  have oP := oP.trans n1.1
  have b1 := n1.2.2
  have wb := b1
  have wi : WA H1 (Array.size H) (.slice none 0 0) [] false := ⟨wb, Own.nil _ _ _ _ _ _⟩
  have wiP := wi
  have oPP := oP
  refine KL.fin 1 rfl (KQ.sr (KL.run 4 rfl ?_))
  refine KL.c rfl Tryd.call44 (code_of) ?_
  rintro _ _ ⟨rfl, rfl⟩
  refine KL.c rfl Tryd.call81 (wlist_code wi (oB.trans oP) (by omega) hs (by omega) hz (by simp only [List.length_nil]; omega)) ?_
  rintro _ H2 ⟨vw, wi, tW⟩
  have zt := tW.sz
  have oP : Old H H2 := tW.om wiP oPP (Nat.le_refl _)
  have bm := oP.blk bm0
  have wo := wo0.old oP
  have oB := oB0.trans oP
  have o0 : OldB 0 H H2 := ⟨oP.1, fun k hk => absurd hk (by omega)⟩
  have wb := wi.b
  have ww := wi.w
  have zm := blk_lt wb
  refine KL.nil (KQ.seq (KC.seq ?_))
  refine KC.cutD (κ := Unit) [20, 21, 22, 23, 24, 25, 26, 27, 28, 29, 30, 31, 32] (fun _ => []) (fun _ Hl => Hl[gm]? = some (.cells [vm, .bool (bad || !xs.all En.codO)].toArray 80 (0, 0)) ∧ OwnE 2 ESec 71 (gm + 1) Hl vm [gm] acc ∧ Hl[Array.size H]? = some (.cells [vw, .bool (false || !xs.all En.codO)].toArray 137 (0, 0)) ∧ Own 1 (EInt .u8) 5 #[] (Array.size H + 1) Hl vw (([] : List Int) ++ (En.lst En.codB xs)) ∧ Old Hb Hl) ?_ ?_
  · skip
    refine KC.region (KL.run 4 rfl (KL.ld rfl (cell_of bm rfl) (KL.run 1 rfl ?_)))
    refine KL.cq 25 rfl ?_ ?_
    · intro hg25
      refine KL.run 7 rfl ?_
      refine KL.opS (S.store rfl sz4 rfl rfl rfl rfl bm (by simp)) rfl rfl ?_
      rintro H3 ⟨u3, b3⟩
      have o0 := o0.trans (OldB.upd u3 (by omega))
      have zu3 := u3.1
      have wo := wo.upd u3 (by simp) (by exact wo.lt.imp id (fun h => by omega))
      have oB := oB.upd u3 (by omega)
      have wb := ((u3).2 _ (by omega)).trans wb
      have ww := ww.upd u3 (by exact ww.lt.imp id (fun h => by omega))
      have bm := b3
      refine KL.nil ?_
      refine KQ.meet () ?_ ?_
      · exact Sub.all rfl
      exact ⟨by rw [hg25]; exact bm, wo, wb, ww, oB⟩
    intro hg25
    refine KL.run 3 rfl (KL.ld rfl (cell_of wb rfl) (KL.run 3 rfl ?_))
    refine KL.opS (S.store rfl sz4 rfl rfl rfl rfl bm (by simp)) rfl rfl ?_
    rintro H4 ⟨u4, b4⟩
    have o0 := o0.trans (OldB.upd u4 (by omega))
    have zu4 := u4.1
    have wo := wo.upd u4 (by simp) (by exact wo.lt.imp id (fun h => by omega))
    have oB := oB.upd u4 (by omega)
    have wb := ((u4).2 _ (by omega)).trans wb
    have ww := ww.upd u4 (by exact ww.lt.imp id (fun h => by omega))
    have bm := b4
    refine KL.nil ?_
    refine KQ.meet () ?_ ?_
    · exact Sub.all rfl
    exact ⟨by rw [hg25]; exact bm, wo, wb, ww, oB⟩
  rintro _ H5 ⟨bm, wo, wb, ww, oB⟩
  have zm := blk_lt wb
  have o0 : OldB 0 H H5 := ⟨by omega, fun k hk => absurd hk (by omega)⟩
  refine KQ.seq ?_
  refine KC.text (clOf [(11, 2), (12, 2), (15, 2)]) (fun i Hc => (i = 4 → Hc[gm]? = some _) ∧ (i = 9 → Hc[Array.size H]? = some _)) (by kernel_rfl) (by kernel_rfl) (fun _ => ⟨fun _ => bm, fun _ => wb⟩) ?_
  refine KP.run 4 rfl rfl ?_
  refine KP.op rfl (fun Hg hg => R.load rfl Tryd.underlying66 rfl rfl (cell_of (hg.1 rfl) rfl)) rfl rfl rfl ?_
  refine KP.run 4 rfl rfl ?_
  refine KP.op rfl (fun Hg hg => R.load rfl Tryd.underlying36 rfl rfl (cell_of (hg.2 rfl) rfl)) rfl rfl rfl ?_
  refine KP.op rfl (fun Hg hg => R.buildL rfl Tryd.underlying71 zr71 [(0, 1), (1, 1)] (fun w => by kernel_rfl) rfl ⟨⟨_, rfl, rfl⟩, ⟨_, rfl, rfl⟩, trivial⟩ rfl rfl ⟨⟨_, rfl, by rfl⟩, ⟨_, rfl, by exact ww.cells1⟩, trivial⟩ rfl) rfl rfl rfl ?_
  refine KP.opM rfl (M.lit rfl Tryd.underlying66 zs71 (by decide) rfl rfl rfl) rfl rfl rfl (fun _ _ hR j _ _ => ⟨fun _ => hR.2.1.blk bm, fun _ => hR.2.1.blk wb⟩) ?_
  rintro _ H6 ⟨rfl, n6⟩
  have z6 := n6.2.1
  have o0 := o0.trans ((n6.1).b (by omega))
  have bm := (n6.1).blk bm
  have wo := wo.old n6.1
  have oB := oB.trans n6.1
  have wb := (n6.1).blk wb
  have ww := ww.old n6.1
  have b6 := n6.2.2
  have se : Sl 2 (FK ESec H6 (vblock vm :: [gm])) H6 _ [(ix, ([] : List Int) ++ (En.lst En.codB xs))] := Sl.lit1N n6 rfl (by decide) (fun H2 kx => ⟨_, rfl, fk_own ww (lt2 hvl (by omega)) H2 kx, rid⟩)
  have hvm := wo.lt
  have lt7 := wo.lt
  refine KP.opM rfl (M.appendE rfl Tryd.underlying66 inf71 rfl (by decide) rfl rfl wo (se) (by omega) (by simp only [List.length_singleton]; omega) (by unfold maxLen; simp only [List.length_singleton]; omega)) rfl rfl rfl (fun _ _ hR j _ _ => ⟨fun _ => (hR.2.1.2 _ (blk_lt bm) (hvm.imp id (fun e => by omega))).trans bm, fun _ => (hR.2.1.2 _ (blk_lt wb) (hvm2.imp id (fun e => by omega))).trans wb⟩) ?_
  rintro vn H7 ⟨w7, g7, nx7⟩
  try dsimp only at g7 nx7
  have ob7 := g7.oldBE wo (by omega)
  have o0 := o0.trans (ob7.mono (by omega))
  have z7 := ob7.1
  have bm := (g7.2 _ (blk_lt bm) (by exact lt7.imp id (fun h => by omega))).trans bm
  have oB := oB.then ob7 (by omega)
  have wb := (g7.2 _ (blk_lt wb) (by exact hvm2.imp id (fun e => by omega))).trans wb
  have wo := w7
  refine KP.run 2 rfl rfl ?_
  refine KP.opS rfl (S.store rfl sz66 rfl rfl (OwnE.own wo).cells1 (OwnE.own wo).one bm (by simp)) rfl rfl (fun _ h j hj1 hj2 => ⟨fun hj => by subst hj; exact absurd (by decide +kernel) hj2, fun hj => by subst hj; exact absurd (by decide +kernel) hj2⟩) ?_
  rintro H8 ⟨u8, b8⟩
  have o0 := o0.trans (OldB.upd u8 (by omega))
  have zu8 := u8.1
  have wo := wo.upd u8 (by simp) (by exact wo.lt.imp id (fun h => by omega))
  have oB := oB.upd u8 (by omega)
  have wb := ((u8).2 _ (by omega)).trans wb
  have bm := b8
  refine KP.nil (KQ.fin0 Tryd.results43 ?_)
  (exact ⟨_, (MK.mk bm wo).cast (by rw [En.sec_cons hx0]; simp) rfl, oB⟩)
theorem data_of {H : Heap} {p : Value} : Ct Tryd.prog 47 [p] H (fun u H' => u = .func (.func 48) #[p] #[] ∧ H = H') := by
  refine Ct.mk Tryd.func47 rfl Tryd.ntmps47 rfl ?_
  intro W0 hW0
  have o0 : Old H H := Old.refl H
  refine KC.sr (KL.fin 1 rfl (KQ.sr (KL.fin 3 rfl (KQ.seq (KC.ret (KQ.ofRet (KQ.fin1 Tryd.results47 rfl ?_)))))))
  exact ⟨rfl, rfl⟩
theorem data_sec {H : Heap} {gm : Nat} {vm : Value} {acc : List Sec} {bad : Bool} (mk : MK H gm vm acc bad) {Hb : Heap} (oB : Old Hb H) (hgB : Hb.size ≤ gm) {u : Value} {xs : List Elm} (hs : Sl 3 EDat Hb u xs) (hm : xs.length ≤ 4000) (hz : ∀ x ∈ xs, Isp.bulk x.2.1 ≤ 4000 ∧ x.2.2.length ≤ 200000) (ix : Int) (rid : InR .u8 ix) (hac : acc.length ≤ 1000) (hN : (En.lst En.datB xs).length + 100000000 ≤ 1099511627776) : Ct Tryd.prog 46 [.pointer (some ⟨gm, 0, none⟩), .int .u8 ix, u, .func (.func 47) #[] #[]] H (fun _ H' => ∃ vm', MK H' gm vm' (acc ++ En.sec ix En.datB xs) (bad || !xs.all En.datO) ∧ Old Hb H') := by
  refine Ct.mk Tryd.func46 rfl Tryd.ntmps46 rfl ?_
  intro W0 hW0
  have o0 : OldB 0 H H := OldB.refl _ H
  obtain ⟨bm, wo⟩ := mk
  have zm := blk_lt bm
  have bm0 := bm
  have wo0 := wo
  have oB0 := oB
  have hvm2 : vm = .slice none 0 0 ∨ vblock vm < Array.size H := wo.lt.imp id And.right
  have oP : Old H H := Old.refl _
  have hvl : vblock vm < Array.size H + 1 := by
    rcases wo.lt with e | e
    · rw [e]; show 0 < _; omega
    omega
  refine KC.seq (KC.sr (KL.run 1 rfl (KL.q (R.lenS rfl Tryd.underlying31 rfl hs) rfl (KL.fin 1 rfl (KQ.seq ?_)))))
  refine KC.iq rfl ?_ ?_
  · intro hx0
    refine KC.ret (KQ.retThen (KQ.ofRet (KQ.fin0 Tryd.results46 ?_)))
    (exact ⟨_, (MK.mk bm0 wo0).cast (by rw [En.sec_nil hx0]; simp) (by rw [En.all_nil hx0]; simp), oB0⟩)
  intro hx0
  refine KC.skip (KQ.sr (KL.b0 bt137 rfl rfl ?_))
  refine KL.m (M.box rfl rfl rfl) rfl ?_
  rintro _ H1 ⟨rfl, n1⟩
  have z1 := n1.2.1
  have o0 := o0.trans ((n1.1).b (by omega))
  have oP := oP.trans n1.1
  have b1 := n1.2.2
  have wb := b1
  have wi : WA H1 (Array.size H) (.slice none 0 0) [] false := ⟨wb, Own.nil _ _ _ _ _ _⟩
  have wiP := wi
  have oPP := oP
  refine KL.fin 1 rfl (KQ.sr (KL.run 4 rfl ?_))
  refine KL.c rfl Tryd.call47 (data_of) ?_
  rintro _ _ ⟨rfl, rfl⟩
  refine KL.c rfl Tryd.call85 (wlist_data wi (oB.trans oP) (by omega) hs (by omega) hz (by simp only [List.length_nil]; omega)) ?_
  rintro _ H2 ⟨vw, wi, tW⟩
  have zt := tW.sz
  have oP : Old H H2 := tW.om wiP oPP (Nat.le_refl _)
  have bm := oP.blk bm0
  have wo := wo0.old oP
  have oB := oB0.trans oP
  have o0 : OldB 0 H H2 := ⟨oP.1, fun k hk => absurd hk (by omega)⟩
  have wb := wi.b
  have ww := wi.w
  have zm := blk_lt wb
  refine KL.nil (KQ.seq (KC.seq ?_))
  refine KC.cutD (κ := Unit) [20, 21, 22, 23, 24, 25, 26, 27, 28, 29, 30, 31, 32] (fun _ => []) (fun _ Hl => Hl[gm]? = some (.cells [vm, .bool (bad || !xs.all En.datO)].toArray 80 (0, 0)) ∧ OwnE 2 ESec 71 (gm + 1) Hl vm [gm] acc ∧ Hl[Array.size H]? = some (.cells [vw, .bool (false || !xs.all En.datO)].toArray 137 (0, 0)) ∧ Own 1 (EInt .u8) 5 #[] (Array.size H + 1) Hl vw (([] : List Int) ++ (En.lst En.datB xs)) ∧ Old Hb Hl) ?_ ?_
  · skip
    refine KC.region (KL.run 4 rfl (KL.ld rfl (cell_of bm rfl) (KL.run 1 rfl ?_)))
    refine KL.cq 25 rfl ?_ ?_
    · intro hg25
      refine KL.run 7 rfl ?_
      refine KL.opS (S.store rfl sz4 rfl rfl rfl rfl bm (by simp)) rfl rfl ?_
      rintro H3 ⟨u3, b3⟩
      have o0 := o0.trans (OldB.upd u3 (by omega))
      have zu3 := u3.1
      have wo := wo.upd u3 (by simp) (by exact wo.lt.imp id (fun h => by omega))
      have oB := oB.upd u3 (by omega)
      have wb := ((u3).2 _ (by omega)).trans wb
      have ww := ww.upd u3 (by exact ww.lt.imp id (fun h => by omega))
      have bm := b3
      refine KL.nil ?_
      refine KQ.meet () ?_ ?_
      · exact Sub.all rfl
      exact ⟨by rw [hg25]; exact bm, wo, wb, ww, oB⟩
    intro hg25
    refine KL.run 3 rfl (KL.ld rfl (cell_of wb rfl) (KL.run 3 rfl ?_))
    refine KL.opS (S.store rfl sz4 rfl rfl rfl rfl bm (by simp)) rfl rfl ?_
    rintro H4 ⟨u4, b4⟩
    have o0 := o0.trans (OldB.upd u4 (by omega))
    have zu4 := u4.1
    have wo := wo.upd u4 (by simp) (by exact wo.lt.imp id (fun h => by omega))
    have oB := oB.upd u4 (by omega)
    have wb := ((u4).2 _ (by omega)).trans wb
    have ww := ww.upd u4 (by exact ww.lt.imp id (fun h => by omega))
    have bm := b4
    refine KL.nil ?_
    refine KQ.meet () ?_ ?_
    · exact Sub.all rfl
    exact ⟨by rw [hg25]; exact bm, wo, wb, ww, oB⟩
  rintro _ H5 ⟨bm, wo, wb, ww, oB⟩
  have zm := blk_lt wb
  have o0 : OldB 0 H H5 := ⟨by omega, fun k hk => absurd hk (by omega)⟩
  refine KQ.seq ?_
  refine KC.text (clOf [(11, 2), (12, 2), (15, 2)]) (fun i Hc => (i = 4 → Hc[gm]? = some _) ∧ (i = 9 → Hc[Array.size H]? = some _)) (by kernel_rfl) (by kernel_rfl) (fun _ => ⟨fun _ => bm, fun _ => wb⟩) ?_
  refine KP.run 4 rfl rfl ?_
  refine KP.op rfl (fun Hg hg => R.load rfl Tryd.underlying66 rfl rfl (cell_of (hg.1 rfl) rfl)) rfl rfl rfl ?_
  refine KP.run 4 rfl rfl ?_
  refine KP.op rfl (fun Hg hg => R.load rfl Tryd.underlying36 rfl rfl (cell_of (hg.2 rfl) rfl)) rfl rfl rfl ?_
  refine KP.op rfl (fun Hg hg => R.buildL rfl Tryd.underlying71 zr71 [(0, 1), (1, 1)] (fun w => by kernel_rfl) rfl ⟨⟨_, rfl, rfl⟩, ⟨_, rfl, rfl⟩, trivial⟩ rfl rfl ⟨⟨_, rfl, by rfl⟩, ⟨_, rfl, by exact ww.cells1⟩, trivial⟩ rfl) rfl rfl rfl ?_
  refine KP.opM rfl (M.lit rfl Tryd.underlying66 zs71 (by decide) rfl rfl rfl) rfl rfl rfl (fun _ _ hR j _ _ => ⟨fun _ => hR.2.1.blk bm, fun _ => hR.2.1.blk wb⟩) ?_
  rintro _ H6 ⟨rfl, n6⟩
  have z6 := n6.2.1
  have o0 := o0.trans ((n6.1).b (by omega))
  have bm := (n6.1).blk bm
  have wo := wo.old n6.1
  have oB := oB.trans n6.1
  have wb := (n6.1).blk wb
  have ww := ww.old n6.1
  have b6 := n6.2.2
  have se : Sl 2 (FK ESec H6 (vblock vm :: [gm])) H6 _ [(ix, ([] : List Int) ++ (En.lst En.datB xs))] := Sl.lit1N n6 rfl (by decide) (fun H2 kx => ⟨_, rfl, fk_own ww (lt2 hvl (by omega)) H2 kx, rid⟩)
  have hvm := wo.lt
  have lt7 := wo.lt
  refine KP.opM rfl (M.appendE rfl Tryd.underlying66 inf71 rfl (by decide) rfl rfl wo (se) (by omega) (by simp only [List.length_singleton]; omega) (by unfold maxLen; simp only [List.length_singleton]; omega)) rfl rfl rfl (fun _ _ hR j _ _ => ⟨fun _ => (hR.2.1.2 _ (blk_lt bm) (hvm.imp id (fun e => by omega))).trans bm, fun _ => (hR.2.1.2 _ (blk_lt wb) (hvm2.imp id (fun e => by omega))).trans wb⟩) ?_
  rintro vn H7 ⟨w7, g7, nx7⟩
  try dsimp only at g7 nx7
  have ob7 := g7.oldBE wo (by omega)
  have o0 := o0.trans (ob7.mono (by omega))
  have z7 := ob7.1
  have bm := (g7.2 _ (blk_lt bm) (by exact lt7.imp id (fun h => by omega))).trans bm
  have oB := oB.then ob7 (by omega)
  have wb := (g7.2 _ (blk_lt wb) (by exact hvm2.imp id (fun e => by omega))).trans wb
  have wo := w7
  refine KP.run 2 rfl rfl ?_
  refine KP.opS rfl (S.store rfl sz66 rfl rfl (OwnE.own wo).cells1 (OwnE.own wo).one bm (by simp)) rfl rfl (fun _ h j hj1 hj2 => ⟨fun hj => by subst hj; exact absurd (by decide +kernel) hj2, fun hj => by subst hj; exact absurd (by decide +kernel) hj2⟩) ?_
  rintro H8 ⟨u8, b8⟩
  have o0 := o0.trans (OldB.upd u8 (by omega))
  have zu8 := u8.1
  have wo := wo.upd u8 (by simp) (by exact wo.lt.imp id (fun h => by omega))
  have oB := oB.upd u8 (by omega)
  have wb := ((u8).2 _ (by omega)).trans wb
  have bm := b8
  refine KP.nil (KQ.fin0 Tryd.results46 ?_)
  (exact ⟨_, (MK.mk bm wo).cast (by rw [En.sec_cons hx0]; simp) rfl, oB⟩)
end Go.Proofs.YtldmfchamcpmmaaDoor
namespace Go.Proofs.YtldmfchamcpmmaaDoor
open Go Go.RowKit
set_option linter.unusedVariables false
set_option linter.unusedSimpArgs false
namespace En
/-- sections that rise, up to n, and are not long -/
def Up (l : List Sec) (n : Int) : Prop := Sc.rise 0 l = true ∧ Sc.lst 0 l ≤ n ∧ ((Sc.body l).length : Int) ≤ n * 5000000000 ∧ (l.length : Int) ≤ n
theorem up_nil : Up [] 0 := ⟨rfl, Int.le_refl _, by simp [Sc.body], by simp⟩
theorem up_one {l : List Sec} {n id : Int} {b : List Int} (h : Up l n) (h1 : n < id) (h2 : id ≤ 11) (hb : b.length ≤ 4500000000) : Up (l ++ [(id, b)]) id := by
  obtain ⟨a1, a2, a3, a4⟩ := h
  have hu : (Lb.ap (b.length : Int)).length ≤ 10 := u_le _
  refine ⟨?_, ?_, ?_, ?_⟩
  · rw [Sc.rise_app, a1]; simp only [Sc.rise, Bool.true_and, Bool.and_true, decide_eq_true_eq]; omega
  · rw [Sc.lst_app]; exact Int.le_refl _
  · rw [Sc.body_app]; simp only [Sc.body, List.length_append, List.length_cons, List.length_nil]; omega
  simp only [List.length_append, List.length_cons, List.length_nil]; omega
theorem up_le {l : List Sec} {n id : Int} (h : Up l n) (h1 : n ≤ id) : Up l id := ⟨h.1, by have := h.2.1; omega, by have := h.2.2.1; omega, by have := h.2.2.2; omega⟩
theorem up_sec {α : Type} {f : α → List Int} {xs : List α} {l : List Sec} {n id : Int} (h : Up l n) (h1 : n < id) (h2 : id ≤ 11) (hb : (lst f xs).length ≤ 4500000000) : Up (l ++ sec id f xs) id := by
  unfold sec
  split
  · rw [List.append_nil]; exact up_le h (by omega)
  exact up_one h h1 h2 hb
theorem lst_big {α : Type} {f : α → List Int} {l : List α} (h : ∀ x ∈ l, (f x).length ≤ 1000000) (hl : l.length ≤ 4000) : (lst f l).length ≤ 4500000000 := by
  have := lst_le h; omega
/-- the binary of a module that has one -/
noncomputable def bin (m : Mo) : List Int := Sc.beg ++ Sc.body (secs m)
section
variable {m : Mo} (h : Small m)
include h
theorem b_typ : (lst typB m.types).length ≤ 4500000000 := lst_big (fun x hx => typ_le (h.t x hx)) h.n.1
theorem b_imp : (lst impB m.imports).length ≤ 4500000000 := lst_big (fun x hx => imp_le (h.i x hx)) h.n.2.1
theorem b_fun : (lst u m.funcs).length ≤ 4500000000 := lst_big (fun x _ => by have := u_le x; omega) h.n.2.2.1
theorem b_tab : (lst tabB m.tables).length ≤ 4500000000 := lst_big (fun x _ => by have := tab_le x; omega) h.n.2.2.2.1
theorem b_mem : (lst limB m.mems).length ≤ 4500000000 := lst_big (fun x _ => by have := lim_le x; omega) h.n.2.2.2.2.1
theorem b_glo : (lst gloB m.globs).length ≤ 4500000000 := lst_big (fun x hx => glo_le (h.g x hx)) h.n.2.2.2.2.2.1
theorem b_exp : (lst expB m.exports).length ≤ 4500000000 := lst_big (fun x hx => exp_le (h.e x hx)) h.n.2.2.2.2.2.2.1
theorem b_elm : (lst elmB m.elems).length ≤ 4500000000 := lst_big (fun x hx => elm_le (h.el x hx)) h.n.2.2.2.2.2.2.2.1
theorem b_cod : (lst codB m.codes).length ≤ 4500000000 := lst_big (fun x hx => cod_le (h.c x hx)) h.n.2.2.2.2.2.2.2.2.1
theorem b_dat : (lst datB m.datas).length ≤ 4500000000 := lst_big (fun x hx => dat_le (h.d x hx)) h.n.2.2.2.2.2.2.2.2.2
theorem up_secs : Up (secs m) 11 := by
  have p1 := up_sec (f := typB) up_nil (id := 1) (by omega) (by omega) (b_typ h)
  have p2 := up_sec p1 (id := 2) (by omega) (by omega) (b_imp h)
  have p3 := up_sec p2 (id := 3) (by omega) (by omega) (b_fun h)
  have p4 := up_sec p3 (id := 4) (by omega) (by omega) (b_tab h)
  have p5 := up_sec p4 (id := 5) (by omega) (by omega) (b_mem h)
  have p6 := up_sec p5 (id := 6) (by omega) (by omega) (b_glo h)
  have p7 := up_sec p6 (id := 7) (by omega) (by omega) (b_exp h)
  have p8 : Up (([] ++ sec 1 typB m.types ++ sec 2 impB m.imports ++ sec 3 u m.funcs ++ sec 4 tabB m.tables ++ sec 5 limB m.mems ++ sec 6 gloB m.globs ++ sec 7 expB m.exports) ++ (if m.hasStart = true then [(8, u m.start)] else [])) 8 := by
    split
    · exact up_one p7 (by omega) (by omega) (by have := u_le m.start; omega)
    rw [List.append_nil]; exact up_le p7 (by omega)
  have p9 := up_sec p8 (id := 9) (by omega) (by omega) (b_elm h)
  have p10 := up_sec p9 (id := 10) (by omega) (by omega) (b_cod h)
  have p11 := up_sec p10 (id := 11) (by omega) (by omega) (b_dat h)
  rw [List.nil_append] at p11
  exact p11
theorem join_secs : Sc.join (secs m) = some (bin m) := by
  unfold Sc.join bin; rw [if_pos (up_secs h).1]
theorem body_secs : (Sc.body (secs m)).length ≤ 140737488351232 := by
  have := (up_secs h).2.2.1; omega
end
/-- what an encoding hands back -/
def ERes (m : Mo) (u : Value) (H : Heap) : Prop :=
  (ok m = false ∧ u = .tuple #[.slice none 0 0, .int .i64 2]) ∨ (ok m = true ∧ 65536 < (bin m).length ∧ u = .tuple #[.slice none 0 0, .int .i64 3]) ∨ (ok m = true ∧ (bin m).length ≤ 65536 ∧ ∃ v, u = .tuple #[v, .int .i64 0] ∧ Sl 1 (EInt .u8) H v (bin m))
end En
end Go.Proofs.YtldmfchamcpmmaaDoor
namespace Go.Proofs.YtldmfchamcpmmaaDoor
open Go Go.RowKit
set_option linter.unusedVariables false
set_option linter.unusedSimpArgs false
set_option linter.unnecessarySimpa false
/-- a module's cells in memory -/
structure MoV (H : Heap) (t i f tb me g e el c d : Value) (m : Mo) : Prop where
  t : Sl 2 EFTy H t m.types
  i : Sl 8 EImp H i m.imports
  f : Sl 1 (EInt .u32) H f m.funcs
  tb : Sl 2 ELim H tb m.tables
  me : Sl 2 ELim H me m.mems
  g : Sl 3 EGlo H g m.globs
  e : Sl 3 EExp H e m.exports
  el : Sl 3 EElm H el m.elems
  c : Sl 2 ECod H c m.codes
  d : Sl 3 EDat H d m.datas
  s : InR .u32 m.start
theorem MoV.old {H H' : Heap} {t i f tb me g e el c d : Value} {m : Mo} (h : MoV H t i f tb me g e el c d m) (o : Old H H') : MoV H' t i f tb me g e el c d m :=
  ⟨h.t.old o, h.i.old o, h.f.old o, h.tb.old o, h.me.old o, h.g.old o, h.e.old o, h.el.old o, h.c.old o, h.d.old o, h.s⟩
theorem Join_bin {H : Heap} {v : Value} {l : List Sec} {b : List Int} (hs : Sl 2 ESec H v l) (hz : (Sc.body l).length ≤ 140737488351232) (e : Sc.join l = some b) : Ct Tryd.prog 16 [v] H (fun u H' => ∃ w, u = .tuple #[w, .int .i64 0] ∧ Sl 1 (EInt .u8) H' w b ∧ Old H H') :=
  (Join_any v l hs hz).mono (fun _ _ ⟨o, r⟩ => by rw [e] at r; obtain ⟨w, hw, hs⟩ := r; exact ⟨w, hw, hs, o⟩)
theorem En.sec_one {α : Type} (id : Int) (f : α → List Int) (l : List α) : (En.sec id f l).length ≤ 1 := by unfold En.sec; split <;> simp
theorem En.ok_bad (m : Mo) : (!(decide (m.codes.length = m.funcs.length) && (m.hasStart || decide (m.start = 0))) || !m.types.all En.typO || !m.imports.all En.impO || !m.funcs.all En.tru || !m.tables.all En.limO || !m.mems.all En.limO || !m.globs.all En.gloO || !m.exports.all En.expO || !m.elems.all En.elmO || !m.codes.all En.codO || !m.datas.all En.datO) = !En.ok m := by
  have h : m.funcs.all En.tru = true := List.all_eq_true.2 (fun _ _ => rfl)
  unfold En.ok
  rw [h]
  simp only [Bool.not_and, Bool.not_true, Bool.or_false, Bool.or_assoc]
theorem Encode_any {H : Heap} {t i f tb me g e el c d : Value} {m : Mo} (mv : MoV H t i f tb me g e el c d m) (hS : En.Small m) (hT : TabU H) : Ct Tryd.prog 8 [.agg [t, i, f, tb, me, g, e, .bool m.hasStart, .int .u32 m.start, el, c, d].toArray] H (fun u H' => En.ERes m u H' ∧ Old H H') := by
  refine Ct.mk Tryd.func8 rfl Tryd.ntmps8 rfl ?_
  intro W0 hW0
  have o0 : Old H H := Old.refl H
  have y1 := En.sec_one 1 En.typB m.types
  have y2 := En.sec_one 2 En.impB m.imports
  have y3 := En.sec_one 3 En.u m.funcs
  have y4 := En.sec_one 4 En.tabB m.tables
  have y5 := En.sec_one 5 En.limB m.mems
  have y6 := En.sec_one 6 En.gloB m.globs
  have y7 := En.sec_one 7 En.expB m.exports
  have y8 := En.sec_one 9 En.elmB m.elems
  have y9 := En.sec_one 10 En.codB m.codes
  have y10 := En.sec_one 11 En.datB m.datas
  refine KC.sr ?_
  refine KL.m (M.box rfl rfl rfl) rfl ?_
  rintro _ H1 ⟨rfl, n1⟩
  have z1 := n1.2.1
  have o0 := o0.trans n1.1
  have b1 := n1.2.2
  have bx := b1
  have bxP := bx
  have oX : Old H H1 := n1.1
  have mvX := mv.old oX
  have hTX := hT.old oX
  have oB : Old H1 H1 := Old.refl _
  have zX := n1.2.1
  refine KL.fin 2 rfl (KQ.seq (KC.seq ?_))
  refine KC.cutD (κ := Unit) [7, 8, 9, 10, 11, 12, 13, 14, 15, 16, 17, 18, 19, 20, 21, 22, 23, 24, 25, 4] (fun _ => [(4, .pointer (some ⟨(Array.size H1), 0, none⟩))]) (fun _ Hl => MK Hl (Array.size H1) (.slice none 0 0) [] (!(decide (m.codes.length = m.funcs.length) && (m.hasStart || decide (m.start = 0)))) ∧ Old H1 Hl ∧ Hl[Array.size H]? = some (.cells [t, i, f, tb, me, g, e, .bool m.hasStart, .int .u32 m.start, el, c, d].toArray 33 (0, 0))) ?_ ?_
  · skip
    refine KC.region (KL.run 1 rfl (KL.ld rfl (cell_of bx rfl) (KL.q (R.lenS rfl Tryd.underlying30 rfl (mvX.c.old oB)) rfl (KL.run 1 rfl (KL.ld rfl (cell_of bx rfl) (KL.q (R.lenS rfl Tryd.underlying24 rfl (mvX.f.old oB)) rfl (KL.run 2 rfl ?_)))))))
    refine KL.cq 14 rfl ?_ ?_
    · intro hg14
      refine KL.run 9 rfl (KL.b0 bt80 rfl rfl ?_)
      refine KL.m (M.box rfl rfl rfl) rfl ?_
      rintro _ H2 ⟨rfl, n2⟩
      have z2 := n2.2.1
      have o0 := o0.trans n2.1
      have bx := (n2.1).blk bx
      have oB := oB.trans n2.1
      have b2 := n2.2.2
      have bk := b2
      have mk := MK.mk bk (OwnE.nil _ _ _ _ _ _)
      refine KL.fin 1 rfl ?_
      refine KQ.meet () ?_ ?_
      · exact Sub.all rfl
      exact ⟨mk.cast rfl (by (rw [decide_eq_false (show ¬ m.codes.length = m.funcs.length by omega)]; rfl)), oB, bx⟩
    intro hg14
    refine KL.run 1 rfl (KL.ld rfl (cell_of bx rfl) (KL.run 2 rfl ?_))
    refine KL.cq 18 rfl ?_ ?_
    · intro hg18
      refine KL.run 1 rfl (KL.ld rfl (cell_of bx rfl) (KL.run 3 rfl (KL.b0 bt80 rfl rfl ?_)))
      refine KL.m (M.box rfl rfl rfl) rfl ?_
      rintro _ H3 ⟨rfl, n3⟩
      have z3 := n3.2.1
      have o0 := o0.trans n3.1
      have bx := (n3.1).blk bx
      have oB := oB.trans n3.1
      have b3 := n3.2.2
      have bk := b3
      have mk := MK.mk bk (OwnE.nil _ _ _ _ _ _)
      refine KL.fin 1 rfl ?_
      refine KQ.meet () ?_ ?_
      · exact Sub.all rfl
      exact ⟨mk.cast rfl (by (rw [decide_eq_true (show m.codes.length = m.funcs.length by omega)]; simp_all)), oB, bx⟩
    intro hg18
    refine KL.run 5 rfl (KL.b0 bt80 rfl rfl ?_)
    refine KL.m (M.box rfl rfl rfl) rfl ?_
    rintro _ H4 ⟨rfl, n4⟩
    have z4 := n4.2.1
    have o0 := o0.trans n4.1
    have bx := (n4.1).blk bx
    have oB := oB.trans n4.1
    have b4 := n4.2.2
    have bk := b4
    have mk := MK.mk bk (OwnE.nil _ _ _ _ _ _)
    refine KL.fin 1 rfl ?_
    refine KQ.meet () ?_ ?_
    · exact Sub.all rfl
    exact ⟨mk.cast rfl (by (rw [decide_eq_true (show m.codes.length = m.funcs.length by omega)]; simp_all)), oB, bx⟩
  rintro _ H5 ⟨mk, oB, bx⟩
  have o0 := oX.trans oB
  have zm := mk.lt
  refine KQ.sr (KL.run 2 rfl (KL.ld rfl (cell_of bx rfl) ?_))
  refine KL.c rfl Tryd.call19 (typed_sec mk oB (by omega) mvX.t (hS.n.1) hS.t 1 (by decide) (by simp only [List.length_append, List.length_nil, List.length_cons]; omega) (by have := En.b_typ hS; omega)) ?_
  rintro _ H6 ⟨vm1, mk, oB⟩
  have bx := oB.blk bxP
  have o0 := oX.trans oB
  have zm := mk.lt
  refine KL.nil (KQ.sr (KL.run 2 rfl (KL.ld rfl (cell_of bx rfl) ?_)))
  refine KL.c rfl Tryd.call22 (imported_sec mk oB (by omega) hTX mvX.i (hS.n.2.1) hS.i 2 (by decide) (by simp only [List.length_append, List.length_nil, List.length_cons]; omega) (by have := En.b_imp hS; omega)) ?_
  rintro _ H7 ⟨vm2, mk, oB⟩
  have bx := oB.blk bxP
  have o0 := oX.trans oB
  have zm := mk.lt
  refine KL.nil (KQ.sr (KL.run 2 rfl (KL.ld rfl (cell_of bx rfl) ?_)))
  refine KL.c rfl Tryd.call25 (u32_sec mk oB (by omega) mvX.f (hS.n.2.2.1) 3 (by decide) (by simp only [List.length_append, List.length_nil, List.length_cons]; omega) (by have := En.b_fun hS; omega)) ?_
  rintro _ H8 ⟨vm3, mk, oB⟩
  have bx := oB.blk bxP
  have o0 := oX.trans oB
  have zm := mk.lt
  refine KL.nil (KQ.sr (KL.run 2 rfl (KL.ld rfl (cell_of bx rfl) ?_)))
  refine KL.c rfl Tryd.call28 (table_sec mk oB (by omega) mvX.tb (hS.n.2.2.2.1) 4 (by decide) (by simp only [List.length_append, List.length_nil, List.length_cons]; omega) (by have := En.b_tab hS; omega)) ?_
  rintro _ H9 ⟨vm4, mk, oB⟩
  have bx := oB.blk bxP
  have o0 := oX.trans oB
  have zm := mk.lt
  refine KL.nil (KQ.sr (KL.run 2 rfl (KL.ld rfl (cell_of bx rfl) ?_)))
  refine KL.c rfl Tryd.call28 (limits_sec mk oB (by omega) mvX.me (hS.n.2.2.2.2.1) 5 (by decide) (by simp only [List.length_append, List.length_nil, List.length_cons]; omega) (by have := En.b_mem hS; omega)) ?_
  rintro _ H10 ⟨vm5, mk, oB⟩
  have bx := oB.blk bxP
  have o0 := oX.trans oB
  have zm := mk.lt
  refine KL.nil (KQ.sr (KL.run 2 rfl (KL.ld rfl (cell_of bx rfl) ?_)))
  refine KL.c rfl Tryd.call33 (global_sec mk oB (by omega) mvX.g (hS.n.2.2.2.2.2.1) hS.g 6 (by decide) (by simp only [List.length_append, List.length_nil, List.length_cons]; omega) (by have := En.b_glo hS; omega)) ?_
  rintro _ H11 ⟨vm6, mk, oB⟩
  have bx := oB.blk bxP
  have o0 := oX.trans oB
  have zm := mk.lt
  refine KL.nil (KQ.sr (KL.run 2 rfl (KL.ld rfl (cell_of bx rfl) ?_)))
  refine KL.c rfl Tryd.call36 (export_sec mk oB (by omega) hTX mvX.e (hS.n.2.2.2.2.2.2.1) hS.e 7 (by decide) (by simp only [List.length_append, List.length_nil, List.length_cons]; omega) (by have := En.b_exp hS; omega)) ?_
  rintro _ H12 ⟨vm7, mk, oB⟩
  have bx := oB.blk bxP
  have o0 := oX.trans oB
  have zm := mk.lt
  refine KL.nil (KQ.seq (KC.seq (KC.sr (KL.run 1 rfl (KL.ld rfl (cell_of bx rfl) (KL.nil (KQ.seq ?_)))))))
  refine KC.iq rfl ?_ ?_
  · intro hc55
    have bm := mk.b
    have wo := mk.w
    have hvm := wo.lt
    have hvl : vblock vm7 < Array.size H12 := wo.blt (by omega)
    refine KC.text (clOf [(8, 2), (10, 2), (11, 2), (14, 2)]) (fun i Hc => (i = 4 → Hc[(Array.size H1)]? = some _) ∧ (i = 6 → Hc[Array.size H]? = some _)) (by kernel_rfl) (by kernel_rfl) (fun _ => ⟨fun _ => bm, fun _ => bx⟩) ?_
    refine KP.run 4 rfl rfl ?_
    refine KP.op rfl (fun Hg hg => R.load rfl Tryd.underlying66 rfl rfl (cell_of (hg.1 rfl) rfl)) rfl rfl rfl ?_
    refine KP.run 1 rfl rfl ?_
    refine KP.op rfl (fun Hg hg => R.load rfl Tryd.underlying28 rfl rfl (cell_of (hg.2 rfl) rfl)) rfl rfl rfl ?_
    refine KP.op rfl (fun Hg hg => R.convI rfl Tryd.underlying28 Tryd.underlying101 rfl (by have := mv.s; dsimp only [InR] at *; omega)) rfl rfl rfl ?_
    refine KP.call rfl rfl rfl rfl rfl Tryd.call39 rfl rfl rfl (AppendU_big _ _ _ (Sl.nil _ _ _) (by simp) (by have := mv.s; dsimp only [InR] at *; omega) (by have := mv.s; dsimp only [InR] at *; omega)) (fun _ _ hR j _ _ => ⟨fun _ => hR.2.blk bm, fun _ => hR.2.blk bx⟩) ?_
    rintro va H13 ⟨ww, ox⟩
    have zc_H13 := (ox).1
    have o0 := o0.trans ox
    have mk := mk.old ox
    have oB := oB.trans ox
    have bx := (ox).blk bx
    have bm := (ox).blk bm
    have wo := wo.old ox
    refine KP.op rfl (fun Hg hg => R.buildL rfl Tryd.underlying71 zr71 [(0, 1), (1, 1)] (fun w => by kernel_rfl) rfl ⟨⟨_, rfl, rfl⟩, ⟨_, rfl, rfl⟩, trivial⟩ rfl rfl ⟨⟨_, rfl, by rfl⟩, ⟨_, rfl, by exact ww.cells1⟩, trivial⟩ rfl) rfl rfl rfl ?_
    refine KP.opM rfl (M.lit rfl Tryd.underlying66 zs71 (by decide) rfl rfl rfl) rfl rfl rfl (fun _ _ hR j _ _ => ⟨fun _ => hR.2.1.blk bm, fun _ => hR.2.1.blk bx⟩) ?_
    rintro _ H14 ⟨rfl, n14⟩
    have z14 := n14.2.1
    have o0 := o0.trans n14.1
    have mk := mk.old n14.1
    have oB := oB.trans n14.1
    have bx := (n14.1).blk bx
    have bm := (n14.1).blk bm
    have wo := wo.old n14.1
    have ww := ww.old n14.1
    have b14 := n14.2.2
    have se : Sl 2 (FK ESec H14 (vblock vm7 :: [(Array.size H1)])) H14 _ [((8 : Int), ([] : List Int) ++ Lb.ap m.start)] := Sl.lit1N n14 rfl (by decide) (fun H2 kx => ⟨_, rfl, fk_own ww (lt2 hvl (by omega)) H2 kx, (show InR .u8 8 from by decide)⟩)
    have hvm := wo.lt
    have lt15 := wo.lt
    refine KP.opM rfl (M.appendE rfl Tryd.underlying66 inf71 rfl (by decide) rfl rfl wo (se) (by omega) (by simp only [List.length_append, List.length_nil, List.length_cons]; omega) (by unfold maxLen; simp only [List.length_append, List.length_nil, List.length_cons]; omega)) rfl rfl rfl (fun _ _ hR j _ _ => ⟨fun _ => (hR.2.1.2 _ (blk_lt bm) (hvm.imp id (fun e => by omega))).trans bm, fun _ => (hR.2.1.2 _ (blk_lt bx) (hvm.imp id (fun e => by omega))).trans bx⟩) ?_
    rintro vn H15 ⟨w15, g15, nx15⟩
    try dsimp only at g15 nx15
    have ob15 := g15.oldBE wo (by omega)
    have o0 := o0.then ob15 (by omega)
    have z15 := ob15.1
    have oB := oB.then ob15 (by omega)
    have bx := (g15.2 _ (blk_lt bx) (by exact lt15.imp id (fun h => by omega))).trans bx
    have bm := (g15.2 _ (blk_lt bm) (by exact lt15.imp id (fun h => by omega))).trans bm
    have wo := w15
    refine KP.run 2 rfl rfl ?_
    refine KP.opS rfl (S.store rfl sz66 rfl rfl (OwnE.own wo).cells1 (OwnE.own wo).one bm (by simp)) rfl rfl (fun _ h j hj1 hj2 => ⟨fun hj => by subst hj; exact absurd (by decide +kernel) hj2, fun hj => by subst hj; exact absurd (by decide +kernel) hj2⟩) ?_
    rintro H16 ⟨u16, b16⟩
    have o0 := o0.upd u16 (by omega)
    have zu16 := u16.1
    have oB := oB.upd u16 (by omega)
    have bx := ((u16).2 _ (by omega)).trans bx
    have wo := wo.upd u16 (by simp) (by exact wo.lt.imp id (fun h => by omega))
    have bm := b16
    have mk := MK.mk bm wo
    have vm7 := vn
    refine KP.nil (KQ.sr (KL.run 2 rfl (KL.ld rfl (cell_of bx rfl) ?_)))
    refine KL.c rfl Tryd.call40 (elem_sec mk oB (by omega) mvX.el (hS.n.2.2.2.2.2.2.2.1) hS.el 9 (by decide) (by simp only [List.length_append, List.length_nil, List.length_cons]; omega) (by have := En.b_elm hS; omega)) ?_
    rintro _ H17 ⟨vm9, mk, oB⟩
    have bx := oB.blk bxP
    have o0 := oX.trans oB
    have zm := mk.lt
    refine KL.nil (KQ.sr (KL.run 2 rfl (KL.ld rfl (cell_of bx rfl) ?_)))
    refine KL.c rfl Tryd.call43 (code_sec mk oB (by omega) mvX.c (hS.n.2.2.2.2.2.2.2.2.1) hS.c 10 (by decide) (by simp only [List.length_append, List.length_nil, List.length_cons]; omega) (by have := En.b_cod hS; omega)) ?_
    rintro _ H18 ⟨vm10, mk, oB⟩
    have bx := oB.blk bxP
    have o0 := oX.trans oB
    have zm := mk.lt
    refine KL.nil (KQ.sr (KL.run 2 rfl (KL.ld rfl (cell_of bx rfl) ?_)))
    refine KL.c rfl Tryd.call46 (data_sec mk oB (by omega) mvX.d (hS.n.2.2.2.2.2.2.2.2.2) hS.d 11 (by decide) (by simp only [List.length_append, List.length_nil, List.length_cons]; omega) (by have := En.b_dat hS; omega)) ?_
    rintro _ H19 ⟨vm11, mk, oB⟩
    have bx := oB.blk bxP
    have o0 := oX.trans oB
    have zm := mk.lt
    have mk := mk.cast (l' := En.secs m) (bad' := !En.ok m) (by simp [En.secs, En.u, hc55]) (En.ok_bad m)
    refine KL.nil (KQ.seq (KC.seq (KC.sr (KL.run 3 rfl (KL.ld rfl (cell_of mk.b rfl) (KL.nil (KQ.seq ?_)))))))
    refine KC.iq rfl ?_ ?_
    · intro hc85
      refine KC.sr (KL.fin 2 rfl (KQ.seq (KC.ret (KQ.retThen (KQ.ofRet (KQ.fin2 Tryd.results8 rfl rfl ?_))))))
      exact ⟨.inl ⟨hc85, rfl⟩, o0⟩
    intro hc85
    refine KC.skip (KQ.sr (KL.run 3 rfl (KL.ld rfl (cell_of mk.b rfl) ?_)))
    refine KL.c rfl Tryd.call16 (Join_bin (b := En.bin m) (mk.w.sl (by decide)) (En.body_secs hS) (En.join_secs hS)) ?_
    rintro _ H20 ⟨w, rfl, sw, ox⟩
    have zc_H20 := (ox).1
    have o0 := o0.trans ox
    have mk := mk.old ox
    have oB := oB.trans ox
    have bx := (ox).blk bx
    refine KL.fin 5 rfl (KQ.seq (KC.seq (KC.sr (KL.run 1 rfl (KL.q ((R.neq rfl rfl rfl).val ((congrArg (fun b => Value.bool (!b)) (decide_eq_true rfl)))) rfl (KL.nil (KQ.seq (KC.condF rfl (KC.skip (KQ.seq (KC.seq (KC.seq ?_))))))))))))
    refine KC.region (KL.run 1 rfl (KL.q (R.lenS rfl Tryd.underlying36 rfl sw) rfl (KL.fin 1 rfl (KQ.seq ?_))))
    refine KC.iq rfl ?_ ?_
    · intro hc99
      refine KC.sr (KL.fin 2 rfl (KQ.seq (KC.ret (KQ.retThen (KQ.ofRet (KQ.fin2 Tryd.results8 rfl rfl ?_))))))
      exact ⟨.inr (.inl ⟨hc85, by omega, rfl⟩), o0⟩
    intro hc99
    refine KC.skip (KQ.sr (KL.fin 3 rfl (KQ.seq (KC.ret (KQ.ofRet (KQ.fin2 Tryd.results8 rfl rfl ?_))))))
    exact ⟨.inr (.inr ⟨hc85, by omega, _, rfl, sw⟩), o0⟩
  intro hc55
  refine KC.skip (KQ.sr (KL.run 2 rfl (KL.ld rfl (cell_of bx rfl) ?_)))
  refine KL.c rfl Tryd.call40 (elem_sec mk oB (by omega) mvX.el (hS.n.2.2.2.2.2.2.2.1) hS.el 9 (by decide) (by simp only [List.length_append, List.length_nil, List.length_cons]; omega) (by have := En.b_elm hS; omega)) ?_
  rintro _ H21 ⟨vm9, mk, oB⟩
  have bx := oB.blk bxP
  have o0 := oX.trans oB
  have zm := mk.lt
  refine KL.nil (KQ.sr (KL.run 2 rfl (KL.ld rfl (cell_of bx rfl) ?_)))
  refine KL.c rfl Tryd.call43 (code_sec mk oB (by omega) mvX.c (hS.n.2.2.2.2.2.2.2.2.1) hS.c 10 (by decide) (by simp only [List.length_append, List.length_nil, List.length_cons]; omega) (by have := En.b_cod hS; omega)) ?_
  rintro _ H22 ⟨vm10, mk, oB⟩
  have bx := oB.blk bxP
  have o0 := oX.trans oB
  have zm := mk.lt
  refine KL.nil (KQ.sr (KL.run 2 rfl (KL.ld rfl (cell_of bx rfl) ?_)))
  refine KL.c rfl Tryd.call46 (data_sec mk oB (by omega) mvX.d (hS.n.2.2.2.2.2.2.2.2.2) hS.d 11 (by decide) (by simp only [List.length_append, List.length_nil, List.length_cons]; omega) (by have := En.b_dat hS; omega)) ?_
  rintro _ H23 ⟨vm11, mk, oB⟩
  have bx := oB.blk bxP
  have o0 := oX.trans oB
  have zm := mk.lt
  have mk := mk.cast (l' := En.secs m) (bad' := !En.ok m) (by simp [En.secs, En.u, hc55]) (En.ok_bad m)
  refine KL.nil (KQ.seq (KC.seq (KC.sr (KL.run 3 rfl (KL.ld rfl (cell_of mk.b rfl) (KL.nil (KQ.seq ?_)))))))
  refine KC.iq rfl ?_ ?_
  · intro hc85
    refine KC.sr (KL.fin 2 rfl (KQ.seq (KC.ret (KQ.retThen (KQ.ofRet (KQ.fin2 Tryd.results8 rfl rfl ?_))))))
    exact ⟨.inl ⟨hc85, rfl⟩, o0⟩
  intro hc85
  refine KC.skip (KQ.sr (KL.run 3 rfl (KL.ld rfl (cell_of mk.b rfl) ?_)))
  refine KL.c rfl Tryd.call16 (Join_bin (b := En.bin m) (mk.w.sl (by decide)) (En.body_secs hS) (En.join_secs hS)) ?_
  rintro _ H24 ⟨w, rfl, sw, ox⟩
  have zc_H24 := (ox).1
  have o0 := o0.trans ox
  have mk := mk.old ox
  have oB := oB.trans ox
  have bx := (ox).blk bx
  refine KL.fin 5 rfl (KQ.seq (KC.seq (KC.sr (KL.run 1 rfl (KL.q ((R.neq rfl rfl rfl).val ((congrArg (fun b => Value.bool (!b)) (decide_eq_true rfl)))) rfl (KL.nil (KQ.seq (KC.condF rfl (KC.skip (KQ.seq (KC.seq (KC.seq ?_))))))))))))
  refine KC.region (KL.run 1 rfl (KL.q (R.lenS rfl Tryd.underlying36 rfl sw) rfl (KL.fin 1 rfl (KQ.seq ?_))))
  refine KC.iq rfl ?_ ?_
  · intro hc99
    refine KC.sr (KL.fin 2 rfl (KQ.seq (KC.ret (KQ.retThen (KQ.ofRet (KQ.fin2 Tryd.results8 rfl rfl ?_))))))
    exact ⟨.inr (.inl ⟨hc85, by omega, rfl⟩), o0⟩
  intro hc99
  refine KC.skip (KQ.sr (KL.fin 3 rfl (KQ.seq (KC.ret (KQ.ofRet (KQ.fin2 Tryd.results8 rfl rfl ?_))))))
  exact ⟨.inr (.inr ⟨hc85, by omega, _, rfl, sw⟩), o0⟩
end Go.Proofs.YtldmfchamcpmmaaDoor
namespace Go.Proofs.YtldmfchamcpmmaaDoor.Ord
open Go
/-- what is asked of a region's text: each operation waits for earlier ones alone, and all write slots of their own, which the frame has -/
def lexOk (ops : Array Oper) (size : Nat) : Bool :=
  (List.range ops.size).all fun i => match ops[i]? with
    | none => true
    | some o => (o.after.toList.all fun e => decide (e.on < i)) && (match o.dst with
      | none => false
      | some d => decide (d < size) && (List.range ops.size).all fun j => decide (j = i) || (match ops[j]? with | none => true | some q => q.dst != some d))
/-- the operations that one waits for -/
def preds (ops : Array Oper) (i : Nat) : List Nat := match ops[i]? with
  | none => []
  | some o => (o.after.toList.filter fun e => Region.binds .any e).map (·.on)
def dstOf (ops : Array Oper) (i : Nat) : Nat := ((ops[i]?).bind (·.dst)).getD 0
section
variable {P : Program} {ops : Array Oper} {Q : Exit → Act → World → Prop}
/-- the state behind some of the operations -/
structure At (ops : Array Oper) (V : Nat → Value → World → Prop) (C : World → Prop) (a0 : Act) (listed : Array Bool) (a : Act) (w : World) : Prop where
  cls : C w
  defers : a.defers = a0.defers
  size : a.tmps.size = a0.tmps.size
  old : ∀ t, (∀ i, i < ops.size → dstOf ops i ≠ t) → a.tmps[t]? = a0.tmps[t]?
  val : ∀ i, i < ops.size → listed.getD i true = true → V i (a.tmps.getD (dstOf ops i) undef) w
/-- what is to be shown of one operation -/
def Does (P : Program) (ops : Array Oper) (Q : Exit → Act → World → Prop) (V : Nat → Value → World → Prop) (C : World → Prop) (a0 : Act) (i : Nat) : Prop :=
  ∀ (a : Act) (w : World), C w → a.defers = a0.defers → a.tmps.size = a0.tmps.size → (∀ t, (∀ j, j < ops.size → dstOf ops j ≠ t) → a.tmps[t]? = a0.tmps[t]?) →
    (∀ j ∈ preds ops i, V j (a.tmps.getD (dstOf ops j) undef) w) →
    wpOp P ops Q i (fun a' w' => ∃ v, a' = a.put (some (dstOf ops i)) v ∧ V i v w' ∧ C w' ∧ ∀ j u, V j u w → V j u w') a w
theorem lex_spec {size : Nat} (h : lexOk ops size = true) {i : Nat} (hi : i < ops.size) : (∀ j ∈ preds ops i, j < i) ∧ (∃ o, ops[i]? = some o ∧ o.dst = some (dstOf ops i)) ∧ dstOf ops i < size ∧ ∀ j, j < ops.size → j ≠ i → dstOf ops j ≠ dstOf ops i := by
  have key : ∀ i, i < ops.size → (∀ j ∈ preds ops i, j < i) ∧ (∃ o, ops[i]? = some o ∧ o.dst = some (dstOf ops i)) ∧ dstOf ops i < size ∧ ∀ j, j < ops.size → j ≠ i → (ops[j]?).all (fun q => q.dst != some (dstOf ops i)) = true := by
    intro i hi
    have h1 := List.all_eq_true.1 h i (List.mem_range.2 hi)
    obtain ⟨o, ho⟩ : ∃ o, ops[i]? = some o := ⟨ops[i], by simp [hi]⟩
    rw [ho] at h1
    simp only [Bool.and_eq_true] at h1
    obtain ⟨h2, h3⟩ := h1
    cases hd : o.dst with
    | none => rw [hd] at h3; cases h3
    | some d =>
      rw [hd] at h3
      simp only [Bool.and_eq_true, decide_eq_true_eq] at h3
      have hdst : dstOf ops i = d := by simp [dstOf, ho, hd]
      refine ⟨?_, ⟨o, ho, by rw [hd, hdst]⟩, by rw [hdst]; exact h3.1, ?_⟩
      · intro j hj
        simp only [preds, ho, List.mem_map, List.mem_filter] at hj
        obtain ⟨e, ⟨he, _⟩, rfl⟩ := hj
        have := List.all_eq_true.1 h2 e he
        simpa using this
      intro j hj hne
      have h4 := List.all_eq_true.1 h3.2 j (List.mem_range.2 hj)
      rw [hdst]
      cases hq : ops[j]? with
      | none => rfl
      | some q =>
        rw [hq] at h4
        simp only [Bool.or_eq_true, decide_eq_true_eq] at h4
        rcases h4 with h4 | h4
        · exact absurd h4 hne
        simpa using h4
  obtain ⟨a, b, c, d⟩ := key i hi
  refine ⟨a, b, c, fun j hj hne => ?_⟩
  have h1 := d j hj hne
  obtain ⟨q, hq, hqd⟩ := (key j hj).2.1
  rw [hq] at h1
  simp only [Option.all_some] at h1
  intro e
  rw [hqd, e] at h1
  simp at h1
/-- not all have come up: one is ready -/
theorem ready_ne {size : Nat} (h : lexOk ops size = true) (listed : Array Bool) (hl : listed.size = ops.size) (hn : ∃ i, i < ops.size ∧ listed.getD i true = false) : Region.ready .any ops listed ≠ [] := by
  classical
  obtain ⟨i, hi, hf⟩ := hn
  induction i using Nat.strongRecOn with
  | ind i ih =>
    by_cases hp : ∀ j ∈ preds ops i, listed.getD j true = true
    · intro hnil
      have hmem : i ∈ Region.ready .any ops listed := by
        simp only [Region.ready, List.mem_filter, List.mem_range]
        refine ⟨hi, ?_⟩
        obtain ⟨_, ⟨o, ho, _⟩, _, _⟩ := lex_spec h hi
        rw [hf, ho]
        simp only [Bool.not_false, Bool.true_and, Option.map_some, Option.getD_some, Array.all_eq_true_iff_forall_mem]
        intro e he
        by_cases hb : Region.binds .any e = true
        · have hj : e.on ∈ preds ops i := by
            simp only [preds, ho, List.mem_map, List.mem_filter]
            exact ⟨e, ⟨by simpa using he, hb⟩, rfl⟩
          have hlt := (lex_spec h hi).1 _ hj
          have := hp _ hj
          rw [Bool.or_eq_true]; right
          rw [Array.getD_eq_getD_getElem?] at this ⊢
          have hin : e.on < listed.size := by omega
          simpa [hin] using this
        simp [hb]
      rw [hnil] at hmem; cases hmem
    have : ∃ j, j ∈ preds ops i ∧ ¬ listed.getD j true = true := by
      apply Classical.byContradiction
      intro hh
      exact hp fun j hj => Classical.byContradiction fun h' => hh ⟨j, hj, h'⟩
    obtain ⟨j, hj, hjf⟩ := this
    have hlt := (lex_spec h hi).1 _ hj
    exact ih j hlt (by omega) (by simpa using hjf)
theorem ready_spec {listed : Array Bool} {i : Nat} (_hl : listed.size = ops.size) (hi : i ∈ Region.ready .any ops listed) : i < ops.size ∧ listed.getD i true = false ∧ ∀ j ∈ preds ops i, listed.getD j true = true := by
  simp only [Region.ready, List.mem_filter, List.mem_range, Bool.and_eq_true, Bool.not_eq_true'] at hi
  obtain ⟨h1, h2, h3⟩ := hi
  refine ⟨h1, h2, fun j hj => ?_⟩
  obtain ⟨o, ho⟩ : ∃ o, ops[i]? = some o := ⟨ops[i], by simp [h1]⟩
  simp only [preds, ho, List.mem_map, List.mem_filter] at hj
  obtain ⟨e, ⟨he, hb⟩, rfl⟩ := hj
  rw [ho] at h3
  simp only [Option.map_some, Option.getD_some] at h3
  rw [Array.all_eq_true_iff_forall_mem] at h3
  have := h3 e (by simpa using he)
  rw [hb] at this
  simp only [Bool.not_true, Bool.false_or] at this
  rw [Array.getD_eq_getD_getElem?] at this ⊢
  by_cases hin : e.on < listed.size
  · simpa [hin] using this
  simp [hin] at this
theorem wpAny_vals {size : Nat} (hlex : lexOk ops size = true) {V : Nat → Value → World → Prop} {C : World → Prop} {a0 : Act} (hsz : a0.tmps.size = size)
    (hdo : ∀ i, i < ops.size → Does P ops Q V C a0 i)
    (hend : ∀ a w, C w → a.defers = a0.defers → a.tmps.size = a0.tmps.size → (∀ t, (∀ j, j < ops.size → dstOf ops j ≠ t) → a.tmps[t]? = a0.tmps[t]?) → (∀ i, i < ops.size → V i (a.tmps.getD (dstOf ops i) undef) w) → Q .normal a w) :
    ∀ (fuel : Nat) (listed : Array Bool) (a : Act) (w : World), listed.size = ops.size → At ops V C a0 listed a w → (listed.toList.countP (· == false)) ≤ fuel → wpAny P .any ops Q fuel listed a w := by
  have all_of : ∀ (listed : Array Bool), listed.size = ops.size → Region.ready .any ops listed = [] → ∀ i, i < ops.size → listed.getD i true = true := by
    intro listed hl hr i hi
    cases hv : listed.getD i true with
    | true => rfl
    | false => exact absurd hr (ready_ne hlex listed hl ⟨i, hi, hv⟩)
  intro fuel
  induction fuel with
  | zero =>
    intro listed a w hl hat hc
    have hall : ∀ i, i < ops.size → listed.getD i true = true := by
      intro i hi
      have h0 : listed.toList.countP (· == false) = 0 := by omega
      rw [List.countP_eq_zero] at h0
      have hin : i < listed.size := by omega
      have := h0 listed[i] (by simp)
      rw [Array.getD_eq_getD_getElem?]
      simp [hin]
      simpa using this
    refine ⟨?_, hend a w hat.cls hat.defers hat.size hat.old fun i hi => hat.val i hi (hall i hi)⟩
    apply Classical.byContradiction
    intro hne
    obtain ⟨i, hi⟩ := List.exists_mem_of_ne_nil _ hne
    have := ready_spec hl hi
    rw [hall i this.1] at this
    simp at this
  | succ fuel ih =>
    intro listed a w hl hat hc
    refine ⟨fun hr => hend a w hat.cls hat.defers hat.size hat.old fun i hi => hat.val i hi (all_of listed hl hr i hi), fun i hi => ?_⟩
    obtain ⟨h1, h2, h3⟩ := ready_spec hl hi
    obtain ⟨hp, _, hd, hapart⟩ := lex_spec hlex h1
    have hdo' := hdo i h1 a w hat.cls hat.defers hat.size hat.old fun j hj => hat.val j (by have := hp j hj; omega) (h3 j hj)
    refine wpOp_mono ?_ hdo'
    rintro a' w' ⟨v, rfl, hv, hC, hmono⟩
    refine ih _ _ _ (by simp [hl]) ?_ ?_
    · refine ⟨hC, hat.defers, by simpa [Act.put] using hat.size, ?_, ?_⟩
      · intro t ht
        rw [← hat.old t ht]
        simp only [Act.put]
        rw [Array.getElem?_setIfInBounds_ne (ht i h1)]
      intro j hj hlj
      simp only [Act.put]
      by_cases hji : j = i
      · subst hji
        rw [Array.getD_eq_getD_getElem?, Array.getElem?_setIfInBounds_self_of_lt (by rw [hat.size, hsz]; exact hd)]
        exact hv
      rw [Array.getD_eq_getD_getElem?, Array.getElem?_setIfInBounds_ne (fun e => hapart j hj hji e.symm), ← Array.getD_eq_getD_getElem?]
      refine hmono _ _ (hat.val j hj ?_)
      rw [Array.getD_eq_getD_getElem?] at hlj ⊢
      rwa [Array.getElem?_setIfInBounds_ne (fun e => hji e.symm)] at hlj
    have hin : i < listed.size := by omega
    have hget : listed[i] = false := by
      rw [Array.getD_eq_getD_getElem?] at h2; simpa [hin] using h2
    have : (listed.setIfInBounds i true).toList.countP (· == false) + 1 = listed.toList.countP (· == false) := by
      rw [Array.toList_setIfInBounds]
      have hlen : i < listed.toList.length := by simpa using hin
      rw [List.set_eq_take_append_cons_drop, if_pos hlen]
      conv => rhs; rw [← List.take_append_drop i listed.toList, List.drop_eq_getElem_cons hlen]
      simp only [List.countP_append, List.countP_cons]
      have : listed.toList[i] = false := by simpa using hget
      rw [this]; simp
      omega
    omega
/-- A REGION THAT DRAWS ITS ORDER, each of whose operations does its own, whatever has come up ahead of it. -/
theorem wp_region_vals {id : Nat} {a0 : Act} {w0 : World} (hm : P.follows .mixedOrders = true) (hlex : lexOk ops a0.tmps.size = true) (V : Nat → Value → World → Prop) (C : World → Prop) (hC : C w0.drew)
    (hdo : ∀ i, i < ops.size → Does P ops Q V C a0 i)
    (hend : ∀ a w, C w → a.defers = a0.defers → a.tmps.size = a0.tmps.size → (∀ t, (∀ j, j < ops.size → dstOf ops j ≠ t) → a.tmps[t]? = a0.tmps[t]?) → (∀ i, i < ops.size → V i (a.tmps.getD (dstOf ops i) undef) w) → Q .normal a w) :
    (Code.region id ops true).wp P Q a0 w0 := by
  refine wp_region_any hm ?_
  refine wpAny_vals hlex rfl hdo hend _ _ a0 _ (by simp) ⟨hC, rfl, rfl, fun _ _ => rfl, ?_⟩ ?_
  · intro i hi h
    rw [Array.getD_eq_getD_getElem?] at h
    simp [hi] at h
  have := List.countP_le_length (p := (· == false)) (l := (Array.replicate ops.size false).toList)
  simpa using this
end
end Go.Proofs.YtldmfchamcpmmaaDoor.Ord
namespace Go.Proofs.YtldmfchamcpmmaaDoor
open Go Go.RowKit
set_option linter.unusedVariables false
theorem get_cons {s t : Nat} {x : Value} {E : Env} : get ((s, x) :: E) t = if s = t then some x else get E t := by
  simp only [get]
  by_cases h : s = t
  · subst h; simp
  have : Nat.beq s t = false := by
    cases hb : Nat.beq s t
    · rfl
    exact absurd (Nat.eq_of_beq_eq_true hb) h
  rw [this, if_neg h]; rfl
theorem get_cut {ds : List Nat} {E : Env} {t : Nat} {v : Value} (h : get (drop ds E) t = some v) : get E t = some v ∧ t ∉ ds := by
  rw [get_drop] at h
  cases he : ds.elem t with
  | true => rw [he] at h; cases h
  | false => rw [he] at h; exact ⟨h, fun hm => by rw [List.elem_eq_true_of_mem hm] at he; cases he⟩
theorem get_app {A B : Env} {t : Nat} {v : Value} (h : get (A ++ B) t = some v) : (∃ p ∈ A, p.1 = t ∧ p.2 = v) ∨ get B t = some v := by
  induction A with
  | nil => exact .inr h
  | cons p A ih =>
    obtain ⟨s, x⟩ := p
    rw [List.cons_append, get_cons] at h
    by_cases hst : s = t
    · rw [if_pos hst] at h
      injection h with h
      exact .inl ⟨(s, x), List.mem_cons_self .., hst, h⟩
    rw [if_neg hst] at h
    rcases ih h with ⟨p, hp, h1⟩ | h1
    · exact .inl ⟨p, List.mem_cons_of_mem _ hp, h1⟩
    exact .inr h1
/-- what an operation's run is to come to -/
def UponK (P : Program) (R : Value → Heap → Prop) (w : World) : Result Next → Prop
  | .ok (.value v) w' => St w w'.heap w' ∧ R v w'.heap
  | .ok (.enter f args) w' => w' = w ∧ Calls P f args w fun e w'' => ∃ v, e = .returned v ∧ St w w''.heap w'' ∧ R v w''.heap
  | _ => False
def D1 (P : Program) (E : Env) (H : Heap) (o : Oper) (R : Value → Heap → Prop) : Prop := ∀ ρ w, Agree E ρ → w.heap = H → UponK P R w ((execOp ρ o).run P w)
theorem D1.op {P : Program} {E : Env} {H : Heap} {o : Oper} {v : Value} {R : Value → Heap → Prop} (h : Run P E H o v) (hR : R v H) : D1 P E H o R := fun ρ w ha hw => by
  rw [h ρ w ha hw]
  exact ⟨St.refl w, by rw [hw]; exact hR⟩
theorem D1.mem {P : Program} {E : Env} {H : Heap} {o : Oper} {R R' : Value → Heap → Prop} (h : RunM P E H o R') (hR : ∀ v H', R' v H' → R v H') : D1 P E H o R := fun ρ w ha hw => by
  obtain ⟨v, w', h1, h2, h3⟩ := h ρ w ha hw
  rw [h1]
  exact ⟨h2, hR _ _ h3⟩
theorem D1.call {P : Program} {E : Env} {H : Heap} {o : Oper} {R R' : Value → Heap → Prop} {f : FuncId} {fo : Operand} {xs : Array Operand} {ts : Array TypeId} {first cap : Array Value} {vs args : List Value} (ho : o.op = .call { callee := .value fo, args := xs, argTypes := ts })
    (hf : ev E fo = some (.func (.func f) first cap)) (has : evs E xs.toList = some vs) (hl : first.toList ++ vs ++ cap.toList = args) (hcall : Enters P f) (hc : Ct P f args H R') (hR : ∀ v H', R' v H' → R v H') : D1 P E H o R := fun ρ w ha hw => by
  rw [run_call ha ho hf has hl hcall]
  exact ⟨rfl, (hc w hw).mono fun e w' ⟨v, h1, h2, h3⟩ => ⟨v, h1, h2, hR _ _ h3⟩⟩
/-- one operation's own -/
def Ob (P : Program) (ops : List Oper) (E : Env) (H : Heap) (o : Oper) (R : Value → Heap → Prop) : Prop :=
  (want ops E o.guard = some true ∧ D1 P E H o R) ∨ (want ops E o.guard = some false ∧ R undef H)
def predEnv (l : List Oper) (is : List Nat) (u : Nat → Value) : Env := is.map fun j => (Ord.dstOf l.toArray j, u j)
theorem KC.vals {P : Program} {n : Nat} {W0 : World} {Q : Exit → Act → World → Prop} {E : Env} {H : Heap} {id : Nat} {l : List Oper} (ds : List Nat) (V : Nat → Value → Heap → Prop) (hm : P.follows .mixedOrders = true) (hlex : Ord.lexOk l.toArray n = true) (hds : (List.range l.length).map (Ord.dstOf l.toArray) = ds)
    (hdo : ∀ i o, l[i]? = some o → ∀ (u : Nat → Value) Hc, Old H Hc → (∀ j ∈ Ord.preds l.toArray i, V j (u j) Hc) → Ob P l (predEnv l (Ord.preds l.toArray i) u ++ drop ds E) Hc o (fun v H' => V i v H' ∧ Old H H' ∧ ∀ j x, V j x Hc → V j x H'))
    (hend : ∀ (u : Nat → Value) Hf, Old H Hf → (∀ i, i < l.length → V i (u i) Hf) → KQ n W0 Q .normal (predEnv l (List.range l.length) u ++ drop ds E) Hf) : KC P n W0 Q (.region id l.toArray true) E H := by
  intro a w ha hw
  have hrep : ∀ (a' : Act) (is : List Nat), (∀ i ∈ is, i < l.length) → a'.defers = a.defers → a'.tmps.size = a.tmps.size → (∀ t, (∀ j, j < l.toArray.size → Ord.dstOf l.toArray j ≠ t) → a'.tmps[t]? = a.tmps[t]?) →
      Rep n (predEnv l is (fun j => a'.tmps.getD (Ord.dstOf l.toArray j) undef) ++ drop ds E) a' := by
    intro a' is his h1 h2 h3
    refine ⟨h1.trans ha.defers, h2.trans ha.size, fun t v ht => ?_⟩
    rcases get_app ht with ⟨p, hp, e1, e2⟩ | ht
    · obtain ⟨j, hj, rfl⟩ := List.mem_map.1 hp
      have hlt := (Ord.lex_spec (ops := l.toArray) hlex (i := j) (by simpa using his j hj)).2.2.1
      simp only at e1 e2
      subst e1
      rw [← e2, Array.getD_eq_getD_getElem?, Array.getElem?_eq_getElem (by rw [h2, ha.size]; exact hlt)]
      rfl
    obtain ⟨h4, h5⟩ := get_cut ht
    rw [h3 t (fun j hj e => h5 (by rw [← hds, List.mem_map]; exact ⟨j, by simpa using hj, e⟩))]
    exact ha.val t v h4
  refine Ord.wp_region_vals (ops := l.toArray) hm (by rw [ha.size]; exact hlex) (fun i v w => V i v w.heap) (fun w' => Old H w'.heap ∧ St W0 w'.heap w') ⟨by show Old H w.heap; rw [hw.heap]; exact Old.refl _, rfl, hw.os, hw.tape, hw.output⟩ ?_ ?_
  · intro i hi a' w' hC hd hsz hold hp
    have hil : i < l.length := by simpa using hi
    have ho : l[i]? = some l[i] := List.getElem?_eq_getElem hil
    have hpre := (Ord.lex_spec (ops := l.toArray) hlex hi).1
    have hR := hrep a' (Ord.preds l.toArray i) (fun j hj => by have := hpre j hj; omega) hd hsz hold
    obtain ⟨o', ho', hdst⟩ := (Ord.lex_spec (ops := l.toArray) hlex hi).2.1
    have ho'' : l.toArray[i]? = some l[i] := by simp [ho]
    rw [ho''] at ho'
    injection ho' with ho'
    rw [← ho'] at hdst
    have hob := hdo i l[i] ho (fun j => a'.tmps.getD (Ord.dstOf l.toArray j) undef) w'.heap hC.1 hp
    unfold wpOp
    rw [ho'']
    simp only
    rcases hob with ⟨hw1, hD⟩ | ⟨hw1, hD⟩
    · rw [want_wanted hR hw1]
      simp only [if_true]
      left
      have := hD a'.eval w' hR.agree rfl
      unfold Oper.wp
      generalize (execOp a'.eval l[i]).run P w' = r at *
      cases r with
      | ok nx w2 =>
        cases nx <;> simp only [UponK] at this <;> simp only [Oper.upon]
        case value v => exact ⟨v, by rw [hdst], this.2.1, ⟨this.2.2.1, hC.2.trans this.1⟩, this.2.2.2⟩
        case enter f args =>
          obtain ⟨rfl, hc⟩ := this
          refine hc.mono ?_
          rintro e w'' ⟨v, rfl, hst, hV, hO, hm'⟩
          exact ⟨v, by rw [hdst], hV, ⟨hO, hC.2.trans hst⟩, hm'⟩
      | halt x w2 => simp only [UponK] at this
    rw [want_wanted hR hw1]
    simp only [Bool.false_eq_true, if_false]
    exact ⟨undef, by rw [hdst], hD.1, ⟨hD.2.1, hC.2⟩, hD.2.2⟩
  intro a' w' hC hd hsz hold hval
  have hR := hrep a' (List.range l.length) (fun i hi => List.mem_range.1 hi) hd hsz hold
  exact hend (fun j => a'.tmps.getD (Ord.dstOf l.toArray j) undef) w'.heap hC.1 (fun i hi => hval i (by simpa using hi)) a' w' hR hC.2
/-- the same, with all that is reckoned from the region's text told -/
def litEnv (ds is : List Nat) (u : Nat → Value) : Env := is.map fun j => (ds.getD j 0, u j)
theorem KC.valsL {P : Program} {n : Nat} {W0 : World} {Q : Exit → Act → World → Prop} {E : Env} {H : Heap} {id : Nat} {l : List Oper} (ds : List Nat) (ps : List (List Nat)) (V : Nat → Value → Heap → Prop) (hm : P.follows .mixedOrders = true) (hlex : Ord.lexOk l.toArray n = true) (hds : (List.range l.length).map (Ord.dstOf l.toArray) = ds) (hps : (List.range l.length).map (Ord.preds l.toArray) = ps)
    (hdo : ∀ i o, l[i]? = some o → ∀ (u : Nat → Value) Hc, Old H Hc → (∀ j ∈ ps.getD i [], V j (u j) Hc) → Ob P l (litEnv ds (ps.getD i []) u ++ drop ds E) Hc o (fun v H' => V i v H' ∧ Old H H' ∧ ∀ j x, V j x Hc → V j x H'))
    (hend : ∀ (u : Nat → Value) Hf, Old H Hf → (∀ i, i < l.length → V i (u i) Hf) → KQ n W0 Q .normal (litEnv ds (List.range l.length) u ++ drop ds E) Hf) : KC P n W0 Q (.region id l.toArray true) E H := by
  have hd : ∀ j, j < l.length → ds.getD j 0 = Ord.dstOf l.toArray j := fun j hj => by
    rw [← hds, List.getD_eq_getElem?_getD, List.getElem?_map, List.getElem?_range hj]; rfl
  have hp : ∀ j, j < l.length → ps.getD j [] = Ord.preds l.toArray j := fun j hj => by
    rw [← hps, List.getD_eq_getElem?_getD, List.getElem?_map, List.getElem?_range hj]; rfl
  have he : ∀ is u, (∀ i ∈ is, i < l.length) → predEnv l is u = litEnv ds is u := fun is u his => by
    unfold predEnv litEnv
    exact List.map_congr_left fun j hj => by rw [hd j (his j hj)]
  refine KC.vals ds V hm hlex hds (fun i o ho u Hc og hpp => ?_) (fun u Hf og hv => ?_)
  · have hi : i < l.length := (List.getElem?_eq_some_iff.1 ho).1
    have hlt : ∀ j ∈ Ord.preds l.toArray i, j < l.length := fun j hj => by
      have := (Ord.lex_spec (ops := l.toArray) hlex (i := i) (by simpa using hi)).1 j hj
      omega
    have := hdo i o ho u Hc og (by rw [hp i hi]; exact hpp)
    rw [hp i hi] at this
    rw [he _ u hlt]
    exact this
  rw [he _ u (fun i hi => List.mem_range.1 hi)]
  exact hend u Hf og hv
end Go.Proofs.YtldmfchamcpmmaaDoor
