/- Package opc: names of opcodes, and what Name and Find answer. No condition. -/
import Derived.Test.YthgdaacbhcondaaDoorOpcP
import Derived.Test.YthgdaacbhcondaaDoorKScope
namespace Go.Proofs.YthgdaacbhcondaaDoor
open Go Go.RowKit
set_option linter.unusedVariables false
set_option linter.unusedSimpArgs false
set_option linter.unnecessarySimpa false
namespace Opc
def nm0 : List (List Int) := List.replicate 256 []
def nm1 : List (List Int) := put nm0 0 [] [[117, 110, 114, 101, 97, 99, 104, 97, 98, 108, 101], [110, 111, 112], [98, 108, 111, 99, 107], [108, 111, 111, 112], [105, 102], [101, 108, 115, 101]]
def nm2 : List (List Int) := put nm1 11 [] [[101, 110, 100], [98, 114], [98, 114, 95, 105, 102], [98, 114, 95, 116, 97, 98, 108, 101], [114, 101, 116, 117, 114, 110], [99, 97, 108, 108], [99, 97, 108, 108, 95, 105, 110, 100, 105, 114, 101, 99, 116]]
def nm3 : List (List Int) := put nm2 26 [] [[100, 114, 111, 112], [115, 101, 108, 101, 99, 116]]
def nm4 : List (List Int) := put nm3 32 [108, 111, 99, 97, 108, 46] [[103, 101, 116], [115, 101, 116], [116, 101, 101]]
def nm5 : List (List Int) := put nm4 35 [103, 108, 111, 98, 97, 108, 46] [[103, 101, 116], [115, 101, 116]]
def nm6 : List (List Int) := put nm5 40 [105, 51, 50, 46] [[108, 111, 97, 100]]
def nm7 : List (List Int) := put nm6 41 [105, 54, 52, 46] [[108, 111, 97, 100]]
def nm8 : List (List Int) := put nm7 44 [105, 51, 50, 46] [[108, 111, 97, 100, 56, 95, 115], [108, 111, 97, 100, 56, 95, 117], [108, 111, 97, 100, 49, 54, 95, 115], [108, 111, 97, 100, 49, 54, 95, 117]]
def nm9 : List (List Int) := put nm8 48 [105, 54, 52, 46] [[108, 111, 97, 100, 56, 95, 115], [108, 111, 97, 100, 56, 95, 117], [108, 111, 97, 100, 49, 54, 95, 115], [108, 111, 97, 100, 49, 54, 95, 117], [108, 111, 97, 100, 51, 50, 95, 115], [108, 111, 97, 100, 51, 50, 95, 117]]
def nm10 : List (List Int) := put nm9 54 [105, 51, 50, 46] [[115, 116, 111, 114, 101]]
def nm11 : List (List Int) := put nm10 55 [105, 54, 52, 46] [[115, 116, 111, 114, 101]]
def nm12 : List (List Int) := put nm11 58 [105, 51, 50, 46] [[115, 116, 111, 114, 101, 56], [115, 116, 111, 114, 101, 49, 54]]
def nm13 : List (List Int) := put nm12 60 [105, 54, 52, 46] [[115, 116, 111, 114, 101, 56], [115, 116, 111, 114, 101, 49, 54], [115, 116, 111, 114, 101, 51, 50]]
def nm14 : List (List Int) := put nm13 63 [109, 101, 109, 111, 114, 121, 46] [[115, 105, 122, 101], [103, 114, 111, 119]]
def nm15 : List (List Int) := put nm14 65 [105, 51, 50, 46] [[99, 111, 110, 115, 116]]
def nm16 : List (List Int) := put nm15 66 [105, 54, 52, 46] [[99, 111, 110, 115, 116]]
def nm17 : List (List Int) := put nm16 69 [105, 51, 50, 46] [[101, 113, 122], [101, 113], [110, 101], [108, 116, 95, 115], [108, 116, 95, 117], [103, 116, 95, 115], [103, 116, 95, 117], [108, 101, 95, 115], [108, 101, 95, 117], [103, 101, 95, 115], [103, 101, 95, 117]]
def nm18 : List (List Int) := put nm17 80 [105, 54, 52, 46] [[101, 113, 122], [101, 113], [110, 101], [108, 116, 95, 115], [108, 116, 95, 117], [103, 116, 95, 115], [103, 116, 95, 117], [108, 101, 95, 115], [108, 101, 95, 117], [103, 101, 95, 115], [103, 101, 95, 117]]
def nm19 : List (List Int) := put nm18 103 [105, 51, 50, 46] [[99, 108, 122], [99, 116, 122], [112, 111, 112, 99, 110, 116], [97, 100, 100], [115, 117, 98], [109, 117, 108], [100, 105, 118, 95, 115], [100, 105, 118, 95, 117], [114, 101, 109, 95, 115], [114, 101, 109, 95, 117], [97, 110, 100], [111, 114], [120, 111, 114], [115, 104, 108], [115, 104, 114, 95, 115], [115, 104, 114, 95, 117], [114, 111, 116, 108], [114, 111, 116, 114]]
def nm20 : List (List Int) := put nm19 121 [105, 54, 52, 46] [[99, 108, 122], [99, 116, 122], [112, 111, 112, 99, 110, 116], [97, 100, 100], [115, 117, 98], [109, 117, 108], [100, 105, 118, 95, 115], [100, 105, 118, 95, 117], [114, 101, 109, 95, 115], [114, 101, 109, 95, 117], [97, 110, 100], [111, 114], [120, 111, 114], [115, 104, 108], [115, 104, 114, 95, 115], [115, 104, 114, 95, 117], [114, 111, 116, 108], [114, 111, 116, 114]]
def nm21 : List (List Int) := put nm20 167 [105, 51, 50, 46] [[119, 114, 97, 112, 95, 105, 54, 52]]
def nm22 : List (List Int) := put nm21 172 [105, 54, 52, 46] [[101, 120, 116, 101, 110, 100, 95, 105, 51, 50, 95, 115], [101, 120, 116, 101, 110, 100, 95, 105, 51, 50, 95, 117]]
def names : List (List Int) := nm22
theorem nm0_length : nm0.length = 256 := by unfold nm0; exact List.length_replicate
theorem nm1_length : nm1.length = 256 := (put_length _ _ _ _).trans nm0_length
theorem nm2_length : nm2.length = 256 := (put_length _ _ _ _).trans nm1_length
theorem nm3_length : nm3.length = 256 := (put_length _ _ _ _).trans nm2_length
theorem nm4_length : nm4.length = 256 := (put_length _ _ _ _).trans nm3_length
theorem nm5_length : nm5.length = 256 := (put_length _ _ _ _).trans nm4_length
theorem nm6_length : nm6.length = 256 := (put_length _ _ _ _).trans nm5_length
theorem nm7_length : nm7.length = 256 := (put_length _ _ _ _).trans nm6_length
theorem nm8_length : nm8.length = 256 := (put_length _ _ _ _).trans nm7_length
theorem nm9_length : nm9.length = 256 := (put_length _ _ _ _).trans nm8_length
theorem nm10_length : nm10.length = 256 := (put_length _ _ _ _).trans nm9_length
theorem nm11_length : nm11.length = 256 := (put_length _ _ _ _).trans nm10_length
theorem nm12_length : nm12.length = 256 := (put_length _ _ _ _).trans nm11_length
theorem nm13_length : nm13.length = 256 := (put_length _ _ _ _).trans nm12_length
theorem nm14_length : nm14.length = 256 := (put_length _ _ _ _).trans nm13_length
theorem nm15_length : nm15.length = 256 := (put_length _ _ _ _).trans nm14_length
theorem nm16_length : nm16.length = 256 := (put_length _ _ _ _).trans nm15_length
theorem nm17_length : nm17.length = 256 := (put_length _ _ _ _).trans nm16_length
theorem nm18_length : nm18.length = 256 := (put_length _ _ _ _).trans nm17_length
theorem nm19_length : nm19.length = 256 := (put_length _ _ _ _).trans nm18_length
theorem nm20_length : nm20.length = 256 := (put_length _ _ _ _).trans nm19_length
theorem nm21_length : nm21.length = 256 := (put_length _ _ _ _).trans nm20_length
theorem nm22_length : nm22.length = 256 := (put_length _ _ _ _).trans nm21_length
theorem names_length : names.length = 256 := nm22_length
set_option maxRecDepth 100000 in
theorem names_range : ∀ l ∈ names, ∀ x ∈ l, InR .u8 x := by decide +kernel
set_option maxRecDepth 100000 in
theorem names_short : ∀ l ∈ names, l.length ≤ 40 := by decide +kernel
/-- the opcode of a name -/
def idx (n : List Int) : Option Nat := if n = [] then none else names.findIdx? (fun s => s == n)
theorem idx_some {n : List Int} {k : Nat} (hk : k < 256) (h : names.getD k default = n) (h0 : n ≠ []) (hno : ∀ j, j < k → ¬ (names.getD j default = n ∧ n ≠ [])) : idx n = some k := by
  unfold idx
  rw [if_neg h0, List.findIdx?_eq_some_iff_getElem]
  have hl := names_length
  refine ⟨by omega, ?_, fun j hj => ?_⟩
  · rw [List.getD_eq_getElem?_getD, List.getElem?_eq_getElem (by omega)] at h
    simpa using h
  · have := hno j hj
    rw [List.getD_eq_getElem?_getD, List.getElem?_eq_getElem (by omega)] at this
    simp only [Option.getD_some] at this
    simp only [beq_iff_eq, Bool.not_eq_true, beq_eq_false_iff_ne]
    exact fun e => this ⟨e, h0⟩
theorem idx_none {n : List Int} (hno : ∀ j, j < 256 → ¬ (names.getD j default = n ∧ n ≠ [])) : idx n = none := by
  unfold idx
  split
  · rfl
  · next h0 =>
    rw [List.findIdx?_eq_none_iff]
    intro x hx
    obtain ⟨j, hj, e⟩ := List.getElem_of_mem hx
    have := hno j (by rw [← names_length]; exact hj)
    rw [List.getD_eq_getElem?_getD, List.getElem?_eq_getElem hj] at this
    simp only [Option.getD_some] at this
    simp only [beq_eq_false_iff_ne]
    exact fun e2 => this ⟨by rw [e, e2], h0⟩
/-- what Find answers -/
def find (n : List Int) : Value := match idx n with
  | some k => .tuple #[.int .u8 (k : Nat), .bool true]
  | none => .tuple #[.int .u8 0, .bool false]
end Opc

theorem names_get {k : Nat} (h : k < 256) : Opc.names.getD k default ∈ Opc.names := by
  rw [List.getD_eq_getElem?_getD, List.getElem?_eq_getElem (by rw [Opc.names_length]; exact h)]
  exact List.getElem_mem _
theorem sv_cmp {l : List Int} {s : ByteArray} (hl : ∀ x ∈ l, InR .u8 x) : ((bstr l).toList == s.toList) = decide (l = ints s) := by
  rw [str_eq_ints, ints_bstr hl]
theorem over_all {cs us : List Value} (h : us.length = cs.length) : cs.take 0 ++ us ++ cs.drop (0 + us.length) = us := by simp [h]
theorem sv_cmp0 {l : List Int} (hl : ∀ x ∈ l, InR .u8 x) : ((bstr l).toList == (⟨#[]⟩ : ByteArray).toList) = decide (l = []) := sv_cmp hl

set_option maxRecDepth 100000 in
set_option maxHeartbeats 4000000 in
theorem put_any {H : Heap} (o : Nat) (a s : ByteArray) (g : Nat) (L fs : List (List Int)) (al : List Int) (hal : ints a = al) (hs : s.size < 1000000) (ha : ∀ (j : Nat) b, s.data.toList[j]? = some b → b.toNat < 128) (hf : (Go.Lib.fields s.data.toList).map (fun l => l.map fun b => (b.toNat : Int)) = fs) (hT : TabA H) (hb : H[g]? = some (.cells (L.map sv).toArray 44 (0, 0))) (hL : L.length = 256) (ho : o + fs.length ≤ 256) (hr : ∀ f ∈ fs, f.length ≤ 100 ∧ ∀ x ∈ f, InR .u8 x) (hsa : a.size ≤ 100) : Ct Tryd.prog 27 [.int .i64 (o : Nat), .string a, .string s, .pointer (some ⟨g, 0, none⟩)] H (fun u H' => u = .tuple #[] ∧ Fr g (.slice none 0 0) H H' ∧ H'[g]? = some (.cells ((Opc.put L o al fs).map sv).toArray 44 (0, 0))) := by
  refine Ct.mk Tryd.func27 rfl Tryd.ntmps27 rfl ?_
  intro W0 hW0
  have o0 : OldB 0 H H := OldB.refl _ H
  have hb0 := hb
  refine KC.seq ?_
  refine KC.region ?_
  refine KL.op (R.move rfl rfl) rfl rfl rfl ?_
  refine KL.call rfl rfl rfl rfl Tryd.call28 rfl rfl rfl (Fields_k s fs hs ha hf hT) ?_
  rintro _ H1 ⟨rfl, nw⟩
  have zc_H1 := (nw.1).1
  have o0 := o0.trans ((nw.1).b (by omega))
  have hsl := nw.2.2
  refine KL.op (R.len (ty := 0) rfl Tryd.underlying46 rfl) rfl rfl rfl ?_
  refine KL.op (R.move rfl rfl) rfl rfl rfl ?_
  refine KL.nil ?_
  refine KQ.seq ?_
  refine KC.block ?_
  refine KC.loopD (κ := Nat) [13, 14, 15, 16, 7, 8, 17, 18, 19, 20, 21, 22, 23, 24, 12] (fun k => [(12, .int .i64 (k : Nat))]) (fun k Hl => k ≤ fs.length ∧ Fr g (.slice none 0 0) H Hl ∧ Hl[H.size]? = some (.cells (fs.map sv).toArray 9 (0, 0)) ∧ H.size < Hl.size ∧ Hl[g]? = some (.cells ((Opc.put L o al (fs.take k)).map sv).toArray 44 (0, 0))) (fun k => fs.length - k) 0 ?_ ?_ ?_
  · exact (Sub.cons rfl (Ext.sub (Ext.refl _ _)))
  · exact ⟨Nat.zero_le _, Fr.ofOld nw.1, hsl, by have := nw.2.1; omega, by simpa [Opc.put] using nw.1.blk hb⟩
  · rintro k H2 ⟨hk, fr, hsl, hsz, hb⟩
    have o0 : OldB 0 H2 H2 := OldB.refl _ _
    refine KC.seq ?_
    refine KC.region ?_
    refine KL.op (R.lss rfl rfl rfl) rfl rfl rfl ?_
    refine KL.nil ?_
    refine KQ.seq ?_
    refine KC.seq ?_
    refine KC.iteL rfl ?_ ?_
    · intro hc13
      try simp only [decide_eq_true_eq, decide_eq_false_iff_not, Bool.not_eq_true', Bool.not_eq_false', Bool.and_eq_true, Bool.or_eq_false_iff] at hc13
      have hn := (nth_sv (L := fs) (j := k) (by omega))
      have hm : fs.getD k default ∈ fs := by rw [List.getD_eq_getElem?_getD, List.getElem?_eq_getElem (by omega)]; exact List.getElem_mem _
      have hfr := hr _ hm
      refine KC.skip ?_
      refine KQ.seq ?_
      refine KC.seq ?_
      refine KC.block ?_
      refine KC.seq ?_
      refine KC.region ?_
      refine KL.op (R.move rfl rfl) rfl rfl rfl ?_
      refine KL.op (run_index (j := k) rfl Tryd.underlying46 sz9 rfl rfl rfl (by omega)) rfl rfl rfl ?_
      refine KL.op (R.load rfl Tryd.underlying9 rfl rfl (by have e := add1 (Array.size H) 0 k; rw [Nat.zero_add] at e; rw [e]; exact cell_of hsl hn)) rfl rfl rfl ?_
      refine KL.op (R.assign rfl rfl) rfl rfl rfl ?_
      refine KL.op (R.assign rfl rfl) rfl rfl rfl ?_
      refine KL.nil ?_
      refine KQ.seq ?_
      refine KC.region ?_
      refine KL.op (R.move rfl rfl) rfl rfl rfl ?_
      refine KL.op (R.move rfl rfl) rfl rfl rfl ?_
      refine KL.op ((R.add rfl rfl rfl (by dsimp only [InR]; omega)).val (congrArg (Value.int .i64) (show (o : Int) + (k : Int) = ((o + k : Nat) : Int) by omega))) rfl rfl rfl ?_
      refine KL.op (R.move rfl rfl) rfl rfl rfl ?_
      refine KL.op (R.move rfl rfl) rfl rfl rfl ?_
      refine KL.op ((R.addStr rfl rfl rfl (by have := hfr.1; have h2 := bstr_size hfr.2; omega)).val (show Value.string _ = sv (al ++ fs.getD k default) from congrArg Value.string (by rw [bstr_app hfr.2, hal]))) rfl rfl rfl ?_
      refine KL.op (R.at1 (j := o + k) rfl Tryd.underlying44 sz9 rfl rfl rfl (by omega)) rfl rfl rfl ?_
      refine KL.opS (S.store rfl sz9 rfl rfl rfl rfl hb (by simp only [List.length_map, Opc.put_length]; omega)) rfl rfl ?_
      rintro H3 ⟨uu, hb⟩
      have zu := uu.1
      have hgne : g ≠ H.size := fun e => by have := blk_lt hb0; omega
      have hsl := (uu.2 _ (fun e => hgne e.symm)).trans hsl
      have fr := fr.upd uu
      refine KL.nil ?_
      refine KQ.normBlock ?_
      refine KQ.seq ?_
      refine KC.region ?_
      refine KL.op ((R.add rfl rfl rfl (by dsimp only [InR]; omega)).val (congrArg (Value.int .i64) (show (k : Int) + 1 = ((k + 1 : Nat) : Int) by omega))) rfl rfl rfl ?_
      refine KL.op (R.move rfl rfl) rfl rfl rfl ?_
      refine KL.nil ?_
      refine KQ.again (k + 1) ?_ ?_ ?_
      · exact (Sub.cons rfl (Ext.sub (by repeat (first | exact Ext.refl _ _ | refine Ext.put rfl ?_ | refine Ext.drop rfl ?_))))
      · omega
      · exact ⟨by omega, fr, hsl, by omega, by rw [Opc.put_step (by omega)]; rw [List.map_set]; exact hb⟩
    · intro hc13
      try simp only [decide_eq_true_eq, decide_eq_false_iff_not, Bool.not_eq_true', Bool.not_eq_false', Bool.and_eq_true, Bool.or_eq_false_iff] at hc13
      refine KC.exit ?_
      refine KQ.exitThen ?_
      refine KQ.exitThen ?_
      refine KQ.hit ?_
      refine KQ.fin0 Tryd.results27 ?_
      have hkl : k = fs.length := by omega
      subst hkl
      rw [List.take_length] at hb
      exact ⟨rfl, fr, hb⟩

theorem asc_of {l : List UInt8} (h : (l.all fun b => decide (b.toNat < 128)) = true) (j : Nat) (b : UInt8) (hj : l[j]? = some b) : b.toNat < 128 :=
  of_decide_eq_true (List.all_eq_true.1 h b (List.mem_of_getElem? hj))

set_option maxRecDepth 100000 in
set_option maxHeartbeats 4000000 in
theorem names_any {H : Heap} (hT : TabA H) : Ct Tryd.prog 25 [] H (fun u H' => u = .agg (Opc.names.map sv).toArray ∧ Old H H') := by
  refine Ct.mk Tryd.func25 rfl Tryd.ntmps25 rfl ?_
  intro W0 hW0
  have o0 : Old H H := Old.refl H
  refine KC.seq ?_
  refine KC.region ?_
  refine KL.opM (M.alloc (cs := Opc.nm0.map sv) rfl zr44 (by kernel_rfl)) rfl rfl rfl ?_
  rintro _ H1 ⟨rfl, n1⟩
  have z1 := n1.2.1
  have o0 := o0.trans n1.1
  have b1 := n1.2.2
  have bR := b1
  refine KL.nil ?_
  refine KQ.seq ?_
  refine KC.seq ?_
  refine KC.region ?_
  refine KL.opM (M.alloc (cs := Opc.nm0.map sv) rfl zr44 (by kernel_rfl)) rfl rfl rfl ?_
  rintro _ H2 ⟨rfl, n2⟩
  have z2 := n2.2.1
  have o0 := o0.trans n2.1
  have bR := (n2.1).blk bR
  have b2 := n2.2.2
  have bL := b2
  refine KL.nil ?_
  refine KQ.seq ?_
  refine KC.seq ?_
  refine KC.region ?_
  refine KL.op (R.makeFunc rfl rfl rfl) rfl rfl rfl ?_
  refine KL.op (R.assign rfl rfl) rfl rfl rfl ?_
  refine KL.nil ?_
  refine KQ.seq ?_
  refine KC.seq ?_
  refine KC.region ?_
  refine KL.op (R.move rfl rfl) rfl rfl rfl ?_
  refine KL.call rfl rfl rfl rfl Tryd.call27 rfl rfl rfl (put_any (H := H2) 0 _ _ _ Opc.nm0 [[117, 110, 114, 101, 97, 99, 104, 97, 98, 108, 101], [110, 111, 112], [98, 108, 111, 99, 107], [108, 111, 111, 112], [105, 102], [101, 108, 115, 101]] [] (by kernel_rfl) (by decide) (fun j b hj => asc_of (by decide +kernel) j b hj) (by decide +kernel) (hT.old o0) bL Opc.nm0_length (by decide) (by decide) (by decide)) ?_
  rintro _ H3 ⟨rfl, fr, hbL⟩
  have ob := fr.oldB (B := Array.size H1) (by omega) (by omega) (.inl rfl)
  have z_ob := ob.1
  have o0 := o0.then ob (by omega)
  have bR := (ob.2 _ (by omega)).trans bR
  have bL : H3[Array.size H1]? = some (.cells (Opc.nm1.map sv).toArray 44 (0, 0)) := hbL
  refine KL.nil ?_
  refine KQ.seq ?_
  refine KC.seq ?_
  refine KC.region ?_
  refine KL.op (R.move rfl rfl) rfl rfl rfl ?_
  refine KL.call rfl rfl rfl rfl Tryd.call27 rfl rfl rfl (put_any (H := H3) 11 _ _ _ Opc.nm1 [[101, 110, 100], [98, 114], [98, 114, 95, 105, 102], [98, 114, 95, 116, 97, 98, 108, 101], [114, 101, 116, 117, 114, 110], [99, 97, 108, 108], [99, 97, 108, 108, 95, 105, 110, 100, 105, 114, 101, 99, 116]] [] (by kernel_rfl) (by decide) (fun j b hj => asc_of (by decide +kernel) j b hj) (by decide +kernel) (hT.old o0) bL Opc.nm1_length (by decide) (by decide) (by decide)) ?_
  rintro _ H4 ⟨rfl, fr, hbL⟩
  have ob := fr.oldB (B := Array.size H1) (by omega) (by omega) (.inl rfl)
  have z_ob := ob.1
  have o0 := o0.then ob (by omega)
  have bR := (ob.2 _ (by omega)).trans bR
  have bL : H4[Array.size H1]? = some (.cells (Opc.nm2.map sv).toArray 44 (0, 0)) := hbL
  refine KL.nil ?_
  refine KQ.seq ?_
  refine KC.seq ?_
  refine KC.region ?_
  refine KL.op (R.move rfl rfl) rfl rfl rfl ?_
  refine KL.call rfl rfl rfl rfl Tryd.call27 rfl rfl rfl (put_any (H := H4) 26 _ _ _ Opc.nm2 [[100, 114, 111, 112], [115, 101, 108, 101, 99, 116]] [] (by kernel_rfl) (by decide) (fun j b hj => asc_of (by decide +kernel) j b hj) (by decide +kernel) (hT.old o0) bL Opc.nm2_length (by decide) (by decide) (by decide)) ?_
  rintro _ H5 ⟨rfl, fr, hbL⟩
  have ob := fr.oldB (B := Array.size H1) (by omega) (by omega) (.inl rfl)
  have z_ob := ob.1
  have o0 := o0.then ob (by omega)
  have bR := (ob.2 _ (by omega)).trans bR
  have bL : H5[Array.size H1]? = some (.cells (Opc.nm3.map sv).toArray 44 (0, 0)) := hbL
  refine KL.nil ?_
  refine KQ.seq ?_
  refine KC.seq ?_
  refine KC.region ?_
  refine KL.op (R.move rfl rfl) rfl rfl rfl ?_
  refine KL.call rfl rfl rfl rfl Tryd.call27 rfl rfl rfl (put_any (H := H5) 32 _ _ _ Opc.nm3 [[103, 101, 116], [115, 101, 116], [116, 101, 101]] [108, 111, 99, 97, 108, 46] (by kernel_rfl) (by decide) (fun j b hj => asc_of (by decide +kernel) j b hj) (by decide +kernel) (hT.old o0) bL Opc.nm3_length (by decide) (by decide) (by decide)) ?_
  rintro _ H6 ⟨rfl, fr, hbL⟩
  have ob := fr.oldB (B := Array.size H1) (by omega) (by omega) (.inl rfl)
  have z_ob := ob.1
  have o0 := o0.then ob (by omega)
  have bR := (ob.2 _ (by omega)).trans bR
  have bL : H6[Array.size H1]? = some (.cells (Opc.nm4.map sv).toArray 44 (0, 0)) := hbL
  refine KL.nil ?_
  refine KQ.seq ?_
  refine KC.seq ?_
  refine KC.region ?_
  refine KL.op (R.move rfl rfl) rfl rfl rfl ?_
  refine KL.call rfl rfl rfl rfl Tryd.call27 rfl rfl rfl (put_any (H := H6) 35 _ _ _ Opc.nm4 [[103, 101, 116], [115, 101, 116]] [103, 108, 111, 98, 97, 108, 46] (by kernel_rfl) (by decide) (fun j b hj => asc_of (by decide +kernel) j b hj) (by decide +kernel) (hT.old o0) bL Opc.nm4_length (by decide) (by decide) (by decide)) ?_
  rintro _ H7 ⟨rfl, fr, hbL⟩
  have ob := fr.oldB (B := Array.size H1) (by omega) (by omega) (.inl rfl)
  have z_ob := ob.1
  have o0 := o0.then ob (by omega)
  have bR := (ob.2 _ (by omega)).trans bR
  have bL : H7[Array.size H1]? = some (.cells (Opc.nm5.map sv).toArray 44 (0, 0)) := hbL
  refine KL.nil ?_
  refine KQ.seq ?_
  refine KC.seq ?_
  refine KC.region ?_
  refine KL.op (R.move rfl rfl) rfl rfl rfl ?_
  refine KL.call rfl rfl rfl rfl Tryd.call27 rfl rfl rfl (put_any (H := H7) 40 _ _ _ Opc.nm5 [[108, 111, 97, 100]] [105, 51, 50, 46] (by kernel_rfl) (by decide) (fun j b hj => asc_of (by decide +kernel) j b hj) (by decide +kernel) (hT.old o0) bL Opc.nm5_length (by decide) (by decide) (by decide)) ?_
  rintro _ H8 ⟨rfl, fr, hbL⟩
  have ob := fr.oldB (B := Array.size H1) (by omega) (by omega) (.inl rfl)
  have z_ob := ob.1
  have o0 := o0.then ob (by omega)
  have bR := (ob.2 _ (by omega)).trans bR
  have bL : H8[Array.size H1]? = some (.cells (Opc.nm6.map sv).toArray 44 (0, 0)) := hbL
  refine KL.nil ?_
  refine KQ.seq ?_
  refine KC.seq ?_
  refine KC.region ?_
  refine KL.op (R.move rfl rfl) rfl rfl rfl ?_
  refine KL.call rfl rfl rfl rfl Tryd.call27 rfl rfl rfl (put_any (H := H8) 41 _ _ _ Opc.nm6 [[108, 111, 97, 100]] [105, 54, 52, 46] (by kernel_rfl) (by decide) (fun j b hj => asc_of (by decide +kernel) j b hj) (by decide +kernel) (hT.old o0) bL Opc.nm6_length (by decide) (by decide) (by decide)) ?_
  rintro _ H9 ⟨rfl, fr, hbL⟩
  have ob := fr.oldB (B := Array.size H1) (by omega) (by omega) (.inl rfl)
  have z_ob := ob.1
  have o0 := o0.then ob (by omega)
  have bR := (ob.2 _ (by omega)).trans bR
  have bL : H9[Array.size H1]? = some (.cells (Opc.nm7.map sv).toArray 44 (0, 0)) := hbL
  refine KL.nil ?_
  refine KQ.seq ?_
  refine KC.seq ?_
  refine KC.region ?_
  refine KL.op (R.move rfl rfl) rfl rfl rfl ?_
  refine KL.call rfl rfl rfl rfl Tryd.call27 rfl rfl rfl (put_any (H := H9) 44 _ _ _ Opc.nm7 [[108, 111, 97, 100, 56, 95, 115], [108, 111, 97, 100, 56, 95, 117], [108, 111, 97, 100, 49, 54, 95, 115], [108, 111, 97, 100, 49, 54, 95, 117]] [105, 51, 50, 46] (by kernel_rfl) (by decide) (fun j b hj => asc_of (by decide +kernel) j b hj) (by decide +kernel) (hT.old o0) bL Opc.nm7_length (by decide) (by decide) (by decide)) ?_
  rintro _ H10 ⟨rfl, fr, hbL⟩
  have ob := fr.oldB (B := Array.size H1) (by omega) (by omega) (.inl rfl)
  have z_ob := ob.1
  have o0 := o0.then ob (by omega)
  have bR := (ob.2 _ (by omega)).trans bR
  have bL : H10[Array.size H1]? = some (.cells (Opc.nm8.map sv).toArray 44 (0, 0)) := hbL
  refine KL.nil ?_
  refine KQ.seq ?_
  refine KC.seq ?_
  refine KC.region ?_
  refine KL.op (R.move rfl rfl) rfl rfl rfl ?_
  refine KL.call rfl rfl rfl rfl Tryd.call27 rfl rfl rfl (put_any (H := H10) 48 _ _ _ Opc.nm8 [[108, 111, 97, 100, 56, 95, 115], [108, 111, 97, 100, 56, 95, 117], [108, 111, 97, 100, 49, 54, 95, 115], [108, 111, 97, 100, 49, 54, 95, 117], [108, 111, 97, 100, 51, 50, 95, 115], [108, 111, 97, 100, 51, 50, 95, 117]] [105, 54, 52, 46] (by kernel_rfl) (by decide) (fun j b hj => asc_of (by decide +kernel) j b hj) (by decide +kernel) (hT.old o0) bL Opc.nm8_length (by decide) (by decide) (by decide)) ?_
  rintro _ H11 ⟨rfl, fr, hbL⟩
  have ob := fr.oldB (B := Array.size H1) (by omega) (by omega) (.inl rfl)
  have z_ob := ob.1
  have o0 := o0.then ob (by omega)
  have bR := (ob.2 _ (by omega)).trans bR
  have bL : H11[Array.size H1]? = some (.cells (Opc.nm9.map sv).toArray 44 (0, 0)) := hbL
  refine KL.nil ?_
  refine KQ.seq ?_
  refine KC.seq ?_
  refine KC.region ?_
  refine KL.op (R.move rfl rfl) rfl rfl rfl ?_
  refine KL.call rfl rfl rfl rfl Tryd.call27 rfl rfl rfl (put_any (H := H11) 54 _ _ _ Opc.nm9 [[115, 116, 111, 114, 101]] [105, 51, 50, 46] (by kernel_rfl) (by decide) (fun j b hj => asc_of (by decide +kernel) j b hj) (by decide +kernel) (hT.old o0) bL Opc.nm9_length (by decide) (by decide) (by decide)) ?_
  rintro _ H12 ⟨rfl, fr, hbL⟩
  have ob := fr.oldB (B := Array.size H1) (by omega) (by omega) (.inl rfl)
  have z_ob := ob.1
  have o0 := o0.then ob (by omega)
  have bR := (ob.2 _ (by omega)).trans bR
  have bL : H12[Array.size H1]? = some (.cells (Opc.nm10.map sv).toArray 44 (0, 0)) := hbL
  refine KL.nil ?_
  refine KQ.seq ?_
  refine KC.seq ?_
  refine KC.region ?_
  refine KL.op (R.move rfl rfl) rfl rfl rfl ?_
  refine KL.call rfl rfl rfl rfl Tryd.call27 rfl rfl rfl (put_any (H := H12) 55 _ _ _ Opc.nm10 [[115, 116, 111, 114, 101]] [105, 54, 52, 46] (by kernel_rfl) (by decide) (fun j b hj => asc_of (by decide +kernel) j b hj) (by decide +kernel) (hT.old o0) bL Opc.nm10_length (by decide) (by decide) (by decide)) ?_
  rintro _ H13 ⟨rfl, fr, hbL⟩
  have ob := fr.oldB (B := Array.size H1) (by omega) (by omega) (.inl rfl)
  have z_ob := ob.1
  have o0 := o0.then ob (by omega)
  have bR := (ob.2 _ (by omega)).trans bR
  have bL : H13[Array.size H1]? = some (.cells (Opc.nm11.map sv).toArray 44 (0, 0)) := hbL
  refine KL.nil ?_
  refine KQ.seq ?_
  refine KC.seq ?_
  refine KC.region ?_
  refine KL.op (R.move rfl rfl) rfl rfl rfl ?_
  refine KL.call rfl rfl rfl rfl Tryd.call27 rfl rfl rfl (put_any (H := H13) 58 _ _ _ Opc.nm11 [[115, 116, 111, 114, 101, 56], [115, 116, 111, 114, 101, 49, 54]] [105, 51, 50, 46] (by kernel_rfl) (by decide) (fun j b hj => asc_of (by decide +kernel) j b hj) (by decide +kernel) (hT.old o0) bL Opc.nm11_length (by decide) (by decide) (by decide)) ?_
  rintro _ H14 ⟨rfl, fr, hbL⟩
  have ob := fr.oldB (B := Array.size H1) (by omega) (by omega) (.inl rfl)
  have z_ob := ob.1
  have o0 := o0.then ob (by omega)
  have bR := (ob.2 _ (by omega)).trans bR
  have bL : H14[Array.size H1]? = some (.cells (Opc.nm12.map sv).toArray 44 (0, 0)) := hbL
  refine KL.nil ?_
  refine KQ.seq ?_
  refine KC.seq ?_
  refine KC.region ?_
  refine KL.op (R.move rfl rfl) rfl rfl rfl ?_
  refine KL.call rfl rfl rfl rfl Tryd.call27 rfl rfl rfl (put_any (H := H14) 60 _ _ _ Opc.nm12 [[115, 116, 111, 114, 101, 56], [115, 116, 111, 114, 101, 49, 54], [115, 116, 111, 114, 101, 51, 50]] [105, 54, 52, 46] (by kernel_rfl) (by decide) (fun j b hj => asc_of (by decide +kernel) j b hj) (by decide +kernel) (hT.old o0) bL Opc.nm12_length (by decide) (by decide) (by decide)) ?_
  rintro _ H15 ⟨rfl, fr, hbL⟩
  have ob := fr.oldB (B := Array.size H1) (by omega) (by omega) (.inl rfl)
  have z_ob := ob.1
  have o0 := o0.then ob (by omega)
  have bR := (ob.2 _ (by omega)).trans bR
  have bL : H15[Array.size H1]? = some (.cells (Opc.nm13.map sv).toArray 44 (0, 0)) := hbL
  refine KL.nil ?_
  refine KQ.seq ?_
  refine KC.seq ?_
  refine KC.region ?_
  refine KL.op (R.move rfl rfl) rfl rfl rfl ?_
  refine KL.call rfl rfl rfl rfl Tryd.call27 rfl rfl rfl (put_any (H := H15) 63 _ _ _ Opc.nm13 [[115, 105, 122, 101], [103, 114, 111, 119]] [109, 101, 109, 111, 114, 121, 46] (by kernel_rfl) (by decide) (fun j b hj => asc_of (by decide +kernel) j b hj) (by decide +kernel) (hT.old o0) bL Opc.nm13_length (by decide) (by decide) (by decide)) ?_
  rintro _ H16 ⟨rfl, fr, hbL⟩
  have ob := fr.oldB (B := Array.size H1) (by omega) (by omega) (.inl rfl)
  have z_ob := ob.1
  have o0 := o0.then ob (by omega)
  have bR := (ob.2 _ (by omega)).trans bR
  have bL : H16[Array.size H1]? = some (.cells (Opc.nm14.map sv).toArray 44 (0, 0)) := hbL
  refine KL.nil ?_
  refine KQ.seq ?_
  refine KC.seq ?_
  refine KC.region ?_
  refine KL.op (R.move rfl rfl) rfl rfl rfl ?_
  refine KL.call rfl rfl rfl rfl Tryd.call27 rfl rfl rfl (put_any (H := H16) 65 _ _ _ Opc.nm14 [[99, 111, 110, 115, 116]] [105, 51, 50, 46] (by kernel_rfl) (by decide) (fun j b hj => asc_of (by decide +kernel) j b hj) (by decide +kernel) (hT.old o0) bL Opc.nm14_length (by decide) (by decide) (by decide)) ?_
  rintro _ H17 ⟨rfl, fr, hbL⟩
  have ob := fr.oldB (B := Array.size H1) (by omega) (by omega) (.inl rfl)
  have z_ob := ob.1
  have o0 := o0.then ob (by omega)
  have bR := (ob.2 _ (by omega)).trans bR
  have bL : H17[Array.size H1]? = some (.cells (Opc.nm15.map sv).toArray 44 (0, 0)) := hbL
  refine KL.nil ?_
  refine KQ.seq ?_
  refine KC.seq ?_
  refine KC.region ?_
  refine KL.op (R.move rfl rfl) rfl rfl rfl ?_
  refine KL.call rfl rfl rfl rfl Tryd.call27 rfl rfl rfl (put_any (H := H17) 66 _ _ _ Opc.nm15 [[99, 111, 110, 115, 116]] [105, 54, 52, 46] (by kernel_rfl) (by decide) (fun j b hj => asc_of (by decide +kernel) j b hj) (by decide +kernel) (hT.old o0) bL Opc.nm15_length (by decide) (by decide) (by decide)) ?_
  rintro _ H18 ⟨rfl, fr, hbL⟩
  have ob := fr.oldB (B := Array.size H1) (by omega) (by omega) (.inl rfl)
  have z_ob := ob.1
  have o0 := o0.then ob (by omega)
  have bR := (ob.2 _ (by omega)).trans bR
  have bL : H18[Array.size H1]? = some (.cells (Opc.nm16.map sv).toArray 44 (0, 0)) := hbL
  refine KL.nil ?_
  refine KQ.seq ?_
  refine KC.seq ?_
  refine KC.region ?_
  refine KL.op (R.move rfl rfl) rfl rfl rfl ?_
  refine KL.call rfl rfl rfl rfl Tryd.call27 rfl rfl rfl (put_any (H := H18) 69 _ _ _ Opc.nm16 [[101, 113, 122], [101, 113], [110, 101], [108, 116, 95, 115], [108, 116, 95, 117], [103, 116, 95, 115], [103, 116, 95, 117], [108, 101, 95, 115], [108, 101, 95, 117], [103, 101, 95, 115], [103, 101, 95, 117]] [105, 51, 50, 46] (by kernel_rfl) (by decide) (fun j b hj => asc_of (by decide +kernel) j b hj) (by decide +kernel) (hT.old o0) bL Opc.nm16_length (by decide) (by decide) (by decide)) ?_
  rintro _ H19 ⟨rfl, fr, hbL⟩
  have ob := fr.oldB (B := Array.size H1) (by omega) (by omega) (.inl rfl)
  have z_ob := ob.1
  have o0 := o0.then ob (by omega)
  have bR := (ob.2 _ (by omega)).trans bR
  have bL : H19[Array.size H1]? = some (.cells (Opc.nm17.map sv).toArray 44 (0, 0)) := hbL
  refine KL.nil ?_
  refine KQ.seq ?_
  refine KC.seq ?_
  refine KC.region ?_
  refine KL.op (R.move rfl rfl) rfl rfl rfl ?_
  refine KL.call rfl rfl rfl rfl Tryd.call27 rfl rfl rfl (put_any (H := H19) 80 _ _ _ Opc.nm17 [[101, 113, 122], [101, 113], [110, 101], [108, 116, 95, 115], [108, 116, 95, 117], [103, 116, 95, 115], [103, 116, 95, 117], [108, 101, 95, 115], [108, 101, 95, 117], [103, 101, 95, 115], [103, 101, 95, 117]] [105, 54, 52, 46] (by kernel_rfl) (by decide) (fun j b hj => asc_of (by decide +kernel) j b hj) (by decide +kernel) (hT.old o0) bL Opc.nm17_length (by decide) (by decide) (by decide)) ?_
  rintro _ H20 ⟨rfl, fr, hbL⟩
  have ob := fr.oldB (B := Array.size H1) (by omega) (by omega) (.inl rfl)
  have z_ob := ob.1
  have o0 := o0.then ob (by omega)
  have bR := (ob.2 _ (by omega)).trans bR
  have bL : H20[Array.size H1]? = some (.cells (Opc.nm18.map sv).toArray 44 (0, 0)) := hbL
  refine KL.nil ?_
  refine KQ.seq ?_
  refine KC.seq ?_
  refine KC.region ?_
  refine KL.op (R.move rfl rfl) rfl rfl rfl ?_
  refine KL.call rfl rfl rfl rfl Tryd.call27 rfl rfl rfl (put_any (H := H20) 103 _ _ _ Opc.nm18 [[99, 108, 122], [99, 116, 122], [112, 111, 112, 99, 110, 116], [97, 100, 100], [115, 117, 98], [109, 117, 108], [100, 105, 118, 95, 115], [100, 105, 118, 95, 117], [114, 101, 109, 95, 115], [114, 101, 109, 95, 117], [97, 110, 100], [111, 114], [120, 111, 114], [115, 104, 108], [115, 104, 114, 95, 115], [115, 104, 114, 95, 117], [114, 111, 116, 108], [114, 111, 116, 114]] [105, 51, 50, 46] (by kernel_rfl) (by decide) (fun j b hj => asc_of (by decide +kernel) j b hj) (by decide +kernel) (hT.old o0) bL Opc.nm18_length (by decide) (by decide) (by decide)) ?_
  rintro _ H21 ⟨rfl, fr, hbL⟩
  have ob := fr.oldB (B := Array.size H1) (by omega) (by omega) (.inl rfl)
  have z_ob := ob.1
  have o0 := o0.then ob (by omega)
  have bR := (ob.2 _ (by omega)).trans bR
  have bL : H21[Array.size H1]? = some (.cells (Opc.nm19.map sv).toArray 44 (0, 0)) := hbL
  refine KL.nil ?_
  refine KQ.seq ?_
  refine KC.seq ?_
  refine KC.region ?_
  refine KL.op (R.move rfl rfl) rfl rfl rfl ?_
  refine KL.call rfl rfl rfl rfl Tryd.call27 rfl rfl rfl (put_any (H := H21) 121 _ _ _ Opc.nm19 [[99, 108, 122], [99, 116, 122], [112, 111, 112, 99, 110, 116], [97, 100, 100], [115, 117, 98], [109, 117, 108], [100, 105, 118, 95, 115], [100, 105, 118, 95, 117], [114, 101, 109, 95, 115], [114, 101, 109, 95, 117], [97, 110, 100], [111, 114], [120, 111, 114], [115, 104, 108], [115, 104, 114, 95, 115], [115, 104, 114, 95, 117], [114, 111, 116, 108], [114, 111, 116, 114]] [105, 54, 52, 46] (by kernel_rfl) (by decide) (fun j b hj => asc_of (by decide +kernel) j b hj) (by decide +kernel) (hT.old o0) bL Opc.nm19_length (by decide) (by decide) (by decide)) ?_
  rintro _ H22 ⟨rfl, fr, hbL⟩
  have ob := fr.oldB (B := Array.size H1) (by omega) (by omega) (.inl rfl)
  have z_ob := ob.1
  have o0 := o0.then ob (by omega)
  have bR := (ob.2 _ (by omega)).trans bR
  have bL : H22[Array.size H1]? = some (.cells (Opc.nm20.map sv).toArray 44 (0, 0)) := hbL
  refine KL.nil ?_
  refine KQ.seq ?_
  refine KC.seq ?_
  refine KC.region ?_
  refine KL.op (R.move rfl rfl) rfl rfl rfl ?_
  refine KL.call rfl rfl rfl rfl Tryd.call27 rfl rfl rfl (put_any (H := H22) 167 _ _ _ Opc.nm20 [[119, 114, 97, 112, 95, 105, 54, 52]] [105, 51, 50, 46] (by kernel_rfl) (by decide) (fun j b hj => asc_of (by decide +kernel) j b hj) (by decide +kernel) (hT.old o0) bL Opc.nm20_length (by decide) (by decide) (by decide)) ?_
  rintro _ H23 ⟨rfl, fr, hbL⟩
  have ob := fr.oldB (B := Array.size H1) (by omega) (by omega) (.inl rfl)
  have z_ob := ob.1
  have o0 := o0.then ob (by omega)
  have bR := (ob.2 _ (by omega)).trans bR
  have bL : H23[Array.size H1]? = some (.cells (Opc.nm21.map sv).toArray 44 (0, 0)) := hbL
  refine KL.nil ?_
  refine KQ.seq ?_
  refine KC.seq ?_
  refine KC.region ?_
  refine KL.op (R.move rfl rfl) rfl rfl rfl ?_
  refine KL.call rfl rfl rfl rfl Tryd.call27 rfl rfl rfl (put_any (H := H23) 172 _ _ _ Opc.nm21 [[101, 120, 116, 101, 110, 100, 95, 105, 51, 50, 95, 115], [101, 120, 116, 101, 110, 100, 95, 105, 51, 50, 95, 117]] [105, 54, 52, 46] (by kernel_rfl) (by decide) (fun j b hj => asc_of (by decide +kernel) j b hj) (by decide +kernel) (hT.old o0) bL Opc.nm21_length (by decide) (by decide) (by decide)) ?_
  rintro _ H24 ⟨rfl, fr, hbL⟩
  have ob := fr.oldB (B := Array.size H1) (by omega) (by omega) (.inl rfl)
  have z_ob := ob.1
  have o0 := o0.then ob (by omega)
  have bR := (ob.2 _ (by omega)).trans bR
  have bL : H24[Array.size H1]? = some (.cells (Opc.nm22.map sv).toArray 44 (0, 0)) := hbL
  refine KL.nil ?_
  refine KQ.seq ?_
  refine KC.seq ?_
  refine KC.region ?_
  refine KL.op (R.loadAgg rfl Tryd.underlying44 rfl sz44 rfl (cells_of bL) (by simp [Opc.nm22_length])) rfl rfl rfl ?_
  refine KL.opS (S.storeAgg rfl sz44 rfl rfl ((by simp [Opc.nm22_length])) (by intro u hu; simp only [List.mem_map] at hu; obtain ⟨x, _, rfl⟩ := hu; rfl) bR (by simp [Opc.nm22_length, Opc.nm0_length])) rfl rfl ?_
  rintro H25 ⟨u25, b25⟩
  have o0 := o0.upd u25 (by omega)
  have zu25 := u25.1
  have bL := ((u25).2 _ (by omega)).trans bL
  have bR := b25
  rw [over_all (by simp [Opc.nm22_length, Opc.nm0_length])] at bR
  refine KL.nil ?_
  refine KQ.seq ?_
  refine KC.ret ?_
  refine KQ.ofRet ?_
  refine KQ.finCell Tryd.results25 rfl Tryd.underlying44 rfl sz44 (cells_of bR) (by simp [Opc.nm22_length]) ?_
  exact ⟨rfl, o0⟩

set_option maxRecDepth 100000 in
set_option maxHeartbeats 4000000 in
theorem Name_any {H : Heap} (op : Int) (r : InR .u8 op) (hT : TabA H) : Ct Tryd.prog 15 [.int .u8 op] H (fun u H' => u = sv (Opc.names.getD op.toNat default) ∧ Old H H') := by
  refine Ct.mk Tryd.func15 rfl Tryd.ntmps15 rfl ?_
  intro W0 hW0
  have o0 : Old H H := Old.refl H
  dsimp only [InR] at r
  refine KC.seq ?_
  refine KC.region ?_
  refine KL.op (R.assign rfl rfl) rfl rfl rfl ?_
  refine KL.nil ?_
  refine KQ.seq ?_
  refine KC.seq ?_
  refine KC.region ?_
  refine KL.call rfl rfl rfl rfl Tryd.call25 rfl rfl rfl (names_any hT) ?_
  rintro _ H1 ⟨rfl, on⟩
  have zc_H1 := (on).1
  have o0 := o0.trans on
  refine KL.opM (M.alloc (cs := List.replicate 256 (sv [])) rfl zr44 (by kernel_rfl)) rfl rfl rfl ?_
  rintro _ H2 ⟨rfl, n2⟩
  have z2 := n2.2.1
  have o0 := o0.trans n2.1
  have b2 := n2.2.2
  have bL := b2
  refine KL.opS (S.storeAgg rfl sz44 rfl rfl ((by simp [Opc.names_length])) (by intro u hu; simp only [List.mem_map] at hu; obtain ⟨x, _, rfl⟩ := hu; rfl) bL (by simp [Opc.names_length])) rfl rfl ?_
  rintro H3 ⟨u3, b3⟩
  have o0 := o0.upd u3 (by omega)
  have zu3 := u3.1
  have bL := b3
  rw [over_all (by simp [Opc.names_length])] at bL
  refine KL.nil ?_
  refine KQ.seq ?_
  refine KC.seq ?_
  refine KC.region ?_
  refine KL.op (R.move rfl rfl) rfl rfl rfl ?_
  refine KL.op (R.at1 (j := op.toNat) rfl Tryd.underlying44 sz9 rfl rfl (by omega) (by omega)) rfl rfl rfl ?_
  refine KL.op (R.load rfl Tryd.underlying9 rfl rfl (cell_of bL (nth_sv (by rw [Opc.names_length]; omega)))) rfl rfl rfl ?_
  refine KL.op (R.assign rfl rfl) rfl rfl rfl ?_
  refine KL.nil ?_
  refine KQ.seq ?_
  refine KC.ret ?_
  refine KQ.ofRet ?_
  refine KQ.fin1 Tryd.results15 rfl ?_
  exact ⟨rfl, o0⟩

set_option maxRecDepth 100000 in
set_option maxHeartbeats 4000000 in
theorem Find_any {H : Heap} (s : ByteArray) (hT : TabA H) : Ct Tryd.prog 17 [.string s] H (fun u H' => u = Opc.find (ints s) ∧ Old H H') := by
  refine Ct.mk Tryd.func17 rfl Tryd.ntmps17 rfl ?_
  intro W0 hW0
  have o0 : Old H H := Old.refl H
  refine KC.seq ?_
  refine KC.region ?_
  refine KL.op (R.assign rfl rfl) rfl rfl rfl ?_
  refine KL.op (R.assign rfl rfl) rfl rfl rfl ?_
  refine KL.nil ?_
  refine KQ.seq ?_
  refine KC.scope ?_
  refine KC.seq ?_
  refine KC.region ?_
  refine KL.op (R.assign rfl rfl) rfl rfl rfl ?_
  refine KL.nil ?_
  refine KQ.seq ?_
  refine KC.seq ?_
  refine KC.label ?_
  refine KQ.seq ?_
  refine KC.seq ?_
  refine KC.seq ?_
  refine KC.region ?_
  refine KL.call rfl rfl rfl rfl Tryd.call25 rfl rfl rfl (names_any hT) ?_
  rintro _ H1 ⟨rfl, on⟩
  have zc_H1 := (on).1
  have o0 := o0.trans on
  refine KL.op (R.move rfl rfl) rfl rfl rfl ?_
  refine KL.nil ?_
  refine KQ.seq ?_
  refine KC.block ?_
  refine KC.loopD (κ := Nat) [9, 10, 11, 5, 6, 12, 13, 14, 15, 16, 17, 18, 19, 4, 20, 8] (fun k => [(8, .int .i64 (k : Nat)), (4, .int .i64 (-1))]) (fun k Hl => k ≤ 256 ∧ H1 = Hl ∧ ∀ j, j < k → ¬ (Opc.names.getD j default = ints s ∧ ints s ≠ [])) (fun k => 256 - k) 0 ?_ ?_ ?_
  · exact (Sub.cons rfl (Sub.cons rfl (Ext.sub (Ext.refl _ _))))
  · exact ⟨Nat.zero_le _, rfl, fun j hj => by omega⟩
  · rintro k H2 ⟨hk, rfl, hno⟩
    refine KC.seq ?_
    refine KC.region ?_
    refine KL.op (R.lss rfl rfl rfl) rfl rfl rfl ?_
    refine KL.nil ?_
    refine KQ.seq ?_
    refine KC.seq ?_
    refine KC.iteL rfl ?_ ?_
    · intro hc9
      try simp only [decide_eq_true_eq, decide_eq_false_iff_not, Bool.not_eq_true', Bool.not_eq_false', Bool.and_eq_true, Bool.or_eq_false_iff] at hc9
      have hrg := Opc.names_range _ (names_get (k := k) (by omega))
      refine KC.skip ?_
      refine KQ.seq ?_
      refine KC.seq ?_
      refine KC.block ?_
      refine KC.seq ?_
      refine KC.region ?_
      refine KL.op (R.move rfl rfl) rfl rfl rfl ?_
      refine KL.op (R.indexArr rfl Tryd.underlying44 sz9 Tryd.underlying9 rfl rfl rfl rfl (by omega) (nth_sv (by rw [Opc.names_length]; omega))) rfl rfl rfl ?_
      refine KL.op (R.assign rfl rfl) rfl rfl rfl ?_
      refine KL.op (R.assign rfl rfl) rfl rfl rfl ?_
      refine KL.nil ?_
      refine KQ.seq ?_
      refine KC.seq ?_
      refine KC.region ?_
      refine KL.op (R.move rfl rfl) rfl rfl rfl ?_
      refine KL.op (R.move rfl rfl) rfl rfl rfl ?_
      refine KL.op ((R.eqlStr rfl rfl rfl).val (congrArg Value.bool (sv_cmp hrg))) rfl rfl rfl ?_
      refine KL.op (R.move rfl rfl) rfl rfl rfl ?_
      refine KL.case (d := 15) rfl ?_ ?_
      · intro hg15
        try simp only [decide_eq_true_eq, decide_eq_false_iff_not, Bool.not_eq_true', Bool.not_eq_false', Bool.and_eq_true, Bool.or_eq_false_iff] at hg15
        refine KL.op (R.move rfl rfl) rfl rfl rfl ?_
        refine KL.op ((R.neqStr rfl rfl rfl).val (congrArg (fun b => Value.bool (!b)) (sv_cmp0 hrg))) rfl rfl rfl ?_
        refine KL.op (R.pick rfl rfl rfl) rfl rfl rfl ?_
        refine KL.nil ?_
        refine KQ.seq ?_
        refine KC.iteL rfl ?_ ?_
        · intro hc18
          try simp only [decide_eq_true_eq, decide_eq_false_iff_not, Bool.not_eq_true', Bool.not_eq_false', Bool.and_eq_true, Bool.or_eq_false_iff] at hc18
          refine KC.seq ?_
          refine KC.region ?_
          refine KL.op (R.move rfl rfl) rfl rfl rfl ?_
          refine KL.op (R.assign rfl rfl) rfl rfl rfl ?_
          refine KL.nil ?_
          refine KQ.seq ?_
          refine KC.exit ?_
          refine KQ.miss rfl ?_
          refine KQ.exitThen ?_
          refine KQ.exitThen ?_
          refine KQ.hit ?_
          refine KQ.seq ?_
          refine KC.seq ?_
          refine KC.region ?_
          refine KL.op (R.move rfl rfl) rfl rfl rfl ?_
          refine KL.op (R.max rfl rfl rfl) rfl rfl rfl ?_
          refine KL.op (R.convI rfl Tryd.underlying3 Tryd.underlying5 rfl (by dsimp only [InR]; omega)) rfl rfl rfl ?_
          refine KL.op (R.move rfl rfl) rfl rfl rfl ?_
          refine KL.op (R.geq rfl rfl rfl) rfl rfl rfl ?_
          refine KL.op (R.assign rfl rfl) rfl rfl rfl ?_
          refine KL.op (R.assign rfl rfl) rfl rfl rfl ?_
          refine KL.nil ?_
          refine KQ.seq ?_
          refine KC.ret ?_
          refine KQ.retScope ?_
          refine KQ.ofRet ?_
          refine KQ.fin2 Tryd.results17 rfl rfl ?_
          first
            | (have hi : Opc.idx (ints s) = some k := Opc.idx_some (by omega) (by simp_all) (by simp_all) hno; exact ⟨by rw [Opc.find, hi, show max (k : Int) 0 = k by omega, show decide ((0 : Int) ≤ k) = true from decide_eq_true (by omega)], o0⟩)
            | (have hi : Opc.idx (ints s) = none := Opc.idx_none (fun j hj => hno j (by omega)); exact ⟨by rw [Opc.find, hi]; rfl, o0⟩)
        · intro hc18
          try simp only [decide_eq_true_eq, decide_eq_false_iff_not, Bool.not_eq_true', Bool.not_eq_false', Bool.and_eq_true, Bool.or_eq_false_iff] at hc18
          refine KC.skip ?_
          refine KQ.normBlock ?_
          refine KQ.seq ?_
          refine KC.region ?_
          refine KL.op ((R.add rfl rfl rfl (by dsimp only [InR]; omega)).val (congrArg (Value.int .i64) (show (k : Int) + 1 = ((k + 1 : Nat) : Int) by omega))) rfl rfl rfl ?_
          refine KL.op (R.move rfl rfl) rfl rfl rfl ?_
          refine KL.nil ?_
          refine KQ.again (k + 1) ?_ ?_ ?_
          · exact (Sub.cons rfl (Sub.cons rfl (Ext.sub (by repeat (first | exact Ext.refl _ _ | refine Ext.put rfl ?_ | refine Ext.drop rfl ?_)))))
          · omega
          · exact ⟨by omega, rfl, fun j hj => by
              by_cases e : j = k
              · subst e; first | (rintro ⟨e1, e2⟩; simp_all; done) | (rintro ⟨e1, e2⟩; exact absurd e1 ‹_›)
              · exact hno j (by omega)⟩
      · intro hg15
        try simp only [decide_eq_true_eq, decide_eq_false_iff_not, Bool.not_eq_true', Bool.not_eq_false', Bool.and_eq_true, Bool.or_eq_false_iff] at hg15
        refine KL.skip rfl rfl rfl ?_
        refine KL.skip rfl rfl rfl ?_
        refine KL.op (R.pick rfl rfl rfl) rfl rfl rfl ?_
        refine KL.nil ?_
        refine KQ.seq ?_
        refine KC.condF rfl ?_
        refine KC.skip ?_
        refine KQ.normBlock ?_
        refine KQ.seq ?_
        refine KC.region ?_
        refine KL.op ((R.add rfl rfl rfl (by dsimp only [InR]; omega)).val (congrArg (Value.int .i64) (show (k : Int) + 1 = ((k + 1 : Nat) : Int) by omega))) rfl rfl rfl ?_
        refine KL.op (R.move rfl rfl) rfl rfl rfl ?_
        refine KL.nil ?_
        refine KQ.again (k + 1) ?_ ?_ ?_
        · exact (Sub.cons rfl (Sub.cons rfl (Ext.sub (by repeat (first | exact Ext.refl _ _ | refine Ext.put rfl ?_ | refine Ext.drop rfl ?_)))))
        · omega
        · exact ⟨by omega, rfl, fun j hj => by
            by_cases e : j = k
            · subst e; first | (rintro ⟨e1, e2⟩; simp_all; done) | (rintro ⟨e1, e2⟩; exact absurd e1 ‹_›)
            · exact hno j (by omega)⟩
    · intro hc9
      try simp only [decide_eq_true_eq, decide_eq_false_iff_not, Bool.not_eq_true', Bool.not_eq_false', Bool.and_eq_true, Bool.or_eq_false_iff] at hc9
      refine KC.exit ?_
      refine KQ.exitThen ?_
      refine KQ.exitThen ?_
      refine KQ.hit ?_
      refine KQ.seq ?_
      refine KC.seq ?_
      refine KC.region ?_
      refine KL.op (R.move rfl rfl) rfl rfl rfl ?_
      refine KL.op (R.max rfl rfl rfl) rfl rfl rfl ?_
      refine KL.op (R.convI rfl Tryd.underlying3 Tryd.underlying5 rfl (by dsimp only [InR]; omega)) rfl rfl rfl ?_
      refine KL.op (R.move rfl rfl) rfl rfl rfl ?_
      refine KL.op (R.geq rfl rfl rfl) rfl rfl rfl ?_
      refine KL.op (R.assign rfl rfl) rfl rfl rfl ?_
      refine KL.op (R.assign rfl rfl) rfl rfl rfl ?_
      refine KL.nil ?_
      refine KQ.seq ?_
      refine KC.ret ?_
      refine KQ.retScope ?_
      refine KQ.ofRet ?_
      refine KQ.fin2 Tryd.results17 rfl rfl ?_
      first
        | (have hi : Opc.idx (ints s) = some k := Opc.idx_some (by omega) (by simp_all) (by simp_all) hno; exact ⟨by rw [Opc.find, hi, show max (k : Int) 0 = k by omega, show decide ((0 : Int) ≤ k) = true from decide_eq_true (by omega)], o0⟩)
        | (have hi : Opc.idx (ints s) = none := Opc.idx_none (fun j hj => hno j (by omega)); exact ⟨by rw [Opc.find, hi]; rfl, o0⟩)

end Go.Proofs.YthgdaacbhcondaaDoor
