/- A module as a value. No condition. -/
import Derived.Test.YtbmikddaiedhiaaSpG
namespace Go.Proofs.Ytbmikddaiedhiaa
open Go Go.RowKit
set_option linter.unusedVariables false
set_option linter.unusedSimpArgs false
set_option linter.unnecessarySimpa false

/-- a module, as far as it is looked at -/
structure Mo where
  types : List FTy
  imports : List Imp
  funcs : List Int
  tables : List Lim
  mems : List Lim
  globals : List Glb
  exports : List Exp
def EGl : El Glb := fun _ cs x => ∃ v, cs = [.int .u8 x.1, .bool x.2, v] ∧ v.oneCell' = true ∧ Glb.R x
instance : Keeps EGl := ⟨fun _ h => h⟩
instance : One EGl := ⟨fun h u hu => by
  obtain ⟨v, rfl, h1, _⟩ := h
  simp only [List.mem_cons, List.not_mem_nil, or_false] at hu
  rcases hu with rfl | rfl | rfl <;> first | rfl | exact h1⟩
/-- .. as a value -/
structure MV (H : Heap) (v0 v1 v2 v3 v4 v5 v6 v7 v8 v9 va vb : Value) (m : Mo) : Prop where
  t : Sl 2 EFTy H v0 m.types
  i : Sl 8 EImp H v1 m.imports
  f : Sl 1 (EInt .u32) H v2 m.funcs
  a : Sl 2 ELim H v3 m.tables
  mm : Sl 2 ELim H v4 m.mems
  g : Sl 3 EGl H v5 m.globals
  e : Sl 3 EExp H v6 m.exports
  o : v7.oneCell' = true ∧ v8.oneCell' = true ∧ v9.oneCell' = true ∧ va.oneCell' = true ∧ vb.oneCell' = true
theorem MV.old {H H' : Heap} {v0 v1 v2 v3 v4 v5 v6 v7 v8 v9 va vb : Value} {m : Mo} (h : MV H v0 v1 v2 v3 v4 v5 v6 v7 v8 v9 va vb m) (o : Old H H') : MV H' v0 v1 v2 v3 v4 v5 v6 v7 v8 v9 va vb m := ⟨h.t.old o, h.i.old o, h.f.old o, h.a.old o, h.mm.old o, h.g.old o, h.e.old o, h.o⟩


def ownK (m : Mo) : Nat → Nat
  | 0 => m.funcs.length
  | 1 => m.tables.length
  | 2 => m.mems.length
  | 3 => m.globals.length
  | _ => 0
theorem ownK_no {m : Mo} {k : Nat} (h : 3 < k) : ownK m k = 0 := by
  match k, h with
  | k + 4, _ => rfl

set_option maxRecDepth 100000 in
set_option maxHeartbeats 4000000 in
theorem ROwn_any {H : Heap} {v0 v1 v2 v3 v4 v5 v6 v7 v8 v9 va vb : Value} {m : Mo} (mv : MV H v0 v1 v2 v3 v4 v5 v6 v7 v8 v9 va vb m) (k : Nat) : Ct Try.prog 39 [.agg [v0, v1, v2, v3, v4, v5, v6, v7, v8, v9, va, vb].toArray, .int .u8 (k : Nat)] H (fun u H' => u = .int .i64 (ownK m k : Nat) ∧ Old H H') := by
  refine Ct.mk Try.func39 rfl Try.ntmps39 rfl ?_
  intro W0 hW0
  have o0 : Old H H := Old.refl H
  refine KC.seq ?_
  refine KC.region ?_
  refine KL.opM (M.box rfl rfl rfl) rfl rfl rfl ?_
  rintro _ H1 ⟨rfl, n1⟩
  have z1 := n1.2.1
  have o0 := o0.trans n1.1
  have mv := mv.old n1.1
  have b1 := n1.2.2
  have bx := b1
  refine KL.op (R.assign rfl rfl) rfl rfl rfl ?_
  refine KL.nil ?_
  refine KQ.seq ?_
  refine KC.seq ?_
  refine KC.seq ?_
  refine KC.region ?_
  refine KL.op (R.move rfl rfl) rfl rfl rfl ?_
  refine KL.nil ?_
  refine KQ.seq ?_
  refine KC.block ?_
  refine KC.seq ?_
  refine KC.region ?_
  refine KL.op (R.eql rfl rfl rfl) rfl rfl rfl ?_
  refine KL.op (R.assign rfl rfl) rfl rfl rfl ?_
  refine KL.nil ?_
  refine KQ.seq ?_
  refine KC.iteL rfl ?_ ?_
  · intro hc6
    try simp only [decide_eq_true_eq, decide_eq_false_iff_not, Bool.not_eq_true', Bool.not_eq_false', Bool.and_eq_true, Bool.or_eq_false_iff] at hc6
    refine KC.seq ?_
    refine KC.region ?_
    refine KL.op ((by first | exact R.fieldAddr rfl Try.underlying38 rfl rfl sz29 rfl | exact R.fieldAddrP rfl Try.underlying38 rfl rfl sz29 rfl)) rfl rfl rfl ?_
    refine KL.op (R.load rfl Try.underlying29 rfl rfl (by first | exact cell_of bx rfl | assumption)) rfl rfl rfl ?_
    refine KL.op (R.lenS rfl Try.underlying29 rfl mv.f) rfl rfl rfl ?_
    refine KL.op (R.assign rfl rfl) rfl rfl rfl ?_
    refine KL.nil ?_
    refine KQ.seq ?_
    refine KC.ret ?_
    refine KQ.retBlock ?_
    refine KQ.retThen ?_
    refine KQ.ofRet ?_
    refine KQ.fin1 Try.results39 rfl ?_
    first
      | (have e : k = 0 := by omega
         subst e; exact ⟨rfl, o0⟩)
      | (have e : k = 1 := by omega
         subst e; exact ⟨rfl, o0⟩)
      | (have e : k = 2 := by omega
         subst e; exact ⟨rfl, o0⟩)
      | (have e : k = 3 := by omega
         subst e; exact ⟨rfl, o0⟩)
      | exact ⟨by rw [ownK_no (by omega)]; rfl, o0⟩
  · intro hc6
    try simp only [decide_eq_true_eq, decide_eq_false_iff_not, Bool.not_eq_true', Bool.not_eq_false', Bool.and_eq_true, Bool.or_eq_false_iff] at hc6
    refine KC.seq ?_
    refine KC.region ?_
    refine KL.op (R.eql rfl rfl rfl) rfl rfl rfl ?_
    refine KL.op (R.assign rfl rfl) rfl rfl rfl ?_
    refine KL.nil ?_
    refine KQ.seq ?_
    refine KC.iteL rfl ?_ ?_
    · intro hc11
      try simp only [decide_eq_true_eq, decide_eq_false_iff_not, Bool.not_eq_true', Bool.not_eq_false', Bool.and_eq_true, Bool.or_eq_false_iff] at hc11
      refine KC.seq ?_
      refine KC.region ?_
      refine KL.op ((by first | exact R.fieldAddr rfl Try.underlying38 rfl rfl sz30 rfl | exact R.fieldAddrP rfl Try.underlying38 rfl rfl sz30 rfl)) rfl rfl rfl ?_
      refine KL.op (R.load rfl Try.underlying30 rfl rfl (by first | exact cell_of bx rfl | assumption)) rfl rfl rfl ?_
      refine KL.op (R.lenS rfl Try.underlying30 rfl mv.a) rfl rfl rfl ?_
      refine KL.op (R.assign rfl rfl) rfl rfl rfl ?_
      refine KL.nil ?_
      refine KQ.seq ?_
      refine KC.ret ?_
      refine KQ.retBlock ?_
      refine KQ.retThen ?_
      refine KQ.ofRet ?_
      refine KQ.fin1 Try.results39 rfl ?_
      first
        | (have e : k = 0 := by omega
           subst e; exact ⟨rfl, o0⟩)
        | (have e : k = 1 := by omega
           subst e; exact ⟨rfl, o0⟩)
        | (have e : k = 2 := by omega
           subst e; exact ⟨rfl, o0⟩)
        | (have e : k = 3 := by omega
           subst e; exact ⟨rfl, o0⟩)
        | exact ⟨by rw [ownK_no (by omega)]; rfl, o0⟩
    · intro hc11
      try simp only [decide_eq_true_eq, decide_eq_false_iff_not, Bool.not_eq_true', Bool.not_eq_false', Bool.and_eq_true, Bool.or_eq_false_iff] at hc11
      refine KC.seq ?_
      refine KC.region ?_
      refine KL.op (R.eql rfl rfl rfl) rfl rfl rfl ?_
      refine KL.op (R.assign rfl rfl) rfl rfl rfl ?_
      refine KL.nil ?_
      refine KQ.seq ?_
      refine KC.iteL rfl ?_ ?_
      · intro hc16
        try simp only [decide_eq_true_eq, decide_eq_false_iff_not, Bool.not_eq_true', Bool.not_eq_false', Bool.and_eq_true, Bool.or_eq_false_iff] at hc16
        refine KC.seq ?_
        refine KC.region ?_
        refine KL.op ((by first | exact R.fieldAddr rfl Try.underlying38 rfl rfl sz30 rfl | exact R.fieldAddrP rfl Try.underlying38 rfl rfl sz30 rfl)) rfl rfl rfl ?_
        refine KL.op (R.load rfl Try.underlying30 rfl rfl (by first | exact cell_of bx rfl | assumption)) rfl rfl rfl ?_
        refine KL.op (R.lenS rfl Try.underlying30 rfl mv.mm) rfl rfl rfl ?_
        refine KL.op (R.assign rfl rfl) rfl rfl rfl ?_
        refine KL.nil ?_
        refine KQ.seq ?_
        refine KC.ret ?_
        refine KQ.retBlock ?_
        refine KQ.retThen ?_
        refine KQ.ofRet ?_
        refine KQ.fin1 Try.results39 rfl ?_
        first
          | (have e : k = 0 := by omega
             subst e; exact ⟨rfl, o0⟩)
          | (have e : k = 1 := by omega
             subst e; exact ⟨rfl, o0⟩)
          | (have e : k = 2 := by omega
             subst e; exact ⟨rfl, o0⟩)
          | (have e : k = 3 := by omega
             subst e; exact ⟨rfl, o0⟩)
          | exact ⟨by rw [ownK_no (by omega)]; rfl, o0⟩
      · intro hc16
        try simp only [decide_eq_true_eq, decide_eq_false_iff_not, Bool.not_eq_true', Bool.not_eq_false', Bool.and_eq_true, Bool.or_eq_false_iff] at hc16
        refine KC.seq ?_
        refine KC.region ?_
        refine KL.op (R.eql rfl rfl rfl) rfl rfl rfl ?_
        refine KL.op (R.assign rfl rfl) rfl rfl rfl ?_
        refine KL.nil ?_
        refine KQ.seq ?_
        refine KC.iteL rfl ?_ ?_
        · intro hc21
          try simp only [decide_eq_true_eq, decide_eq_false_iff_not, Bool.not_eq_true', Bool.not_eq_false', Bool.and_eq_true, Bool.or_eq_false_iff] at hc21
          refine KC.seq ?_
          refine KC.region ?_
          refine KL.op ((by first | exact R.fieldAddr rfl Try.underlying38 rfl rfl sz31 rfl | exact R.fieldAddrP rfl Try.underlying38 rfl rfl sz31 rfl)) rfl rfl rfl ?_
          refine KL.op (R.load rfl Try.underlying31 rfl rfl (by first | exact cell_of bx rfl | assumption)) rfl rfl rfl ?_
          refine KL.op (R.lenS rfl Try.underlying31 rfl mv.g) rfl rfl rfl ?_
          refine KL.op (R.assign rfl rfl) rfl rfl rfl ?_
          refine KL.nil ?_
          refine KQ.seq ?_
          refine KC.ret ?_
          refine KQ.retBlock ?_
          refine KQ.retThen ?_
          refine KQ.ofRet ?_
          refine KQ.fin1 Try.results39 rfl ?_
          first
            | (have e : k = 0 := by omega
               subst e; exact ⟨rfl, o0⟩)
            | (have e : k = 1 := by omega
               subst e; exact ⟨rfl, o0⟩)
            | (have e : k = 2 := by omega
               subst e; exact ⟨rfl, o0⟩)
            | (have e : k = 3 := by omega
               subst e; exact ⟨rfl, o0⟩)
            | exact ⟨by rw [ownK_no (by omega)]; rfl, o0⟩
        · intro hc21
          try simp only [decide_eq_true_eq, decide_eq_false_iff_not, Bool.not_eq_true', Bool.not_eq_false', Bool.and_eq_true, Bool.or_eq_false_iff] at hc21
          refine KC.skip ?_
          refine KQ.normBlock ?_
          refine KQ.seq ?_
          refine KC.seq ?_
          refine KC.region ?_
          refine KL.op (R.assign rfl rfl) rfl rfl rfl ?_
          refine KL.nil ?_
          refine KQ.seq ?_
          refine KC.ret ?_
          refine KQ.ofRet ?_
          refine KQ.fin1 Try.results39 rfl ?_
          first
            | (have e : k = 0 := by omega
               subst e; exact ⟨rfl, o0⟩)
            | (have e : k = 1 := by omega
               subst e; exact ⟨rfl, o0⟩)
            | (have e : k = 2 := by omega
               subst e; exact ⟨rfl, o0⟩)
            | (have e : k = 3 := by omega
               subst e; exact ⟨rfl, o0⟩)
            | exact ⟨by rw [ownK_no (by omega)]; rfl, o0⟩


/-- how many of a kind are imported -/
def impN (m : Mo) (k : Nat) : Nat := if k < 4 then (ofK k m.imports).length else 0

set_option maxRecDepth 100000 in
set_option maxHeartbeats 4000000 in
theorem RImp_any {H : Heap} {v0 v1 v2 v3 v4 v5 v6 v7 v8 v9 va vb : Value} {m : Mo} (mv : MV H v0 v1 v2 v3 v4 v5 v6 v7 v8 v9 va vb m) (kd : Nat) : Ct Try.prog 24 [.agg [v0, v1, v2, v3, v4, v5, v6, v7, v8, v9, va, vb].toArray, .int .u8 (kd : Nat)] H (fun u H' => u = .int .i64 (impN m kd : Nat) ∧ Old H H') := by
  refine Ct.mk Try.func24 rfl Try.ntmps24 rfl ?_
  intro W0 hW0
  have o0 : Old H H := Old.refl H
  have hlm := mv.i.lenM
  unfold maxLen at hlm
  refine KC.seq ?_
  refine KC.region ?_
  refine KL.opM (M.box rfl rfl rfl) rfl rfl rfl ?_
  rintro _ H1 ⟨rfl, n1⟩
  have z1 := n1.2.1
  have o0 := o0.trans n1.1
  have mv := mv.old n1.1
  have b1 := n1.2.2
  have bx := b1
  refine KL.op (R.assign rfl rfl) rfl rfl rfl ?_
  refine KL.nil ?_
  refine KQ.seq ?_
  refine KC.seq ?_
  refine KC.region ?_
  refine KL.op (R.assign rfl rfl) rfl rfl rfl ?_
  refine KL.nil ?_
  refine KQ.seq ?_
  refine KC.seq ?_
  refine KC.seq ?_
  refine KC.region ?_
  refine KL.op (R.assign rfl rfl) rfl rfl rfl ?_
  refine KL.nil ?_
  refine KQ.seq ?_
  refine KC.block ?_
  refine KC.loopD (κ := Nat × Nat) [7, 8, 9, 10, 11, 12, 13, 14, 15, 18, 19, 20, 21, 22, 23, 24, 25, 26, 27, 5, 16, 17, 6] (fun k => [(6, .int .i64 (k.1 : Nat)), (5, .int .i64 (k.2 : Nat))]) (fun k Hl => k.1 ≤ m.imports.length ∧ H1 = Hl ∧ (k.1 = 0 ∨ kd < 4) ∧ k.2 = (ofK kd (m.imports.take k.1)).length) (fun k => m.imports.length - k.1) (0, 0) ?_ ?_ ?_
  · exact (Sub.cons rfl (Sub.cons rfl (Ext.sub (Ext.refl _ _))))
  · exact ⟨Nat.zero_le _, rfl, .inl rfl, by simp [ofK]⟩
  · rintro ⟨k, n⟩ H2 ⟨hk, rfl, hkd, hn⟩
    dsimp only at hk hkd hn
    have hcn := ofK_len (k := (kd : Int)) (l := m.imports.take k)
    rw [List.length_take] at hcn
    refine KC.seq ?_
    refine KC.seq ?_
    refine KC.region ?_
    refine KL.op (R.move rfl rfl) rfl rfl rfl ?_
    refine KL.op ((by first | exact R.fieldAddr rfl Try.underlying38 rfl rfl sz28 rfl | exact R.fieldAddrP rfl Try.underlying38 rfl rfl sz28 rfl)) rfl rfl rfl ?_
    refine KL.op (R.load rfl Try.underlying28 rfl rfl (by first | exact cell_of bx rfl | assumption)) rfl rfl rfl ?_
    refine KL.op (R.lenS rfl Try.underlying28 rfl mv.i) rfl rfl rfl ?_
    refine KL.op (R.lss rfl rfl rfl) rfl rfl rfl ?_
    refine KL.op (R.move rfl rfl) rfl rfl rfl ?_
    refine KL.case (d := 12) rfl ?_ ?_
    · intro hg12
      try simp only [decide_eq_true_eq, decide_eq_false_iff_not, Bool.not_eq_true', Bool.not_eq_false', Bool.and_eq_true, Bool.or_eq_false_iff] at hg12
      refine KL.op (R.move rfl rfl) rfl rfl rfl ?_
      refine KL.op (R.lss rfl rfl rfl) rfl rfl rfl ?_
      refine KL.op (R.pick rfl rfl rfl) rfl rfl rfl ?_
      refine KL.nil ?_
      refine KQ.seq ?_
      refine KC.iteL rfl ?_ ?_
      · intro hc15
        try simp only [decide_eq_true_eq, decide_eq_false_iff_not, Bool.not_eq_true', Bool.not_eq_false', Bool.and_eq_true, Bool.or_eq_false_iff] at hc15
        have hst := ofK_step (k := (kd : Int)) (l := m.imports) (j := k) (by omega)
        obtain ⟨hcx, hxr⟩ := mv.i.impAt k (by omega)
        refine KC.skip ?_
        refine KQ.seq ?_
        refine KC.seq ?_
        refine KC.block ?_
        refine KC.seq ?_
        refine KC.region ?_
        refine KL.op ((by first | exact R.fieldAddr rfl Try.underlying38 rfl rfl sz28 rfl | exact R.fieldAddrP rfl Try.underlying38 rfl rfl sz28 rfl)) rfl rfl rfl ?_
        refine KL.op (R.load rfl Try.underlying28 rfl rfl (by first | exact cell_of bx rfl | assumption)) rfl rfl rfl ?_
        refine KL.op (R.move rfl rfl) rfl rfl rfl ?_
        refine KL.op (R.index (j := k) rfl Try.underlying28 sz63 rfl rfl mv.i rfl (by omega)) rfl rfl rfl ?_
        refine KL.op ((by first | exact R.fieldAddr rfl Try.underlying63 rfl rfl sz5 rfl | exact R.fieldAddrP rfl Try.underlying63 rfl rfl sz5 rfl)) rfl rfl rfl ?_
        refine KL.op (R.load rfl Try.underlying5 rfl rfl (hcx 2 _ rfl)) rfl rfl rfl ?_
        refine KL.op (R.move rfl rfl) rfl rfl rfl ?_
        refine KL.op (R.eql rfl rfl rfl) rfl rfl rfl ?_
        refine KL.nil ?_
        refine KQ.seq ?_
        refine KC.iteL rfl ?_ ?_
        · intro hc25
          try simp only [decide_eq_true_eq, decide_eq_false_iff_not, Bool.not_eq_true', Bool.not_eq_false', Bool.and_eq_true, Bool.or_eq_false_iff] at hc25
          rw [if_pos (by unfold isK; exact decide_eq_true hc25)] at hst
          have hst2 := congrArg List.length hst
          rw [List.length_append, List.length_singleton] at hst2
          refine KC.region ?_
          refine KL.op (R.move rfl rfl) rfl rfl rfl ?_
          refine KL.op ((R.add rfl rfl rfl (by dsimp only [InR]; omega)).val (congrArg (Value.int .i64) (show (n : Int) + 1 = ((n + 1 : Nat) : Int) by omega))) rfl rfl rfl ?_
          refine KL.op (R.assign rfl rfl) rfl rfl rfl ?_
          refine KL.nil ?_
          refine KQ.normBlock ?_
          refine KQ.seq ?_
          refine KC.region ?_
          refine KL.op (R.move rfl rfl) rfl rfl rfl ?_
          refine KL.op ((R.add rfl rfl rfl (by dsimp only [InR]; omega)).val (congrArg (Value.int .i64) (show (k : Int) + 1 = ((k + 1 : Nat) : Int) by omega))) rfl rfl rfl ?_
          refine KL.op (R.assign rfl rfl) rfl rfl rfl ?_
          refine KL.nil ?_
          refine KQ.again ((k + 1, n + 1)) ?_ ?_ ?_
          · exact (Sub.cons rfl (Sub.cons rfl (Ext.sub (by repeat (first | exact Ext.refl _ _ | refine Ext.put rfl ?_ | refine Ext.drop rfl ?_)))))
          · show m.imports.length - (k + 1) < m.imports.length - k; omega
          · exact ⟨by show k + 1 ≤ _; omega, rfl, .inr (by omega), by dsimp only; omega⟩
        · intro hc25
          try simp only [decide_eq_true_eq, decide_eq_false_iff_not, Bool.not_eq_true', Bool.not_eq_false', Bool.and_eq_true, Bool.or_eq_false_iff] at hc25
          rw [if_neg (by unfold isK; simpa using hc25), List.append_nil] at hst
          have hst2 := congrArg List.length hst
          refine KC.skip ?_
          refine KQ.normBlock ?_
          refine KQ.seq ?_
          refine KC.region ?_
          refine KL.op (R.move rfl rfl) rfl rfl rfl ?_
          refine KL.op ((R.add rfl rfl rfl (by dsimp only [InR]; omega)).val (congrArg (Value.int .i64) (show (k : Int) + 1 = ((k + 1 : Nat) : Int) by omega))) rfl rfl rfl ?_
          refine KL.op (R.assign rfl rfl) rfl rfl rfl ?_
          refine KL.nil ?_
          refine KQ.again ((k + 1, n)) ?_ ?_ ?_
          · exact (Sub.cons rfl (Sub.cons rfl (Ext.sub (by repeat (first | exact Ext.refl _ _ | refine Ext.put rfl ?_ | refine Ext.drop rfl ?_)))))
          · show m.imports.length - (k + 1) < m.imports.length - k; omega
          · exact ⟨by show k + 1 ≤ _; omega, rfl, .inr (by omega), by dsimp only; omega⟩
      · intro hc15
        try simp only [decide_eq_true_eq, decide_eq_false_iff_not, Bool.not_eq_true', Bool.not_eq_false', Bool.and_eq_true, Bool.or_eq_false_iff] at hc15
        refine KC.exit ?_
        refine KQ.exitThen ?_
        refine KQ.exitThen ?_
        refine KQ.hit ?_
        refine KQ.seq ?_
        refine KC.seq ?_
        refine KC.region ?_
        refine KL.op (R.move rfl rfl) rfl rfl rfl ?_
        refine KL.op (R.assign rfl rfl) rfl rfl rfl ?_
        refine KL.nil ?_
        refine KQ.seq ?_
        refine KC.ret ?_
        refine KQ.ofRet ?_
        refine KQ.fin1 Try.results24 rfl ?_
        have e : impN m kd = (ofK kd (m.imports.take k)).length := by
          unfold impN
          first
            | (have hkl : k = m.imports.length := by omega
               rw [hkl, List.take_length]; split
               · rfl
               · rename_i h; have h0 : k = 0 := by omega
                 have : m.imports = [] := List.eq_nil_of_length_eq_zero (by omega)
                 rw [this]; rfl)
            | (have h0 : k = 0 := by omega
               subst h0; rw [if_neg (by omega)]; rfl)
        exact ⟨by rw [e, hn], o0⟩
    · intro hg12
      try simp only [decide_eq_true_eq, decide_eq_false_iff_not, Bool.not_eq_true', Bool.not_eq_false', Bool.and_eq_true, Bool.or_eq_false_iff] at hg12
      refine KL.skip rfl rfl rfl ?_
      refine KL.skip rfl rfl rfl ?_
      refine KL.op (R.pick rfl rfl rfl) rfl rfl rfl ?_
      refine KL.nil ?_
      refine KQ.seq ?_
      refine KC.condF rfl ?_
      refine KC.exit ?_
      refine KQ.exitThen ?_
      refine KQ.exitThen ?_
      refine KQ.hit ?_
      refine KQ.seq ?_
      refine KC.seq ?_
      refine KC.region ?_
      refine KL.op (R.move rfl rfl) rfl rfl rfl ?_
      refine KL.op (R.assign rfl rfl) rfl rfl rfl ?_
      refine KL.nil ?_
      refine KQ.seq ?_
      refine KC.ret ?_
      refine KQ.ofRet ?_
      refine KQ.fin1 Try.results24 rfl ?_
      have e : impN m kd = (ofK kd (m.imports.take k)).length := by
        unfold impN
        first
          | (have hkl : k = m.imports.length := by omega
             rw [hkl, List.take_length]; split
             · rfl
             · rename_i h; have h0 : k = 0 := by omega
               have : m.imports = [] := List.eq_nil_of_length_eq_zero (by omega)
               rw [this]; rfl)
          | (have h0 : k = 0 := by omega
             subst h0; rw [if_neg (by omega)]; rfl)
      exact ⟨by rw [e, hn], o0⟩

set_option maxRecDepth 100000 in
set_option maxHeartbeats 4000000 in
theorem RCount_any {H : Heap} {v0 v1 v2 v3 v4 v5 v6 v7 v8 v9 va vb : Value} {m : Mo} (mv : MV H v0 v1 v2 v3 v4 v5 v6 v7 v8 v9 va vb m) (kd : Nat) (hb : impN m kd + ownK m kd ≤ 1000000000) : Ct Try.prog 22 [.agg [v0, v1, v2, v3, v4, v5, v6, v7, v8, v9, va, vb].toArray, .int .u8 (kd : Nat)] H (fun u H' => u = .int .i64 (impN m kd + ownK m kd : Nat) ∧ Old H H') := by
  refine Ct.mk Try.func22 rfl Try.ntmps22 rfl ?_
  intro W0 hW0
  have o0 : Old H H := Old.refl H
  refine KC.seq ?_
  refine KC.region ?_
  refine KL.opM (M.box rfl rfl rfl) rfl rfl rfl ?_
  rintro _ H1 ⟨rfl, n1⟩
  have z1 := n1.2.1
  have o0 := o0.trans n1.1
  have mv := mv.old n1.1
  have b1 := n1.2.2
  have bx := b1
  refine KL.op (R.assign rfl rfl) rfl rfl rfl ?_
  refine KL.nil ?_
  refine KQ.seq ?_
  refine KC.seq ?_
  refine KC.text (clOf [(2, 2), (5, 2)]) (fun j Hc => (j = 0 ∨ j = 3) → Hc[Array.size H]? = some (.cells [v0, v1, v2, v3, v4, v5, v6, v7, v8, v9, va, vb].toArray 38 (0, 0))) (by kernel_rfl) (by kernel_rfl) (fun _ _ => bx) ?_
  refine KP.op rfl (fun Hg hg => R.loadAgg rfl Try.underlying38 rfl sz38 rfl (cells_of (hg (.inl rfl))) rfl) rfl rfl rfl ?_
  refine KP.op rfl (fun Hg hg => R.move rfl rfl) rfl rfl rfl ?_
  refine KP.call rfl rfl rfl rfl rfl Try.call24 rfl rfl rfl (RImp_any mv kd) (fun _ _ hR j _ _ _ => hR.2.blk bx) ?_
  rintro _ H2 ⟨rfl, ox⟩
  have zc_H2 := (ox).1
  have o0 := o0.trans ox
  have mv := mv.old ox
  have bx := (ox).blk bx
  refine KP.op rfl (fun Hg hg => R.loadAgg rfl Try.underlying38 rfl sz38 rfl (cells_of (hg (.inr rfl))) rfl) rfl rfl rfl ?_
  refine KP.op rfl (fun Hg hg => R.move rfl rfl) rfl rfl rfl ?_
  refine KP.call rfl rfl rfl rfl rfl Try.call39 rfl rfl rfl (ROwn_any mv kd) (fun _ _ hR j _ _ _ => hR.2.blk bx) ?_
  rintro _ H3 ⟨rfl, ox⟩
  have zc_H3 := (ox).1
  have o0 := o0.trans ox
  have mv := mv.old ox
  have bx := (ox).blk bx
  refine KP.op rfl (fun Hg hg => (R.add rfl rfl rfl (by dsimp only [InR]; omega)).val (congrArg (Value.int .i64) (show ((impN m kd : Nat) : Int) + (ownK m kd : Nat) = ((impN m kd + ownK m kd : Nat) : Int) by omega))) rfl rfl rfl ?_
  refine KP.op rfl (fun Hg hg => R.assign rfl rfl) rfl rfl rfl ?_
  refine KP.nil ?_
  refine KQ.seq ?_
  refine KC.ret ?_
  refine KQ.ofRet ?_
  refine KQ.fin1 Try.results22 rfl ?_
  exact ⟨rfl, o0⟩

end Go.Proofs.Ytbmikddaiedhiaa
