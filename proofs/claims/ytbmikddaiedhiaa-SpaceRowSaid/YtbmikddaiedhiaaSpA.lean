/- Modules' parts in memory; copies of rows. No condition. -/
import Derived.Test.YtbmikddaiedhiaaKDel
import Derived.Test.YtbmikddaiedhiaaKMore
import Derived.Test.YtbmikddaiedhiaaKStr
import Derived.Test.YtbmikddaiedhiaaKText
import Derived.Test.YtbmikddaiedhiaaKScope
import Derived.Test.YtbmikddaiedhiaaKRow
namespace Go.Proofs.Ytbmikddaiedhiaa
open Go Go.RowKit
set_option linter.unusedVariables false
set_option linter.unusedSimpArgs false
set_option linter.unnecessarySimpa false

/-- a function's type; limits; a global's type; an import; an export -/
abbrev FTy := List Int × List Int
abbrev Lim := Int × Int
abbrev Glb := Int × Bool
structure Imp where
  md : ByteArray
  nm : ByteArray
  k : Int
  ty : Int
  lim : Lim
  glb : Glb
  deriving Inhabited
structure Exp where
  nm : ByteArray
  k : Int
  ix : Int
  deriving Inhabited
def EFTy : El FTy := fun H cs x => ∃ v w, cs = [v, w] ∧ Sl 1 (EInt .u8) H v x.1 ∧ Sl 1 (EInt .u8) H w x.2
instance keepsFTy : Keeps EFTy := ⟨fun ho h => by
  obtain ⟨v, w, hc, h1, h2⟩ := h
  exact ⟨v, w, hc, h1.old ho, h2.old ho⟩⟩
instance oneFTy : One EFTy := ⟨fun h u hu => by
  obtain ⟨v, w, rfl, h1, h2⟩ := h
  simp only [List.mem_cons, List.not_mem_nil, or_false] at hu
  rcases hu with rfl | rfl
  · exact h1.one
  · exact h2.one⟩
def Lim.cells (x : Lim) : List Value := [.int .u32 x.1, .int .i64 x.2]
def Glb.cells (x : Glb) : List Value := [.int .u8 x.1, .bool x.2]
def Imp.cells (x : Imp) : List Value := [.string x.md, .string x.nm, .int .u8 x.k, .int .u32 x.ty, .int .u32 x.lim.1, .int .i64 x.lim.2, .int .u8 x.glb.1, .bool x.glb.2]
def Exp.cells (x : Exp) : List Value := [.string x.nm, .int .u8 x.k, .int .u32 x.ix]
def Lim.R (x : Lim) : Prop := InR .u32 x.1 ∧ InR .i64 x.2
def Glb.R (x : Glb) : Prop := InR .u8 x.1
def Imp.R (x : Imp) : Prop := InR .u8 x.k ∧ InR .u32 x.ty ∧ Lim.R x.lim ∧ Glb.R x.glb
def Exp.R (x : Exp) : Prop := InR .u8 x.k ∧ InR .u32 x.ix
def ELim : El Lim := fun _ cs x => cs = Lim.cells x ∧ Lim.R x
def EGlb : El Glb := fun _ cs x => cs = Glb.cells x ∧ Glb.R x
def EImp : El Imp := fun _ cs x => cs = Imp.cells x ∧ Imp.R x
def EExp : El Exp := fun _ cs x => cs = Exp.cells x ∧ Exp.R x
instance : Keeps ELim := ⟨fun _ h => h⟩
instance : Keeps EGlb := ⟨fun _ h => h⟩
instance : Keeps EImp := ⟨fun _ h => h⟩
instance : Keeps EExp := ⟨fun _ h => h⟩
instance : One ELim := ⟨fun h u hu => by
  obtain ⟨rfl, _⟩ := h
  simp only [Lim.cells, List.mem_cons, List.not_mem_nil, or_false] at hu
  rcases hu with rfl | rfl <;> rfl⟩
instance : One EGlb := ⟨fun h u hu => by
  obtain ⟨rfl, _⟩ := h
  simp only [Glb.cells, List.mem_cons, List.not_mem_nil, or_false] at hu
  rcases hu with rfl | rfl <;> rfl⟩
instance : One EImp := ⟨fun h u hu => by
  obtain ⟨rfl, _⟩ := h
  simp only [Imp.cells, List.mem_cons, List.not_mem_nil, or_false] at hu
  rcases hu with rfl | rfl | rfl | rfl | rfl | rfl | rfl | rfl <;> rfl⟩
instance : One EExp := ⟨fun h u hu => by
  obtain ⟨rfl, _⟩ := h
  simp only [Exp.cells, List.mem_cons, List.not_mem_nil, or_false] at hu
  rcases hu with rfl | rfl | rfl <;> rfl⟩
theorem Sl.nilL {α : Type} {n : Nat} {E : El α} {H : Heap} {c : Nat} {l : List α} {m : Nat} (h : Sl n E H (.slice none m c) l) : l = [] := by
  obtain ⟨a, cap, e, h1, h2, h3, _⟩ := h
  injection e with e1 e2 e3
  have := h3 e1.symm
  exact List.eq_nil_of_length_eq_zero (by omega)

set_option maxRecDepth 100000 in
set_option maxHeartbeats 4000000 in
theorem Clone8_any {H : Heap} {v : Value} {l : List (Int)} (hs0 : Sl 1 (EInt .u8) H v l) (hl : l.length ≤ 100000000000) : Ct Try.prog 40 [v] H (fun u H' => Own 1 (EInt .u8) 5 #[] H.size H' u l ∧ Old H H') := by
  refine Ct.mk Try.func40 rfl Try.ntmps40 rfl ?_
  intro W0 hW0
  have o0 : Old H H := Old.refl H
  have hs := hs0
  obtain ⟨a, cp, rfl⟩ := hs0.val
  refine KC.seq ?_
  refine KC.region ?_
  refine KL.op (R.assign rfl rfl) rfl rfl rfl ?_
  refine KL.nil ?_
  refine KQ.seq ?_
  refine KC.seq ?_
  refine KC.seq ?_
  refine KC.region ?_
  refine KL.op (R.move rfl rfl) rfl rfl rfl ?_
  refine KL.op (R.eqlS rfl Try.underlying22 rfl rfl) rfl rfl rfl ?_
  refine KL.nil ?_
  refine KQ.seq ?_
  refine KC.iteL rfl ?_ ?_
  · intro hc4
    try simp only [decide_eq_true_eq, decide_eq_false_iff_not, Bool.not_eq_true', Bool.not_eq_false', Bool.and_eq_true, Bool.or_eq_false_iff] at hc4
    have ea : a = none := by cases a <;> simp_all
    subst ea
    have el := hs0.nilL
    subst el
    refine KC.seq ?_
    refine KC.region ?_
    refine KL.op (R.assign rfl rfl) rfl rfl rfl ?_
    refine KL.nil ?_
    refine KQ.seq ?_
    refine KC.ret ?_
    refine KQ.retThen ?_
    refine KQ.ofRet ?_
    refine KQ.fin1 Try.results40 rfl ?_
    first
      | exact ⟨Own.nil _ _ _ _ _ _, o0⟩
      | exact ⟨wa, o0⟩
  · intro hc4
    try simp only [decide_eq_true_eq, decide_eq_false_iff_not, Bool.not_eq_true', Bool.not_eq_false', Bool.and_eq_true, Bool.or_eq_false_iff] at hc4
    refine KC.skip ?_
    refine KQ.seq ?_
    refine KC.seq ?_
    refine KC.region ?_
    refine KL.opM (M.lit rfl Try.underlying22 zs5 (by decide) rfl rfl rfl) rfl rfl rfl ?_
    rintro _ H1 ⟨rfl, n1⟩
    have z1 := n1.2.1
    have o0 := o0.trans n1.1
    have hs := hs.old n1.1
    have b1 := n1.2.2
    have wa : Own 1 (EInt .u8) 5 #[] H.size H1 _ ([] : List (Int)) := Own.litN (l := []) n1 (Nat.le_refl _) rfl (by decide) rfl (by intro j x hj; cases hj)
    refine KL.op (R.move rfl rfl) rfl rfl rfl ?_
    have lt2 := wa.lt
    refine KL.opM (M.append rfl Try.underlying22 inf5 rfl (by decide) rfl rfl wa (by exact hs) (fun _ _ h _ => h) (by omega) (by simp; omega) (by unfold maxLen; simp; omega)) rfl rfl rfl ?_
    rintro v0 H2 ⟨w2, g2⟩
    try dsimp only at g2
    have ob2 := g2.oldB wa (by omega)
    have o0 := o0.then ob2 (by omega)
    have z2 := ob2.1
    have wa := w2
    rw [List.nil_append] at wa
    refine KL.op (R.assign rfl rfl) rfl rfl rfl ?_
    refine KL.nil ?_
    refine KQ.seq ?_
    refine KC.ret ?_
    refine KQ.ofRet ?_
    refine KQ.fin1 Try.results40 rfl ?_
    first
      | exact ⟨Own.nil _ _ _ _ _ _, o0⟩
      | exact ⟨wa, o0⟩

set_option maxRecDepth 100000 in
set_option maxHeartbeats 4000000 in
theorem CloneI_any {H : Heap} {v : Value} {l : List (Imp)} (hs0 : Sl 8 (EImp) H v l) (hl : l.length ≤ 100000000000) : Ct Try.prog 42 [v] H (fun u H' => Own 8 (EImp) 63 #[] H.size H' u l ∧ Old H H') := by
  refine Ct.mk Try.func42 rfl Try.ntmps42 rfl ?_
  intro W0 hW0
  have o0 : Old H H := Old.refl H
  have hs := hs0
  obtain ⟨a, cp, rfl⟩ := hs0.val
  refine KC.seq ?_
  refine KC.region ?_
  refine KL.op (R.assign rfl rfl) rfl rfl rfl ?_
  refine KL.nil ?_
  refine KQ.seq ?_
  refine KC.seq ?_
  refine KC.seq ?_
  refine KC.region ?_
  refine KL.op (R.move rfl rfl) rfl rfl rfl ?_
  refine KL.op (R.eqlS rfl Try.underlying28 rfl rfl) rfl rfl rfl ?_
  refine KL.nil ?_
  refine KQ.seq ?_
  refine KC.iteL rfl ?_ ?_
  · intro hc4
    try simp only [decide_eq_true_eq, decide_eq_false_iff_not, Bool.not_eq_true', Bool.not_eq_false', Bool.and_eq_true, Bool.or_eq_false_iff] at hc4
    have ea : a = none := by cases a <;> simp_all
    subst ea
    have el := hs0.nilL
    subst el
    refine KC.seq ?_
    refine KC.region ?_
    refine KL.op (R.assign rfl rfl) rfl rfl rfl ?_
    refine KL.nil ?_
    refine KQ.seq ?_
    refine KC.ret ?_
    refine KQ.retThen ?_
    refine KQ.ofRet ?_
    refine KQ.fin1 Try.results42 rfl ?_
    first
      | exact ⟨Own.nil _ _ _ _ _ _, o0⟩
      | exact ⟨wa, o0⟩
  · intro hc4
    try simp only [decide_eq_true_eq, decide_eq_false_iff_not, Bool.not_eq_true', Bool.not_eq_false', Bool.and_eq_true, Bool.or_eq_false_iff] at hc4
    refine KC.skip ?_
    refine KQ.seq ?_
    refine KC.seq ?_
    refine KC.region ?_
    refine KL.opM (M.lit rfl Try.underlying28 zs63 (by decide) rfl rfl rfl) rfl rfl rfl ?_
    rintro _ H1 ⟨rfl, n1⟩
    have z1 := n1.2.1
    have o0 := o0.trans n1.1
    have hs := hs.old n1.1
    have b1 := n1.2.2
    have wa : Own 8 (EImp) 63 #[] H.size H1 _ ([] : List (Imp)) := Own.litN (l := []) n1 (Nat.le_refl _) rfl (by decide) rfl (by intro j x hj; cases hj)
    refine KL.op (R.move rfl rfl) rfl rfl rfl ?_
    have lt2 := wa.lt
    refine KL.opM (M.append rfl Try.underlying28 inf63 rfl (by decide) rfl rfl wa (by exact hs) (fun _ _ h _ => h) (by omega) (by simp; omega) (by unfold maxLen; simp; omega)) rfl rfl rfl ?_
    rintro v0 H2 ⟨w2, g2⟩
    try dsimp only at g2
    have ob2 := g2.oldB wa (by omega)
    have o0 := o0.then ob2 (by omega)
    have z2 := ob2.1
    have wa := w2
    rw [List.nil_append] at wa
    refine KL.op (R.assign rfl rfl) rfl rfl rfl ?_
    refine KL.nil ?_
    refine KQ.seq ?_
    refine KC.ret ?_
    refine KQ.ofRet ?_
    refine KQ.fin1 Try.results42 rfl ?_
    first
      | exact ⟨Own.nil _ _ _ _ _ _, o0⟩
      | exact ⟨wa, o0⟩

set_option maxRecDepth 100000 in
set_option maxHeartbeats 4000000 in
theorem CloneE_any {H : Heap} {v : Value} {l : List (Exp)} (hs0 : Sl 3 (EExp) H v l) (hl : l.length ≤ 100000000000) : Ct Try.prog 27 [v] H (fun u H' => Own 3 (EExp) 69 #[] H.size H' u l ∧ Old H H') := by
  refine Ct.mk Try.func27 rfl Try.ntmps27 rfl ?_
  intro W0 hW0
  have o0 : Old H H := Old.refl H
  have hs := hs0
  obtain ⟨a, cp, rfl⟩ := hs0.val
  refine KC.seq ?_
  refine KC.region ?_
  refine KL.op (R.assign rfl rfl) rfl rfl rfl ?_
  refine KL.nil ?_
  refine KQ.seq ?_
  refine KC.seq ?_
  refine KC.seq ?_
  refine KC.region ?_
  refine KL.op (R.move rfl rfl) rfl rfl rfl ?_
  refine KL.op (R.eqlS rfl Try.underlying32 rfl rfl) rfl rfl rfl ?_
  refine KL.nil ?_
  refine KQ.seq ?_
  refine KC.iteL rfl ?_ ?_
  · intro hc4
    try simp only [decide_eq_true_eq, decide_eq_false_iff_not, Bool.not_eq_true', Bool.not_eq_false', Bool.and_eq_true, Bool.or_eq_false_iff] at hc4
    have ea : a = none := by cases a <;> simp_all
    subst ea
    have el := hs0.nilL
    subst el
    refine KC.seq ?_
    refine KC.region ?_
    refine KL.op (R.assign rfl rfl) rfl rfl rfl ?_
    refine KL.nil ?_
    refine KQ.seq ?_
    refine KC.ret ?_
    refine KQ.retThen ?_
    refine KQ.ofRet ?_
    refine KQ.fin1 Try.results27 rfl ?_
    first
      | exact ⟨Own.nil _ _ _ _ _ _, o0⟩
      | exact ⟨wa, o0⟩
  · intro hc4
    try simp only [decide_eq_true_eq, decide_eq_false_iff_not, Bool.not_eq_true', Bool.not_eq_false', Bool.and_eq_true, Bool.or_eq_false_iff] at hc4
    refine KC.skip ?_
    refine KQ.seq ?_
    refine KC.seq ?_
    refine KC.region ?_
    refine KL.opM (M.lit rfl Try.underlying32 zs69 (by decide) rfl rfl rfl) rfl rfl rfl ?_
    rintro _ H1 ⟨rfl, n1⟩
    have z1 := n1.2.1
    have o0 := o0.trans n1.1
    have hs := hs.old n1.1
    have b1 := n1.2.2
    have wa : Own 3 (EExp) 69 #[] H.size H1 _ ([] : List (Exp)) := Own.litN (l := []) n1 (Nat.le_refl _) rfl (by decide) rfl (by intro j x hj; cases hj)
    refine KL.op (R.move rfl rfl) rfl rfl rfl ?_
    have lt2 := wa.lt
    refine KL.opM (M.append rfl Try.underlying32 inf69 rfl (by decide) rfl rfl wa (by exact hs) (fun _ _ h _ => h) (by omega) (by simp; omega) (by unfold maxLen; simp; omega)) rfl rfl rfl ?_
    rintro v0 H2 ⟨w2, g2⟩
    try dsimp only at g2
    have ob2 := g2.oldB wa (by omega)
    have o0 := o0.then ob2 (by omega)
    have z2 := ob2.1
    have wa := w2
    rw [List.nil_append] at wa
    refine KL.op (R.assign rfl rfl) rfl rfl rfl ?_
    refine KL.nil ?_
    refine KQ.seq ?_
    refine KC.ret ?_
    refine KQ.ofRet ?_
    refine KQ.fin1 Try.results27 rfl ?_
    first
      | exact ⟨Own.nil _ _ _ _ _ _, o0⟩
      | exact ⟨wa, o0⟩

end Go.Proofs.Ytbmikddaiedhiaa
