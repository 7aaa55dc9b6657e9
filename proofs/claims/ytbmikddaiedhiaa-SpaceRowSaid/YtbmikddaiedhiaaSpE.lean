/- A module's spaces in memory; what they hand back. No condition. -/
import Derived.Test.YtbmikddaiedhiaaSpD
namespace Go.Proofs.Ytbmikddaiedhiaa
open Go Go.RowKit
set_option linter.unusedVariables false
set_option linter.unusedSimpArgs false
set_option linter.unnecessarySimpa false

/-- a module's spaces -/
structure Spc where
  types : List FTy
  funcs : List Ty
  globals : List Glb
  tables : List Lim
  mems : List Lim
  imp : Nat × Nat × Nat × Nat
  exports : List Exp
/-- .. in memory -/
structure SP (H : Heap) (g : Nat) (vt vf vg va vm ve : Value) (s : Spc) : Prop where
  b : H[g]? = some (.cells [vt, vf, vg, va, vm, .int .i64 (s.imp.1 : Nat), .int .i64 (s.imp.2.1 : Nat), .int .i64 (s.imp.2.2.1 : Nat), .int .i64 (s.imp.2.2.2 : Nat), ve].toArray 74 (0, 0))
  t : Sl 2 EFTy H vt s.types
  f : Sl 3 ETy H vf s.funcs
  g : Sl 2 EGlb H vg s.globals
  a : Sl 2 ELim H va s.tables
  m : Sl 2 ELim H vm s.mems
  e : Sl 3 EExp H ve s.exports
theorem SP.old {H H' : Heap} {g : Nat} {vt vf vg va vm ve : Value} {s : Spc} (h : SP H g vt vf vg va vm ve s) (o : Old H H') : SP H' g vt vf vg va vm ve s := ⟨o.blk h.b, h.t.old o, h.f.old o, h.g.old o, h.a.old o, h.m.old o, h.e.old o⟩

set_option maxRecDepth 100000 in
set_option maxHeartbeats 4000000 in
theorem SGlobal_any {H : Heap} {g : Nat} {vt vf vg va vm ve : Value} {s : Spc} (sp : SP H g vt vf vg va vm ve s) (i : Nat) (hi : i ≤ 4294967295) : Ct Try.prog 13 [.pointer (some ⟨g, 0, none⟩), .int .u32 (i : Nat)] H (fun u H' => (∃ cs, u = .tuple #[.agg cs.toArray, .bool (decide (i < s.globals.length))] ∧ ((i < s.globals.length ∧ EGlb H cs (s.globals.getD i default)) ∨ (¬ i < s.globals.length ∧ cs = [.int .u8 0, .bool false]))) ∧ Old H H') := by
  refine Ct.mk Try.func13 rfl Try.ntmps13 rfl ?_
  intro W0 hW0
  have o0 : Old H H := Old.refl H
  refine KC.seq ?_
  refine KC.region ?_
  refine KL.opM (M.alloc rfl zr46 rfl) rfl rfl rfl ?_
  rintro _ H1 ⟨rfl, n1⟩
  have z1 := n1.2.1
  have o0 := o0.trans n1.1
  have sp := sp.old n1.1
  have b1 := n1.2.2
  have bq := b1
  refine KL.op (R.assign rfl rfl) rfl rfl rfl ?_
  refine KL.nil ?_
  refine KQ.seq ?_
  refine KC.seq ?_
  refine KC.seq ?_
  refine KC.region ?_
  refine KL.op (R.move rfl rfl) rfl rfl rfl ?_
  refine KL.op (R.eqlP rfl Try.underlying40 rfl rfl) rfl rfl rfl ?_
  refine KL.nil ?_
  refine KQ.seq ?_
  refine KC.condIs false rfl (by rfl) ?_
  refine KC.skip ?_
  refine KQ.seq ?_
  refine KC.seq ?_
  refine KC.region ?_
  refine KL.op (R.move rfl rfl) rfl rfl rfl ?_
  refine KL.op (R.nilCheck rfl rfl) rfl rfl rfl ?_
  refine KL.op ((by first | exact R.fieldAddr rfl Try.underlying74 rfl rfl sz71 rfl | exact R.fieldAddrP rfl Try.underlying74 rfl rfl sz71 rfl)) rfl rfl rfl ?_
  refine KL.op (R.load rfl Try.underlying71 rfl rfl (by first | exact cell_of sp.b rfl | exact cell_of bq rfl | assumption)) rfl rfl rfl ?_
  refine KL.op (R.move rfl rfl) rfl rfl rfl ?_
  refine KL.call rfl rfl rfl rfl Try.call36 rfl rfl rfl (atG_any sp.g i hi) ?_
  rintro _ H2 ⟨⟨cs, rfl, hcs⟩, ox⟩
  have zc_H2 := (ox).1
  have o0 := o0.trans ox
  have sp := sp.old ox
  have bq := (ox).blk bq
  have hone : ∀ u ∈ cs, u.oneCell' = true := by
    rcases hcs with ⟨_, h⟩ | ⟨_, h⟩
    · exact One.one h
    · subst h; intro u hu; simp only [List.mem_cons, List.not_mem_nil, or_false] at hu; rcases hu with rfl | rfl <;> rfl
  have hlen : cs.length = 2 := by
    rcases hcs with ⟨_, h⟩ | ⟨_, h⟩
    · rw [h.1]; rfl
    · rw [h]; rfl
  refine KL.op (R.extract rfl rfl rfl) rfl rfl rfl ?_
  refine KL.op (R.extract rfl rfl rfl) rfl rfl rfl ?_
  refine KL.opS (S.storeAgg (us := cs) rfl sz46 rfl rfl (hlen) (by exact hone) bq (by simp [hlen])) rfl rfl ?_
  rintro H3 ⟨u3, b3⟩
  have o0 := o0.upd u3 (by omega)
  have zu3 := u3.1
  have bq := b3
  rw [over_all (by rw [hlen]; rfl)] at bq
  refine KL.op (R.assign rfl rfl) rfl rfl rfl ?_
  refine KL.nil ?_
  refine KQ.seq ?_
  refine KC.ret ?_
  refine KQ.ofRet ?_
  refine KQ.finCell2 Try.results13 rfl Try.underlying46 rfl sz46 (cells_of bq) (hlen) rfl ?_
  exact ⟨⟨cs, rfl, hcs⟩, o0⟩

set_option maxRecDepth 100000 in
set_option maxHeartbeats 4000000 in
theorem STable_any {H : Heap} {g : Nat} {vt vf vg va vm ve : Value} {s : Spc} (sp : SP H g vt vf vg va vm ve s) (i : Nat) (hi : i ≤ 4294967295) : Ct Try.prog 15 [.pointer (some ⟨g, 0, none⟩), .int .u32 (i : Nat)] H (fun u H' => (∃ cs, u = .tuple #[.agg cs.toArray, .bool (decide (i < s.tables.length))] ∧ ((i < s.tables.length ∧ ELim H cs (s.tables.getD i default)) ∨ (¬ i < s.tables.length ∧ cs = [.int .u32 0, .int .i64 0]))) ∧ Old H H') := by
  refine Ct.mk Try.func15 rfl Try.ntmps15 rfl ?_
  intro W0 hW0
  have o0 : Old H H := Old.refl H
  refine KC.seq ?_
  refine KC.region ?_
  refine KL.opM (M.alloc rfl zr51 rfl) rfl rfl rfl ?_
  rintro _ H1 ⟨rfl, n1⟩
  have z1 := n1.2.1
  have o0 := o0.trans n1.1
  have sp := sp.old n1.1
  have b1 := n1.2.2
  have bq := b1
  refine KL.op (R.assign rfl rfl) rfl rfl rfl ?_
  refine KL.nil ?_
  refine KQ.seq ?_
  refine KC.seq ?_
  refine KC.seq ?_
  refine KC.region ?_
  refine KL.op (R.move rfl rfl) rfl rfl rfl ?_
  refine KL.op (R.eqlP rfl Try.underlying40 rfl rfl) rfl rfl rfl ?_
  refine KL.nil ?_
  refine KQ.seq ?_
  refine KC.condIs false rfl (by rfl) ?_
  refine KC.skip ?_
  refine KQ.seq ?_
  refine KC.seq ?_
  refine KC.region ?_
  refine KL.op (R.move rfl rfl) rfl rfl rfl ?_
  refine KL.op (R.nilCheck rfl rfl) rfl rfl rfl ?_
  refine KL.op ((by first | exact R.fieldAddr rfl Try.underlying74 rfl rfl sz30 rfl | exact R.fieldAddrP rfl Try.underlying74 rfl rfl sz30 rfl)) rfl rfl rfl ?_
  refine KL.op (R.load rfl Try.underlying30 rfl rfl (by first | exact cell_of sp.b rfl | exact cell_of bq rfl | assumption)) rfl rfl rfl ?_
  refine KL.op (R.move rfl rfl) rfl rfl rfl ?_
  refine KL.call rfl rfl rfl rfl Try.call38 rfl rfl rfl (atL_any sp.a i hi) ?_
  rintro _ H2 ⟨⟨cs, rfl, hcs⟩, ox⟩
  have zc_H2 := (ox).1
  have o0 := o0.trans ox
  have sp := sp.old ox
  have bq := (ox).blk bq
  have hone : ∀ u ∈ cs, u.oneCell' = true := by
    rcases hcs with ⟨_, h⟩ | ⟨_, h⟩
    · exact One.one h
    · subst h; intro u hu; simp only [List.mem_cons, List.not_mem_nil, or_false] at hu; rcases hu with rfl | rfl <;> rfl
  have hlen : cs.length = 2 := by
    rcases hcs with ⟨_, h⟩ | ⟨_, h⟩
    · rw [h.1]; rfl
    · rw [h]; rfl
  refine KL.op (R.extract rfl rfl rfl) rfl rfl rfl ?_
  refine KL.op (R.extract rfl rfl rfl) rfl rfl rfl ?_
  refine KL.opS (S.storeAgg (us := cs) rfl sz51 rfl rfl (hlen) (by exact hone) bq (by simp [hlen])) rfl rfl ?_
  rintro H3 ⟨u3, b3⟩
  have o0 := o0.upd u3 (by omega)
  have zu3 := u3.1
  have bq := b3
  rw [over_all (by rw [hlen]; rfl)] at bq
  refine KL.op (R.assign rfl rfl) rfl rfl rfl ?_
  refine KL.nil ?_
  refine KQ.seq ?_
  refine KC.ret ?_
  refine KQ.ofRet ?_
  refine KQ.finCell2 Try.results15 rfl Try.underlying51 rfl sz51 (cells_of bq) (hlen) rfl ?_
  exact ⟨⟨cs, rfl, hcs⟩, o0⟩

set_option maxRecDepth 100000 in
set_option maxHeartbeats 4000000 in
theorem SMem_any {H : Heap} {g : Nat} {vt vf vg va vm ve : Value} {s : Spc} (sp : SP H g vt vf vg va vm ve s) (i : Nat) (hi : i ≤ 4294967295) : Ct Try.prog 17 [.pointer (some ⟨g, 0, none⟩), .int .u32 (i : Nat)] H (fun u H' => (∃ cs, u = .tuple #[.agg cs.toArray, .bool (decide (i < s.mems.length))] ∧ ((i < s.mems.length ∧ ELim H cs (s.mems.getD i default)) ∨ (¬ i < s.mems.length ∧ cs = [.int .u32 0, .int .i64 0]))) ∧ Old H H') := by
  refine Ct.mk Try.func17 rfl Try.ntmps17 rfl ?_
  intro W0 hW0
  have o0 : Old H H := Old.refl H
  refine KC.seq ?_
  refine KC.region ?_
  refine KL.opM (M.alloc rfl zr51 rfl) rfl rfl rfl ?_
  rintro _ H1 ⟨rfl, n1⟩
  have z1 := n1.2.1
  have o0 := o0.trans n1.1
  have sp := sp.old n1.1
  have b1 := n1.2.2
  have bq := b1
  refine KL.op (R.assign rfl rfl) rfl rfl rfl ?_
  refine KL.nil ?_
  refine KQ.seq ?_
  refine KC.seq ?_
  refine KC.seq ?_
  refine KC.region ?_
  refine KL.op (R.move rfl rfl) rfl rfl rfl ?_
  refine KL.op (R.eqlP rfl Try.underlying40 rfl rfl) rfl rfl rfl ?_
  refine KL.nil ?_
  refine KQ.seq ?_
  refine KC.condIs false rfl (by rfl) ?_
  refine KC.skip ?_
  refine KQ.seq ?_
  refine KC.seq ?_
  refine KC.region ?_
  refine KL.op (R.move rfl rfl) rfl rfl rfl ?_
  refine KL.op (R.nilCheck rfl rfl) rfl rfl rfl ?_
  refine KL.op ((by first | exact R.fieldAddr rfl Try.underlying74 rfl rfl sz30 rfl | exact R.fieldAddrP rfl Try.underlying74 rfl rfl sz30 rfl)) rfl rfl rfl ?_
  refine KL.op (R.load rfl Try.underlying30 rfl rfl (by first | exact cell_of sp.b rfl | exact cell_of bq rfl | assumption)) rfl rfl rfl ?_
  refine KL.op (R.move rfl rfl) rfl rfl rfl ?_
  refine KL.call rfl rfl rfl rfl Try.call38 rfl rfl rfl (atL_any sp.m i hi) ?_
  rintro _ H2 ⟨⟨cs, rfl, hcs⟩, ox⟩
  have zc_H2 := (ox).1
  have o0 := o0.trans ox
  have sp := sp.old ox
  have bq := (ox).blk bq
  have hone : ∀ u ∈ cs, u.oneCell' = true := by
    rcases hcs with ⟨_, h⟩ | ⟨_, h⟩
    · exact One.one h
    · subst h; intro u hu; simp only [List.mem_cons, List.not_mem_nil, or_false] at hu; rcases hu with rfl | rfl <;> rfl
  have hlen : cs.length = 2 := by
    rcases hcs with ⟨_, h⟩ | ⟨_, h⟩
    · rw [h.1]; rfl
    · rw [h]; rfl
  refine KL.op (R.extract rfl rfl rfl) rfl rfl rfl ?_
  refine KL.op (R.extract rfl rfl rfl) rfl rfl rfl ?_
  refine KL.opS (S.storeAgg (us := cs) rfl sz51 rfl rfl (hlen) (by exact hone) bq (by simp [hlen])) rfl rfl ?_
  rintro H3 ⟨u3, b3⟩
  have o0 := o0.upd u3 (by omega)
  have zu3 := u3.1
  have bq := b3
  rw [over_all (by rw [hlen]; rfl)] at bq
  refine KL.op (R.assign rfl rfl) rfl rfl rfl ?_
  refine KL.nil ?_
  refine KQ.seq ?_
  refine KC.ret ?_
  refine KQ.ofRet ?_
  refine KQ.finCell2 Try.results17 rfl Try.underlying51 rfl sz51 (cells_of bq) (hlen) rfl ?_
  exact ⟨⟨cs, rfl, hcs⟩, o0⟩


/-- what is at a place, or none -/
def tyAt (l : List FTy) (i : Nat) : FTy := if i < l.length then l.getD i default else ([], [])
def fnAt (l : List Ty) (i : Nat) : Ty := if i < l.length then l.getD i default else (([], []), false)
theorem atF_at {H : Heap} {cs : List Value} {l : List FTy} {i : Nat} (h : (i < l.length ∧ EFTy H cs (l.getD i default)) ∨ (¬ i < l.length ∧ cs = [.slice none 0 0, .slice none 0 0])) : EFTy H cs (tyAt l i) := by
  unfold tyAt
  rcases h with ⟨h1, h2⟩ | ⟨h1, rfl⟩
  · rw [if_pos h1]; exact h2
  · rw [if_neg h1]; exact ⟨_, _, rfl, Sl.nil _ _ _, Sl.nil _ _ _⟩
theorem atT_at {H : Heap} {cs : List Value} {l : List Ty} {i : Nat} (h : (i < l.length ∧ ETy H cs (l.getD i default)) ∨ (¬ i < l.length ∧ cs = [.slice none 0 0, .slice none 0 0, .bool false])) : ETy H cs (fnAt l i) := by
  unfold fnAt
  rcases h with ⟨h1, h2⟩ | ⟨h1, rfl⟩
  · rw [if_pos h1]; exact h2
  · rw [if_neg h1]; exact ⟨_, _, rfl, Sl.nil _ _ _, Sl.nil _ _ _⟩
theorem CellsH.pre {H : Heap} {p : Addr} {cs ds : List Value} (h : CellsH H p (cs ++ ds)) : CellsH H p cs := fun i v hv => h i v (by
  rw [nth_eq] at hv ⊢
  rw [List.getElem?_append_left (List.getElem?_eq_some_iff.1 hv).1]; exact hv)

set_option maxRecDepth 100000 in
set_option maxHeartbeats 4000000 in
theorem SType_any {H : Heap} {g : Nat} {vt vf vg va vm ve : Value} {s : Spc} (sp : SP H g vt vf vg va vm ve s) (i : Nat) (hi : i ≤ 4294967295) (hsz : (tyAt s.types i).1.length ≤ 100000000000 ∧ (tyAt s.types i).2.length ≤ 100000000000) : Ct Try.prog 18 [.pointer (some ⟨g, 0, none⟩), .int .u32 (i : Nat)] H (fun u H' => (∃ v w, u = .tuple #[.agg [v, w].toArray, .bool (decide (i < s.types.length))] ∧ Own 1 (EInt .u8) 5 #[] H.size H' v (tyAt s.types i).1 ∧ Own 1 (EInt .u8) 5 #[] H.size H' w (tyAt s.types i).2) ∧ Old H H') := by
  refine Ct.mk Try.func18 rfl Try.ntmps18 rfl ?_
  intro W0 hW0
  have o0 : Old H H := Old.refl H
  refine KC.seq ?_
  refine KC.region ?_
  refine KL.opM (M.alloc rfl zr24 rfl) rfl rfl rfl ?_
  rintro _ H1 ⟨rfl, n1⟩
  have z1 := n1.2.1
  have o0 := o0.trans n1.1
  have sp := sp.old n1.1
  have b1 := n1.2.2
  have bq := b1
  refine KL.op (R.assign rfl rfl) rfl rfl rfl ?_
  refine KL.nil ?_
  refine KQ.seq ?_
  refine KC.seq ?_
  refine KC.seq ?_
  refine KC.region ?_
  refine KL.op (R.move rfl rfl) rfl rfl rfl ?_
  refine KL.op (R.eqlP rfl Try.underlying40 rfl rfl) rfl rfl rfl ?_
  refine KL.nil ?_
  refine KQ.seq ?_
  refine KC.condIs false rfl (by rfl) ?_
  refine KC.skip ?_
  refine KQ.seq ?_
  refine KC.seq ?_
  refine KC.region ?_
  refine KL.op (R.move rfl rfl) rfl rfl rfl ?_
  refine KL.op (R.nilCheck rfl rfl) rfl rfl rfl ?_
  refine KL.op ((by first | exact R.fieldAddr rfl Try.underlying74 rfl rfl sz27 rfl | exact R.fieldAddrP rfl Try.underlying74 rfl rfl sz27 rfl)) rfl rfl rfl ?_
  refine KL.op (R.load rfl Try.underlying27 rfl rfl (by first | exact cell_of sp.b rfl | exact cell_of bq rfl | assumption)) rfl rfl rfl ?_
  refine KL.op (R.move rfl rfl) rfl rfl rfl ?_
  refine KL.call rfl rfl rfl rfl Try.call34 rfl rfl rfl (atF_any sp.t i hi) ?_
  rintro _ H2 ⟨⟨cs, rfl, hcs⟩, ox⟩
  have hE := Keeps.keep ox (atF_at hcs)
  obtain ⟨v1, w1, rfl, q1, q2⟩ := hE
  have zc_H2 := (ox).1
  have o0 := o0.trans ox
  have sp := sp.old ox
  have bq := (ox).blk bq
  have q1P := q1
  have q2P := q2
  have oP : Old H2 H2 := Old.refl _
  refine KL.op (R.move rfl rfl) rfl rfl rfl ?_
  refine KL.op (R.extract rfl rfl rfl) rfl rfl rfl ?_
  refine KL.op (R.extract rfl rfl rfl) rfl rfl rfl ?_
  refine KL.opM (M.alloc rfl zr24 rfl) rfl rfl rfl ?_
  rintro _ H3 ⟨rfl, n3⟩
  have z3 := n3.2.1
  have o0 := o0.trans n3.1
  have bq := (n3.1).blk bq
  have q1 := q1.old n3.1
  have q2 := q2.old n3.1
  have oP := oP.trans n3.1
  have b3 := n3.2.2
  have b6x := b3
  refine KL.opS (S.storeAgg rfl sz24 rfl rfl (rfl) (by intro u hu; simp only [List.mem_cons, List.not_mem_nil, or_false] at hu; rcases hu with rfl | rfl <;> first | exact q1.one | exact q2.one) b6x (by simp)) rfl rfl ?_
  rintro H4 ⟨u4, b4⟩
  have o0 := o0.upd u4 (by omega)
  have zu4 := u4.1
  have bq := ((u4).2 _ (by omega)).trans bq
  have oP := oP.upd u4 (by omega)
  have b6x := b4
  rw [over_all (by rfl)] at b6x
  have q1 := q1P.old oP
  have q2 := q2P.old oP
  refine KL.op (R.assign rfl rfl) rfl rfl rfl ?_
  refine KL.nil ?_
  refine KQ.seq ?_
  refine KC.seq ?_
  refine KC.region ?_
  refine KL.op (R.loadAgg rfl Try.underlying24 rfl sz24 rfl (cells_of b6x) rfl) rfl rfl rfl ?_
  refine KL.call rfl rfl rfl rfl Try.call28 rfl rfl rfl (own_any q1 q2 hsz) ?_
  rintro _ H5 ⟨⟨v2, w2, rfl, wv, ww⟩, ox⟩
  have zc_H5 := (ox).1
  have o0 := o0.trans ox
  have bq := (ox).blk bq
  have b6x := (ox).blk b6x
  have q1 := q1.old ox
  have q2 := q2.old ox
  have hwv := wv.lt
  have hww := ww.lt
  refine KL.op (R.move rfl rfl) rfl rfl rfl ?_
  refine KL.opS (S.storeAgg rfl sz24 rfl rfl (rfl) (by intro u hu; simp only [List.mem_cons, List.not_mem_nil, or_false] at hu; rcases hu with rfl | rfl <;> first | exact wv.one | exact ww.one) bq (by simp)) rfl rfl ?_
  rintro H6 ⟨u6, b6⟩
  have o0 := o0.upd u6 (by omega)
  have zu6 := u6.1
  have b6x := ((u6).2 _ (by omega)).trans b6x
  have wv := wv.upd u6 (by first | exact .inl rfl | exact .inr (by omega) | exact wv.lt.imp id (fun h => by omega))
  have ww := ww.upd u6 (by first | exact .inl rfl | exact .inr (by omega) | exact ww.lt.imp id (fun h => by omega))
  have bq := b6
  rw [over_all (by rfl)] at bq
  refine KL.op (R.assign rfl rfl) rfl rfl rfl ?_
  refine KL.nil ?_
  refine KQ.seq ?_
  refine KC.ret ?_
  refine KQ.ofRet ?_
  refine KQ.finCell2 Try.results18 rfl Try.underlying24 rfl sz24 (cells_of bq) (rfl) rfl ?_
  exact ⟨⟨_, _, rfl, wv.weak (by omega), ww.weak (by omega)⟩, o0⟩

set_option maxRecDepth 100000 in
set_option maxHeartbeats 4000000 in
theorem SFunc_any {H : Heap} {g : Nat} {vt vf vg va vm ve : Value} {s : Spc} (sp : SP H g vt vf vg va vm ve s) (i : Nat) (hi : i ≤ 4294967295) (hsz : (fnAt s.funcs i).1.1.length ≤ 100000000000 ∧ (fnAt s.funcs i).1.2.length ≤ 100000000000) : Ct Try.prog 11 [.pointer (some ⟨g, 0, none⟩), .int .u32 (i : Nat)] H (fun u H' => (∃ v w, u = .tuple #[.agg [v, w].toArray, .bool (fnAt s.funcs i).2] ∧ Own 1 (EInt .u8) 5 #[] H.size H' v (fnAt s.funcs i).1.1 ∧ Own 1 (EInt .u8) 5 #[] H.size H' w (fnAt s.funcs i).1.2) ∧ Old H H') := by
  refine Ct.mk Try.func11 rfl Try.ntmps11 rfl ?_
  intro W0 hW0
  have o0 : Old H H := Old.refl H
  refine KC.seq ?_
  refine KC.region ?_
  refine KL.opM (M.alloc rfl zr24 rfl) rfl rfl rfl ?_
  rintro _ H1 ⟨rfl, n1⟩
  have z1 := n1.2.1
  have o0 := o0.trans n1.1
  have sp := sp.old n1.1
  have b1 := n1.2.2
  have bq := b1
  refine KL.op (R.assign rfl rfl) rfl rfl rfl ?_
  refine KL.nil ?_
  refine KQ.seq ?_
  refine KC.seq ?_
  refine KC.seq ?_
  refine KC.region ?_
  refine KL.op (R.move rfl rfl) rfl rfl rfl ?_
  refine KL.op (R.eqlP rfl Try.underlying40 rfl rfl) rfl rfl rfl ?_
  refine KL.nil ?_
  refine KQ.seq ?_
  refine KC.condIs false rfl (by rfl) ?_
  refine KC.skip ?_
  refine KQ.seq ?_
  refine KC.seq ?_
  refine KC.region ?_
  refine KL.op (R.move rfl rfl) rfl rfl rfl ?_
  refine KL.op (R.nilCheck rfl rfl) rfl rfl rfl ?_
  refine KL.op ((by first | exact R.fieldAddr rfl Try.underlying74 rfl rfl sz70 rfl | exact R.fieldAddrP rfl Try.underlying74 rfl rfl sz70 rfl)) rfl rfl rfl ?_
  refine KL.op (R.load rfl Try.underlying70 rfl rfl (by first | exact cell_of sp.b rfl | exact cell_of bq rfl | assumption)) rfl rfl rfl ?_
  refine KL.op (R.move rfl rfl) rfl rfl rfl ?_
  refine KL.call rfl rfl rfl rfl Try.call35 rfl rfl rfl (atT_any sp.f i hi) ?_
  rintro _ H2 ⟨⟨cs, rfl, hcs⟩, ox⟩
  have hE := Keeps.keep ox (atT_at hcs)
  obtain ⟨v1, w1, rfl, q1, q2⟩ := hE
  have zc_H2 := (ox).1
  have o0 := o0.trans ox
  have sp := sp.old ox
  have bq := (ox).blk bq
  have q1P := q1
  have q2P := q2
  have oP : Old H2 H2 := Old.refl _
  refine KL.op (R.move rfl rfl) rfl rfl rfl ?_
  refine KL.op (R.extract rfl rfl rfl) rfl rfl rfl ?_
  refine KL.op (R.extract rfl rfl rfl) rfl rfl rfl ?_
  refine KL.opM (M.alloc rfl zr81 rfl) rfl rfl rfl ?_
  rintro _ H3 ⟨rfl, n3⟩
  have z3 := n3.2.1
  have o0 := o0.trans n3.1
  have bq := (n3.1).blk bq
  have q1 := q1.old n3.1
  have q2 := q2.old n3.1
  have oP := oP.trans n3.1
  have b3 := n3.2.2
  have b6x := b3
  refine KL.opS (S.storeAgg rfl sz81 rfl rfl (rfl) (by intro u hu; simp only [List.mem_cons, List.not_mem_nil, or_false] at hu; rcases hu with rfl | rfl | rfl <;> first | exact q1.one | exact q2.one | rfl) b6x (by simp)) rfl rfl ?_
  rintro H4 ⟨u4, b4⟩
  have o0 := o0.upd u4 (by omega)
  have zu4 := u4.1
  have bq := ((u4).2 _ (by omega)).trans bq
  have oP := oP.upd u4 (by omega)
  have b6x := b4
  rw [over_all (by rfl)] at b6x
  have q1 := q1P.old oP
  have q2 := q2P.old oP
  refine KL.op (R.assign rfl rfl) rfl rfl rfl ?_
  refine KL.nil ?_
  refine KQ.seq ?_
  refine KC.seq ?_
  refine KC.text (clOf [(2, 2), (5, 2)]) (fun j Hc => (j = 1 ∨ j = 4) → Hc[Array.size H2]? = some (.cells [v1, w1, .bool (fnAt s.funcs i).2].toArray 81 (0, 0))) (by kernel_rfl) (by kernel_rfl) (fun _ _ => b6x) ?_
  refine KP.op rfl (fun Hg hg => (by first | exact R.fieldAddr rfl Try.underlying81 rfl rfl sz24 rfl | exact R.fieldAddrP rfl Try.underlying81 rfl rfl sz24 rfl)) rfl rfl rfl ?_
  refine KP.op rfl (fun Hg hg => R.loadAgg rfl Try.underlying24 rfl sz24 rfl (CellsH.pre (cs := [v1, w1]) (ds := [.bool (fnAt s.funcs i).2]) (cells_of (hg (.inl rfl)))) rfl) rfl rfl rfl ?_
  refine KP.call rfl rfl rfl rfl rfl Try.call28 rfl rfl rfl (own_any q1 q2 hsz) (fun _ _ hR j _ _ _ => hR.2.blk b6x) ?_
  rintro _ H5 ⟨⟨v2, w2, rfl, wv, ww⟩, ox⟩
  have zc_H5 := (ox).1
  have o0 := o0.trans ox
  have bq := (ox).blk bq
  have b6x := (ox).blk b6x
  have q1 := q1.old ox
  have q2 := q2.old ox
  have hwv := wv.lt
  have hww := ww.lt
  refine KP.op rfl (fun Hg hg => (by first | exact R.fieldAddr rfl Try.underlying81 rfl rfl sz4 rfl | exact R.fieldAddrP rfl Try.underlying81 rfl rfl sz4 rfl)) rfl rfl rfl ?_
  refine KP.op rfl (fun Hg hg => R.load rfl Try.underlying4 rfl rfl (cell_of (hg (.inr rfl)) rfl)) rfl rfl rfl ?_
  refine KP.opS rfl (S.storeAgg rfl sz24 rfl rfl (rfl) (by intro u hu; simp only [List.mem_cons, List.not_mem_nil, or_false] at hu; rcases hu with rfl | rfl <;> first | exact wv.one | exact ww.one) bq (by simp)) rfl rfl (fun _ h j hj1 hj2 hj => (h.1.2 _ (by omega)).trans b6x) ?_
  rintro H6 ⟨u6, b6⟩
  have o0 := o0.upd u6 (by omega)
  have zu6 := u6.1
  have b6x := ((u6).2 _ (by omega)).trans b6x
  have wv := wv.upd u6 (by first | exact .inl rfl | exact .inr (by omega) | exact wv.lt.imp id (fun h => by omega))
  have ww := ww.upd u6 (by first | exact .inl rfl | exact .inr (by omega) | exact ww.lt.imp id (fun h => by omega))
  have bq := b6
  rw [over_all (by rfl)] at bq
  refine KP.op rfl (fun Hg hg => R.assign rfl rfl) rfl rfl rfl ?_
  refine KP.nil ?_
  refine KQ.seq ?_
  refine KC.ret ?_
  refine KQ.ofRet ?_
  refine KQ.finCell2 Try.results11 rfl Try.underlying24 rfl sz24 (cells_of bq) (rfl) rfl ?_
  exact ⟨⟨_, _, rfl, wv.weak (by omega), ww.weak (by omega)⟩, o0⟩

end Go.Proofs.Ytbmikddaiedhiaa
