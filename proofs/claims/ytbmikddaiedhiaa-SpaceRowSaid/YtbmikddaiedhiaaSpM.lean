/- The space that is being made. No condition. -/
import Derived.Test.YtbmikddaiedhiaaSpL
namespace Go.Proofs.Ytbmikddaiedhiaa
open Go Go.RowKit
set_option linter.unusedVariables false
set_option linter.unusedSimpArgs false
set_option linter.unnecessarySimpa false

/-- two rows have no block in common -/
def Ap (v w : Value) : Prop := v = .slice none 0 0 ∨ w = .slice none 0 0 ∨ vblock v ≠ vblock w
theorem Ap.symm {v w : Value} (h : Ap v w) : Ap w v := by
  rcases h with h | h | h
  · exact .inr (.inl h)
  · exact .inl h
  · exact .inr (.inr (fun e => h e.symm))
theorem Ap.app {H : Heap} {v v' w : Value} (h : Ap v w) (nx : Nx H v v') (hw : w = .slice none 0 0 ∨ vblock w < H.size) : Ap v' w := by
  rcases nx with e | ⟨e1, e2⟩ | e
  · exact .inl e
  · rcases h with h | h | h
    · exact absurd h e1
    · exact .inr (.inl h)
    · exact .inr (.inr (by rw [e2]; exact h))
  · rcases hw with hw | hw
    · exact .inr (.inl hw)
    · exact .inr (.inr (by omega))
theorem Own.ap {α : Type} {n : Nat} {E : El α} {e : TypeId} {H0 H H' : Heap} {B : Nat} {v w : Value} {l : List α} (h : Own n E e H0 B H w l) (ap : Ap v w) (gr : Grown v H H') : Own n E e H0 B H' w l := by
  refine h.keepN ?_
  rcases h.lt with hl | hl
  · exact .inl hl
  · rcases ap with e | e | e
    · exact .inr (gr.2 _ hl.2 (.inl e))
    · exact .inl e
    · exact .inr (gr.2 _ hl.2 (.inr (fun h => e h.symm)))
theorem KeepX.trans {gs : List Nat} {A B C : Heap} (h : KeepX gs A B) (k : KeepX gs B C) : KeepX gs A C := ⟨Nat.le_trans h.1 k.1, fun j hj hn => (k.2 j (by have := h.1; omega) hn).trans (h.2 j hj hn)⟩
theorem KeepX.oldR {gs : List Nat} {A B C : Heap} (h : KeepX gs A B) (k : Old B C) : KeepX gs A C := ⟨Nat.le_trans h.1 k.1, fun j hj hn => (k.2 j (by have := h.1; omega)).trans (h.2 j hj hn)⟩
theorem KeepX.updR {g : Nat} {A B C : Heap} (h : KeepX [g] A B) (u : Upd g B C) : KeepX [g] A C := ⟨by have := u.1; have := h.1; omega, fun j hj hn => (u.2 j (fun e => hn (by simp [e]))).trans (h.2 j hj hn)⟩
theorem KeepX.grR {g : Nat} {v : Value} {A B C : Heap} (h : KeepX [g] A B) (gr : Grown v B C) (hv : v = .slice none 0 0 ∨ A.size ≤ vblock v) : KeepX [g] A C :=
  ⟨Nat.le_trans h.1 gr.1, fun j hj hn => (gr.2 j (by have := h.1; omega) (hv.imp id (fun e => by omega))).trans (h.2 j hj hn)⟩
theorem KeepX.toOld {g : Nat} {H A B : Heap} (o : Old H A) (h : KeepX [g] A B) (hg : H.size ≤ g) : Old H B := ⟨Nat.le_trans o.1 h.1, fun j hj => (h.2 j (by have := o.1; omega) (by simp; omega)).trans (o.2 j hj)⟩
/-- a row made by then reads so, whatever g holds -/
theorem Own.lasts {α : Type} {n : Nat} {E : El α} {e : TypeId} {H0 H1 : Heap} {B g : Nat} {v : Value} {l : List α} [Keeps E] (h : Own n E e H0 B H1 v l) (hk : Keeps E) (hc : ∀ H H' cs x, E H cs x → E H' cs x) (hn : 0 < n) (hg : v = .slice none 0 0 ∨ vblock v ≠ g) : ∀ H2, KeepX [g] H1 H2 → Sl n E H2 v l := by
  intro H2 k
  refine ((h.mapE (F := E) (H0' := #[]) (fun cs x hx => hc _ _ _ _ hx)).keepN (H' := H2) ?_).sl (emptyOld _) hn
  rcases h.lt with hl | hl
  · exact .inl hl
  · rcases hg with hg | hg
    · exact .inl hg
    · exact .inr (k.2 _ hl.2 (by simpa using hg))
/-- .. one whose elements point to blocks -/
theorem OwnE.lasts {α : Type} {n : Nat} {E : El α} {e : TypeId} {H1 : Heap} {B g : Nat} {v : Value} {l : List α} (h : OwnE n E e B H1 v [g] l) (hn : 0 < n) (hg : v = .slice none 0 0 ∨ vblock v ≠ g) : ∀ H2, KeepX [g] H1 H2 → Sl n (FK E H1 [g]) H2 v l := by
  intro H2 k
  have h2 : Own n (FK E H1 [g]) e #[] B H1 v l := (OwnE.own h).mapE fun cs x hf H3 k3 => hf H3 ⟨k3.1, fun j hj hm => k3.2 j hj (fun e => hm (List.mem_cons_of_mem _ e))⟩
  refine (h2.keepN (H' := H2) ?_).sl (emptyOld _) hn
  rcases h.lt with hl | hl
  · exact .inl hl
  · rcases hg with hg | hg
    · exact .inl hg
    · exact .inr (k.2 _ hl.2 (by simpa using hg))
/-- the local row -/
structure BS (H1 H : Heap) (g : Nat) (vt ve vl : Value) (n0 n1 n2 n3 : Nat) (ll : List Int) : Prop where
  b : H[g]? = some (.cells [vt, .slice none 0 0, .slice none 0 0, .slice none 0 0, .slice none 0 0, .int .i64 (n0 : Nat), .int .i64 (n1 : Nat), .int .i64 (n2 : Nat), .int .i64 (n3 : Nat), ve].toArray 74 (0, 0))
  k : KeepX [g] H1 H
  hg : g < H1.size
  l : Own 1 (EInt .u32) 33 #[] H1.size H vl ll
theorem BS.sz {H1 H : Heap} {g : Nat} {vt ve vl : Value} {n0 n1 n2 n3 : Nat} {ll : List Int} (h : BS H1 H g vt ve vl n0 n1 n2 n3 ll) : H1.size ≤ H.size ∧ g < H1.size := ⟨h.k.1, h.hg⟩
theorem BS.old {H1 H H' : Heap} {g : Nat} {vt ve vl : Value} {n0 n1 n2 n3 : Nat} {ll : List Int} (h : BS H1 H g vt ve vl n0 n1 n2 n3 ll) (o : Old H H') : BS H1 H' g vt ve vl n0 n1 n2 n3 ll := ⟨o.blk h.b, h.k.oldR o, h.hg, h.l.old o⟩
theorem BS.app {H1 H H' : Heap} {g : Nat} {vt ve vl vl' : Value} {n0 n1 n2 n3 : Nat} {ll ll' : List Int} (h : BS H1 H g vt ve vl n0 n1 n2 n3 ll) (w : Own 1 (EInt .u32) 33 #[] H1.size H' vl' ll') (gr : Grown vl H H') : BS H1 H' g vt ve vl' n0 n1 n2 n3 ll' := by
  have hg := h.hg
  have hl := h.l.lt
  exact ⟨(gr.2 g (blk_lt h.b) (hl.imp id (fun e => by omega))).trans h.b, h.k.grR gr (hl.imp id (fun e => e.1)), h.hg, w⟩

/-- the space that is being made: block g; its four rows -/
structure FS (H1 H : Heap) (g : Nat) (vt cf cg ca cm ve vf vg va vm : Value) (n0 n1 n2 n3 : Nat) (lf : List Ty) (lg : List Glb) (la lm : List Lim) : Prop where
  b : H[g]? = some (.cells [vt, cf, cg, ca, cm, .int .i64 (n0 : Nat), .int .i64 (n1 : Nat), .int .i64 (n2 : Nat), .int .i64 (n3 : Nat), ve].toArray 74 (0, 0))
  k : KeepX [g] H1 H
  hg : g < H1.size
  rf : Own 3 (FK ETy H1 [g]) 81 #[] H1.size H vf lf
  rg : Own 2 EGlb 46 #[] H1.size H vg lg
  ra : Own 2 ELim 51 #[] H1.size H va la
  rm : Own 2 ELim 51 #[] H1.size H vm lm
  pfg : Ap vf vg
  pfa : Ap vf va
  pfm : Ap vf vm
  pga : Ap vg va
  pgm : Ap vg vm
  pam : Ap va vm
section
variable {H1 H H' : Heap} {g : Nat} {vt cf cg ca cm ve vf vg va vm : Value} {n0 n1 n2 n3 : Nat} {lf : List Ty} {lg : List Glb} {la lm : List Lim}
theorem FS.sz (h : FS H1 H g vt cf cg ca cm ve vf vg va vm n0 n1 n2 n3 lf lg la lm) : H1.size ≤ H.size ∧ g < H1.size := ⟨h.k.1, h.hg⟩
theorem FS.old (h : FS H1 H g vt cf cg ca cm ve vf vg va vm n0 n1 n2 n3 lf lg la lm) (o : Old H H') : FS H1 H' g vt cf cg ca cm ve vf vg va vm n0 n1 n2 n3 lf lg la lm := ⟨o.blk h.b, h.k.oldR o, h.hg, h.rf.old o, h.rg.old o, h.ra.old o, h.rm.old o, h.pfg, h.pfa, h.pfm, h.pga, h.pgm, h.pam⟩
theorem FS.begin (b : H1[g]? = some (.cells [vt, .slice none 0 0, .slice none 0 0, .slice none 0 0, .slice none 0 0, .int .i64 (n0 : Nat), .int .i64 (n1 : Nat), .int .i64 (n2 : Nat), .int .i64 (n3 : Nat), ve].toArray 74 (0, 0))) : FS H1 H1 g vt (.slice none 0 0) (.slice none 0 0) (.slice none 0 0) (.slice none 0 0) ve (.slice none 0 0) (.slice none 0 0) (.slice none 0 0) (.slice none 0 0) n0 n1 n2 n3 [] [] [] [] := ⟨b, KeepX.refl _ _, blk_lt b, Own.nil _ _ _ _ _ _, Own.nil _ _ _ _ _ _, Own.nil _ _ _ _ _ _, Own.nil _ _ _ _ _ _, .inl rfl, .inl rfl, .inl rfl, .inl rfl, .inl rfl, .inl rfl⟩
theorem FS.app_f {vf' : Value} {lf' : List Ty} (h : FS H1 H g vt cf cg ca cm ve vf vg va vm n0 n1 n2 n3 lf lg la lm) (w : Own 3 (FK ETy H1 [g]) 81 #[] H1.size H' vf' lf') (gr : Grown vf H H') (nx : Nx H vf vf') : FS H1 H' g vt cf cg ca cm ve vf' vg va vm n0 n1 n2 n3 lf' lg la lm := by
  have hg := h.hg
  have hl := h.rf.lt
  exact ⟨(gr.2 g (blk_lt h.b) (hl.imp id (fun e => by omega))).trans h.b, h.k.grR gr (hl.imp id (fun e => e.1)), h.hg, w, h.rg.ap (h.pfg) gr, h.ra.ap (h.pfa) gr, h.rm.ap (h.pfm) gr, Ap.app h.pfg nx (h.rg.lt.imp id (fun e => e.2)), Ap.app h.pfa nx (h.ra.lt.imp id (fun e => e.2)), Ap.app h.pfm nx (h.rm.lt.imp id (fun e => e.2)), h.pga, h.pgm, h.pam⟩
theorem FS.sto_f (h : FS H1 H g vt cf cg ca cm ve vf vg va vm n0 n1 n2 n3 lf lg la lm) (u : Upd g H H') (b : H'[g]? = some (.cells [vt, vf, cg, ca, cm, .int .i64 (n0 : Nat), .int .i64 (n1 : Nat), .int .i64 (n2 : Nat), .int .i64 (n3 : Nat), ve].toArray 74 (0, 0))) : FS H1 H' g vt vf cg ca cm ve vf vg va vm n0 n1 n2 n3 lf lg la lm := by
  have hg := h.hg
  exact ⟨b, h.k.updR u, h.hg, h.rf.upd u (h.rf.lt.imp id (fun e => by omega)), h.rg.upd u (h.rg.lt.imp id (fun e => by omega)), h.ra.upd u (h.ra.lt.imp id (fun e => by omega)), h.rm.upd u (h.rm.lt.imp id (fun e => by omega)), h.pfg, h.pfa, h.pfm, h.pga, h.pgm, h.pam⟩
theorem FS.app_g {vg' : Value} {lg' : List Glb} (h : FS H1 H g vt cf cg ca cm ve vf vg va vm n0 n1 n2 n3 lf lg la lm) (w : Own 2 EGlb 46 #[] H1.size H' vg' lg') (gr : Grown vg H H') (nx : Nx H vg vg') : FS H1 H' g vt cf cg ca cm ve vf vg' va vm n0 n1 n2 n3 lf lg' la lm := by
  have hg := h.hg
  have hl := h.rg.lt
  exact ⟨(gr.2 g (blk_lt h.b) (hl.imp id (fun e => by omega))).trans h.b, h.k.grR gr (hl.imp id (fun e => e.1)), h.hg, h.rf.ap (h.pfg.symm) gr, w, h.ra.ap (h.pga) gr, h.rm.ap (h.pgm) gr, (Ap.app (h.pfg).symm nx (h.rf.lt.imp id (fun e => e.2))).symm, h.pfa, h.pfm, Ap.app h.pga nx (h.ra.lt.imp id (fun e => e.2)), Ap.app h.pgm nx (h.rm.lt.imp id (fun e => e.2)), h.pam⟩
theorem FS.sto_g (h : FS H1 H g vt cf cg ca cm ve vf vg va vm n0 n1 n2 n3 lf lg la lm) (u : Upd g H H') (b : H'[g]? = some (.cells [vt, cf, vg, ca, cm, .int .i64 (n0 : Nat), .int .i64 (n1 : Nat), .int .i64 (n2 : Nat), .int .i64 (n3 : Nat), ve].toArray 74 (0, 0))) : FS H1 H' g vt cf vg ca cm ve vf vg va vm n0 n1 n2 n3 lf lg la lm := by
  have hg := h.hg
  exact ⟨b, h.k.updR u, h.hg, h.rf.upd u (h.rf.lt.imp id (fun e => by omega)), h.rg.upd u (h.rg.lt.imp id (fun e => by omega)), h.ra.upd u (h.ra.lt.imp id (fun e => by omega)), h.rm.upd u (h.rm.lt.imp id (fun e => by omega)), h.pfg, h.pfa, h.pfm, h.pga, h.pgm, h.pam⟩
theorem FS.app_a {va' : Value} {la' : List Lim} (h : FS H1 H g vt cf cg ca cm ve vf vg va vm n0 n1 n2 n3 lf lg la lm) (w : Own 2 ELim 51 #[] H1.size H' va' la') (gr : Grown va H H') (nx : Nx H va va') : FS H1 H' g vt cf cg ca cm ve vf vg va' vm n0 n1 n2 n3 lf lg la' lm := by
  have hg := h.hg
  have hl := h.ra.lt
  exact ⟨(gr.2 g (blk_lt h.b) (hl.imp id (fun e => by omega))).trans h.b, h.k.grR gr (hl.imp id (fun e => e.1)), h.hg, h.rf.ap (h.pfa.symm) gr, h.rg.ap (h.pga.symm) gr, w, h.rm.ap (h.pam) gr, h.pfg, (Ap.app (h.pfa).symm nx (h.rf.lt.imp id (fun e => e.2))).symm, h.pfm, (Ap.app (h.pga).symm nx (h.rg.lt.imp id (fun e => e.2))).symm, h.pgm, Ap.app h.pam nx (h.rm.lt.imp id (fun e => e.2))⟩
theorem FS.sto_a (h : FS H1 H g vt cf cg ca cm ve vf vg va vm n0 n1 n2 n3 lf lg la lm) (u : Upd g H H') (b : H'[g]? = some (.cells [vt, cf, cg, va, cm, .int .i64 (n0 : Nat), .int .i64 (n1 : Nat), .int .i64 (n2 : Nat), .int .i64 (n3 : Nat), ve].toArray 74 (0, 0))) : FS H1 H' g vt cf cg va cm ve vf vg va vm n0 n1 n2 n3 lf lg la lm := by
  have hg := h.hg
  exact ⟨b, h.k.updR u, h.hg, h.rf.upd u (h.rf.lt.imp id (fun e => by omega)), h.rg.upd u (h.rg.lt.imp id (fun e => by omega)), h.ra.upd u (h.ra.lt.imp id (fun e => by omega)), h.rm.upd u (h.rm.lt.imp id (fun e => by omega)), h.pfg, h.pfa, h.pfm, h.pga, h.pgm, h.pam⟩
theorem FS.app_m {vm' : Value} {lm' : List Lim} (h : FS H1 H g vt cf cg ca cm ve vf vg va vm n0 n1 n2 n3 lf lg la lm) (w : Own 2 ELim 51 #[] H1.size H' vm' lm') (gr : Grown vm H H') (nx : Nx H vm vm') : FS H1 H' g vt cf cg ca cm ve vf vg va vm' n0 n1 n2 n3 lf lg la lm' := by
  have hg := h.hg
  have hl := h.rm.lt
  exact ⟨(gr.2 g (blk_lt h.b) (hl.imp id (fun e => by omega))).trans h.b, h.k.grR gr (hl.imp id (fun e => e.1)), h.hg, h.rf.ap (h.pfm.symm) gr, h.rg.ap (h.pgm.symm) gr, h.ra.ap (h.pam.symm) gr, w, h.pfg, h.pfa, (Ap.app (h.pfm).symm nx (h.rf.lt.imp id (fun e => e.2))).symm, h.pga, (Ap.app (h.pgm).symm nx (h.rg.lt.imp id (fun e => e.2))).symm, (Ap.app (h.pam).symm nx (h.ra.lt.imp id (fun e => e.2))).symm⟩
theorem FS.sto_m (h : FS H1 H g vt cf cg ca cm ve vf vg va vm n0 n1 n2 n3 lf lg la lm) (u : Upd g H H') (b : H'[g]? = some (.cells [vt, cf, cg, ca, vm, .int .i64 (n0 : Nat), .int .i64 (n1 : Nat), .int .i64 (n2 : Nat), .int .i64 (n3 : Nat), ve].toArray 74 (0, 0))) : FS H1 H' g vt cf cg ca vm ve vf vg va vm n0 n1 n2 n3 lf lg la lm := by
  have hg := h.hg
  exact ⟨b, h.k.updR u, h.hg, h.rf.upd u (h.rf.lt.imp id (fun e => by omega)), h.rg.upd u (h.rg.lt.imp id (fun e => by omega)), h.ra.upd u (h.ra.lt.imp id (fun e => by omega)), h.rm.upd u (h.rm.lt.imp id (fun e => by omega)), h.pfg, h.pfa, h.pfm, h.pga, h.pgm, h.pam⟩
end


/-- no more than so many -/
structure Mo.Small (m : Mo) : Prop where
  t : m.types.length ≤ 4000 ∧ ∀ x ∈ m.types, x.1.length ≤ 4000 ∧ x.2.length ≤ 4000
  i : m.imports.length ≤ 4000
  f : m.funcs.length ≤ 4000
  a : m.tables.length ≤ 4000
  mm : m.mems.length ≤ 4000
  g : m.globals.length ≤ 4000
  e : m.exports.length ≤ 4000
def spcOf (m : Mo) : Spc := ⟨m.types, fnsOf m, glL m, lmL m 1, lmL m 2, ((ofK 0 m.imports).length, (ofK 1 m.imports).length, (ofK 2 m.imports).length, (ofK 3 m.imports).length), m.exports⟩

set_option maxRecDepth 100000 in
set_option maxHeartbeats 4000000 in
theorem atFE_any {E : El FTy} [Keeps E] [One E] {H : Heap} {v : Value} {l : List FTy} (hs0 : Sl 2 E H v l) (i : Nat) (hi : i ≤ 4294967295) : Ct Try.prog 34 [v, .int .u32 (i : Nat)] H (fun u H' => (∃ cs, u = .tuple #[.agg cs.toArray, .bool (decide (i < l.length))] ∧ cs.length = 2 ∧ ((i < l.length ∧ E H cs (l.getD i default)) ∨ (¬ i < l.length ∧ cs = [.slice none 0 0, .slice none 0 0]))) ∧ Old H H') := by
  refine Ct.mk Try.func34 rfl Try.ntmps34 rfl ?_
  intro W0 hW0
  have o0 : Old H H := Old.refl H
  have hs := hs0
  have hlm := hs0.lenM
  unfold maxLen at hlm
  refine KC.seq ?_
  refine KC.region ?_
  refine KL.opM (M.alloc rfl zr24 rfl) rfl rfl rfl ?_
  rintro _ H1 ⟨rfl, n1⟩
  have z1 := n1.2.1
  have o0 := o0.trans n1.1
  have hs := hs.old n1.1
  have b1 := n1.2.2
  have bq := b1
  refine KL.op (R.assign rfl rfl) rfl rfl rfl ?_
  refine KL.nil ?_
  refine KQ.seq ?_
  refine KC.seq ?_
  refine KC.seq ?_
  refine KC.region ?_
  refine KL.op (R.move rfl rfl) rfl rfl rfl ?_
  refine KL.op (R.convI rfl Try.underlying33 Try.underlying55 rfl (by dsimp only [InR]; omega)) rfl rfl rfl ?_
  refine KL.op (R.move rfl rfl) rfl rfl rfl ?_
  refine KL.op (R.lenS rfl Try.underlying27 rfl hs) rfl rfl rfl ?_
  refine KL.op (R.convI rfl Try.underlying3 Try.underlying55 rfl (by dsimp only [InR]; omega)) rfl rfl rfl ?_
  refine KL.op (R.geq rfl rfl rfl) rfl rfl rfl ?_
  refine KL.nil ?_
  refine KQ.seq ?_
  refine KC.iteL rfl ?_ ?_
  · intro hc12
    try simp only [decide_eq_true_eq, decide_eq_false_iff_not, Bool.not_eq_true', Bool.not_eq_false', Bool.and_eq_true, Bool.or_eq_false_iff] at hc12
    refine KC.seq ?_
    refine KC.region ?_
    refine KL.opM (M.alloc rfl zr24 rfl) rfl rfl rfl ?_
    rintro _ H2 ⟨rfl, n2⟩
    have z2 := n2.2.1
    have o0 := o0.trans n2.1
    have hs := hs.old n2.1
    have bq := (n2.1).blk bq
    have b2 := n2.2.2
    have bz := b2
    refine KL.nil ?_
    refine KQ.seq ?_
    refine KC.seq ?_
    refine KC.region ?_
    refine KL.op (R.loadAgg rfl Try.underlying24 rfl sz24 rfl (cells_of bz) rfl) rfl rfl rfl ?_
    refine KL.opS (S.storeAgg rfl sz24 rfl rfl (rfl) (by intro u hu; simp only [List.mem_cons, List.not_mem_nil, or_false] at hu; rcases hu with rfl | rfl <;> rfl) bq (by simp)) rfl rfl ?_
    rintro H3 ⟨u3, b3⟩
    have o0 := o0.upd u3 (by omega)
    have zu3 := u3.1
    have bz := ((u3).2 _ (by omega)).trans bz
    have bq := b3
    rw [over_all (by rfl)] at bq
    refine KL.op (R.assign rfl rfl) rfl rfl rfl ?_
    refine KL.nil ?_
    refine KQ.seq ?_
    refine KC.ret ?_
    refine KQ.retThen ?_
    refine KQ.ofRet ?_
    refine KQ.finCell2 Try.results34 rfl Try.underlying24 rfl sz24 (cells_of bq) (by first | rfl | exact hcl) rfl ?_
    first
      | exact ⟨⟨_, by rw [decide_eq_false (by omega)], rfl, .inr ⟨by omega, rfl⟩⟩, o0⟩
      | exact ⟨⟨cs, by rw [decide_eq_true (by omega)], hcl, .inl ⟨by omega, hce⟩⟩, o0⟩
  · intro hc12
    try simp only [decide_eq_true_eq, decide_eq_false_iff_not, Bool.not_eq_true', Bool.not_eq_false', Bool.and_eq_true, Bool.or_eq_false_iff] at hc12
    obtain ⟨cs, hcl, hcx, hce⟩ := hs0.at i (by omega)
    have hcy : CellsH _ _ cs := fun q u hu => o0.cell (hcx q u hu)
    refine KC.skip ?_
    refine KQ.seq ?_
    refine KC.seq ?_
    refine KC.region ?_
    refine KL.op (R.move rfl rfl) rfl rfl rfl ?_
    refine KL.op (R.move rfl rfl) rfl rfl rfl ?_
    refine KL.op (R.index (j := i) rfl Try.underlying27 sz24 rfl rfl hs rfl (by omega)) rfl rfl rfl ?_
    refine KL.op (R.loadAgg rfl Try.underlying24 rfl sz24 rfl hcy hcl) rfl rfl rfl ?_
    refine KL.opS (S.storeAgg (us := cs) rfl sz24 rfl rfl (hcl) (by exact One.one hce) bq (by simp [hcl])) rfl rfl ?_
    rintro H4 ⟨u4, b4⟩
    have o0 := o0.upd u4 (by omega)
    have zu4 := u4.1
    have bq := b4
    rw [over_all (by rw [hcl]; rfl)] at bq
    refine KL.op (R.assign rfl rfl) rfl rfl rfl ?_
    refine KL.nil ?_
    refine KQ.seq ?_
    refine KC.ret ?_
    refine KQ.ofRet ?_
    refine KQ.finCell2 Try.results34 rfl Try.underlying24 rfl sz24 (cells_of bq) (by first | rfl | exact hcl) rfl ?_
    first
      | exact ⟨⟨_, by rw [decide_eq_false (by omega)], rfl, .inr ⟨by omega, rfl⟩⟩, o0⟩
      | exact ⟨⟨cs, by rw [decide_eq_true (by omega)], hcl, .inl ⟨by omega, hce⟩⟩, o0⟩

end Go.Proofs.Ytbmikddaiedhiaa
