/- Scripts. No condition. -/
import Derived.Test.YtdefjpakpgchhaaMemT
import Derived.Test.YtdefjpakpgchhaaKLim
import Derived.Test.YtdefjpakpgchhaaKStr
namespace Go.Proofs.Ytdefjpakpgchhaa
open Go Go.RowKit
set_option linter.unusedVariables false
set_option linter.unusedSimpArgs false
set_option linter.unnecessarySimpa false

/-- a call of a script -/
structure Dox where
  kind : Int
  op : Int
  at_ : Int
  off : Int
  v : Int
  n : Int
  b : List Int
  deriving Inhabited
def EDo : El Dox := fun H cs x => ∃ u, cs = [.int .u8 x.kind, .int .u8 x.op, .int .u32 x.at_, .int .u32 x.off, .int .u64 x.v, .int .u32 x.n, u] ∧ Sl 1 (EInt .u8) H u x.b ∧ InR .u8 x.kind ∧ InR .u8 x.op ∧ InR .u32 x.at_ ∧ InR .u32 x.off ∧ InR .u64 x.v ∧ InR .u32 x.n
instance keepsDo : Keeps EDo := ⟨fun ho h => by
  obtain ⟨v, hv, hs, r⟩ := h
  exact ⟨v, hv, hs.old ho, r⟩⟩
theorem opens_do : Opens Try.prog 56 EDo := by
  intro H enc w base spare held fuel cs x h
  obtain ⟨hl, n, hg⟩ := trod_ones (m := 7) Try.underlying56 (by kernel_rfl) (by kernel_rfl) h
  obtain ⟨c0, y0, e0, h0⟩ := hg 0 _ rfl (by omega)
  obtain ⟨c1, y1, e1, h1⟩ := hg 1 _ rfl (by omega)
  obtain ⟨c2, y2, e2, h2⟩ := hg 2 _ rfl (by omega)
  obtain ⟨c3, y3, e3, h3⟩ := hg 3 _ rfl (by omega)
  obtain ⟨c4, y4, e4, h4⟩ := hg 4 _ rfl (by omega)
  obtain ⟨c5, y5, e5, h5⟩ := hg 5 _ rfl (by omega)
  obtain ⟨c6, y6, e6, h6⟩ := hg 6 _ rfl (by omega)
  obtain ⟨a0, u0, w0⟩ := opens_int Try.underlying5 _ _ _ _ _ _ _ _ _ h0
  obtain ⟨a1, u1, w1⟩ := opens_int Try.underlying5 _ _ _ _ _ _ _ _ _ h1
  obtain ⟨a2, u2, w2⟩ := opens_int Try.underlying23 _ _ _ _ _ _ _ _ _ h2
  obtain ⟨a3, u3, w3⟩ := opens_int Try.underlying23 _ _ _ _ _ _ _ _ _ h3
  obtain ⟨a4, u4, w4⟩ := opens_int Try.underlying28 _ _ _ _ _ _ _ _ _ h4
  obtain ⟨a5, u5, w5⟩ := opens_int Try.underlying23 _ _ _ _ _ _ _ _ _ h5
  obtain ⟨l, v, u6, w6⟩ := opens_slice (n := 1) Try.underlying22 (by kernel_rfl) (by decide) (opens_int Try.underlying5) _ _ _ _ _ _ _ _ _ h6
  simp only [List.cons.injEq, and_true] at u0 u1 u2 u3 u4 u5 u6
  subst u0 u1 u2 u3 u4 u5 u6
  refine ⟨⟨a0, a1, a2, a3, a4, a5, l⟩, _, ?_, w6, w0, w1, w2, w3, w4, w5⟩
  match cs, hl with
  | [x0, x1, x2, x3, x4, x5, x6], _ =>
    simp only [List.getElem?_cons_zero, List.getElem?_cons_succ, Option.some.injEq] at e0 e1 e2 e3 e4 e5 e6
    rw [e0, e1, e2, e3, e4, e5, e6]
theorem Sl.doAt {H : Heap} {v : Value} {l : List Dox} (h : Sl 7 EDo H v l) (j : Nat) (hj : j < l.length) : ∃ u, CellsH H ((vbase v).add (j * 7)) [.int .u8 (l.getD j default).kind, .int .u8 (l.getD j default).op, .int .u32 (l.getD j default).at_, .int .u32 (l.getD j default).off, .int .u64 (l.getD j default).v, .int .u32 (l.getD j default).n, u] ∧
    Sl 1 (EInt .u8) H u (l.getD j default).b ∧ InR .u8 (l.getD j default).kind ∧ InR .u8 (l.getD j default).op ∧ InR .u32 (l.getD j default).at_ ∧ InR .u32 (l.getD j default).off ∧ InR .u64 (l.getD j default).v ∧ InR .u32 (l.getD j default).n := by
  obtain ⟨cs, hl, hc, u, rfl, hu, h1⟩ := h.at j hj
  exact ⟨u, hc, hu, h1⟩
theorem Sl.blk_lt {α : Type} [Inhabited α] {E : El α} {n : Nat} {H : Heap} {v : Value} {l : List α} (h : Sl n E H v l) (hn : 0 < n) (hl : 0 < l.length) : vblock v < H.size := by
  obtain ⟨cs, e1, e2, e3⟩ := h.at 0 hl
  have hlen : 0 < cs.length := by omega
  have := e2 0 cs[0] (by rw [nth_eq]; exact List.getElem?_eq_getElem hlen)
  have h2 := cell_lt this
  have hb : (((vbase v).add (0 * n)).add 0).block = vblock v := by simp [vblock, Addr.add]
  rw [hb] at h2
  exact h2
theorem MAt.updU {t : TypeId} {k : IntKind} {H H' : Heap} {g : Nat} {v : Value} {bs : List Int} {most : Int} {g2 : Nat} (h : MAt t k H g v bs most) (u : Upd g2 H H') (h1 : g ≠ g2) (h2 : v = .slice none 0 0 ∨ vblock v ≠ g2) : MAt t k H' g v bs most := ⟨(u.2 g h1).trans h.b, h.w.upd u h2, h.d, h.n⟩
theorem Nx.ne {H : Heap} {v v' : Value} {b : Nat} (nx : Nx H v v') (hv : v = .slice none 0 0 ∨ b ≠ vblock v) (hb : b < H.size) : v' = .slice none 0 0 ∨ b ≠ vblock v' := by
  rcases nx with n | ⟨n1, n2⟩ | n
  · exact .inl n
  · rw [n2]; exact .inr (hv.resolve_left n1)
  · exact .inr (by omega)
/-- two memories apart from one another -/
def Sep (g1 : Nat) (v1 : Value) (g2 : Nat) (v2 : Value) : Prop := g1 ≠ g2 ∧ (v1 = .slice none 0 0 ∨ vblock v1 ≠ g2) ∧ (v2 = .slice none 0 0 ∨ vblock v2 ≠ g1) ∧ (v1 = .slice none 0 0 ∨ v2 = .slice none 0 0 ∨ vblock v1 ≠ vblock v2)
theorem Sep.symm {g1 g2 : Nat} {v1 v2 : Value} (h : Sep g1 v1 g2 v2) : Sep g2 v2 g1 v1 := by
  obtain ⟨a, b, c, d⟩ := h
  refine ⟨fun e => a e.symm, c, b, ?_⟩
  rcases d with d | d | d
  · exact .inr (.inl d)
  · exact .inl d
  · exact .inr (.inr (fun e => d e.symm))
theorem MAt.sep {t : TypeId} {k : IntKind} {H H' : Heap} {g1 g2 : Nat} {v1 v2 : Value} {bs : List Int} {most : Int} (h : MAt t k H g2 v2 bs most) (f : Fr g1 v1 H H') (s : Sep g1 v1 g2 v2) : MAt t k H' g2 v2 bs most := by
  obtain ⟨a, b, c, d⟩ := s
  refine h.fr f (fun e => a e.symm) (b.imp id (fun h e => h e.symm)) ?_
  rcases c with c | c
  · exact .inl c
  · rcases d with d | d | d
    · exact .inr ⟨c, .inl d⟩
    · exact .inl d
    · exact .inr ⟨c, .inr (fun e => d e.symm)⟩
theorem Sep.nx {t : TypeId} {k : IntKind} {H : Heap} {g1 g2 : Nat} {v1 v1' v2 : Value} {bs : List Int} {most : Int} (s : Sep g1 v1 g2 v2) (h : MAt t k H g2 v2 bs most) (nx : Nx H v1 v1') : Sep g1 v1' g2 v2 := by
  obtain ⟨a, b, c, d⟩ := s
  have h1 := h.lt
  have h2 := h.w.lt
  rcases nx with n | ⟨n1, n2⟩ | n
  · exact ⟨a, .inl n, c, .inl n⟩
  · refine ⟨a, .inr (by rw [n2]; exact b.resolve_left n1), c, ?_⟩
    rcases d with d | d | d
    · exact absurd d n1
    · exact .inr (.inl d)
    · exact .inr (.inr (by rw [n2]; exact d))
  · refine ⟨a, .inr (by omega), c, ?_⟩
    rcases h2 with h2 | h2
    · exact .inr (.inl h2)
    · exact .inr (.inr (by omega))
theorem Sep.fresh {t : TypeId} {k : IntKind} {H : Heap} {g1 g2 : Nat} {v1 v2 : Value} {bs : List Int} {most : Int} (h : MAt t k H g2 v2 bs most) (f : Fresh H.size g1 v1) : Sep g1 v1 g2 v2 := by
  have h1 := h.lt
  have h2 := h.w.lt
  obtain ⟨f1, f2⟩ := f
  refine ⟨by omega, f2.imp id (fun f => by omega), h2.imp id (fun h => by omega), ?_⟩
  rcases f2 with f2 | f2
  · exact .inl f2
  · rcases h2 with h2 | h2
    · exact .inr (.inl h2)
    · exact .inr (.inr (by omega))
theorem Fresh.weak {A B g : Nat} {v : Value} (h : Fresh B g v) (hab : A ≤ B) : Fresh A g v := ⟨by have := h.1; omega, h.2.imp id (fun h => by omega)⟩

set_option maxRecDepth 100000 in
set_option maxHeartbeats 4000000 in
theorem heavy_any {H : Heap} (c0 : Value) (l : List Dox) (hs : Sl 7 EDo H c0 l) : Ct Try.prog 19 [c0] H (fun u H' => ∃ hv, u = .bool hv ∧ Old H H') := by
  refine Ct.mk Try.func19 rfl Try.ntmps19 rfl ?_
  intro W0 hW0
  have o0 : Old H H := Old.refl H
  have hll := hs.len
  refine KC.seq ?_
  refine KC.region ?_
  refine KL.op (R.assign rfl rfl) rfl rfl rfl ?_
  refine KL.nil ?_
  refine KQ.seq ?_
  refine KC.seq ?_
  refine KC.region ?_
  refine KL.op (R.assign rfl rfl) rfl rfl rfl ?_
  refine KL.nil ?_
  refine KQ.seq ?_
  refine KC.seq ?_
  refine KC.seq ?_
  refine KC.region ?_
  refine KL.op (R.move rfl rfl) rfl rfl rfl ?_
  refine KL.op ((by first | exact R.lenS rfl Try.underlying50 rfl (by first | exact hs.old o0 | exact hu | assumption) | exact R.len (ty := 0) rfl Try.underlying50 rfl)) rfl rfl rfl ?_
  refine KL.op (R.move rfl rfl) rfl rfl rfl ?_
  refine KL.nil ?_
  refine KQ.seq ?_
  refine KC.block ?_
  refine KC.loopD (κ := Nat × Int) [9, 10, 11, 5, 12, 13, 14, 15, 16, 3, 17, 18, 2, 19, 8] (fun k => [(8, .int .i64 (k.1 : Nat)), (3, .int .i64 k.2)]) (fun k Hl => k.1 ≤ l.length ∧ Old H Hl) (fun k => l.length - k.1) (0, 0) ?_ ?_ ?_
  · exact (Sub.cons rfl (Sub.cons rfl (Ext.sub (Ext.refl _ _))))
  · exact ⟨Nat.zero_le _, o0⟩
  · rintro ⟨k, s⟩ H1 ⟨hk, o0⟩
    have zl_H1 := o0.1
    dsimp only
    dsimp only at hk
    refine KC.seq ?_
    refine KC.region ?_
    refine KL.op (R.lss rfl rfl rfl) rfl rfl rfl ?_
    refine KL.nil ?_
    refine KQ.seq ?_
    refine KC.seq ?_
    refine KC.iteL rfl ?_ ?_
    · intro hc9
      try simp only [decide_eq_true_eq, decide_eq_false_iff_not, Bool.not_eq_true', Bool.not_eq_false', Bool.and_eq_true, Bool.or_eq_false_iff] at hc9
      obtain ⟨u, hcx, hu, q0, q1, q2, q3, q4, q5⟩ := (hs.old o0).doAt k (by omega)
      refine KC.skip ?_
      refine KQ.seq ?_
      refine KC.seq ?_
      refine KC.block ?_
      refine KC.seq ?_
      refine KC.region ?_
      refine KL.op (R.index (j := k) rfl Try.underlying50 sz56 rfl rfl (hs.old o0) rfl (by omega)) rfl rfl rfl ?_
      refine KL.op (R.loadAgg rfl Try.underlying56 rfl sz56 rfl hcx rfl) rfl rfl rfl ?_
      refine KL.opM (M.alloc rfl zr56 rfl) rfl rfl rfl ?_
      rintro _ H2 ⟨rfl, n2⟩
      have z2 := n2.2.1
      have o0 := o0.trans n2.1
      have b2 := n2.2.2
      have bx := b2
      refine KL.opS (S.storeAgg rfl sz56 rfl rfl rfl (by intro q hq; simp only [List.mem_cons, List.not_mem_nil, or_false] at hq; rcases hq with rfl | rfl | rfl | rfl | rfl | rfl | rfl <;> first | rfl | exact hu.one) bx (by simp)) rfl rfl ?_
      rintro H3 ⟨u3, b3⟩
      have o0 := o0.upd u3 (by omega)
      have zu3 := u3.1
      have bx := b3
      refine KL.nil ?_
      refine KQ.seq ?_
      refine KC.seq ?_
      refine KC.region ?_
      refine KL.op (R.move rfl rfl) rfl rfl rfl ?_
      refine KL.op ((by first | exact R.fieldAddr rfl Try.underlying56 rfl rfl sz22 rfl | exact R.fieldAddrP rfl Try.underlying56 rfl rfl sz22 rfl)) rfl rfl rfl ?_
      refine KL.op (R.load rfl Try.underlying22 rfl rfl (by first | exact cell_of bx rfl | assumption)) rfl rfl rfl ?_
      refine KL.op ((by first | exact R.lenS rfl Try.underlying22 rfl (by first | exact hs.old o0 | exact hu | assumption) | exact R.len (ty := 0) rfl Try.underlying22 rfl)) rfl rfl rfl ?_
      refine KL.op (R.addW rfl rfl rfl) rfl rfl rfl ?_
      refine KL.op (R.assign rfl rfl) rfl rfl rfl ?_
      refine KL.nil ?_
      refine KQ.seq ?_
      refine KC.seq ?_
      refine KC.region ?_
      refine KL.op (R.move rfl rfl) rfl rfl rfl ?_
      refine KL.op (R.gtr rfl rfl rfl) rfl rfl rfl ?_
      refine KL.nil ?_
      refine KQ.seq ?_
      refine KC.iteL rfl ?_ ?_
      · intro hc18
        try simp only [decide_eq_true_eq, decide_eq_false_iff_not, Bool.not_eq_true', Bool.not_eq_false', Bool.and_eq_true, Bool.or_eq_false_iff] at hc18
        refine KC.seq ?_
        refine KC.region ?_
        refine KL.op (R.assign rfl rfl) rfl rfl rfl ?_
        refine KL.nil ?_
        refine KQ.seq ?_
        refine KC.ret ?_
        refine KQ.retBlock ?_
        refine KQ.retThen ?_
        refine KQ.retThen ?_
        refine KQ.retBlock ?_
        refine KQ.retThen ?_
        refine KQ.ofRet ?_
        refine KQ.fin1 Try.results19 rfl ?_
        exact ⟨_, rfl, o0⟩
      · intro hc18
        try simp only [decide_eq_true_eq, decide_eq_false_iff_not, Bool.not_eq_true', Bool.not_eq_false', Bool.and_eq_true, Bool.or_eq_false_iff] at hc18
        refine KC.skip ?_
        refine KQ.normBlock ?_
        refine KQ.seq ?_
        refine KC.region ?_
        refine KL.op (R.add rfl rfl rfl (by dsimp only [InR]; omega)) rfl rfl rfl ?_
        refine KL.op (R.move rfl rfl) rfl rfl rfl ?_
        refine KL.nil ?_
        refine KQ.again ((k + 1, IntKind.i64.wrap (s + ((l.getD k default).b.length : Int)))) ?_ ?_ ?_
        · exact (Sub.cons rfl (Sub.cons rfl (Ext.sub (by repeat (first | exact Ext.refl _ _ | refine Ext.put rfl ?_ | refine Ext.drop rfl ?_)))))
        · show l.length - (k + 1) < l.length - k; omega
        · exact ⟨by show k + 1 ≤ _; omega, o0⟩
    · intro hc9
      try simp only [decide_eq_true_eq, decide_eq_false_iff_not, Bool.not_eq_true', Bool.not_eq_false', Bool.and_eq_true, Bool.or_eq_false_iff] at hc9
      refine KC.exit ?_
      refine KQ.exitThen ?_
      refine KQ.exitThen ?_
      refine KQ.hit ?_
      refine KQ.seq ?_
      refine KC.seq ?_
      refine KC.region ?_
      refine KL.op (R.move rfl rfl) rfl rfl rfl ?_
      refine KL.op ((by first | exact R.lenS rfl Try.underlying50 rfl (by first | exact hs.old o0 | exact hu | assumption) | exact R.len (ty := 0) rfl Try.underlying50 rfl)) rfl rfl rfl ?_
      refine KL.op (R.gtr rfl rfl rfl) rfl rfl rfl ?_
      refine KL.op (R.assign rfl rfl) rfl rfl rfl ?_
      refine KL.nil ?_
      refine KQ.seq ?_
      refine KC.ret ?_
      refine KQ.ofRet ?_
      refine KQ.fin1 Try.results19 rfl ?_
      exact ⟨_, rfl, o0⟩

end Go.Proofs.Ytdefjpakpgchhaa
