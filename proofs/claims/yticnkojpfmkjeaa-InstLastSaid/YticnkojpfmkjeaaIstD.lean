/- An instance in memory, and what may be changed of it. No condition. -/
import Derived.Test.YticnkojpfmkjeaaIstC
import Derived.Test.YticnkojpfmkjeaaKRow
import Derived.Test.YticnkojpfmkjeaaKPan
import Derived.Test.YticnkojpfmkjeaaKStr
namespace Go.Proofs.Yticnkojpfmkjeaa
open Go Go.RowKit
set_option linter.unusedVariables false
set_option linter.unusedSimpArgs false
set_option linter.unnecessarySimpa false

theorem MAt.keepB {t : TypeId} {k : IntKind} {H H' : Heap} {g : Nat} {v : Value} {bs : List Int} {most : Int} (h : MAt t k H g v bs most) (h1 : H'[g]? = H[g]?) (h2 : v = .slice none 0 0 ∨ H'[vblock v]? = H[vblock v]?) : MAt t k H' g v bs most := ⟨h1.trans h.b, h.w.keepN h2, h.d, h.n⟩
/-- an instance in memory -/
structure IS (H : Heap) (g : Nat) (mp tv gv : Value) (m : Md) (bs tl gl : List Int) : Prop where
  b : H[g]? = some (.cells [mp, tv, gv].toArray 73 (0, 0))
  mm : (m.mems = [] ∧ mp = .pointer none) ∨ (m.mems ≠ [] ∧ ∃ gm vm most, mp = .pointer (some ⟨gm, 0, none⟩) ∧ MAt 87 .u32 H gm vm bs most ∧ Fresh (g + 1) gm vm ∧ (tv = .slice none 0 0 ∨ (vblock tv ≠ gm ∧ (vm = .slice none 0 0 ∨ vblock tv ≠ vblock vm))) ∧ (gv = .slice none 0 0 ∨ (vblock gv ≠ gm ∧ (vm = .slice none 0 0 ∨ vblock gv ≠ vblock vm))))
  t : Own 1 (EInt .i64) 2 #[] (g + 1) H tv tl
  gl : Own 1 (EInt .u64) 39 #[] (g + 1) H gv gl
  tg : tv = .slice none 0 0 ∨ gv = .slice none 0 0 ∨ vblock tv ≠ vblock gv
section
variable {H H' : Heap} {g : Nat} {mp tv gv gv' : Value} {m : Md} {bs tl gl tl' gl' bs' : List Int}
theorem IS.old (h : IS H g mp tv gv m bs tl gl) (o : Old H H') : IS H' g mp tv gv m bs tl gl :=
  ⟨o.blk h.b, h.mm.imp id (fun ⟨a, gm, vm, mo, e, q, r⟩ => ⟨a, gm, vm, mo, e, q.old o, r⟩), h.t.old o, h.gl.old o, h.tg⟩
theorem IS.lt (h : IS H g mp tv gv m bs tl gl) : g < H.size := blk_lt h.b
/-- a memory's blocks are not those of the rows -/
theorem MAt.lt2 {t : TypeId} {k : IntKind} {gm : Nat} {vm : Value} {most : Int} (h : MAt t k H gm vm bs most) : gm < H.size ∧ (vm = .slice none 0 0 ∨ vblock vm < H.size) := ⟨blk_lt h.b, h.w.lt.imp id (fun h => h.2)⟩
theorem IS.tab (h : IS H g mp tv gv m bs tl gl) (u : Upd (vblock tv) H H') (hn : tv ≠ .slice none 0 0) (w : Own 1 (EInt .i64) 2 #[] (g + 1) H' tv tl') : IS H' g mp tv gv m bs tl' gl := by
  have ht := h.t.lt.resolve_left hn
  have hg := h.lt
  refine ⟨(u.2 g (by omega)).trans h.b, ?_, w, h.gl.keepN ?_, h.tg⟩
  · rcases h.mm with h1 | ⟨a, gm, vm, mo, e, q, f, r1, r2⟩
    · exact .inl h1
    · have r := r1.resolve_left hn
      exact .inr ⟨a, gm, vm, mo, e, q.keepB (u.2 gm (fun e => r.1 e.symm)) (r.2.imp id (fun e => u.2 _ (fun e2 => e e2.symm))), f, r1, r2⟩
  · rcases h.tg with h1 | h1 | h1
    · exact absurd h1 hn
    · exact .inl h1
    · exact .inr (u.2 _ (fun e => h1 e.symm))
theorem IS.push (h : IS H g mp tv gv m bs tl gl) (hz : H.size ≤ H'.size) (hk : ∀ k, k < H.size → k ≠ g → (gv = .slice none 0 0 ∨ k ≠ vblock gv) → H'[k]? = H[k]?) (hb : H'[g]? = some (.cells [mp, tv, gv'].toArray 73 (0, 0))) (w : Own 1 (EInt .u64) 39 #[] (g + 1) H' gv' gl') (nx : Nx H gv gv') : IS H' g mp tv gv' m bs tl gl' := by
  have hg := h.lt
  have hgl := h.gl.lt
  have hgx : ∀ k, k < H.size → k ≠ g → (gv = .slice none 0 0 ∨ vblock gv ≠ k) → H'[k]? = H[k]? ∧ (gv' = .slice none 0 0 ∨ vblock gv' ≠ k) := by
    intro k h1 h2 h3
    refine ⟨hk k h1 h2 (h3.imp id (fun e e2 => e e2.symm)), ?_⟩
    rcases nx with e | ⟨e1, e2⟩ | e
    · exact .inl e
    · exact .inr (by rw [e2]; exact h3.resolve_left e1)
    · exact .inr (by omega)
  refine ⟨hb, ?_, h.t.keepN ?_, w, ?_⟩
  · rcases h.mm with h1 | ⟨a, gm, vm, mo, e, q, f, r1, r2⟩
    · exact .inl h1
    have q2 := q.lt2
    obtain ⟨f1, f2⟩ := f
    have k1 := hgx gm q2.1 (by omega) (r2.imp id (fun h => h.1))
    refine .inr ⟨a, gm, vm, mo, e, q.keepB k1.1 ?_, ⟨f1, f2⟩, r1, ?_⟩
    · rcases f2 with f2 | f2
      · exact .inl f2
      · rcases q2.2 with q3 | q3
        · exact .inl q3
        · by_cases hv : vm = .slice none 0 0
          · exact .inl hv
          · exact .inr (hgx _ q3 (by omega) (r2.imp id (fun h => h.2.resolve_left hv))).1
    · rcases k1.2 with k2 | k2
      · exact .inl k2
      · by_cases hv : vm = .slice none 0 0
        · exact .inr ⟨k2, .inl hv⟩
        · have f3 := f2.resolve_left hv
          have q3 := q2.2.resolve_left hv
          rcases (hgx _ q3 (by omega) (r2.imp id (fun h => h.2.resolve_left hv))).2 with k3 | k3
          · exact .inl k3
          · exact .inr ⟨k2, .inr k3⟩
  · rcases h.t.lt with h1 | h1
    · exact .inl h1
    · by_cases hv : tv = .slice none 0 0
      · exact .inl hv
      · exact .inr (hgx _ h1.2 (by omega) ((h.tg.resolve_left hv).imp id (fun e e2 => e e2.symm))).1
  · rcases h.t.lt with h1 | h1
    · exact .inl h1
    · by_cases hv : tv = .slice none 0 0
      · exact .inl hv
      · rcases (hgx _ h1.2 (by omega) ((h.tg.resolve_left hv).imp id (fun e e2 => e e2.symm))).2 with k3 | k3
        · exact .inr (.inl k3)
        · exact .inr (.inr (fun e => k3 e.symm))
theorem IS.put (h : IS H g mp tv gv m bs tl gl) {gm : Nat} {vm : Value} {most : Int} (hm : m.mems ≠ []) (e : mp = .pointer (some ⟨gm, 0, none⟩)) (f : Fresh (g + 1) gm vm) (r1 : tv = .slice none 0 0 ∨ (vblock tv ≠ gm ∧ (vm = .slice none 0 0 ∨ vblock tv ≠ vblock vm))) (r2 : gv = .slice none 0 0 ∨ (vblock gv ≠ gm ∧ (vm = .slice none 0 0 ∨ vblock gv ≠ vblock vm)))
    (q : MAt 87 .u32 H' gm vm bs' most) (fr : Fr gm vm H H') : IS H' g mp tv gv m bs' tl gl := by
  have hg := h.lt
  obtain ⟨f1, f2⟩ := id f
  have hx : ∀ {v : Value}, (v = .slice none 0 0 ∨ (vblock v ≠ gm ∧ (vm = .slice none 0 0 ∨ vblock v ≠ vblock vm))) → (v = .slice none 0 0 ∨ (g + 1 ≤ vblock v ∧ vblock v < H.size)) → (v = .slice none 0 0 ∨ H'[vblock v]? = H[vblock v]?) := by
    intro v h1 h2
    rcases h1 with h1 | ⟨h1, h3⟩
    · exact .inl h1
    · rcases h2 with h2 | h2
      · exact .inl h2
      · exact .inr (fr.2 _ h2.2 h1 h3)
  refine ⟨(fr.2 g hg (by omega) (f2.imp id (fun h => by omega))).trans h.b, .inr ⟨hm, gm, vm, most, e, q, f, r1, r2⟩, h.t.keepN (hx r1 h.t.lt), h.gl.keepN (hx r2 h.gl.lt), h.tg⟩
end
theorem Sl.giAt {H : Heap} {v : Value} {l : List (List Ins)} (h : Sl 3 EGI H v l) (j : Nat) (hj : j < l.length) : ∃ t b u, CellsH H ((vbase v).add (j * 3)) [.int .u8 t, .bool b, u] ∧ Sl 5 EIns H u (l.getD j default) := by
  obtain ⟨cs, hl, hc, t, b, u, rfl, h1⟩ := h.at j hj
  exact ⟨t, b, u, hc, h1⟩
theorem Sl.elAt {H : Heap} {v : Value} {l : List El2} (h : Sl 3 EEl H v l) (j : Nat) (hj : j < l.length) : ∃ t u w, CellsH H ((vbase v).add (j * 3)) [.int .u32 t, u, w] ∧ Sl 5 EIns H u (l.getD j default).1 ∧ Sl 1 (EInt .u32) H w (l.getD j default).2 ∧ (l.getD j default).2.length ≤ 140737488351232 := by
  obtain ⟨cs, hl, hc, t, u, w, rfl, h1⟩ := h.at j hj
  exact ⟨t, u, w, hc, h1⟩
theorem Sl.daAt {H : Heap} {v : Value} {l : List El2} (h : Sl 3 EDa H v l) (j : Nat) (hj : j < l.length) : ∃ t u w, CellsH H ((vbase v).add (j * 3)) [.int .u32 t, u, w] ∧ Sl 5 EIns H u (l.getD j default).1 ∧ Sl 1 (EInt .u8) H w (l.getD j default).2 ∧ (l.getD j default).2.length ≤ 140737488351232 := by
  obtain ⟨cs, hl, hc, t, u, w, rfl, h1⟩ := h.at j hj
  exact ⟨t, u, w, hc, h1⟩
theorem asks_any {H : Heap} (b : Bool) : CtX Try.prog 25 [.bool b] H (fun u H' => b = true ∧ H = H') (fun v H' => v = amissV ∧ b = false ∧ H' = H) := by
  cases b
  · exact asks_no.mono (fun _ _ h => h.elim) (fun _ _ h => ⟨h.1, rfl, h.2⟩)
  · exact (Ct.toX asks_yes).mono (fun _ _ h => ⟨rfl, h⟩) (fun _ _ h => h)

end Go.Proofs.Yticnkojpfmkjeaa
