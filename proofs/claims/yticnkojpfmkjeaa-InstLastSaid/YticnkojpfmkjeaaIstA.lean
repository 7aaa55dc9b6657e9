/- Memories: what an instance needs of them. No condition. -/
import Derived.Test.YticnkojpfmkjeaaMemP
import Derived.Test.YticnkojpfmkjeaaKOpen
import Derived.Test.YticnkojpfmkjeaaKArr
namespace Go.Proofs.Yticnkojpfmkjeaa
open Go Go.RowKit
set_option linter.unusedVariables false
set_option linter.unusedSimpArgs false
set_option linter.unnecessarySimpa false

/-- how many bytes an access has -/
def mw (op : Int) : Nat :=
  if op = 44 ∨ op = 45 ∨ op = 48 ∨ op = 49 ∨ op = 58 ∨ op = 60 then 1
  else if op = 46 ∨ op = 47 ∨ op = 50 ∨ op = 51 ∨ op = 59 ∨ op = 61 then 2
  else if op = 40 ∨ op = 52 ∨ op = 53 ∨ op = 54 ∨ op = 62 then 4
  else if op = 41 ∨ op = 55 then 8 else 0
theorem mw_le (op : Int) : mw op ≤ 8 := by
  unfold mw
  repeat' split
  all_goals omega
/-- a memory: its struct, and its bytes in a row of its own -/
structure MAt (t : TypeId) (k : IntKind) (H : Heap) (g : Nat) (v : Value) (bs : List Int) (most : Int) : Prop where
  b : H[g]? = some (.cells [v, .int k most].toArray t (0, 0))
  w : Own 1 (EInt .u8) 5 #[] 0 H v bs
  d : v = .slice none 0 0 ∨ vblock v ≠ g
  n : bs.length % 65536 = 0 ∧ (bs.length : Int) ≤ 65536 * most ∧ most ≤ 16
theorem MAt.old {t : TypeId} {k : IntKind} {H H' : Heap} {g : Nat} {v : Value} {bs : List Int} {most : Int} (h : MAt t k H g v bs most) (o : Old H H') : MAt t k H' g v bs most := ⟨o.blk h.b, h.w.old o, h.d, h.n⟩
theorem MAt.lt {t : TypeId} {k : IntKind} {H : Heap} {g : Nat} {v : Value} {bs : List Int} {most : Int} (h : MAt t k H g v bs most) : g < H.size := blk_lt h.b
theorem MAt.fr {t : TypeId} {k : IntKind} {H H' : Heap} {g : Nat} {v : Value} {bs : List Int} {most : Int} {g2 : Nat} {v2 : Value} (h : MAt t k H g v bs most) (f : Fr g2 v2 H H') (h1 : g ≠ g2) (h2 : v2 = .slice none 0 0 ∨ g ≠ vblock v2) (h3 : v = .slice none 0 0 ∨ (vblock v ≠ g2 ∧ (v2 = .slice none 0 0 ∨ vblock v ≠ vblock v2))) : MAt t k H' g v bs most := by
  refine ⟨(f.2 g h.lt h1 h2).trans h.b, ?_, h.d, h.n⟩
  have hw := h.w
  rcases h3 with rfl | ⟨h3, h4⟩
  · obtain ⟨flat, ⟨h0, hc⟩, hel⟩ := hw
    rcases hc with hc | ⟨_, _, _, hv, _⟩
    · exact ⟨flat, ⟨h0, .inl hc⟩, hel⟩
    · cases hv
  · rcases hw.lt with hv | hv
    · obtain ⟨flat, ⟨h0, hc⟩, hel⟩ := hw
      rcases hc with hc | ⟨_, _, _, hv', _⟩
      · exact ⟨flat, ⟨h0, .inl hc⟩, hel⟩
      · rw [hv] at hv'; cases hv'
    · exact hw.keep (f.2 _ hv.2 h3 h4)
/-- n bytes from a place on -/
def partS (v : Value) (bs : List Int) (a n : Int) : Value := if a + n ≤ bs.length then subV 1 v a.toNat (a + n).toNat else .slice none 0 0
def partV (v : Value) (bs : List Int) (a n : Int) : Value := .tuple #[partS v bs a n, .bool (decide (a + n ≤ bs.length))]
def inA (bs : List Int) (lo hi op p : Int) : Prop := lo ≤ op ∧ op ≤ hi ∧ mw op ≠ 0 ∧ p + mw op ≤ bs.length
instance (bs : List Int) (lo hi op p : Int) : Decidable (inA bs lo hi op p) := by unfold inA; infer_instance
def accS (v : Value) (bs : List Int) (lo hi op p : Int) : Value := if inA bs lo hi op p then subV 1 v p.toNat (p + mw op).toNat else .slice none 0 0
def accV (v : Value) (bs : List Int) (lo hi op p : Int) : Value := .tuple #[accS v bs lo hi op p, .bool (decide (inA bs lo hi op p))]

set_option maxRecDepth 100000 in
set_option maxHeartbeats 4000000 in
theorem part_any {H : Heap} (g : Nat) (v : Value) (bs : List Int) (most : Int) (h : MAt 87 .u32 H g v bs most) (a n : Int) (ha : 0 ≤ a) (ha2 : a ≤ 8589934592) (hn0 : 0 ≤ n) (hn2 : n ≤ 9223372036854775807) : Ct Try.prog 19 [.pointer (some ⟨g, 0, none⟩), .int .u64 a, .int .u64 n] H (fun u H' => u = partV v bs a n ∧ H = H') := by
  refine Ct.mk Try.func19 rfl Try.ntmps19 rfl ?_
  intro W0 hW0
  have o0 : Old H H := Old.refl H
  have hb := h.b
  have hw := h.w
  have hn := h.n
  have hs := hw.sl (emptyOld _) (by decide)
  refine KC.seq ?_
  refine KC.region ?_
  refine KL.op (R.assign rfl rfl) rfl rfl rfl ?_
  refine KL.op (R.assign rfl rfl) rfl rfl rfl ?_
  refine KL.nil ?_
  refine KQ.seq ?_
  refine KC.seq ?_
  refine KC.seq ?_
  refine KC.region ?_
  refine KL.op (R.move rfl rfl) rfl rfl rfl ?_
  refine KL.op (R.eqlP rfl Try.underlying51 rfl rfl) rfl rfl rfl ?_
  refine KL.op (R.move rfl rfl) rfl rfl rfl ?_
  refine KL.op (R.move rfl rfl) rfl rfl rfl ?_
  refine KL.op (R.move rfl rfl) rfl rfl rfl ?_
  refine KL.op (R.add rfl rfl rfl (by dsimp only [InR]; omega)) rfl rfl rfl ?_
  refine KL.op (R.move rfl rfl) rfl rfl rfl ?_
  refine KL.op (R.nilCheck rfl rfl) rfl rfl rfl ?_
  refine KL.op ((by first | exact R.fieldAddr rfl Try.underlying87 rfl rfl sz49 rfl | exact R.fieldAddrP rfl Try.underlying87 rfl rfl sz49 rfl)) rfl rfl rfl ?_
  refine KL.op (R.load rfl Try.underlying49 rfl rfl (by first | exact cell_of hb rfl | assumption)) rfl rfl rfl ?_
  refine KL.op (R.lenO rfl Try.underlying49 rfl hw) rfl rfl rfl ?_
  refine KL.op (R.convI rfl Try.underlying3 Try.underlying39 rfl (by dsimp only [InR]; omega)) rfl rfl rfl ?_
  refine KL.op (R.gtr rfl rfl rfl) rfl rfl rfl ?_
  refine KL.op (R.pick rfl rfl rfl) rfl rfl rfl ?_
  refine KL.nil ?_
  refine KQ.seq ?_
  refine KC.iteL rfl ?_ ?_
  · intro hc21
    try simp only [decide_eq_true_eq, decide_eq_false_iff_not, Bool.not_eq_true', Bool.not_eq_false', Bool.and_eq_true, Bool.or_eq_false_iff] at hc21
    refine KC.seq ?_
    refine KC.region ?_
    refine KL.op (R.assign rfl rfl) rfl rfl rfl ?_
    refine KL.op (R.assign rfl rfl) rfl rfl rfl ?_
    refine KL.nil ?_
    refine KQ.seq ?_
    refine KC.ret ?_
    refine KQ.retThen ?_
    refine KQ.ofRet ?_
    refine KQ.fin2 Try.results19 rfl rfl ?_
    refine ⟨?_, rfl⟩
    unfold partV partS
    first
      | rw [if_pos (by omega), decide_eq_true (by omega)]
      | rw [if_neg (by omega), decide_eq_false (by omega)]
  · intro hc21
    try simp only [decide_eq_true_eq, decide_eq_false_iff_not, Bool.not_eq_true', Bool.not_eq_false', Bool.and_eq_true, Bool.or_eq_false_iff] at hc21
    refine KC.skip ?_
    refine KQ.seq ?_
    refine KC.seq ?_
    refine KC.region ?_
    refine KL.op (R.move rfl rfl) rfl rfl rfl ?_
    refine KL.op (R.nilCheck rfl rfl) rfl rfl rfl ?_
    refine KL.op ((by first | exact R.fieldAddr rfl Try.underlying87 rfl rfl sz49 rfl | exact R.fieldAddrP rfl Try.underlying87 rfl rfl sz49 rfl)) rfl rfl rfl ?_
    refine KL.op (R.load rfl Try.underlying49 rfl rfl (by first | exact cell_of hb rfl | assumption)) rfl rfl rfl ?_
    refine KL.op (R.move rfl rfl) rfl rfl rfl ?_
    refine KL.op (R.move rfl rfl) rfl rfl rfl ?_
    refine KL.op (R.move rfl rfl) rfl rfl rfl ?_
    refine KL.op (R.add rfl rfl rfl (by dsimp only [InR]; omega)) rfl rfl rfl ?_
    refine KL.op (R.slice (i := a.toNat) (j := (a + n).toNat) rfl Try.underlying49 sz5 rfl hs (bnd.mk rfl (by omega)) (bnd.mk rfl (by omega)) (by omega) (by omega)) rfl rfl rfl ?_
    refine KL.op (R.assign rfl rfl) rfl rfl rfl ?_
    refine KL.op (R.assign rfl rfl) rfl rfl rfl ?_
    refine KL.nil ?_
    refine KQ.seq ?_
    refine KC.ret ?_
    refine KQ.ofRet ?_
    refine KQ.fin2 Try.results19 rfl rfl ?_
    refine ⟨?_, rfl⟩
    unfold partV partS
    first
      | rw [if_pos (by omega), decide_eq_true (by omega)]
      | rw [if_neg (by omega), decide_eq_false (by omega)]

set_option maxRecDepth 100000 in
set_option maxHeartbeats 4000000 in
theorem part_nil {H : Heap} (a n : Int) : Ct Try.prog 19 [.pointer none, .int .u64 a, .int .u64 n] H (fun u H' => u = .tuple #[.slice none 0 0, .bool false] ∧ H = H') := by
  refine Ct.mk Try.func19 rfl Try.ntmps19 rfl ?_
  intro W0 hW0
  have o0 : Old H H := Old.refl H
  refine KC.seq ?_
  refine KC.region ?_
  refine KL.op (R.assign rfl rfl) rfl rfl rfl ?_
  refine KL.op (R.assign rfl rfl) rfl rfl rfl ?_
  refine KL.nil ?_
  refine KQ.seq ?_
  refine KC.seq ?_
  refine KC.seq ?_
  refine KC.region ?_
  refine KL.op (R.move rfl rfl) rfl rfl rfl ?_
  refine KL.op (R.eqlP rfl Try.underlying51 rfl rfl) rfl rfl rfl ?_
  refine KL.op (R.move rfl rfl) rfl rfl rfl ?_
  refine KL.skip rfl rfl rfl ?_
  refine KL.skip rfl rfl rfl ?_
  refine KL.skip rfl rfl rfl ?_
  refine KL.skip rfl rfl rfl ?_
  refine KL.skip rfl rfl rfl ?_
  refine KL.skip rfl rfl rfl ?_
  refine KL.skip rfl rfl rfl ?_
  refine KL.skip rfl rfl rfl ?_
  refine KL.skip rfl rfl rfl ?_
  refine KL.skip rfl rfl rfl ?_
  refine KL.op (R.pick rfl rfl rfl) rfl rfl rfl ?_
  refine KL.nil ?_
  refine KQ.seq ?_
  refine KC.condT rfl ?_
  refine KC.seq ?_
  refine KC.region ?_
  refine KL.op (R.assign rfl rfl) rfl rfl rfl ?_
  refine KL.op (R.assign rfl rfl) rfl rfl rfl ?_
  refine KL.nil ?_
  refine KQ.seq ?_
  refine KC.ret ?_
  refine KQ.retThen ?_
  refine KQ.ofRet ?_
  refine KQ.fin2 Try.results19 rfl rfl ?_
  exact ⟨rfl, rfl⟩


theorem MAt.byt {t : TypeId} {k : IntKind} {H : Heap} {g : Nat} {v : Value} {bs : List Int} {most : Int} (h : MAt t k H g v bs most) : Byt bs := by
  intro x hx
  have := (h.w.sl (emptyOld _) (by decide)).int_range x hx
  dsimp only [InR] at this
  omega
theorem prt_byt {bs : List Int} (h : Byt bs) (p w : Nat) : Byt (prt bs p w) := fun x hx => h x (List.mem_of_mem_take (List.mem_of_mem_drop hx))
/-- the bytes of an access, or none -/
def prtA (bs : List Int) (lo hi op p : Int) : List Int := if inA bs lo hi op p then prt bs p.toNat (mw op) else []
def prtP (bs : List Int) (a n : Int) : List Int := if a + n ≤ bs.length then prt bs a.toNat n.toNat else []
theorem prtA_length {bs : List Int} {lo hi op p : Int} (h0 : 0 ≤ p) : (prtA bs lo hi op p).length = if inA bs lo hi op p then mw op else 0 := by
  unfold prtA
  split
  · next h => rw [prt_length]; unfold inA at h; omega
  · rfl
theorem accS_sl {t : TypeId} {k : IntKind} {H : Heap} {g : Nat} {v : Value} {bs : List Int} {most : Int} (h : MAt t k H g v bs most) (lo hi op p : Int) (hp : 0 ≤ p) : Sl 1 (EInt .u8) H (accS v bs lo hi op p) (prtA bs lo hi op p) := by
  unfold accS prtA
  split
  · next hA =>
    unfold inA at hA
    have := (h.w.sl (emptyOld _) (by decide)).sub (lo := p.toNat) (hi := (p + mw op).toNat) (by omega) (by omega)
    unfold prt
    rw [show p.toNat + mw op = (p + mw op).toNat by omega]
    exact this
  · exact Sl.nil _ _ _
theorem partS_sl {t : TypeId} {k : IntKind} {H : Heap} {g : Nat} {v : Value} {bs : List Int} {most : Int} (h : MAt t k H g v bs most) (a n : Int) (ha : 0 ≤ a) (hn : 0 ≤ n) : Sl 1 (EInt .u8) H (partS v bs a n) (prtP bs a n) := by
  unfold partS prtP
  split
  · next hA =>
    have := (h.w.sl (emptyOld _) (by decide)).sub (lo := a.toNat) (hi := (a + n).toNat) (by omega) (by omega)
    unfold prt
    rw [show a.toNat + n.toNat = (a + n).toNat by omega]
    exact this
  · exact Sl.nil _ _ _
theorem own_some {t : TypeId} {k : IntKind} {H : Heap} {g : Nat} {v : Value} {bs : List Int} {most : Int} (h : MAt t k H g v bs most) (hl : 0 < bs.length) : ∃ g0 cap, v = .slice (some ⟨g0, 0, none⟩) bs.length cap ∧ bs.length ≤ cap ∧ v ≠ .slice none 0 0 ∧ g ≠ vblock v ∧ vblock v < H.size := by
  obtain ⟨g0, cap, hv, -, hb, -⟩ := h.w.addr hl
  obtain ⟨a, cap', hv2, hc, -⟩ := h.w.val
  have hne : v ≠ .slice none 0 0 := by rw [hv]; simp
  refine ⟨g0, cap, hv, ?_, hne, ?_, ?_⟩
  · rw [hv] at hv2; injection hv2 with _ _ e; omega
  · rcases h.d with h | h
    · exact absurd h hne
    · exact fun e => h e.symm
  · rcases h.w.lt with h | h
    · exact absurd h hne
    · exact h.2
theorem accS_base {t : TypeId} {k : IntKind} {H : Heap} {g : Nat} {v : Value} {bs : List Int} {most : Int} (h : MAt t k H g v bs most) {lo hi op p : Int} (hA : inA bs lo hi op p) (hp : 0 ≤ p) (i : Nat) : (vbase (accS v bs lo hi op p)).add i = (vbase v).add (p.toNat + i) := by
  unfold accS
  rw [if_pos hA]
  unfold inA at hA
  obtain ⟨g0, cap, rfl, hc, -⟩ := own_some h (by omega)
  rw [subV_base (by omega)]
  exact add_add _ rfl _ _
/-- what is loaded -/
def loadN (op x : Int) : Int := if op = 44 ∨ op = 46 then sx x (mw op) 32 else if op = 48 ∨ op = 50 ∨ op = 52 then sx x (mw op) 64 else x
def loadX (bs : List Int) (op p : Int) : Int := if inA bs 40 53 op p then loadN op (ld (prt bs p.toNat (mw op))) else 0
def loadV (bs : List Int) (op p : Int) : Value := .tuple #[.int .u64 (loadX bs op p), .bool (decide (inA bs 40 53 op p))]
def storeB (bs : List Int) (op p x : Int) : List Int := if inA bs 54 62 op p then putAt bs p.toNat (bytesOf x (mw op)) else bs


theorem MAt.fr_self {t : TypeId} {k : IntKind} {H : Heap} {g : Nat} {v : Value} {bs : List Int} {most : Int} (h : MAt t k H g v bs most) {H' : Heap} (u : Upd (vblock v) H H') (hv : v ≠ .slice none 0 0) : H'[g]? = some (.cells [v, .int k most].toArray t (0, 0)) :=
  (u.2 g (fun e => (h.d.resolve_left hv) e.symm)).trans h.b


theorem part_yes {H : Heap} (g : Nat) (v : Value) (bs : List Int) (most : Int) (h : MAt 87 .u32 H g v bs most) (a n : Int) (ha : 0 ≤ a) (ha2 : a ≤ 8589934592) (hn0 : 0 ≤ n) (hn2 : n ≤ 9223372036854775807) (hl : a + n ≤ bs.length) : Ct Try.prog 19 [.pointer (some ⟨g, 0, none⟩), .int .u64 a, .int .u64 n] H (fun u H' => u = .tuple #[subV 1 v a.toNat (a + n).toNat, .bool true] ∧ H = H') :=
  (part_any g v bs most h a n ha ha2 hn0 hn2).mono (by rintro _ _ ⟨rfl, rfl⟩; unfold partV partS; rw [if_pos hl, decide_eq_true hl]; exact ⟨rfl, rfl⟩)
theorem part_no {H : Heap} (g : Nat) (v : Value) (bs : List Int) (most : Int) (h : MAt 87 .u32 H g v bs most) (a n : Int) (ha : 0 ≤ a) (ha2 : a ≤ 8589934592) (hn0 : 0 ≤ n) (hn2 : n ≤ 9223372036854775807) (hl : ¬ a + n ≤ bs.length) : Ct Try.prog 19 [.pointer (some ⟨g, 0, none⟩), .int .u64 a, .int .u64 n] H (fun u H' => u = .tuple #[.slice none 0 0, .bool false] ∧ H = H') :=
  (part_any g v bs most h a n ha ha2 hn0 hn2).mono (by rintro _ _ ⟨rfl, rfl⟩; unfold partV partS; rw [if_neg hl, decide_eq_false hl]; exact ⟨rfl, rfl⟩)

set_option maxRecDepth 100000 in
set_option maxHeartbeats 4000000 in
theorem Put_yes {H : Heap} (g : Nat) (v : Value) (bs : List Int) (most : Int) (h : MAt 87 .u32 H g v bs most) (at_ : Int) (r2 : InR .u32 at_) (u : Value) (m : List Int) (hs : Sl 1 (EInt .u8) H u m) (hm0 : m.length ≤ 9223372036854775807) (hl : at_ + m.length ≤ bs.length) : Ct Try.prog 30 [.pointer (some ⟨g, 0, none⟩), .int .u32 at_, u] H (fun r H' => r = .bool true ∧ MAt 87 .u32 H' g v (putAt bs at_.toNat m) most ∧ Fr g v H H') := by
  refine Ct.mk Try.func30 rfl Try.ntmps30 rfl ?_
  intro W0 hW0
  have o0 : Old H H := Old.refl H
  dsimp only [InR] at r2
  have hn := h.n
  refine KC.seq ?_
  refine KC.region ?_
  refine KL.op (R.assign rfl rfl) rfl rfl rfl ?_
  refine KL.nil ?_
  refine KQ.seq ?_
  refine KC.seq ?_
  refine KC.region ?_
  refine KL.op (R.move rfl rfl) rfl rfl rfl ?_
  refine KL.op (R.move rfl rfl) rfl rfl rfl ?_
  refine KL.op (R.convI rfl Try.underlying28 Try.underlying39 rfl (by dsimp only [InR]; omega)) rfl rfl rfl ?_
  refine KL.op (R.move rfl rfl) rfl rfl rfl ?_
  refine KL.op ((by first | exact R.lenS rfl Try.underlying49 rfl (by first | exact hs | assumption) | exact R.len (ty := 0) rfl Try.underlying49 rfl)) rfl rfl rfl ?_
  refine KL.op (R.convI rfl Try.underlying3 Try.underlying39 rfl (by dsimp only [InR]; omega)) rfl rfl rfl ?_
  refine KL.call rfl rfl rfl rfl Try.call19 rfl rfl rfl (part_yes _ _ _ _ h _ _ (by omega) (by omega) (by omega) (by omega) (by omega)) ?_
  rintro _ _ ⟨rfl, rfl⟩
  refine KL.op (R.move rfl rfl) rfl rfl rfl ?_
  refine KL.op (R.extract rfl rfl rfl) rfl rfl rfl ?_
  refine KL.op (R.extract rfl rfl rfl) rfl rfl rfl ?_
  refine KL.op (R.assign rfl rfl) rfl rfl rfl ?_
  refine KL.op (R.assign rfl rfl) rfl rfl rfl ?_
  refine KL.nil ?_
  refine KQ.seq ?_
  refine KC.seq ?_
  refine KC.region ?_
  refine KL.op (R.move rfl rfl) rfl rfl rfl ?_
  refine KL.op (R.move rfl rfl) rfl rfl rfl ?_
  refine KL.opM (M.copy (v := v) (bs := bs) (m := m) (p := at_.toNat) rfl Try.underlying49 sz5 (by rw [show at_.toNat + m.length = (at_ + (m.length : Int)).toNat by omega]; rfl) rfl h.w hs (by omega)) rfl rfl rfl ?_
  rintro _ H1 ⟨rfl, w1, z1, cc⟩
  have hM : MAt 87 .u32 H1 g v (putAt bs at_.toNat m) most := ⟨(cc g (h.d.imp id (fun h e => h e.symm))).trans h.b, w1, h.d, by rw [putAt_length (by omega)]; exact h.n⟩
  have hF : Fr g v H H1 := ⟨by omega, fun k _ _ h2 => cc k h2⟩
  refine KL.nil ?_
  refine KQ.seq ?_
  refine KC.seq ?_
  refine KC.region ?_
  refine KL.op (R.move rfl rfl) rfl rfl rfl ?_
  refine KL.op (R.assign rfl rfl) rfl rfl rfl ?_
  refine KL.nil ?_
  refine KQ.seq ?_
  refine KC.ret ?_
  refine KQ.ofRet ?_
  refine KQ.fin1 Try.results30 rfl ?_
  exact ⟨rfl, hM, hF⟩

set_option maxRecDepth 100000 in
set_option maxHeartbeats 4000000 in
theorem Put_no {H : Heap} (g : Nat) (v : Value) (bs : List Int) (most : Int) (h : MAt 87 .u32 H g v bs most) (at_ : Int) (r2 : InR .u32 at_) (u : Value) (m : List Int) (hs : Sl 1 (EInt .u8) H u m) (hm0 : m.length ≤ 9223372036854775807) (hl : ¬ at_ + m.length ≤ bs.length) : Ct Try.prog 30 [.pointer (some ⟨g, 0, none⟩), .int .u32 at_, u] H (fun r H' => r = .bool false ∧ H = H') := by
  refine Ct.mk Try.func30 rfl Try.ntmps30 rfl ?_
  intro W0 hW0
  have o0 : Old H H := Old.refl H
  dsimp only [InR] at r2
  have hn := h.n
  refine KC.seq ?_
  refine KC.region ?_
  refine KL.op (R.assign rfl rfl) rfl rfl rfl ?_
  refine KL.nil ?_
  refine KQ.seq ?_
  refine KC.seq ?_
  refine KC.region ?_
  refine KL.op (R.move rfl rfl) rfl rfl rfl ?_
  refine KL.op (R.move rfl rfl) rfl rfl rfl ?_
  refine KL.op (R.convI rfl Try.underlying28 Try.underlying39 rfl (by dsimp only [InR]; omega)) rfl rfl rfl ?_
  refine KL.op (R.move rfl rfl) rfl rfl rfl ?_
  refine KL.op ((by first | exact R.lenS rfl Try.underlying49 rfl (by first | exact hs | assumption) | exact R.len (ty := 0) rfl Try.underlying49 rfl)) rfl rfl rfl ?_
  refine KL.op (R.convI rfl Try.underlying3 Try.underlying39 rfl (by dsimp only [InR]; omega)) rfl rfl rfl ?_
  refine KL.call rfl rfl rfl rfl Try.call19 rfl rfl rfl (part_no _ _ _ _ h _ _ (by omega) (by omega) (by omega) (by omega) (by omega)) ?_
  rintro _ _ ⟨rfl, rfl⟩
  refine KL.op (R.move rfl rfl) rfl rfl rfl ?_
  refine KL.op (R.extract rfl rfl rfl) rfl rfl rfl ?_
  refine KL.op (R.extract rfl rfl rfl) rfl rfl rfl ?_
  refine KL.op (R.assign rfl rfl) rfl rfl rfl ?_
  refine KL.op (R.assign rfl rfl) rfl rfl rfl ?_
  refine KL.nil ?_
  refine KQ.seq ?_
  refine KC.seq ?_
  refine KC.region ?_
  refine KL.op (R.move rfl rfl) rfl rfl rfl ?_
  refine KL.op (R.move rfl rfl) rfl rfl rfl ?_
  refine KL.op (R.copyNil rfl Try.underlying49 sz5 rfl rfl hs) rfl rfl rfl ?_
  refine KL.nil ?_
  refine KQ.seq ?_
  refine KC.seq ?_
  refine KC.region ?_
  refine KL.op (R.move rfl rfl) rfl rfl rfl ?_
  refine KL.op (R.assign rfl rfl) rfl rfl rfl ?_
  refine KL.nil ?_
  refine KQ.seq ?_
  refine KC.ret ?_
  refine KQ.ofRet ?_
  refine KQ.fin1 Try.results30 rfl ?_
  exact ⟨rfl, rfl⟩

set_option maxRecDepth 100000 in
set_option maxHeartbeats 4000000 in
theorem Put_nil {H : Heap} (at_ : Int) (r2 : InR .u32 at_) (u : Value) (m : List Int) (hs : Sl 1 (EInt .u8) H u m) (hm0 : m.length ≤ 9223372036854775807) : Ct Try.prog 30 [.pointer none, .int .u32 at_, u] H (fun r H' => r = .bool false ∧ H = H') := by
  refine Ct.mk Try.func30 rfl Try.ntmps30 rfl ?_
  intro W0 hW0
  have o0 : Old H H := Old.refl H
  dsimp only [InR] at r2
  refine KC.seq ?_
  refine KC.region ?_
  refine KL.op (R.assign rfl rfl) rfl rfl rfl ?_
  refine KL.nil ?_
  refine KQ.seq ?_
  refine KC.seq ?_
  refine KC.region ?_
  refine KL.op (R.move rfl rfl) rfl rfl rfl ?_
  refine KL.op (R.move rfl rfl) rfl rfl rfl ?_
  refine KL.op (R.convI rfl Try.underlying28 Try.underlying39 rfl (by dsimp only [InR]; omega)) rfl rfl rfl ?_
  refine KL.op (R.move rfl rfl) rfl rfl rfl ?_
  refine KL.op ((by first | exact R.lenS rfl Try.underlying49 rfl (by first | exact hs | assumption) | exact R.len (ty := 0) rfl Try.underlying49 rfl)) rfl rfl rfl ?_
  refine KL.op (R.convI rfl Try.underlying3 Try.underlying39 rfl (by dsimp only [InR]; omega)) rfl rfl rfl ?_
  refine KL.call rfl rfl rfl rfl Try.call19 rfl rfl rfl (part_nil _ _) ?_
  rintro _ _ ⟨rfl, rfl⟩
  refine KL.op (R.move rfl rfl) rfl rfl rfl ?_
  refine KL.op (R.extract rfl rfl rfl) rfl rfl rfl ?_
  refine KL.op (R.extract rfl rfl rfl) rfl rfl rfl ?_
  refine KL.op (R.assign rfl rfl) rfl rfl rfl ?_
  refine KL.op (R.assign rfl rfl) rfl rfl rfl ?_
  refine KL.nil ?_
  refine KQ.seq ?_
  refine KC.seq ?_
  refine KC.region ?_
  refine KL.op (R.move rfl rfl) rfl rfl rfl ?_
  refine KL.op (R.move rfl rfl) rfl rfl rfl ?_
  refine KL.op (R.copyNil rfl Try.underlying49 sz5 rfl rfl hs) rfl rfl rfl ?_
  refine KL.nil ?_
  refine KQ.seq ?_
  refine KC.seq ?_
  refine KC.region ?_
  refine KL.op (R.move rfl rfl) rfl rfl rfl ?_
  refine KL.op (R.assign rfl rfl) rfl rfl rfl ?_
  refine KL.nil ?_
  refine KQ.seq ?_
  refine KC.ret ?_
  refine KQ.ofRet ?_
  refine KQ.fin1 Try.results30 rfl ?_
  exact ⟨rfl, rfl⟩


def putB (bs : List Int) (a : Int) (m : List Int) : List Int := if a + m.length ≤ bs.length then putAt bs a.toNat m else bs
theorem Put_any {H : Heap} (g : Nat) (v : Value) (bs : List Int) (most : Int) (h : MAt 87 .u32 H g v bs most) (at_ : Int) (r2 : InR .u32 at_) (u : Value) (m : List Int) (hs : Sl 1 (EInt .u8) H u m) (hm0 : m.length ≤ 9223372036854775807) : Ct Try.prog 30 [.pointer (some ⟨g, 0, none⟩), .int .u32 at_, u] H (fun r H' => r = .bool (decide (at_ + m.length ≤ bs.length)) ∧ MAt 87 .u32 H' g v (putB bs at_ m) most ∧ Fr g v H H') := by
  unfold putB
  by_cases hl : at_ + m.length ≤ bs.length
  · rw [if_pos hl, decide_eq_true hl]
    exact Put_yes g v bs most h at_ r2 u m hs hm0 hl
  · rw [if_neg hl, decide_eq_false hl]
    exact (Put_no g v bs most h at_ r2 u m hs hm0 hl).mono (by rintro _ _ ⟨rfl, rfl⟩; exact ⟨rfl, h, Fr.refl _ _ _⟩)


theorem Sl.nilOf {α : Type} {n : Nat} {E : El α} {H : Heap} {k c : Nat} {l : List α} (h : Sl n E H (.slice none k c) l) : l = [] := by
  obtain ⟨a, cap, hv, h1, h2, h3, -⟩ := h
  injection hv with e1 e2 e3
  have := h3 e1.symm
  exact List.eq_nil_of_length_eq_zero (by omega)

set_option maxRecDepth 100000 in
set_option maxHeartbeats 4000000 in
theorem Clone_any {H : Heap} (u : Value) (l : List Int) (hs : Sl 1 (EInt .u8) H u l) (hl : l.length ≤ 1048576) : Ct Try.prog 20 [u] H (fun r H' => Own 1 (EInt .u8) 5 #[] H.size H' r l ∧ Old H H') := by
  refine Ct.mk Try.func20 rfl Try.ntmps20 rfl ?_
  intro W0 hW0
  have o0 : Old H H := Old.refl H
  obtain ⟨a, c, rfl⟩ := hs.val
  refine KC.seq ?_
  refine KC.region ?_
  refine KL.op (R.assign rfl rfl) rfl rfl rfl ?_
  refine KL.nil ?_
  refine KQ.seq ?_
  refine KC.seq ?_
  refine KC.seq ?_
  refine KC.region ?_
  refine KL.op (R.move rfl rfl) rfl rfl rfl ?_
  refine KL.op (R.eqlS rfl Try.underlying49 rfl rfl) rfl rfl rfl ?_
  refine KL.nil ?_
  refine KQ.seq ?_
  refine KC.iteL rfl ?_ ?_
  · intro hc4
    try simp only [decide_eq_true_eq, decide_eq_false_iff_not, Bool.not_eq_true', Bool.not_eq_false', Bool.and_eq_true, Bool.or_eq_false_iff] at hc4
    have ea : a = none := by simpa using hc4
    subst ea
    obtain rfl := hs.nilOf
    refine KC.seq ?_
    refine KC.region ?_
    refine KL.op (R.assign rfl rfl) rfl rfl rfl ?_
    refine KL.nil ?_
    refine KQ.seq ?_
    refine KC.ret ?_
    refine KQ.retThen ?_
    refine KQ.ofRet ?_
    refine KQ.fin1 Try.results20 rfl ?_
    first
      | exact ⟨Own.nil _ _ _ _ _ _, o0⟩
      | exact ⟨by simpa using wv, o0⟩
  · intro hc4
    try simp only [decide_eq_true_eq, decide_eq_false_iff_not, Bool.not_eq_true', Bool.not_eq_false', Bool.and_eq_true, Bool.or_eq_false_iff] at hc4
    refine KC.skip ?_
    refine KQ.seq ?_
    refine KC.seq ?_
    refine KC.region ?_
    refine KL.opM (M.lit rfl Try.underlying49 zs5 (by decide) rfl rfl rfl) rfl rfl rfl ?_
    rintro _ H1 ⟨rfl, n1⟩
    have z1 := n1.2.1
    have o0 := o0.trans n1.1
    have b1 := n1.2.2
    have wv : Own 1 (EInt .u8) 5 #[] H.size H1 _ ([] : List Int) := Own.lit (l := ([] : List Int)) n1 (Nat.le_refl _) rfl (by unfold maxLen; simp) rfl (by simp [nth])
    refine KL.op (R.move rfl rfl) rfl rfl rfl ?_
    have lt2 := wv.lt
    refine KL.opM (M.append rfl Try.underlying49 inf5 rfl (by decide) rfl rfl wv (by exact hs.old n1.1) (fun _ _ h _ => h) (by omega) (by simp; omega) (by unfold maxLen; simp; omega)) rfl rfl rfl ?_
    rintro v2 H2 ⟨w2, g2⟩
    try dsimp only at g2
    have ob2 := g2.oldB wv (by omega)
    have o0 := o0.then ob2 (by omega)
    have z2 := ob2.1
    have wv := w2
    refine KL.op (R.assign rfl rfl) rfl rfl rfl ?_
    refine KL.nil ?_
    refine KQ.seq ?_
    refine KC.ret ?_
    refine KQ.ofRet ?_
    refine KQ.fin1 Try.results20 rfl ?_
    first
      | exact ⟨Own.nil _ _ _ _ _ _, o0⟩
      | exact ⟨by simpa using wv, o0⟩


theorem prtP_le {bs : List Int} {a n : Int} {M : Nat} (ha : 0 ≤ a) (hn : 0 ≤ n) (h : bs.length ≤ M) : (prtP bs a n).length ≤ M := by
  unfold prtP
  split
  · rw [prt_length (by omega)]; omega
  · simp

set_option maxRecDepth 100000 in
set_option maxHeartbeats 4000000 in
theorem Get_any {H : Heap} (g : Nat) (v : Value) (bs : List Int) (most : Int) (h : MAt 87 .u32 H g v bs most) (at_ n : Int) (r2 : InR .u32 at_) (r3 : InR .u32 n) : Ct Try.prog 11 [.pointer (some ⟨g, 0, none⟩), .int .u32 at_, .int .u32 n] H (fun r H' => ∃ x, r = .tuple #[x, .bool (decide (at_ + n ≤ bs.length))] ∧ Own 1 (EInt .u8) 5 #[] H.size H' x (prtP bs at_ n) ∧ Old H H') := by
  refine Ct.mk Try.func11 rfl Try.ntmps11 rfl ?_
  intro W0 hW0
  have o0 : Old H H := Old.refl H
  dsimp only [InR] at r2 r3
  have hn := h.n
  refine KC.seq ?_
  refine KC.region ?_
  refine KL.op (R.assign rfl rfl) rfl rfl rfl ?_
  refine KL.op (R.assign rfl rfl) rfl rfl rfl ?_
  refine KL.nil ?_
  refine KQ.seq ?_
  refine KC.seq ?_
  refine KC.region ?_
  refine KL.op (R.move rfl rfl) rfl rfl rfl ?_
  refine KL.op (R.move rfl rfl) rfl rfl rfl ?_
  refine KL.op (R.convI rfl Try.underlying28 Try.underlying39 rfl (by dsimp only [InR]; omega)) rfl rfl rfl ?_
  refine KL.op (R.move rfl rfl) rfl rfl rfl ?_
  refine KL.op (R.convI rfl Try.underlying28 Try.underlying39 rfl (by dsimp only [InR]; omega)) rfl rfl rfl ?_
  refine KL.call rfl rfl rfl rfl Try.call19 rfl rfl rfl (part_any _ _ _ _ h _ _ (by omega) (by omega) (by omega) (by omega)) ?_
  rintro _ _ ⟨rfl, rfl⟩
  refine KL.op (R.move rfl rfl) rfl rfl rfl ?_
  refine KL.op (R.extract rfl rfl rfl) rfl rfl rfl ?_
  refine KL.op (R.extract rfl rfl rfl) rfl rfl rfl ?_
  refine KL.op (R.assign rfl rfl) rfl rfl rfl ?_
  refine KL.op (R.assign rfl rfl) rfl rfl rfl ?_
  refine KL.nil ?_
  refine KQ.seq ?_
  refine KC.seq ?_
  refine KC.region ?_
  refine KL.op (R.move rfl rfl) rfl rfl rfl ?_
  refine KL.call rfl rfl rfl rfl Try.call20 rfl rfl rfl (Clone_any _ _ (partS_sl h at_ n (by omega) (by omega)) (prtP_le (by omega) (by omega) (by omega))) ?_
  rintro x H1 ⟨wx, ox⟩
  have zc_H1 := (ox).1
  have o0 := o0.trans ox
  refine KL.op (R.move rfl rfl) rfl rfl rfl ?_
  refine KL.op (R.assign rfl rfl) rfl rfl rfl ?_
  refine KL.op (R.assign rfl rfl) rfl rfl rfl ?_
  refine KL.nil ?_
  refine KQ.seq ?_
  refine KC.ret ?_
  refine KQ.ofRet ?_
  refine KQ.fin2 Try.results11 rfl rfl ?_
  exact ⟨_, rfl, wx, o0⟩

set_option maxRecDepth 100000 in
set_option maxHeartbeats 4000000 in
theorem Get_nil {H : Heap} (at_ n : Int) (r2 : InR .u32 at_) (r3 : InR .u32 n) : Ct Try.prog 11 [.pointer none, .int .u32 at_, .int .u32 n] H (fun r H' => ∃ x, r = .tuple #[x, .bool false] ∧ Old H H') := by
  refine Ct.mk Try.func11 rfl Try.ntmps11 rfl ?_
  intro W0 hW0
  have o0 : Old H H := Old.refl H
  dsimp only [InR] at r2 r3
  refine KC.seq ?_
  refine KC.region ?_
  refine KL.op (R.assign rfl rfl) rfl rfl rfl ?_
  refine KL.op (R.assign rfl rfl) rfl rfl rfl ?_
  refine KL.nil ?_
  refine KQ.seq ?_
  refine KC.seq ?_
  refine KC.region ?_
  refine KL.op (R.move rfl rfl) rfl rfl rfl ?_
  refine KL.op (R.move rfl rfl) rfl rfl rfl ?_
  refine KL.op (R.convI rfl Try.underlying28 Try.underlying39 rfl (by dsimp only [InR]; omega)) rfl rfl rfl ?_
  refine KL.op (R.move rfl rfl) rfl rfl rfl ?_
  refine KL.op (R.convI rfl Try.underlying28 Try.underlying39 rfl (by dsimp only [InR]; omega)) rfl rfl rfl ?_
  refine KL.call rfl rfl rfl rfl Try.call19 rfl rfl rfl (part_nil _ _) ?_
  rintro _ _ ⟨rfl, rfl⟩
  refine KL.op (R.move rfl rfl) rfl rfl rfl ?_
  refine KL.op (R.extract rfl rfl rfl) rfl rfl rfl ?_
  refine KL.op (R.extract rfl rfl rfl) rfl rfl rfl ?_
  refine KL.op (R.assign rfl rfl) rfl rfl rfl ?_
  refine KL.op (R.assign rfl rfl) rfl rfl rfl ?_
  refine KL.nil ?_
  refine KQ.seq ?_
  refine KC.seq ?_
  refine KC.region ?_
  refine KL.op (R.move rfl rfl) rfl rfl rfl ?_
  refine KL.call rfl rfl rfl rfl Try.call20 rfl rfl rfl (Clone_any _ _ (Sl.nil _ _ _) (by simp)) ?_
  rintro x H1 ⟨wx, ox⟩
  have zc_H1 := (ox).1
  have o0 := o0.trans ox
  refine KL.op (R.move rfl rfl) rfl rfl rfl ?_
  refine KL.op (R.assign rfl rfl) rfl rfl rfl ?_
  refine KL.op (R.assign rfl rfl) rfl rfl rfl ?_
  refine KL.nil ?_
  refine KQ.seq ?_
  refine KC.ret ?_
  refine KQ.ofRet ?_
  refine KQ.fin2 Try.results11 rfl rfl ?_
  exact ⟨_, rfl, o0⟩


def newOk (mn mx : Int) : Prop := mn ≤ 16 ∧ (0 ≤ mx → mn ≤ mx)
def newM (mx : Int) : Int := if 0 ≤ mx then min mx 16 else 16
def zeros (n : Int) : List Int := List.replicate (n * 65536).toNat 0
theorem zeros_length (n : Int) : (zeros n).length = (n * 65536).toNat := by simp [zeros]
def Fresh (B g : Nat) (v : Value) : Prop := B ≤ g ∧ (v = .slice none 0 0 ∨ B ≤ vblock v)
theorem Fr.ob {g B : Nat} {v : Value} {H H' : Heap} (h : Fr g v H H') (hB : B ≤ H.size) (f : Fresh B g v) : OldB B H H' := h.oldB hB f.1 f.2
theorem Own.gt {α : Type} {n : Nat} {E : El α} {e : TypeId} {H0 H : Heap} {B : Nat} {v : Value} {l : List α} (h : Own n E e H0 B H v l) : v = .slice none 0 0 ∨ vblock v ≠ H.size := h.lt.imp id (fun h => by omega)

set_option maxRecDepth 100000 in
set_option maxHeartbeats 4000000 in
theorem New_any {H : Heap} (mn mx : Int) (r1 : InR .u32 mn) (r2 : InR .i64 mx) : Ct Try.prog 24 [.agg #[.int .u32 mn, .int .i64 mx]] H (fun u H' => Old H H' ∧ ((newOk mn mx ∧ ∃ g v, u = .tuple #[.pointer (some ⟨g, 0, none⟩), .int .i64 0] ∧ MAt 87 .u32 H' g v (zeros mn) (newM mx) ∧ Fresh H.size g v) ∨ (¬ newOk mn mx ∧ u = .tuple #[.pointer none, .int .i64 2]))) := by
  refine Ct.mk Try.func24 rfl Try.ntmps24 rfl ?_
  intro W0 hW0
  have o0 : Old H H := Old.refl H
  dsimp only [InR] at r1 r2
  refine KC.seq ?_
  refine KC.region ?_
  refine KL.opM (M.box rfl rfl rfl) rfl rfl rfl ?_
  rintro _ H1 ⟨rfl, n1⟩
  have z1 := n1.2.1
  have o0 := o0.trans n1.1
  have b1 := n1.2.2
  have bl := b1
  refine KL.op (R.assign rfl rfl) rfl rfl rfl ?_
  refine KL.op (R.assign rfl rfl) rfl rfl rfl ?_
  refine KL.nil ?_
  refine KQ.seq ?_
  refine KC.seq ?_
  refine KC.seq ?_
  refine KC.region ?_
  refine KL.op ((by first | exact R.fieldAddr rfl Try.underlying41 rfl rfl sz28 rfl | exact R.fieldAddrP rfl Try.underlying41 rfl rfl sz28 rfl)) rfl rfl rfl ?_
  refine KL.op (R.load rfl Try.underlying28 rfl rfl (by first | exact cell_of bl rfl | assumption)) rfl rfl rfl ?_
  refine KL.op (R.gtr rfl rfl rfl) rfl rfl rfl ?_
  refine KL.op (R.move rfl rfl) rfl rfl rfl ?_
  refine KL.case (d := 8) rfl ?_ ?_
  · intro hg8
    try simp only [decide_eq_true_eq, decide_eq_false_iff_not, Bool.not_eq_true', Bool.not_eq_false', Bool.and_eq_true, Bool.or_eq_false_iff] at hg8
    refine KL.skip rfl rfl rfl ?_
    refine KL.skip rfl rfl rfl ?_
    refine KL.skip rfl rfl rfl ?_
    refine KL.skip rfl rfl rfl ?_
    refine KL.skip rfl rfl rfl ?_
    refine KL.skip rfl rfl rfl ?_
    refine KL.skip rfl rfl rfl ?_
    refine KL.skip rfl rfl rfl ?_
    refine KL.skip rfl rfl rfl ?_
    refine KL.skip rfl rfl rfl ?_
    refine KL.skip rfl rfl rfl ?_
    refine KL.op (R.pick rfl rfl rfl) rfl rfl rfl ?_
    refine KL.nil ?_
    refine KQ.seq ?_
    refine KC.condT rfl ?_
    refine KC.seq ?_
    refine KC.region ?_
    refine KL.op (R.assign rfl rfl) rfl rfl rfl ?_
    refine KL.op (R.assign rfl rfl) rfl rfl rfl ?_
    refine KL.nil ?_
    refine KQ.seq ?_
    refine KC.ret ?_
    refine KQ.retThen ?_
    refine KQ.ofRet ?_
    refine KQ.fin2 Try.results24 rfl rfl ?_
    first
      | exact ⟨o0, .inr ⟨by unfold newOk; omega, rfl⟩⟩
      | (have eM : newM mx = min mx 16 := (by unfold newM; rw [if_pos (by omega)])
         rw [eM]
         exact ⟨o0, .inl ⟨by unfold newOk; omega, _, _, rfl, ⟨bm, wv, .inr (by omega), by rw [zeros_length]; omega⟩, by omega, .inr (by omega)⟩⟩)
      | (have eM : newM mx = 16 := (by unfold newM; rw [if_neg (by omega)])
         rw [eM]
         exact ⟨o0, .inl ⟨by unfold newOk; omega, _, _, rfl, ⟨bm, wv, .inr (by omega), by rw [zeros_length]; omega⟩, by omega, .inr (by omega)⟩⟩)
  · intro hg8
    try simp only [decide_eq_true_eq, decide_eq_false_iff_not, Bool.not_eq_true', Bool.not_eq_false', Bool.and_eq_true, Bool.or_eq_false_iff] at hg8
    refine KL.op ((by first | exact R.fieldAddr rfl Try.underlying41 rfl rfl sz2 rfl | exact R.fieldAddrP rfl Try.underlying41 rfl rfl sz2 rfl)) rfl rfl rfl ?_
    refine KL.op (R.load rfl Try.underlying2 rfl rfl (by first | exact cell_of bl rfl | assumption)) rfl rfl rfl ?_
    refine KL.op (R.geq rfl rfl rfl) rfl rfl rfl ?_
    refine KL.op (R.move rfl rfl) rfl rfl rfl ?_
    refine KL.case (d := 12) rfl ?_ ?_
    · intro hg12
      try simp only [decide_eq_true_eq, decide_eq_false_iff_not, Bool.not_eq_true', Bool.not_eq_false', Bool.and_eq_true, Bool.or_eq_false_iff] at hg12
      refine KL.op ((by first | exact R.fieldAddr rfl Try.underlying41 rfl rfl sz2 rfl | exact R.fieldAddrP rfl Try.underlying41 rfl rfl sz2 rfl)) rfl rfl rfl ?_
      refine KL.op (R.load rfl Try.underlying2 rfl rfl (by first | exact cell_of bl rfl | assumption)) rfl rfl rfl ?_
      refine KL.op ((by first | exact R.fieldAddr rfl Try.underlying41 rfl rfl sz28 rfl | exact R.fieldAddrP rfl Try.underlying41 rfl rfl sz28 rfl)) rfl rfl rfl ?_
      refine KL.op (R.load rfl Try.underlying28 rfl rfl (by first | exact cell_of bl rfl | assumption)) rfl rfl rfl ?_
      refine KL.op (R.convI rfl Try.underlying28 Try.underlying2 rfl (by dsimp only [InR]; omega)) rfl rfl rfl ?_
      refine KL.op (R.lss rfl rfl rfl) rfl rfl rfl ?_
      refine KL.op (R.pick rfl rfl rfl) rfl rfl rfl ?_
      refine KL.op (R.pick rfl rfl rfl) rfl rfl rfl ?_
      refine KL.nil ?_
      refine KQ.seq ?_
      refine KC.iteL rfl ?_ ?_
      · intro hc20
        try simp only [decide_eq_true_eq, decide_eq_false_iff_not, Bool.not_eq_true', Bool.not_eq_false', Bool.and_eq_true, Bool.or_eq_false_iff] at hc20
        refine KC.seq ?_
        refine KC.region ?_
        refine KL.op (R.assign rfl rfl) rfl rfl rfl ?_
        refine KL.op (R.assign rfl rfl) rfl rfl rfl ?_
        refine KL.nil ?_
        refine KQ.seq ?_
        refine KC.ret ?_
        refine KQ.retThen ?_
        refine KQ.ofRet ?_
        refine KQ.fin2 Try.results24 rfl rfl ?_
        first
          | exact ⟨o0, .inr ⟨by unfold newOk; omega, rfl⟩⟩
          | (have eM : newM mx = min mx 16 := (by unfold newM; rw [if_pos (by omega)])
             rw [eM]
             exact ⟨o0, .inl ⟨by unfold newOk; omega, _, _, rfl, ⟨bm, wv, .inr (by omega), by rw [zeros_length]; omega⟩, by omega, .inr (by omega)⟩⟩)
          | (have eM : newM mx = 16 := (by unfold newM; rw [if_neg (by omega)])
             rw [eM]
             exact ⟨o0, .inl ⟨by unfold newOk; omega, _, _, rfl, ⟨bm, wv, .inr (by omega), by rw [zeros_length]; omega⟩, by omega, .inr (by omega)⟩⟩)
      · intro hc20
        try simp only [decide_eq_true_eq, decide_eq_false_iff_not, Bool.not_eq_true', Bool.not_eq_false', Bool.and_eq_true, Bool.or_eq_false_iff] at hc20
        refine KC.skip ?_
        refine KQ.seq ?_
        refine KC.seq ?_
        refine KC.region ?_
        refine KL.op (R.assign rfl rfl) rfl rfl rfl ?_
        refine KL.nil ?_
        refine KQ.seq ?_
        refine KC.seq ?_
        refine KC.seq ?_
        refine KC.region ?_
        refine KL.op ((by first | exact R.fieldAddr rfl Try.underlying41 rfl rfl sz2 rfl | exact R.fieldAddrP rfl Try.underlying41 rfl rfl sz2 rfl)) rfl rfl rfl ?_
        refine KL.op (R.load rfl Try.underlying2 rfl rfl (by first | exact cell_of bl rfl | assumption)) rfl rfl rfl ?_
        refine KL.op (R.geq rfl rfl rfl) rfl rfl rfl ?_
        refine KL.nil ?_
        refine KQ.seq ?_
        refine KC.iteL rfl ?_ ?_
        · intro hc23
          try simp only [decide_eq_true_eq, decide_eq_false_iff_not, Bool.not_eq_true', Bool.not_eq_false', Bool.and_eq_true, Bool.or_eq_false_iff] at hc23
          refine KC.region ?_
          refine KL.op ((by first | exact R.fieldAddr rfl Try.underlying41 rfl rfl sz2 rfl | exact R.fieldAddrP rfl Try.underlying41 rfl rfl sz2 rfl)) rfl rfl rfl ?_
          refine KL.op (R.load rfl Try.underlying2 rfl rfl (by first | exact cell_of bl rfl | assumption)) rfl rfl rfl ?_
          refine KL.op (R.min rfl rfl rfl) rfl rfl rfl ?_
          refine KL.op (R.convI rfl Try.underlying2 Try.underlying28 rfl (by dsimp only [InR]; omega)) rfl rfl rfl ?_
          refine KL.op (R.assign rfl rfl) rfl rfl rfl ?_
          refine KL.nil ?_
          refine KQ.seq ?_
          refine KC.seq ?_
          refine KC.region ?_
          refine KL.op ((by first | exact R.fieldAddr rfl Try.underlying41 rfl rfl sz28 rfl | exact R.fieldAddrP rfl Try.underlying41 rfl rfl sz28 rfl)) rfl rfl rfl ?_
          refine KL.op (R.load rfl Try.underlying28 rfl rfl (by first | exact cell_of bl rfl | assumption)) rfl rfl rfl ?_
          refine KL.op (R.convI rfl Try.underlying28 Try.underlying3 rfl (by dsimp only [InR]; omega)) rfl rfl rfl ?_
          refine KL.op (R.mul rfl rfl rfl (by dsimp only [InR]; omega)) rfl rfl rfl ?_
          have hvb : vblock (Value.slice (some ⟨Array.size H1, 0, none⟩) (mn * 65536).toNat (mn * 65536).toNat) = Array.size H1 := rfl
          refine KL.opM (M.make rfl Try.underlying49 inf5 rfl rfl rfl (by omega) (by omega) (by omega) (by omega)) rfl rfl rfl ?_
          rintro _ H2 ⟨rfl, n2⟩
          have z2 := n2.2.1
          have o0 := o0.trans n2.1
          have bl := (n2.1).blk bl
          have b2 := n2.2.2
          have bz := b2
          have wv : Own 1 (EInt .u8) 5 #[] 0 H2 _ (zeros mn) := Own.made n2 (Nat.zero_le _) (by unfold maxLen; omega) ⟨rfl, by dsimp only [InR]; omega⟩
          refine KL.op (R.move rfl rfl) rfl rfl rfl ?_
          refine KL.op (R.buildL rfl Try.underlying87 zr87 [(0, 1), (1, 1)] (fun w => by kernel_rfl) rfl ⟨⟨_, rfl, rfl⟩, ⟨_, rfl, rfl⟩, trivial⟩ rfl rfl ⟨⟨_, rfl, by first | rfl | exact rfl | exact wv.cells1⟩, ⟨_, rfl, by first | rfl | exact rfl | exact wv.cells1⟩, trivial⟩ rfl) rfl rfl rfl ?_
          refine KL.opM (M.box rfl rfl rfl) rfl rfl rfl ?_
          rintro _ H3 ⟨rfl, n3⟩
          have z3 := n3.2.1
          have o0 := o0.trans n3.1
          have bl := (n3.1).blk bl
          have wv := wv.old n3.1
          have b3 := n3.2.2
          have bm := b3
          refine KL.op (R.assign rfl rfl) rfl rfl rfl ?_
          refine KL.op (R.assign rfl rfl) rfl rfl rfl ?_
          refine KL.nil ?_
          refine KQ.seq ?_
          refine KC.ret ?_
          refine KQ.ofRet ?_
          refine KQ.fin2 Try.results24 rfl rfl ?_
          first
            | exact ⟨o0, .inr ⟨by unfold newOk; omega, rfl⟩⟩
            | (have eM : newM mx = min mx 16 := (by unfold newM; rw [if_pos (by omega)])
               rw [eM]
               exact ⟨o0, .inl ⟨by unfold newOk; omega, _, _, rfl, ⟨bm, wv, .inr (by omega), by rw [zeros_length]; omega⟩, by omega, .inr (by omega)⟩⟩)
            | (have eM : newM mx = 16 := (by unfold newM; rw [if_neg (by omega)])
               rw [eM]
               exact ⟨o0, .inl ⟨by unfold newOk; omega, _, _, rfl, ⟨bm, wv, .inr (by omega), by rw [zeros_length]; omega⟩, by omega, .inr (by omega)⟩⟩)
        · intro hc23
          try simp only [decide_eq_true_eq, decide_eq_false_iff_not, Bool.not_eq_true', Bool.not_eq_false', Bool.and_eq_true, Bool.or_eq_false_iff] at hc23
          refine KC.skip ?_
          refine KQ.seq ?_
          refine KC.seq ?_
          refine KC.region ?_
          refine KL.op ((by first | exact R.fieldAddr rfl Try.underlying41 rfl rfl sz28 rfl | exact R.fieldAddrP rfl Try.underlying41 rfl rfl sz28 rfl)) rfl rfl rfl ?_
          refine KL.op (R.load rfl Try.underlying28 rfl rfl (by first | exact cell_of bl rfl | assumption)) rfl rfl rfl ?_
          refine KL.op (R.convI rfl Try.underlying28 Try.underlying3 rfl (by dsimp only [InR]; omega)) rfl rfl rfl ?_
          refine KL.op (R.mul rfl rfl rfl (by dsimp only [InR]; omega)) rfl rfl rfl ?_
          have hvb : vblock (Value.slice (some ⟨Array.size H1, 0, none⟩) (mn * 65536).toNat (mn * 65536).toNat) = Array.size H1 := rfl
          refine KL.opM (M.make rfl Try.underlying49 inf5 rfl rfl rfl (by omega) (by omega) (by omega) (by omega)) rfl rfl rfl ?_
          rintro _ H4 ⟨rfl, n4⟩
          have z4 := n4.2.1
          have o0 := o0.trans n4.1
          have bl := (n4.1).blk bl
          have b4 := n4.2.2
          have bz := b4
          have wv : Own 1 (EInt .u8) 5 #[] 0 H4 _ (zeros mn) := Own.made n4 (Nat.zero_le _) (by unfold maxLen; omega) ⟨rfl, by dsimp only [InR]; omega⟩
          refine KL.op (R.move rfl rfl) rfl rfl rfl ?_
          refine KL.op (R.buildL rfl Try.underlying87 zr87 [(0, 1), (1, 1)] (fun w => by kernel_rfl) rfl ⟨⟨_, rfl, rfl⟩, ⟨_, rfl, rfl⟩, trivial⟩ rfl rfl ⟨⟨_, rfl, by first | rfl | exact rfl | exact wv.cells1⟩, ⟨_, rfl, by first | rfl | exact rfl | exact wv.cells1⟩, trivial⟩ rfl) rfl rfl rfl ?_
          refine KL.opM (M.box rfl rfl rfl) rfl rfl rfl ?_
          rintro _ H5 ⟨rfl, n5⟩
          have z5 := n5.2.1
          have o0 := o0.trans n5.1
          have bl := (n5.1).blk bl
          have wv := wv.old n5.1
          have b5 := n5.2.2
          have bm := b5
          refine KL.op (R.assign rfl rfl) rfl rfl rfl ?_
          refine KL.op (R.assign rfl rfl) rfl rfl rfl ?_
          refine KL.nil ?_
          refine KQ.seq ?_
          refine KC.ret ?_
          refine KQ.ofRet ?_
          refine KQ.fin2 Try.results24 rfl rfl ?_
          first
            | exact ⟨o0, .inr ⟨by unfold newOk; omega, rfl⟩⟩
            | (have eM : newM mx = min mx 16 := (by unfold newM; rw [if_pos (by omega)])
               rw [eM]
               exact ⟨o0, .inl ⟨by unfold newOk; omega, _, _, rfl, ⟨bm, wv, .inr (by omega), by rw [zeros_length]; omega⟩, by omega, .inr (by omega)⟩⟩)
            | (have eM : newM mx = 16 := (by unfold newM; rw [if_neg (by omega)])
               rw [eM]
               exact ⟨o0, .inl ⟨by unfold newOk; omega, _, _, rfl, ⟨bm, wv, .inr (by omega), by rw [zeros_length]; omega⟩, by omega, .inr (by omega)⟩⟩)
    · intro hg12
      try simp only [decide_eq_true_eq, decide_eq_false_iff_not, Bool.not_eq_true', Bool.not_eq_false', Bool.and_eq_true, Bool.or_eq_false_iff] at hg12
      refine KL.skip rfl rfl rfl ?_
      refine KL.skip rfl rfl rfl ?_
      refine KL.skip rfl rfl rfl ?_
      refine KL.skip rfl rfl rfl ?_
      refine KL.skip rfl rfl rfl ?_
      refine KL.skip rfl rfl rfl ?_
      refine KL.op (R.pick rfl rfl rfl) rfl rfl rfl ?_
      refine KL.op (R.pick rfl rfl rfl) rfl rfl rfl ?_
      refine KL.nil ?_
      refine KQ.seq ?_
      refine KC.condF rfl ?_
      refine KC.skip ?_
      refine KQ.seq ?_
      refine KC.seq ?_
      refine KC.region ?_
      refine KL.op (R.assign rfl rfl) rfl rfl rfl ?_
      refine KL.nil ?_
      refine KQ.seq ?_
      refine KC.seq ?_
      refine KC.seq ?_
      refine KC.region ?_
      refine KL.op ((by first | exact R.fieldAddr rfl Try.underlying41 rfl rfl sz2 rfl | exact R.fieldAddrP rfl Try.underlying41 rfl rfl sz2 rfl)) rfl rfl rfl ?_
      refine KL.op (R.load rfl Try.underlying2 rfl rfl (by first | exact cell_of bl rfl | assumption)) rfl rfl rfl ?_
      refine KL.op (R.geq rfl rfl rfl) rfl rfl rfl ?_
      refine KL.nil ?_
      refine KQ.seq ?_
      refine KC.iteL rfl ?_ ?_
      · intro hc23
        try simp only [decide_eq_true_eq, decide_eq_false_iff_not, Bool.not_eq_true', Bool.not_eq_false', Bool.and_eq_true, Bool.or_eq_false_iff] at hc23
        refine KC.region ?_
        refine KL.op ((by first | exact R.fieldAddr rfl Try.underlying41 rfl rfl sz2 rfl | exact R.fieldAddrP rfl Try.underlying41 rfl rfl sz2 rfl)) rfl rfl rfl ?_
        refine KL.op (R.load rfl Try.underlying2 rfl rfl (by first | exact cell_of bl rfl | assumption)) rfl rfl rfl ?_
        refine KL.op (R.min rfl rfl rfl) rfl rfl rfl ?_
        refine KL.op (R.convI rfl Try.underlying2 Try.underlying28 rfl (by dsimp only [InR]; omega)) rfl rfl rfl ?_
        refine KL.op (R.assign rfl rfl) rfl rfl rfl ?_
        refine KL.nil ?_
        refine KQ.seq ?_
        refine KC.seq ?_
        refine KC.region ?_
        refine KL.op ((by first | exact R.fieldAddr rfl Try.underlying41 rfl rfl sz28 rfl | exact R.fieldAddrP rfl Try.underlying41 rfl rfl sz28 rfl)) rfl rfl rfl ?_
        refine KL.op (R.load rfl Try.underlying28 rfl rfl (by first | exact cell_of bl rfl | assumption)) rfl rfl rfl ?_
        refine KL.op (R.convI rfl Try.underlying28 Try.underlying3 rfl (by dsimp only [InR]; omega)) rfl rfl rfl ?_
        refine KL.op (R.mul rfl rfl rfl (by dsimp only [InR]; omega)) rfl rfl rfl ?_
        have hvb : vblock (Value.slice (some ⟨Array.size H1, 0, none⟩) (mn * 65536).toNat (mn * 65536).toNat) = Array.size H1 := rfl
        refine KL.opM (M.make rfl Try.underlying49 inf5 rfl rfl rfl (by omega) (by omega) (by omega) (by omega)) rfl rfl rfl ?_
        rintro _ H6 ⟨rfl, n6⟩
        have z6 := n6.2.1
        have o0 := o0.trans n6.1
        have bl := (n6.1).blk bl
        have b6 := n6.2.2
        have bz := b6
        have wv : Own 1 (EInt .u8) 5 #[] 0 H6 _ (zeros mn) := Own.made n6 (Nat.zero_le _) (by unfold maxLen; omega) ⟨rfl, by dsimp only [InR]; omega⟩
        refine KL.op (R.move rfl rfl) rfl rfl rfl ?_
        refine KL.op (R.buildL rfl Try.underlying87 zr87 [(0, 1), (1, 1)] (fun w => by kernel_rfl) rfl ⟨⟨_, rfl, rfl⟩, ⟨_, rfl, rfl⟩, trivial⟩ rfl rfl ⟨⟨_, rfl, by first | rfl | exact rfl | exact wv.cells1⟩, ⟨_, rfl, by first | rfl | exact rfl | exact wv.cells1⟩, trivial⟩ rfl) rfl rfl rfl ?_
        refine KL.opM (M.box rfl rfl rfl) rfl rfl rfl ?_
        rintro _ H7 ⟨rfl, n7⟩
        have z7 := n7.2.1
        have o0 := o0.trans n7.1
        have bl := (n7.1).blk bl
        have wv := wv.old n7.1
        have b7 := n7.2.2
        have bm := b7
        refine KL.op (R.assign rfl rfl) rfl rfl rfl ?_
        refine KL.op (R.assign rfl rfl) rfl rfl rfl ?_
        refine KL.nil ?_
        refine KQ.seq ?_
        refine KC.ret ?_
        refine KQ.ofRet ?_
        refine KQ.fin2 Try.results24 rfl rfl ?_
        first
          | exact ⟨o0, .inr ⟨by unfold newOk; omega, rfl⟩⟩
          | (have eM : newM mx = min mx 16 := (by unfold newM; rw [if_pos (by omega)])
             rw [eM]
             exact ⟨o0, .inl ⟨by unfold newOk; omega, _, _, rfl, ⟨bm, wv, .inr (by omega), by rw [zeros_length]; omega⟩, by omega, .inr (by omega)⟩⟩)
          | (have eM : newM mx = 16 := (by unfold newM; rw [if_neg (by omega)])
             rw [eM]
             exact ⟨o0, .inl ⟨by unfold newOk; omega, _, _, rfl, ⟨bm, wv, .inr (by omega), by rw [zeros_length]; omega⟩, by omega, .inr (by omega)⟩⟩)
      · intro hc23
        try simp only [decide_eq_true_eq, decide_eq_false_iff_not, Bool.not_eq_true', Bool.not_eq_false', Bool.and_eq_true, Bool.or_eq_false_iff] at hc23
        refine KC.skip ?_
        refine KQ.seq ?_
        refine KC.seq ?_
        refine KC.region ?_
        refine KL.op ((by first | exact R.fieldAddr rfl Try.underlying41 rfl rfl sz28 rfl | exact R.fieldAddrP rfl Try.underlying41 rfl rfl sz28 rfl)) rfl rfl rfl ?_
        refine KL.op (R.load rfl Try.underlying28 rfl rfl (by first | exact cell_of bl rfl | assumption)) rfl rfl rfl ?_
        refine KL.op (R.convI rfl Try.underlying28 Try.underlying3 rfl (by dsimp only [InR]; omega)) rfl rfl rfl ?_
        refine KL.op (R.mul rfl rfl rfl (by dsimp only [InR]; omega)) rfl rfl rfl ?_
        have hvb : vblock (Value.slice (some ⟨Array.size H1, 0, none⟩) (mn * 65536).toNat (mn * 65536).toNat) = Array.size H1 := rfl
        refine KL.opM (M.make rfl Try.underlying49 inf5 rfl rfl rfl (by omega) (by omega) (by omega) (by omega)) rfl rfl rfl ?_
        rintro _ H8 ⟨rfl, n8⟩
        have z8 := n8.2.1
        have o0 := o0.trans n8.1
        have bl := (n8.1).blk bl
        have b8 := n8.2.2
        have bz := b8
        have wv : Own 1 (EInt .u8) 5 #[] 0 H8 _ (zeros mn) := Own.made n8 (Nat.zero_le _) (by unfold maxLen; omega) ⟨rfl, by dsimp only [InR]; omega⟩
        refine KL.op (R.move rfl rfl) rfl rfl rfl ?_
        refine KL.op (R.buildL rfl Try.underlying87 zr87 [(0, 1), (1, 1)] (fun w => by kernel_rfl) rfl ⟨⟨_, rfl, rfl⟩, ⟨_, rfl, rfl⟩, trivial⟩ rfl rfl ⟨⟨_, rfl, by first | rfl | exact rfl | exact wv.cells1⟩, ⟨_, rfl, by first | rfl | exact rfl | exact wv.cells1⟩, trivial⟩ rfl) rfl rfl rfl ?_
        refine KL.opM (M.box rfl rfl rfl) rfl rfl rfl ?_
        rintro _ H9 ⟨rfl, n9⟩
        have z9 := n9.2.1
        have o0 := o0.trans n9.1
        have bl := (n9.1).blk bl
        have wv := wv.old n9.1
        have b9 := n9.2.2
        have bm := b9
        refine KL.op (R.assign rfl rfl) rfl rfl rfl ?_
        refine KL.op (R.assign rfl rfl) rfl rfl rfl ?_
        refine KL.nil ?_
        refine KQ.seq ?_
        refine KC.ret ?_
        refine KQ.ofRet ?_
        refine KQ.fin2 Try.results24 rfl rfl ?_
        first
          | exact ⟨o0, .inr ⟨by unfold newOk; omega, rfl⟩⟩
          | (have eM : newM mx = min mx 16 := (by unfold newM; rw [if_pos (by omega)])
             rw [eM]
             exact ⟨o0, .inl ⟨by unfold newOk; omega, _, _, rfl, ⟨bm, wv, .inr (by omega), by rw [zeros_length]; omega⟩, by omega, .inr (by omega)⟩⟩)
          | (have eM : newM mx = 16 := (by unfold newM; rw [if_neg (by omega)])
             rw [eM]
             exact ⟨o0, .inl ⟨by unfold newOk; omega, _, _, rfl, ⟨bm, wv, .inr (by omega), by rw [zeros_length]; omega⟩, by omega, .inr (by omega)⟩⟩)

set_option maxRecDepth 100000 in
set_option maxHeartbeats 4000000 in
theorem Pages_any {H : Heap} (g : Nat) (v : Value) (bs : List Int) (most : Int) (h : MAt 87 .u32 H g v bs most) : Ct Try.prog 29 [.pointer (some ⟨g, 0, none⟩)] H (fun u H' => u = .int .u32 ((bs.length : Int) / 65536) ∧ H = H') := by
  refine Ct.mk Try.func29 rfl Try.ntmps29 rfl ?_
  intro W0 hW0
  have o0 : Old H H := Old.refl H
  have hb := h.b
  have hw := h.w
  have hn := h.n
  have hs := hw.sl (emptyOld _) (by decide)
  refine KC.seq ?_
  refine KC.region ?_
  refine KL.op (R.assign rfl rfl) rfl rfl rfl ?_
  refine KL.nil ?_
  refine KQ.seq ?_
  refine KC.seq ?_
  refine KC.seq ?_
  refine KC.region ?_
  refine KL.op (R.move rfl rfl) rfl rfl rfl ?_
  refine KL.op (R.eqlP rfl Try.underlying51 rfl rfl) rfl rfl rfl ?_
  refine KL.nil ?_
  refine KQ.seq ?_
  refine KC.condF rfl ?_
  refine KC.skip ?_
  refine KQ.seq ?_
  refine KC.seq ?_
  refine KC.region ?_
  refine KL.op (R.move rfl rfl) rfl rfl rfl ?_
  refine KL.op (R.nilCheck rfl rfl) rfl rfl rfl ?_
  refine KL.op ((by first | exact R.fieldAddr rfl Try.underlying87 rfl rfl sz49 rfl | exact R.fieldAddrP rfl Try.underlying87 rfl rfl sz49 rfl)) rfl rfl rfl ?_
  refine KL.op (R.load rfl Try.underlying49 rfl rfl (by first | exact cell_of hb rfl | assumption)) rfl rfl rfl ?_
  refine KL.op ((by first | exact R.lenS rfl Try.underlying49 rfl (by first | exact hs | assumption) | exact R.len (ty := 0) rfl Try.underlying49 rfl)) rfl rfl rfl ?_
  refine KL.op (R.quo rfl rfl rfl (by omega) (by omega) (by dsimp only [InR]; omega)) rfl rfl rfl ?_
  refine KL.op (R.convI rfl Try.underlying3 Try.underlying28 rfl (by dsimp only [InR]; omega)) rfl rfl rfl ?_
  refine KL.op (R.assign rfl rfl) rfl rfl rfl ?_
  refine KL.nil ?_
  refine KQ.seq ?_
  refine KC.ret ?_
  refine KQ.ofRet ?_
  refine KQ.fin1 Try.results29 rfl ?_
  exact ⟨rfl, rfl⟩

set_option maxRecDepth 100000 in
set_option maxHeartbeats 4000000 in
theorem Pages_nil {H : Heap} : Ct Try.prog 29 [.pointer none] H (fun u H' => u = .int .u32 0 ∧ H = H') := by
  refine Ct.mk Try.func29 rfl Try.ntmps29 rfl ?_
  intro W0 hW0
  have o0 : Old H H := Old.refl H
  refine KC.seq ?_
  refine KC.region ?_
  refine KL.op (R.assign rfl rfl) rfl rfl rfl ?_
  refine KL.nil ?_
  refine KQ.seq ?_
  refine KC.seq ?_
  refine KC.seq ?_
  refine KC.region ?_
  refine KL.op (R.move rfl rfl) rfl rfl rfl ?_
  refine KL.op (R.eqlP rfl Try.underlying51 rfl rfl) rfl rfl rfl ?_
  refine KL.nil ?_
  refine KQ.seq ?_
  refine KC.condT rfl ?_
  refine KC.seq ?_
  refine KC.region ?_
  refine KL.op (R.assign rfl rfl) rfl rfl rfl ?_
  refine KL.nil ?_
  refine KQ.seq ?_
  refine KC.ret ?_
  refine KQ.retThen ?_
  refine KQ.ofRet ?_
  refine KQ.fin1 Try.results29 rfl ?_
  exact ⟨rfl, rfl⟩

set_option maxRecDepth 100000 in
set_option maxHeartbeats 4000000 in
theorem Copy_nil {H : Heap} : Ct Try.prog 21 [.pointer none] H (fun u H' => u = .pointer none ∧ H = H') := by
  refine Ct.mk Try.func21 rfl Try.ntmps21 rfl ?_
  intro W0 hW0
  have o0 : Old H H := Old.refl H
  refine KC.seq ?_
  refine KC.region ?_
  refine KL.op (R.assign rfl rfl) rfl rfl rfl ?_
  refine KL.nil ?_
  refine KQ.seq ?_
  refine KC.seq ?_
  refine KC.seq ?_
  refine KC.region ?_
  refine KL.op (R.move rfl rfl) rfl rfl rfl ?_
  refine KL.op (R.eqlP rfl Try.underlying51 rfl rfl) rfl rfl rfl ?_
  refine KL.nil ?_
  refine KQ.seq ?_
  refine KC.condT rfl ?_
  refine KC.seq ?_
  refine KC.region ?_
  refine KL.op (R.assign rfl rfl) rfl rfl rfl ?_
  refine KL.nil ?_
  refine KQ.seq ?_
  refine KC.ret ?_
  refine KQ.retThen ?_
  refine KQ.ofRet ?_
  refine KQ.fin1 Try.results21 rfl ?_
  exact ⟨rfl, rfl⟩

end Go.Proofs.Yticnkojpfmkjeaa
