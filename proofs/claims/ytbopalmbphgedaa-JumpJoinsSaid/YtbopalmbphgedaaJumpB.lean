/- Functions of package jump. No condition. -/
import Derived.Test.YtbopalmbphgedaaJumpA
namespace Go.Proofs.Ytbopalmbphgedaa
open Go Go.RowKit
set_option linter.unusedVariables false
set_option linter.unusedSimpArgs false
set_option linter.unnecessarySimpa false

theorem rep_set (a b : Int) (n k : Nat) (h : k < n) : (List.replicate k a ++ List.replicate (n - k) b).set k a = List.replicate (k + 1) a ++ List.replicate (n - (k + 1)) b := by
  rw [List.set_append_right _ _ (by simp)]
  simp only [List.length_replicate, Nat.sub_self]
  rw [show n - k = (n - (k + 1)) + 1 by omega, List.replicate_succ, List.set_cons_zero, List.replicate_succ']
  simp

set_option maxRecDepth 100000 in
set_option maxHeartbeats 4000000 in
theorem row_any {H : Heap} (g : Nat) (v : Value) (l : List Ins) (bp : H[g]? = some (.cells [v].toArray 27 (0, 0))) (hs : Sl 5 EIns H v l) (hl : l.length < 1000000) : Ct Try.prog 21 [.pointer (some ⟨g, 0, none⟩)] H (fun u H' => u = .slice (some ⟨H.size, 0, none⟩) l.length l.length ∧ Own 1 (EInt .i64) 3 #[] H.size H' u (List.replicate l.length (-1)) ∧ Old H H' ∧ H'.size = H.size + 1) := by
  refine Ct.mk Try.func21 rfl Try.ntmps21 rfl ?_
  intro W0 hW0
  have o0 : Old H H := Old.refl H
  refine KC.seq ?_
  refine KC.region ?_
  refine KL.op (R.assign rfl rfl) rfl rfl rfl ?_
  refine KL.nil ?_
  refine KQ.seq ?_
  refine KC.seq ?_
  refine KC.region ?_
  refine KL.op (R.load rfl Try.underlying27 rfl rfl (by first | exact cell_of bp rfl | assumption)) rfl rfl rfl ?_
  refine KL.op ((by first | exact R.lenS rfl Try.underlying27 rfl (by first | exact hs | assumption) | exact R.len (ty := 0) rfl Try.underlying27 rfl)) rfl rfl rfl ?_
  refine KL.opM (M.make rfl Try.underlying40 inf3 rfl rfl rfl (by omega) (by omega) (by omega) (by omega)) rfl rfl rfl ?_
  rintro _ H1 ⟨rfl, n1⟩
  have z1 := n1.2.1
  have o0 := o0.trans n1.1
  have bp := (n1.1).blk bp
  have b1 := n1.2.2
  have wv := Own.made (E := EInt .i64) (H0 := #[]) (B := H.size) (x := 0) n1 (Nat.le_refl _) (by unfold maxLen; simp; omega) ⟨rfl, by dsimp only [InR]; omega⟩
  refine KL.op (R.assign rfl rfl) rfl rfl rfl ?_
  refine KL.nil ?_
  refine KQ.seq ?_
  refine KC.seq ?_
  refine KC.seq ?_
  refine KC.region ?_
  refine KL.op (R.move rfl rfl) rfl rfl rfl ?_
  refine KL.op (R.len (ty := 0) rfl Try.underlying40 rfl) rfl rfl rfl ?_
  refine KL.op (R.move rfl rfl) rfl rfl rfl ?_
  refine KL.nil ?_
  refine KQ.seq ?_
  refine KC.block ?_
  refine KC.loopD (κ := Nat) [10, 11, 3, 12, 13, 14, 15, 9] (fun k => [(9, .int .i64 (k : Nat))]) (fun k Hl => k ≤ l.length ∧ Own 1 (EInt .i64) 3 #[] H.size Hl (.slice (some ⟨H.size, 0, none⟩) (l.length : Int).toNat (l.length : Int).toNat) (List.replicate k (-1) ++ List.replicate (l.length - k) 0) ∧ Old H Hl ∧ Hl.size = H.size + 1) (fun k => l.length - k) 0 ?_ ?_ ?_
  · exact (Sub.cons rfl (Ext.sub (Ext.refl _ _)))
  · exact ⟨Nat.zero_le _, by simpa using wv, o0, z1⟩
  · rintro k H2 ⟨hk, wv, o0, zl⟩
    have zl_H2 := o0.1
    have hvb : vblock (Value.slice (some ⟨H.size, 0, none⟩) (l.length : Int).toNat (l.length : Int).toNat) = H.size := rfl
    refine KC.seq ?_
    refine KC.region ?_
    refine KL.op (R.lss rfl rfl rfl) rfl rfl rfl ?_
    refine KL.nil ?_
    refine KQ.seq ?_
    refine KC.seq ?_
    refine KC.iteL rfl ?_ ?_
    · intro hc10
      try simp only [decide_eq_true_eq, decide_eq_false_iff_not, Bool.not_eq_true', Bool.not_eq_false', Bool.and_eq_true, Bool.or_eq_false_iff] at hc10
      refine KC.skip ?_
      refine KQ.seq ?_
      refine KC.seq ?_
      refine KC.block ?_
      refine KC.seq ?_
      refine KC.region ?_
      refine KL.op (R.move rfl rfl) rfl rfl rfl ?_
      refine KL.op (R.assign rfl rfl) rfl rfl rfl ?_
      refine KL.nil ?_
      refine KQ.seq ?_
      refine KC.region ?_
      refine KL.op (R.move rfl rfl) rfl rfl rfl ?_
      refine KL.op (R.move rfl rfl) rfl rfl rfl ?_
      refine KL.op (R.indexO1 (j := k) rfl Try.underlying40 sz3 rfl rfl wv rfl (by simp; omega)) rfl rfl rfl ?_
      refine KL.opS (S.own1 rfl sz3 rfl rfl rfl rfl wv (by simp; omega) ⟨rfl, by dsimp only [InR]; omega⟩) rfl rfl ?_
      rintro H3 ⟨u3, w3⟩
      have o0 := o0.upd u3 (by omega)
      have zu3 := u3.1
      have wv := w3
      refine KL.nil ?_
      refine KQ.normBlock ?_
      refine KQ.seq ?_
      refine KC.region ?_
      refine KL.op (R.add rfl rfl rfl (by dsimp only [InR]; omega)) rfl rfl rfl ?_
      refine KL.op (R.move rfl rfl) rfl rfl rfl ?_
      refine KL.nil ?_
      refine KQ.again (k + 1) ?_ ?_ ?_
      · exact (Sub.cons rfl (Ext.sub (by repeat (first | exact Ext.refl _ _ | refine Ext.put rfl ?_ | refine Ext.drop rfl ?_))))
      · omega
      · exact ⟨by omega, by rw [← rep_set (-1) 0 l.length k (by omega)]; exact wv, o0, by omega⟩
    · intro hc10
      try simp only [decide_eq_true_eq, decide_eq_false_iff_not, Bool.not_eq_true', Bool.not_eq_false', Bool.and_eq_true, Bool.or_eq_false_iff] at hc10
      refine KC.exit ?_
      refine KQ.exitThen ?_
      refine KQ.exitThen ?_
      refine KQ.hit ?_
      refine KQ.seq ?_
      refine KC.seq ?_
      refine KC.region ?_
      refine KL.op (R.move rfl rfl) rfl rfl rfl ?_
      refine KL.op (R.assign rfl rfl) rfl rfl rfl ?_
      refine KL.nil ?_
      refine KQ.seq ?_
      refine KC.ret ?_
      refine KQ.ofRet ?_
      refine KQ.fin1 Try.results21 rfl ?_
      have ek : k = l.length := by simp at hc10; omega
      subst ek
      exact ⟨rfl, by simpa using wv, o0, zl⟩


namespace JS
def init (n : Nat) : JS := ⟨List.replicate n (-1), List.replicate n (-1), List.replicate n (-1), 0, []⟩
def opened (s : JS) (i : Int) : JS := { s with opn := s.opn ++ [i], dp := max s.dp (s.opn.length + 1) }
instance (s : JS) (body : List Ins) : Decidable (s.mayTurn body) := by unfold mayTurn; infer_instance
/-- one instruction -/
def step (body : List Ins) (s : JS) (k : Nat) : Option JS :=
  let x := (body.getD k default).op
  if x = 2 ∨ x = 3 ∨ x = 4 then some (s.opened k)
  else if x = 5 then (if s.mayTurn body then some (s.turned k) else none)
  else if x = 11 then (if s.opn.length = 0 then none else some (s.closed k))
  else some s
/-- the first k instructions -/
def run (body : List Ins) : Nat → Option JS
  | 0 => some (init body.length)
  | k + 1 => (run body k).bind fun s => step body s k
/-- all of them; nothing is left open -/
def of (body : List Ins) : Option JS := (run body body.length).bind fun s => if s.opn.length = 0 then some s else none

theorem ok_step {body : List Ins} {s s' : JS} {k : Nat} (h : s.Ok body.length) (hk : k < body.length) (hs : step body s k = some s') : s'.Ok body.length := by
  have hset : ∀ (l : List Int) (i : Nat) (x : Int) (Q : Int → Prop), (∀ y ∈ l, Q y) → Q x → ∀ y ∈ l.set i x, Q y := by
    intro l i x Q hl hx y hy
    rcases List.mem_or_eq_of_mem_set hy with h | h
    · exact hl y h
    · rw [h]; exact hx
  unfold step at hs
  dsimp only at hs
  split at hs
  · cases hs
    refine ⟨h.en, h.el, h.op, ?_, h.elr⟩
    intro x hx
    simp only [opened, List.mem_append, List.mem_singleton] at hx
    rcases hx with hx | rfl
    · exact h.opn x hx
    · omega
  · split at hs
    · split at hs
      · cases hs
        refine ⟨h.en, by simp [turned, h.el], by simp [turned, h.op], h.opn, ?_⟩
        exact hset _ _ _ _ h.elr (by omega)
      · cases hs
    · split at hs
      · split at hs
        · cases hs
        · next h0 =>
          cases hs
          refine ⟨?_, h.el, by simp [closed, h.op], ?_, h.elr⟩
          · simp only [closed]; split <;> simp [h.en]
          · intro x hx
            exact h.opn x (List.mem_of_mem_take hx)
      · cases hs; exact h
theorem ok_run {body : List Ins} : ∀ {k : Nat} {s : JS}, k ≤ body.length → run body k = some s → s.Ok body.length := by
  intro k
  induction k with
  | zero =>
    intro s _ h
    simp only [run, Option.some.injEq] at h
    subst h
    refine ⟨by simp [init], by simp [init], by simp [init], by simp [init], ?_⟩
    intro x hx
    simp only [init, List.mem_replicate] at hx
    omega
  | succ k ih =>
    intro s hk h
    simp only [run, Option.bind_eq_some_iff] at h
    obtain ⟨s0, h0, h1⟩ := h
    exact ok_step (ih (by omega) h0) (by omega) h1
theorem dp_run {body : List Ins} : ∀ {k : Nat} {s : JS}, k ≤ body.length → run body k = some s → 0 ≤ s.dp ∧ s.dp ≤ k ∧ s.opn.length ≤ k := by
  intro k
  induction k with
  | zero =>
    intro s _ h
    simp only [run, Option.some.injEq] at h
    subst h
    simp [init]
  | succ k ih =>
    intro s hk h
    simp only [run, Option.bind_eq_some_iff] at h
    obtain ⟨s0, h0, h1⟩ := h
    have := ih (by omega) h0
    unfold step at h1
    dsimp only at h1
    split at h1
    · cases h1; simp only [opened, List.length_append, List.length_singleton]; omega
    · split at h1
      · split at h1
        · cases h1; simp only [turned]; omega
        · cases h1
      · split at h1
        · split at h1
          · cases h1
          · cases h1; simp only [closed, List.length_take]; omega
        · cases h1; omega
end JS
theorem JS.of_fail {body : List Ins} {s : JS} {k : Nat} (hk : k < body.length) (hr : JS.run body k = some s) (hs : JS.step body s k = none) : JS.of body = none := by
  have key : ∀ m, JS.run body (k + 1 + m) = none := by
    intro m
    induction m with
    | zero => simp only [Nat.add_zero, JS.run, hr, Option.bind_some, hs]
    | succ m ih => rw [← Nat.add_assoc]; simp only [JS.run, ih, Option.bind_none]
  have := key (body.length - (k + 1))
  rw [show k + 1 + (body.length - (k + 1)) = body.length by omega] at this
  simp only [JS.of, this, Option.bind_none]
/-- what Of hands back -/
def OfR (body : List Ins) (H : Heap) (u : Value) (H' : Heap) : Prop :=
  Old H H' ∧ ((∃ s g, JS.of body = some s ∧ u = .tuple #[.pointer (some ⟨g, 0, none⟩), .bool true] ∧ JM H' g s.en s.el s.op s.dp) ∨ (JS.of body = none ∧ u = .tuple #[.pointer none, .bool false]))

set_option maxRecDepth 100000 in
set_option maxHeartbeats 4000000 in
theorem Of_any {H : Heap} (v : Value) (l : List Ins) (hs : Sl 5 EIns H v l) (hl : l.length < 1000000) : Ct Try.prog 7 [v] H (OfR l H) := by
  refine Ct.mk Try.func7 rfl Try.ntmps7 rfl ?_
  intro W0 hW0
  have o0 : Old H H := Old.refl H
  refine KC.seq ?_
  refine KC.region ?_
  refine KL.opM (M.box rfl rfl hs.cells1) rfl rfl rfl ?_
  rintro _ H1 ⟨rfl, n1⟩
  have z1 := n1.2.1
  have o0 := o0.trans n1.1
  have b1 := n1.2.2
  have bt := b1
  refine KL.op (R.assign rfl rfl) rfl rfl rfl ?_
  refine KL.op (R.assign rfl rfl) rfl rfl rfl ?_
  refine KL.nil ?_
  refine KQ.seq ?_
  refine KC.seq ?_
  refine KC.region ?_
  refine KL.op (R.makeFunc rfl rfl rfl) rfl rfl rfl ?_
  refine KL.op (R.assign rfl rfl) rfl rfl rfl ?_
  refine KL.nil ?_
  refine KQ.seq ?_
  refine KC.seq ?_
  refine KC.region ?_
  refine KL.op (R.move rfl rfl) rfl rfl rfl ?_
  refine KL.call rfl rfl rfl rfl Try.call21 rfl rfl rfl (row_any _ _ _ bt (hs.old o0) hl) ?_
  rintro _ H2 ⟨rfl, wve, ox, zve⟩
  have hvve : vblock (Value.slice (some ⟨Array.size H1, 0, none⟩) l.length l.length) = Array.size H1 := rfl
  have o0 := o0.trans ox
  have bt := (ox).blk bt
  refine KL.op (R.move rfl rfl) rfl rfl rfl ?_
  refine KL.call rfl rfl rfl rfl Try.call21 rfl rfl rfl (row_any _ _ _ bt (hs.old o0) hl) ?_
  rintro _ H3 ⟨rfl, wvl, ox, zvl⟩
  have hvvl : vblock (Value.slice (some ⟨Array.size H2, 0, none⟩) l.length l.length) = Array.size H2 := rfl
  have o0 := o0.trans ox
  have bt := (ox).blk bt
  have wve := wve.old ox
  refine KL.op (R.move rfl rfl) rfl rfl rfl ?_
  refine KL.call rfl rfl rfl rfl Try.call21 rfl rfl rfl (row_any _ _ _ bt (hs.old o0) hl) ?_
  rintro _ H4 ⟨rfl, wvo, ox, zvo⟩
  have hvvo : vblock (Value.slice (some ⟨Array.size H3, 0, none⟩) l.length l.length) = Array.size H3 := rfl
  have o0 := o0.trans ox
  have bt := (ox).blk bt
  have wve := wve.old ox
  have wvl := wvl.old ox
  refine KL.op (R.buildL rfl Try.underlying47 zr47 [(0, 1), (1, 1), (2, 1), (3, 1)] (fun w => by kernel_rfl) rfl ⟨⟨_, rfl, rfl⟩, ⟨_, rfl, rfl⟩, ⟨_, rfl, rfl⟩, trivial⟩ rfl rfl ⟨⟨_, rfl, by first | rfl | exact wve.cells1 | exact wvl.cells1 | exact wvo.cells1⟩, ⟨_, rfl, by first | rfl | exact wve.cells1 | exact wvl.cells1 | exact wvo.cells1⟩, ⟨_, rfl, by first | rfl | exact wve.cells1 | exact wvl.cells1 | exact wvo.cells1⟩, trivial⟩ rfl) rfl rfl rfl ?_
  refine KL.opM (M.box rfl rfl rfl) rfl rfl rfl ?_
  rintro _ H5 ⟨rfl, n5⟩
  have z5 := n5.2.1
  have o0 := o0.trans n5.1
  have bt := (n5.1).blk bt
  have wve := wve.old n5.1
  have wvl := wvl.old n5.1
  have wvo := wvo.old n5.1
  have b5 := n5.2.2
  have bj := b5
  refine KL.op (R.buildL rfl Try.underlying49 zr49 [(0, 1), (1, 1)] (fun w => by kernel_rfl) rfl ⟨⟨_, rfl, rfl⟩, trivial⟩ rfl rfl ⟨⟨_, rfl, by first | rfl | exact wve.cells1 | exact wvl.cells1 | exact wvo.cells1⟩, trivial⟩ rfl) rfl rfl rfl ?_
  refine KL.opM (M.box rfl rfl rfl) rfl rfl rfl ?_
  rintro _ H6 ⟨rfl, n6⟩
  have z6 := n6.2.1
  have o0 := o0.trans n6.1
  have bt := (n6.1).blk bt
  have wve := wve.old n6.1
  have wvl := wvl.old n6.1
  have wvo := wvo.old n6.1
  have bj := (n6.1).blk bj
  have b6 := n6.2.2
  have br := b6
  have hRM : RM H6 (H.size + 1) _ _ (JS.init l.length) := ⟨_, _, _, _, br, bj, wve.weak (by omega), wvl.weak (by omega), wvo.weak (by omega), Own.nil _ _ _ _ _ _, by omega, by omega, by omega, by omega, by omega⟩
  refine KL.op (R.assign rfl rfl) rfl rfl rfl ?_
  refine KL.nil ?_
  refine KQ.seq ?_
  refine KC.seq ?_
  refine KC.region ?_
  refine KL.op (R.move rfl rfl) rfl rfl rfl ?_
  refine KL.op (R.makeFunc rfl rfl rfl) rfl rfl rfl ?_
  refine KL.op (R.assign rfl rfl) rfl rfl rfl ?_
  refine KL.nil ?_
  refine KQ.seq ?_
  refine KC.seq ?_
  refine KC.seq ?_
  refine KC.region ?_
  refine KL.op (R.load rfl Try.underlying27 rfl rfl (by first | exact cell_of bt rfl | exact cell_of bj rfl | exact cell_of br rfl | assumption)) rfl rfl rfl ?_
  refine KL.op ((by first | exact R.lenS rfl Try.underlying27 rfl (by first | exact hs.old o0 | assumption) | exact R.len (ty := 0) rfl Try.underlying27 rfl)) rfl rfl rfl ?_
  refine KL.op (R.move rfl rfl) rfl rfl rfl ?_
  refine KL.nil ?_
  refine KQ.seq ?_
  refine KC.block ?_
  refine KC.loopD (κ := Nat × JS) [26, 27, 28, 29, 8, 7, 9, 30, 31, 33, 32, 34, 35, 36, 37, 38, 40, 39, 41, 42, 43, 44, 46, 45, 47, 48, 49, 50, 51, 2, 3, 52, 25] (fun k => [(25, .int .i64 (k.1 : Nat))]) (fun k Hl => k.1 ≤ l.length ∧ JS.run l k.1 = some k.2 ∧ RM Hl (H.size + 1) H5.size H4.size k.2 ∧ OldB (H.size + 1) H6 Hl) (fun k => l.length - k.1) (0, JS.init l.length) ?_ ?_ ?_
  · exact (Sub.cons rfl (Ext.sub (Ext.refl _ _)))
  · exact ⟨Nat.zero_le _, rfl, hRM, OldB.refl _ _⟩
  · rintro ⟨k, s⟩ H7 ⟨hk, hrun, hr, ob⟩
    dsimp only at hk hrun hr
    have bt := (ob.2 _ (by omega)).trans bt
    have o0 : Old H H7 := o0.then ob (by omega)
    have o7 : Old H7 H7 := Old.refl _
    have hlt := hr.lt
    have hok := JS.ok_run (by omega) hrun
    have hdp := JS.dp_run (by omega) hrun
    refine KC.seq ?_
    refine KC.region ?_
    refine KL.op (R.lss rfl rfl rfl) rfl rfl rfl ?_
    refine KL.nil ?_
    refine KQ.seq ?_
    refine KC.seq ?_
    refine KC.iteL rfl ?_ ?_
    · intro hc26
      try simp only [decide_eq_true_eq, decide_eq_false_iff_not, Bool.not_eq_true', Bool.not_eq_false', Bool.and_eq_true, Bool.or_eq_false_iff] at hc26
      obtain ⟨uL, hcx, huL, hx1, hx2, hx3, hx4⟩ := (hs.old o0).insAt k (by omega)
      dsimp only [InR] at hx1
      obtain ⟨aL, cL, hvL⟩ := huL.val
      subst hvL
      refine KC.skip ?_
      refine KQ.seq ?_
      refine KC.seq ?_
      refine KC.block ?_
      refine KC.seq ?_
      refine KC.region ?_
      refine KL.op (R.move rfl rfl) rfl rfl rfl ?_
      refine KL.op (R.index (j := k) rfl Try.underlying27 sz37 rfl rfl (hs.old o0) rfl (by omega)) rfl rfl rfl ?_
      refine KL.op (R.loadAgg rfl Try.underlying37 rfl sz37 rfl hcx rfl) rfl rfl rfl ?_
      refine KL.opM (M.alloc rfl zr37 rfl) rfl rfl rfl ?_
      rintro _ H8 ⟨rfl, n8⟩
      have z8 := n8.2.1
      have o0 := o0.trans n8.1
      have bt := (n8.1).blk bt
      have o7 := o7.trans n8.1
      have ob := ob.trans ((n8.1).b (by omega))
      have b8 := n8.2.2
      have bx := b8
      refine KL.op (R.assign rfl rfl) rfl rfl rfl ?_
      refine KL.opS (S.storeAgg rfl sz37 rfl rfl rfl (by simp [Value.oneCell']) bx (by simp)) rfl rfl ?_
      rintro H9 ⟨u9, b9⟩
      have o0 := o0.upd u9 (by omega)
      have zu9 := u9.1
      have bt := ((u9).2 _ (by omega)).trans bt
      have o7 := o7.upd u9 (by omega)
      have ob := ob.trans (OldB.upd u9 (by omega))
      have bx := b9
      refine KL.nil ?_
      refine KQ.seq ?_
      refine KC.seq ?_
      refine KC.region ?_
      refine KL.op (R.assign rfl rfl) rfl rfl rfl ?_
      refine KL.nil ?_
      refine KQ.seq ?_
      refine KC.seq ?_
      refine KC.seq ?_
      refine KC.region ?_
      refine KL.op ((by first | exact R.fieldAddr rfl Try.underlying37 rfl rfl sz5 rfl | exact R.fieldAddrP rfl Try.underlying37 rfl rfl sz5 rfl)) rfl rfl rfl ?_
      refine KL.op (R.load rfl Try.underlying5 rfl rfl (by first | exact cell_of bt rfl | exact cell_of bx rfl | assumption)) rfl rfl rfl ?_
      refine KL.nil ?_
      refine KQ.seq ?_
      refine KC.block ?_
      refine KC.seq ?_
      refine KC.seq ?_
      refine KC.region ?_
      refine KL.op (R.eql rfl rfl rfl) rfl rfl rfl ?_
      refine KL.op (R.assign rfl rfl) rfl rfl rfl ?_
      refine KL.nil ?_
      refine KQ.seq ?_
      refine KC.iteL rfl ?_ ?_
      · intro hc32
        try simp only [decide_eq_true_eq, decide_eq_false_iff_not, Bool.not_eq_true', Bool.not_eq_false', Bool.and_eq_true, Bool.or_eq_false_iff] at hc32
        refine KC.skip ?_
        refine KQ.seq ?_
        refine KC.condT rfl ?_
        refine KC.region ?_
        refine KL.op (R.move rfl rfl) rfl rfl rfl ?_
        refine KL.op (R.move rfl rfl) rfl rfl rfl ?_
        refine KL.call rfl rfl rfl rfl Try.call23 rfl rfl rfl (opened_any (H.size + 1) _ _ s k (hr.old o7) (by dsimp only [InR]; omega) (by dsimp only [InR]; omega) (by omega)) ?_
        rintro _ H10 ⟨rfl, hr2, ob2⟩
        have z_ob2 := ob2.1
        have o0 := o0.then ob2 (by omega)
        have bt := (ob2.2 _ (by omega)).trans bt
        have ob := ob.trans (ob2.mono (by omega))
        refine KL.nil ?_
        refine KQ.normBlock ?_
        refine KQ.seq ?_
        refine KC.seq ?_
        refine KC.region ?_
        refine KL.op (R.move rfl rfl) rfl rfl rfl ?_
        refine KL.op (R.not rfl rfl) rfl rfl rfl ?_
        refine KL.nil ?_
        refine KQ.seq ?_
        refine KC.condF rfl ?_
        refine KC.skip ?_
        refine KQ.normBlock ?_
        refine KQ.seq ?_
        refine KC.region ?_
        refine KL.op (R.add rfl rfl rfl (by dsimp only [InR]; omega)) rfl rfl rfl ?_
        refine KL.op (R.move rfl rfl) rfl rfl rfl ?_
        refine KL.nil ?_
        refine KQ.again ((k + 1, s.opened k)) ?_ ?_ ?_
        · exact (Sub.cons rfl (Ext.sub (by repeat (first | exact Ext.refl _ _ | refine Ext.put rfl ?_ | refine Ext.drop rfl ?_))))
        · show l.length - (k + 1) < l.length - k; omega
        · refine ⟨by show k + 1 ≤ _; omega, ?_, by first | exact hr2 | exact hr.old o7, ob⟩
          show JS.run l (k + 1) = some _
          simp only [JS.run, hrun, Option.bind_some]
          unfold JS.step
          dsimp only
          first
            | rw [if_pos (by omega)]
            | rw [if_neg (by omega), if_pos (by omega), if_pos hmt]
            | rw [if_neg (by omega), if_neg (by omega), if_pos (by omega), if_neg (by omega)]
            | rw [if_neg (by omega), if_neg (by omega), if_neg (by omega)]
      · intro hc32
        try simp only [decide_eq_true_eq, decide_eq_false_iff_not, Bool.not_eq_true', Bool.not_eq_false', Bool.and_eq_true, Bool.or_eq_false_iff] at hc32
        refine KC.seq ?_
        refine KC.region ?_
        refine KL.op (R.eql rfl rfl rfl) rfl rfl rfl ?_
        refine KL.op (R.assign rfl rfl) rfl rfl rfl ?_
        refine KL.nil ?_
        refine KQ.seq ?_
        refine KC.iteL rfl ?_ ?_
        · intro hc32
          try simp only [decide_eq_true_eq, decide_eq_false_iff_not, Bool.not_eq_true', Bool.not_eq_false', Bool.and_eq_true, Bool.or_eq_false_iff] at hc32
          refine KC.skip ?_
          refine KQ.seq ?_
          refine KC.condT rfl ?_
          refine KC.region ?_
          refine KL.op (R.move rfl rfl) rfl rfl rfl ?_
          refine KL.op (R.move rfl rfl) rfl rfl rfl ?_
          refine KL.call rfl rfl rfl rfl Try.call23 rfl rfl rfl (opened_any (H.size + 1) _ _ s k (hr.old o7) (by dsimp only [InR]; omega) (by dsimp only [InR]; omega) (by omega)) ?_
          rintro _ H11 ⟨rfl, hr2, ob2⟩
          have z_ob2 := ob2.1
          have o0 := o0.then ob2 (by omega)
          have bt := (ob2.2 _ (by omega)).trans bt
          have ob := ob.trans (ob2.mono (by omega))
          refine KL.nil ?_
          refine KQ.normBlock ?_
          refine KQ.seq ?_
          refine KC.seq ?_
          refine KC.region ?_
          refine KL.op (R.move rfl rfl) rfl rfl rfl ?_
          refine KL.op (R.not rfl rfl) rfl rfl rfl ?_
          refine KL.nil ?_
          refine KQ.seq ?_
          refine KC.condF rfl ?_
          refine KC.skip ?_
          refine KQ.normBlock ?_
          refine KQ.seq ?_
          refine KC.region ?_
          refine KL.op (R.add rfl rfl rfl (by dsimp only [InR]; omega)) rfl rfl rfl ?_
          refine KL.op (R.move rfl rfl) rfl rfl rfl ?_
          refine KL.nil ?_
          refine KQ.again ((k + 1, s.opened k)) ?_ ?_ ?_
          · exact (Sub.cons rfl (Ext.sub (by repeat (first | exact Ext.refl _ _ | refine Ext.put rfl ?_ | refine Ext.drop rfl ?_))))
          · show l.length - (k + 1) < l.length - k; omega
          · refine ⟨by show k + 1 ≤ _; omega, ?_, by first | exact hr2 | exact hr.old o7, ob⟩
            show JS.run l (k + 1) = some _
            simp only [JS.run, hrun, Option.bind_some]
            unfold JS.step
            dsimp only
            first
              | rw [if_pos (by omega)]
              | rw [if_neg (by omega), if_pos (by omega), if_pos hmt]
              | rw [if_neg (by omega), if_neg (by omega), if_pos (by omega), if_neg (by omega)]
              | rw [if_neg (by omega), if_neg (by omega), if_neg (by omega)]
        · intro hc32
          try simp only [decide_eq_true_eq, decide_eq_false_iff_not, Bool.not_eq_true', Bool.not_eq_false', Bool.and_eq_true, Bool.or_eq_false_iff] at hc32
          refine KC.region ?_
          refine KL.op (R.eql rfl rfl rfl) rfl rfl rfl ?_
          refine KL.op (R.assign rfl rfl) rfl rfl rfl ?_
          refine KL.nil ?_
          refine KQ.seq ?_
          refine KC.iteL rfl ?_ ?_
          · intro hc32
            try simp only [decide_eq_true_eq, decide_eq_false_iff_not, Bool.not_eq_true', Bool.not_eq_false', Bool.and_eq_true, Bool.or_eq_false_iff] at hc32
            refine KC.region ?_
            refine KL.op (R.move rfl rfl) rfl rfl rfl ?_
            refine KL.op (R.move rfl rfl) rfl rfl rfl ?_
            refine KL.call rfl rfl rfl rfl Try.call23 rfl rfl rfl (opened_any (H.size + 1) _ _ s k (hr.old o7) (by dsimp only [InR]; omega) (by dsimp only [InR]; omega) (by omega)) ?_
            rintro _ H12 ⟨rfl, hr2, ob2⟩
            have z_ob2 := ob2.1
            have o0 := o0.then ob2 (by omega)
            have bt := (ob2.2 _ (by omega)).trans bt
            have ob := ob.trans (ob2.mono (by omega))
            refine KL.nil ?_
            refine KQ.normBlock ?_
            refine KQ.seq ?_
            refine KC.seq ?_
            refine KC.region ?_
            refine KL.op (R.move rfl rfl) rfl rfl rfl ?_
            refine KL.op (R.not rfl rfl) rfl rfl rfl ?_
            refine KL.nil ?_
            refine KQ.seq ?_
            refine KC.condF rfl ?_
            refine KC.skip ?_
            refine KQ.normBlock ?_
            refine KQ.seq ?_
            refine KC.region ?_
            refine KL.op (R.add rfl rfl rfl (by dsimp only [InR]; omega)) rfl rfl rfl ?_
            refine KL.op (R.move rfl rfl) rfl rfl rfl ?_
            refine KL.nil ?_
            refine KQ.again ((k + 1, s.opened k)) ?_ ?_ ?_
            · exact (Sub.cons rfl (Ext.sub (by repeat (first | exact Ext.refl _ _ | refine Ext.put rfl ?_ | refine Ext.drop rfl ?_))))
            · show l.length - (k + 1) < l.length - k; omega
            · refine ⟨by show k + 1 ≤ _; omega, ?_, by first | exact hr2 | exact hr.old o7, ob⟩
              show JS.run l (k + 1) = some _
              simp only [JS.run, hrun, Option.bind_some]
              unfold JS.step
              dsimp only
              first
                | rw [if_pos (by omega)]
                | rw [if_neg (by omega), if_pos (by omega), if_pos hmt]
                | rw [if_neg (by omega), if_neg (by omega), if_pos (by omega), if_neg (by omega)]
                | rw [if_neg (by omega), if_neg (by omega), if_neg (by omega)]
          · intro hc32
            try simp only [decide_eq_true_eq, decide_eq_false_iff_not, Bool.not_eq_true', Bool.not_eq_false', Bool.and_eq_true, Bool.or_eq_false_iff] at hc32
            refine KC.seq ?_
            refine KC.region ?_
            refine KL.op (R.eql rfl rfl rfl) rfl rfl rfl ?_
            refine KL.op (R.assign rfl rfl) rfl rfl rfl ?_
            refine KL.nil ?_
            refine KQ.seq ?_
            refine KC.iteL rfl ?_ ?_
            · intro hc39
              try simp only [decide_eq_true_eq, decide_eq_false_iff_not, Bool.not_eq_true', Bool.not_eq_false', Bool.and_eq_true, Bool.or_eq_false_iff] at hc39
              refine KC.region ?_
              refine KL.op (R.move rfl rfl) rfl rfl rfl ?_
              refine KL.op (R.move rfl rfl) rfl rfl rfl ?_
              refine KL.op (R.load rfl Try.underlying27 rfl rfl (by first | exact cell_of bt rfl | exact cell_of bx rfl | assumption)) rfl rfl rfl ?_
              refine KL.call rfl rfl rfl rfl Try.call24 rfl rfl rfl (turned_any (H.size + 1) _ _ s k l.length (hr.old o7) hok (by omega) (by omega) v l (hs.old o0) rfl) ?_
              rintro _ H13 hR
              rcases hR with ⟨rfl, hmt, hr2, ob2⟩ | ⟨rfl, hmt, rfl⟩
              · skip
                have z_ob2 := ob2.1
                have o0 := o0.then ob2 (by omega)
                have bt := (ob2.2 _ (by omega)).trans bt
                have ob := ob.trans (ob2.mono (by omega))
                refine KL.op (R.assign rfl rfl) rfl rfl rfl ?_
                refine KL.nil ?_
                refine KQ.normBlock ?_
                refine KQ.seq ?_
                refine KC.seq ?_
                refine KC.region ?_
                refine KL.op (R.move rfl rfl) rfl rfl rfl ?_
                refine KL.op (R.not rfl rfl) rfl rfl rfl ?_
                refine KL.nil ?_
                refine KQ.seq ?_
                refine KC.condF rfl ?_
                refine KC.skip ?_
                refine KQ.normBlock ?_
                refine KQ.seq ?_
                refine KC.region ?_
                refine KL.op (R.add rfl rfl rfl (by dsimp only [InR]; omega)) rfl rfl rfl ?_
                refine KL.op (R.move rfl rfl) rfl rfl rfl ?_
                refine KL.nil ?_
                refine KQ.again ((k + 1, s.turned k)) ?_ ?_ ?_
                · exact (Sub.cons rfl (Ext.sub (by repeat (first | exact Ext.refl _ _ | refine Ext.put rfl ?_ | refine Ext.drop rfl ?_))))
                · show l.length - (k + 1) < l.length - k; omega
                · refine ⟨by show k + 1 ≤ _; omega, ?_, by first | exact hr2 | exact hr.old o7, ob⟩
                  show JS.run l (k + 1) = some _
                  simp only [JS.run, hrun, Option.bind_some]
                  unfold JS.step
                  dsimp only
                  first
                    | rw [if_pos (by omega)]
                    | rw [if_neg (by omega), if_pos (by omega), if_pos hmt]
                    | rw [if_neg (by omega), if_neg (by omega), if_pos (by omega), if_neg (by omega)]
                    | rw [if_neg (by omega), if_neg (by omega), if_neg (by omega)]
              · skip
                refine KL.op (R.assign rfl rfl) rfl rfl rfl ?_
                refine KL.nil ?_
                refine KQ.normBlock ?_
                refine KQ.seq ?_
                refine KC.seq ?_
                refine KC.region ?_
                refine KL.op (R.move rfl rfl) rfl rfl rfl ?_
                refine KL.op (R.not rfl rfl) rfl rfl rfl ?_
                refine KL.nil ?_
                refine KQ.seq ?_
                refine KC.condT rfl ?_
                refine KC.seq ?_
                refine KC.region ?_
                refine KL.op (R.assign rfl rfl) rfl rfl rfl ?_
                refine KL.op (R.assign rfl rfl) rfl rfl rfl ?_
                refine KL.nil ?_
                refine KQ.seq ?_
                refine KC.ret ?_
                refine KQ.retBlock ?_
                refine KQ.retThen ?_
                refine KQ.retThen ?_
                refine KQ.retBlock ?_
                refine KQ.retThen ?_
                refine KQ.ofRet ?_
                refine KQ.fin2 Try.results7 rfl rfl ?_
                have hf : JS.step l s k = none := by
                  unfold JS.step
                  dsimp only
                  first
                    | rw [if_neg (by omega), if_pos (by omega), if_neg hmt]
                    | rw [if_neg (by omega), if_neg (by omega), if_pos (by omega), if_pos hop]
                exact ⟨o0, .inr ⟨JS.of_fail (by omega) hrun hf, rfl⟩⟩
            · intro hc39
              try simp only [decide_eq_true_eq, decide_eq_false_iff_not, Bool.not_eq_true', Bool.not_eq_false', Bool.and_eq_true, Bool.or_eq_false_iff] at hc39
              refine KC.seq ?_
              refine KC.region ?_
              refine KL.op (R.eql rfl rfl rfl) rfl rfl rfl ?_
              refine KL.op (R.assign rfl rfl) rfl rfl rfl ?_
              refine KL.nil ?_
              refine KQ.seq ?_
              refine KC.iteL rfl ?_ ?_
              · intro hc45
                try simp only [decide_eq_true_eq, decide_eq_false_iff_not, Bool.not_eq_true', Bool.not_eq_false', Bool.and_eq_true, Bool.or_eq_false_iff] at hc45
                refine KC.region ?_
                refine KL.op (R.move rfl rfl) rfl rfl rfl ?_
                refine KL.op (R.move rfl rfl) rfl rfl rfl ?_
                refine KL.call rfl rfl rfl rfl Try.call22 rfl rfl rfl (closed_any (H.size + 1) _ _ s k l.length (hr.old o7) hok (by omega) (by omega)) ?_
                rintro _ H14 hR
                rcases hR with ⟨rfl, hop, hr2, ob2⟩ | ⟨rfl, hop, rfl⟩
                · skip
                  have z_ob2 := ob2.1
                  have o0 := o0.then ob2 (by omega)
                  have bt := (ob2.2 _ (by omega)).trans bt
                  have ob := ob.trans (ob2.mono (by omega))
                  refine KL.op (R.assign rfl rfl) rfl rfl rfl ?_
                  refine KL.nil ?_
                  refine KQ.normBlock ?_
                  refine KQ.seq ?_
                  refine KC.seq ?_
                  refine KC.region ?_
                  refine KL.op (R.move rfl rfl) rfl rfl rfl ?_
                  refine KL.op (R.not rfl rfl) rfl rfl rfl ?_
                  refine KL.nil ?_
                  refine KQ.seq ?_
                  refine KC.condF rfl ?_
                  refine KC.skip ?_
                  refine KQ.normBlock ?_
                  refine KQ.seq ?_
                  refine KC.region ?_
                  refine KL.op (R.add rfl rfl rfl (by dsimp only [InR]; omega)) rfl rfl rfl ?_
                  refine KL.op (R.move rfl rfl) rfl rfl rfl ?_
                  refine KL.nil ?_
                  refine KQ.again ((k + 1, s.closed k)) ?_ ?_ ?_
                  · exact (Sub.cons rfl (Ext.sub (by repeat (first | exact Ext.refl _ _ | refine Ext.put rfl ?_ | refine Ext.drop rfl ?_))))
                  · show l.length - (k + 1) < l.length - k; omega
                  · refine ⟨by show k + 1 ≤ _; omega, ?_, by first | exact hr2 | exact hr.old o7, ob⟩
                    show JS.run l (k + 1) = some _
                    simp only [JS.run, hrun, Option.bind_some]
                    unfold JS.step
                    dsimp only
                    first
                      | rw [if_pos (by omega)]
                      | rw [if_neg (by omega), if_pos (by omega), if_pos hmt]
                      | rw [if_neg (by omega), if_neg (by omega), if_pos (by omega), if_neg (by omega)]
                      | rw [if_neg (by omega), if_neg (by omega), if_neg (by omega)]
                · skip
                  refine KL.op (R.assign rfl rfl) rfl rfl rfl ?_
                  refine KL.nil ?_
                  refine KQ.normBlock ?_
                  refine KQ.seq ?_
                  refine KC.seq ?_
                  refine KC.region ?_
                  refine KL.op (R.move rfl rfl) rfl rfl rfl ?_
                  refine KL.op (R.not rfl rfl) rfl rfl rfl ?_
                  refine KL.nil ?_
                  refine KQ.seq ?_
                  refine KC.condT rfl ?_
                  refine KC.seq ?_
                  refine KC.region ?_
                  refine KL.op (R.assign rfl rfl) rfl rfl rfl ?_
                  refine KL.op (R.assign rfl rfl) rfl rfl rfl ?_
                  refine KL.nil ?_
                  refine KQ.seq ?_
                  refine KC.ret ?_
                  refine KQ.retBlock ?_
                  refine KQ.retThen ?_
                  refine KQ.retThen ?_
                  refine KQ.retBlock ?_
                  refine KQ.retThen ?_
                  refine KQ.ofRet ?_
                  refine KQ.fin2 Try.results7 rfl rfl ?_
                  have hf : JS.step l s k = none := by
                    unfold JS.step
                    dsimp only
                    first
                      | rw [if_neg (by omega), if_pos (by omega), if_neg hmt]
                      | rw [if_neg (by omega), if_neg (by omega), if_pos (by omega), if_pos hop]
                  exact ⟨o0, .inr ⟨JS.of_fail (by omega) hrun hf, rfl⟩⟩
              · intro hc45
                try simp only [decide_eq_true_eq, decide_eq_false_iff_not, Bool.not_eq_true', Bool.not_eq_false', Bool.and_eq_true, Bool.or_eq_false_iff] at hc45
                refine KC.skip ?_
                refine KQ.normBlock ?_
                refine KQ.seq ?_
                refine KC.seq ?_
                refine KC.region ?_
                refine KL.op (R.move rfl rfl) rfl rfl rfl ?_
                refine KL.op (R.not rfl rfl) rfl rfl rfl ?_
                refine KL.nil ?_
                refine KQ.seq ?_
                refine KC.condF rfl ?_
                refine KC.skip ?_
                refine KQ.normBlock ?_
                refine KQ.seq ?_
                refine KC.region ?_
                refine KL.op (R.add rfl rfl rfl (by dsimp only [InR]; omega)) rfl rfl rfl ?_
                refine KL.op (R.move rfl rfl) rfl rfl rfl ?_
                refine KL.nil ?_
                refine KQ.again ((k + 1, s)) ?_ ?_ ?_
                · exact (Sub.cons rfl (Ext.sub (by repeat (first | exact Ext.refl _ _ | refine Ext.put rfl ?_ | refine Ext.drop rfl ?_))))
                · show l.length - (k + 1) < l.length - k; omega
                · refine ⟨by show k + 1 ≤ _; omega, ?_, by first | exact hr2 | exact hr.old o7, ob⟩
                  show JS.run l (k + 1) = some _
                  simp only [JS.run, hrun, Option.bind_some]
                  unfold JS.step
                  dsimp only
                  first
                    | rw [if_pos (by omega)]
                    | rw [if_neg (by omega), if_pos (by omega), if_pos hmt]
                    | rw [if_neg (by omega), if_neg (by omega), if_pos (by omega), if_neg (by omega)]
                    | rw [if_neg (by omega), if_neg (by omega), if_neg (by omega)]
    · intro hc26
      try simp only [decide_eq_true_eq, decide_eq_false_iff_not, Bool.not_eq_true', Bool.not_eq_false', Bool.and_eq_true, Bool.or_eq_false_iff] at hc26
      have hkl : k = l.length := by omega
      subst hkl
      have hr0 := hr
      obtain ⟨ve, vl, vo, vr, br, bj, we, wl, wo, wr, -, -, -, -, -⟩ := hr0
      refine KC.exit ?_
      refine KQ.exitThen ?_
      refine KQ.exitThen ?_
      refine KQ.hit ?_
      refine KQ.seq ?_
      refine KC.seq ?_
      refine KC.seq ?_
      refine KC.region ?_
      refine KL.op (R.move rfl rfl) rfl rfl rfl ?_
      refine KL.op (R.nilCheck rfl rfl) rfl rfl rfl ?_
      refine KL.op ((by first | exact R.fieldAddr rfl Try.underlying49 rfl rfl sz40 rfl | exact R.fieldAddrP rfl Try.underlying49 rfl rfl sz40 rfl)) rfl rfl rfl ?_
      refine KL.op (R.load rfl Try.underlying40 rfl rfl (by first | exact cell_of bt rfl | exact cell_of br rfl | exact cell_of bj rfl | assumption)) rfl rfl rfl ?_
      refine KL.op (R.lenO rfl Try.underlying40 rfl wr) rfl rfl rfl ?_
      refine KL.op (R.gtr rfl rfl rfl) rfl rfl rfl ?_
      refine KL.nil ?_
      refine KQ.seq ?_
      refine KC.iteL rfl ?_ ?_
      · intro hc58
        try simp only [decide_eq_true_eq, decide_eq_false_iff_not, Bool.not_eq_true', Bool.not_eq_false', Bool.and_eq_true, Bool.or_eq_false_iff] at hc58
        refine KC.seq ?_
        refine KC.region ?_
        refine KL.op (R.assign rfl rfl) rfl rfl rfl ?_
        refine KL.op (R.assign rfl rfl) rfl rfl rfl ?_
        refine KL.nil ?_
        refine KQ.seq ?_
        refine KC.ret ?_
        refine KQ.retThen ?_
        refine KQ.ofRet ?_
        refine KQ.fin2 Try.results7 rfl rfl ?_
        exact ⟨o0, .inr ⟨by unfold JS.of; rw [hrun, Option.bind_some, if_neg (by omega)], rfl⟩⟩
      · intro hc58
        try simp only [decide_eq_true_eq, decide_eq_false_iff_not, Bool.not_eq_true', Bool.not_eq_false', Bool.and_eq_true, Bool.or_eq_false_iff] at hc58
        refine KC.skip ?_
        refine KQ.seq ?_
        refine KC.seq ?_
        refine KC.region ?_
        refine KL.op (R.move rfl rfl) rfl rfl rfl ?_
        refine KL.op (R.nilCheck rfl rfl) rfl rfl rfl ?_
        refine KL.op ((by first | exact R.fieldAddr rfl Try.underlying49 rfl rfl sz24 rfl | exact R.fieldAddrP rfl Try.underlying49 rfl rfl sz24 rfl)) rfl rfl rfl ?_
        refine KL.op (R.load rfl Try.underlying24 rfl rfl (by first | exact cell_of bt rfl | exact cell_of br rfl | exact cell_of bj rfl | assumption)) rfl rfl rfl ?_
        refine KL.op (R.assign rfl rfl) rfl rfl rfl ?_
        refine KL.op (R.assign rfl rfl) rfl rfl rfl ?_
        refine KL.nil ?_
        refine KQ.seq ?_
        refine KC.ret ?_
        refine KQ.ofRet ?_
        refine KQ.fin2 Try.results7 rfl rfl ?_
        exact ⟨o0, .inl ⟨s, _, by unfold JS.of; rw [hrun, Option.bind_some, if_pos (by omega)], rfl, hr.jm⟩⟩

end Go.Proofs.Ytbopalmbphgedaa
