/- A row from its last element on. No condition. -/
import Derived.Test.YtglopfbdnpbgeaaTyC
import Derived.Test.YtglopfbdnpbgeaaKPan
namespace Go.Proofs.Ytglopfbdnpbgeaa
open Go Go.RowKit
set_option linter.unusedVariables false
set_option linter.unusedSimpArgs false
set_option linter.unnecessarySimpa false

theorem fit_cons {d : Bool} {own ts : List Int} {t : Int} {m : Nat} (h : own.getD m default = t ∨ own.getD m default = 0 ∨ t = 0) : fitN d own (m + 1) (t :: ts) = fitN d own m ts := if_pos h
theorem fit_stop {d : Bool} {own ts : List Int} {t : Int} {m : Nat} (h : ¬ (own.getD m default = t ∨ own.getD m default = 0 ∨ t = 0)) : fitN d own (m + 1) (t :: ts) = none := if_neg h
theorem fit_dead {own ts : List Int} {t : Int} : fitN true own 0 (t :: ts) = fitN true own 0 ts := rfl
theorem fit_none {own ts : List Int} {t : Int} : fitN false own 0 (t :: ts) = none := rfl
theorem back_rev {l : List Int} {k : Nat} (h : k < l.length) : l.reverse.drop k = l.getD (l.length - 1 - k) default :: l.reverse.drop (k + 1) := by
  rw [List.drop_eq_getElem_cons (by simpa using h), List.getElem_reverse, List.getD_eq_getElem?_getD, List.getElem?_eq_getElem (by omega)]; rfl
/-- what Backward hands on -/
def back (l : List Int) : List (List Value) := (List.range l.length).map fun (k : Nat) => [Value.int .i64 (l.length - 1 - k : Nat), Value.int .u8 (l.getD (l.length - 1 - k) default)]
theorem back_len (l : List Int) : (back l).length = l.length := by simp [back]
theorem back_at {l : List Int} {k : Nat} (h : k < l.length) : nth (back l) k = some [.int .i64 (l.length - 1 - k : Nat), .int .u8 (l.getD (l.length - 1 - k) default)] := by
  rw [nth_eq]; unfold back
  rw [List.getElem?_map, List.getElem?_range h]; rfl
theorem back_of {l : List Int} {k : Nat} {vs : List Value} (h : nth (back l) k = some vs) : k < l.length ∧ vs = [.int .i64 (l.length - 1 - k : Nat), .int .u8 (l.getD (l.length - 1 - k) default)] := by
  have hk : k < l.length := by rw [← back_len l]; exact nth_lt h
  rw [back_at hk] at h
  cases h; exact ⟨hk, rfl⟩
theorem back_two {l : List Int} : ∀ vs ∈ back l, vs.length = 2 := fun vs hv => by
  unfold back at hv
  obtain ⟨p, _, rfl⟩ := List.mem_map.1 hv
  rfl

set_option maxRecDepth 100000 in
set_option maxHeartbeats 4000000 in
theorem Backward_k {H : Heap} {v : Value} {l : List Int} (hs : Sl 1 (EInt .u8) H v l) : Ct Try.prog 32 [v] H (fun u H' => u = .func (.func 33) #[] #[.pointer (some ⟨H.size, 0, none⟩)] ∧ H'[H.size]? = some (.cells [v].toArray 22 (0, 0)) ∧ Old H H') := by
  refine Ct.mk Try.func32 rfl Try.ntmps32 rfl ?_
  intro W0 hW0
  have o0 : Old H H := Old.refl H
  refine KC.seq ?_
  refine KC.region ?_
  refine KL.opM (M.box rfl rfl hs.cells1) rfl rfl rfl ?_
  rintro _ H1 ⟨rfl, n1⟩
  have z1 := n1.2.1
  have o0 := o0.trans n1.1
  have b1 := n1.2.2
  have bb := b1
  refine KL.op (R.assign rfl rfl) rfl rfl rfl ?_
  refine KL.nil ?_
  refine KQ.seq ?_
  refine KC.seq ?_
  refine KC.region ?_
  refine KL.op (R.makeFunc rfl rfl rfl) rfl rfl rfl ?_
  refine KL.op (R.assign rfl rfl) rfl rfl rfl ?_
  refine KL.nil ?_
  refine KQ.seq ?_
  refine KC.ret ?_
  refine KQ.ofRet ?_
  refine KQ.fin1 Try.results32 rfl ?_
  exact ⟨rfl, bb, o0⟩

set_option maxRecDepth 100000 in
set_option maxHeartbeats 4000000 in
theorem Back_ct {Hn H : Heap} {v : Value} {l : List Int} {gb : Nat} (hs : Sl 1 (EInt .u8) Hn v l) (ob : Old Hn H) (bb0 : H[gb]? = some (.cells [v].toArray 22 (0, 0))) (yl : Nat) (J Jx : Nat → Heap → (Nat → Prop) → Prop) (O0 : Nat → Prop) (hJ : Abides H.size J) (hJx : Abides H.size Jx) (hN : ∀ b, (b < Hn.size ∨ b = gb) → ¬ O0 b) (hO : ∀ b, O0 b → b < H.size)
  (hy : ∀ k Hk O args, nth (back l) k = some args → H.size ≤ Hk.size → J k Hk O → YCt Try.prog yl args Hk (fun v H' => ∃ O', StepO O O' Hk H' ∧ ((v = .bool true ∧ J (k + 1) H' O') ∨ (v = .bool false ∧ Jx k H' O')))) (h0 : J 0 H O0) : Ct Try.prog 33 [.func (.yield yl) #[] #[], .pointer (some ⟨gb, 0, none⟩)] H (fun _ H' => H.size ≤ H'.size ∧ ∃ O', J (back l).length H' O' ∨ ∃ k, k < (back l).length ∧ Jx k H' O') := by
  refine Ct.mk Try.func33 rfl Try.ntmps33 rfl ?_
  intro W0 hW0
  have o0 : OldB 0 H H := OldB.refl _ H
  have bb := bb0
  have ob0 := ob
  have hlm := hs.len
  refine KC.seq ?_
  refine KC.region ?_
  refine KL.op (R.load rfl Try.underlying22 rfl rfl (cell_of bb rfl)) rfl rfl rfl ?_
  refine KL.op (R.lenS rfl Try.underlying22 rfl hs) rfl rfl rfl ?_
  refine KL.op (R.sub rfl rfl rfl (by dsimp only [InR]; omega)) rfl rfl rfl ?_
  refine KL.op (R.assign rfl rfl) rfl rfl rfl ?_
  refine KL.nil ?_
  refine KQ.seq ?_
  refine KC.block ?_
  refine KC.loopD (κ := Nat) [7, 8, 11, 12, 13, 14, 15, 16, 17, 18, 9, 10, 3] (fun k => [(3, .int .i64 ((l.length : Int) - 1 - (k : Nat)))]) (fun k Hl => k ≤ l.length ∧ OldB 0 H Hl ∧ Old Hn Hl ∧ Hl[gb]? = some (.cells [v].toArray 22 (0, 0)) ∧ ∃ O, J k Hl O ∧ (∀ b, (b < Hn.size ∨ b = gb) → ¬ O b)) (fun k => l.length - k) 0 ?_ ?_ ?_
  · exact (Sub.cons (congrArg (fun x => some (Value.int .i64 x)) (show (l.length : Int) - 1 = (l.length : Int) - 1 - (0 : Nat) by omega)) (Ext.sub (Ext.refl _ _)))
  · exact ⟨Nat.zero_le _, o0, ob, bb, O0, h0, hN⟩
  · rintro k H1 ⟨hk, o0, ob, bb, O, hj, hOb⟩
    have zl_H1 := o0.1
    have zl := o0.1
    refine KC.seq ?_
    refine KC.seq ?_
    refine KC.region ?_
    refine KL.op (R.move rfl rfl) rfl rfl rfl ?_
    refine KL.op (R.geq rfl rfl rfl) rfl rfl rfl ?_
    refine KL.nil ?_
    refine KQ.seq ?_
    refine KC.iteL rfl ?_ ?_
    · intro hc8
      try simp only [decide_eq_true_eq, decide_eq_false_iff_not, Bool.not_eq_true', Bool.not_eq_false', Bool.and_eq_true, Bool.or_eq_false_iff] at hc8
      have hk2 : k < l.length := by omega
      obtain ⟨hcx, hcr⟩ := hs.int (l.length - 1 - k) (by omega)
      refine KC.skip ?_
      refine KQ.seq ?_
      refine KC.seq ?_
      refine KC.block ?_
      refine KC.seq ?_
      refine KC.regionY ?_
      refine KLY.op (R.move rfl rfl) rfl rfl rfl rfl ?_
      refine KLY.op ((R.move rfl rfl).val (congrArg (Value.int .i64) (show (l.length : Int) - 1 - (k : Nat) = ((l.length - 1 - k : Nat) : Int) by omega))) rfl rfl rfl rfl ?_
      refine KLY.op (R.load rfl Try.underlying22 rfl rfl (cell_of bb rfl)) rfl rfl rfl rfl ?_
      refine KLY.op (R.move rfl rfl) rfl rfl rfl rfl ?_
      refine KLY.op (R.index1 (j := l.length - 1 - k) rfl Try.underlying22 sz5 rfl rfl hs (by omega) (by omega)) rfl rfl rfl rfl ?_
      refine KLY.op (R.load rfl Try.underlying5 rfl rfl (ob.cell hcx)) rfl rfl rfl rfl ?_
      refine KLY.yield rfl rfl rfl rfl rfl rfl (hy k _ O _ (back_at (by omega)) (by omega) hj) ?_
      rintro vy H2 ⟨O2, st, hR⟩
      have zst := st.1
      have ob : Old Hn H2 := ⟨by have := ob.1; omega, fun b hb => (st.2.1 b (by have := ob.1; omega) (hOb b (.inl hb))).trans (ob.2 b hb)⟩
      have bb := (st.2.1 _ (blk_lt bb) (hOb _ (.inr rfl))).trans bb
      have o0 : OldB 0 H H2 := ⟨by omega, fun b hb => by omega⟩
      have hOb2 : ∀ b, (b < Hn.size ∨ b = gb) → ¬ O2 b := fun b hb h => (st.2.2 b h).elim (hOb b hb) (fun h => by
        have := ob.1
        rcases hb with hb | hb
        · have := ob0.1; omega
        · subst hb; have := blk_lt bb0; omega)
      rcases hR with ⟨rfl, hj2⟩ | ⟨rfl, hjx⟩
      · skip
        refine KLY.op (R.not rfl rfl) rfl rfl rfl rfl ?_
        refine KLY.nil ?_
        refine KQ.seq ?_
        refine KC.condF rfl ?_
        refine KC.skip ?_
        refine KQ.normBlock ?_
        refine KQ.seq ?_
        refine KC.region ?_
        refine KL.op (R.move rfl rfl) rfl rfl rfl ?_
        refine KL.op ((R.sub rfl rfl rfl (by dsimp only [InR]; omega)).val (congrArg (Value.int .i64) (show (l.length : Int) - 1 - (k : Nat) - 1 = (l.length : Int) - 1 - (k + 1 : Nat) by omega))) rfl rfl rfl ?_
        refine KL.op (R.assign rfl rfl) rfl rfl rfl ?_
        refine KL.nil ?_
        refine KQ.again (k + 1) ?_ ?_ ?_
        · exact (Sub.cons rfl (Ext.sub (by repeat (first | exact Ext.refl _ _ | refine Ext.put rfl ?_ | refine Ext.drop rfl ?_))))
        · omega
        · exact ⟨by omega, o0, ob, bb, O2, hj2, hOb2⟩
      · skip
        refine KLY.op (R.not rfl rfl) rfl rfl rfl rfl ?_
        refine KLY.nil ?_
        refine KQ.seq ?_
        refine KC.condT rfl ?_
        refine KC.ret ?_
        refine KQ.retBlock ?_
        refine KQ.retThen ?_
        refine KQ.retThen ?_
        refine KQ.retBlock ?_
        refine KQ.ofRet ?_
        refine KQ.fin0 Try.results33 ?_
        first
          | exact ⟨by omega, O, .inl (by
              have e : k = (back l).length := by rw [back_len]; omega
              rw [← e]; exact hj)⟩
          | exact ⟨by omega, O2, .inr ⟨k, by rw [back_len]; omega, hjx⟩⟩
    · intro hc8
      try simp only [decide_eq_true_eq, decide_eq_false_iff_not, Bool.not_eq_true', Bool.not_eq_false', Bool.and_eq_true, Bool.or_eq_false_iff] at hc8
      refine KC.exit ?_
      refine KQ.exitThen ?_
      refine KQ.exitThen ?_
      refine KQ.hit ?_
      refine KQ.fin0 Try.results33 ?_
      first
        | exact ⟨by omega, O, .inl (by
            have e : k = (back l).length := by rw [back_len]; omega
            rw [← e]; exact hj)⟩
        | exact ⟨by omega, O2, .inr ⟨k, by rw [back_len]; omega, hjx⟩⟩

theorem Back_iter {Hn H : Heap} {v : Value} {l : List Int} {gb : Nat} (hs : Sl 1 (EInt .u8) Hn v l) (ob : Old Hn H) (bb0 : H[gb]? = some (.cells [v].toArray 22 (0, 0))) : Iter Try.prog 33 [] [.pointer (some ⟨gb, 0, none⟩)] (back l) (fun b => b < Hn.size ∨ b = gb) H :=
  fun yl J Jx O0 hJ hJx hN hO hy h0 => Back_ct hs ob bb0 yl J Jx O0 hJ hJx hN hO hy h0

end Go.Proofs.Ytglopfbdnpbgeaa
