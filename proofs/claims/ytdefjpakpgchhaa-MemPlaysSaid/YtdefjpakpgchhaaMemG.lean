/- Growing keeps all bytes. No condition. -/
import Derived.Test.YtdefjpakpgchhaaMemF
import Derived.Test.YtdefjpakpgchhaaKLim
namespace Go.Proofs.Ytdefjpakpgchhaa
open Go Go.RowKit
set_option linter.unusedVariables false
set_option linter.unusedSimpArgs false
set_option linter.unnecessarySimpa false

instance (bs : List Int) (most n : Int) : Decidable (growOk bs most n) := by unfold growOk; infer_instance
def growB (bs : List Int) (most n : Int) : List Int := if growOk bs most n then bs ++ zeros n else bs
def growU (bs : List Int) (most n : Int) : Int := if growOk bs most n then (bs.length : Int) / 65536 else 4294967295
theorem Grow_one {H : Heap} (g : Nat) (v : Value) (bs : List Int) (most : Int) (h : MAt 65 .u32 H g v bs most) (n : Int) (r : InR .u32 n) : Ct Try.prog 16 [.pointer (some ⟨g, 0, none⟩), .int .u32 n] H
    (fun u H' => u = .int .u32 (growU bs most n) ∧ ∃ v', MAt 65 .u32 H' g v' (growB bs most n) most ∧ Fr g v H H' ∧ Nx H v v') := by
  refine (Grow_any g v bs most h n r).mono ?_
  rintro _ H' (⟨hk, rfl, v', hm, hf, nx⟩ | ⟨hk, rfl, rfl⟩)
  · unfold growU growB
    rw [if_pos hk, if_pos hk]
    exact ⟨rfl, v', hm, hf, nx⟩
  · unfold growU growB
    rw [if_neg hk, if_neg hk]
    refine ⟨rfl, v, h, Fr.refl _ _ _, ?_⟩
    by_cases hv : v = .slice none 0 0
    · exact .inl hv
    · exact .inr (.inl ⟨hv, rfl⟩)
theorem neqd {p q : Prop} [Decidable p] [Decidable q] (h : p ↔ q) : (!(decide p == decide q)) = false := by
  by_cases hp : p
  · rw [decide_eq_true hp, decide_eq_true (h.1 hp)]; rfl
  · rw [decide_eq_false hp, decide_eq_false (fun hq => hp (h.2 hq))]; rfl
theorem neqd2 {p q : Prop} [Decidable p] [Decidable q] (h : p ↔ ¬ q) : (!(decide p == !decide q)) = false := by
  by_cases hp : p
  · rw [decide_eq_true hp, decide_eq_false (h.1 hp)]; rfl
  · rw [decide_eq_false hp, decide_eq_true (Classical.byContradiction (fun hq => hp (h.2 hq)))]; rfl
theorem zeros_add {a b : Int} (ha : 0 ≤ a) (hb : 0 ≤ b) : zeros a ++ zeros b = zeros (a + b) := by
  unfold zeros
  rw [List.replicate_append_replicate, Int.add_mul, Int.toNat_add (by omega) (by omega)]
theorem zeros_getD (n : Int) (k : Nat) : (zeros n).getD k default = 0 := by
  unfold zeros
  rw [List.getD_eq_getElem?_getD, List.getElem?_replicate]
  split <;> rfl
def grB (mn : Int) (l : List Int) (p : Int) : List Int := putB (zeros mn) 0 l ++ zeros (p - mn)
theorem putB_length (bs : List Int) (a : Int) (m : List Int) (ha : 0 ≤ a) : (putB bs a m).length = bs.length := by
  unfold putB
  split
  · rw [putAt_length (by omega)]
  · rfl
theorem grB_length {mn p : Int} (l : List Int) (h0 : 0 ≤ mn) (h1 : mn ≤ p) : ((grB mn l p).length : Int) = p * 65536 := by
  unfold grB
  rw [List.length_append, putB_length _ _ _ (by omega), zeros_length, zeros_length]
  omega
theorem grB_add {mn p n : Int} (l : List Int) (h0 : 0 ≤ mn) (h1 : mn ≤ p) (hn : 0 ≤ n) : grB mn l p ++ zeros n = grB mn l (p + n) := by
  unfold grB
  rw [List.append_assoc, zeros_add (by omega) hn]
  congr 2
  omega
theorem grB_start (mn : Int) (l : List Int) : putB (zeros mn) 0 l = grB mn l mn := by
  unfold grB
  rw [Int.sub_self]
  simp [zeros]
theorem grB_getD {mn p : Int} {l : List Int} {k : Nat} (h0 : 0 ≤ mn) : (grB mn l p).getD k default = if (0 + (l.length : Int) ≤ (zeros mn).length) ∧ (k : Int) < l.length then l.getD k default else 0 := by
  unfold grB
  rw [List.getD_eq_getElem?_getD]
  by_cases hk : k < (putB (zeros mn) 0 l).length
  · rw [List.getElem?_append_left hk, ← List.getD_eq_getElem?_getD]
    rw [putB_length _ _ _ (by omega)] at hk
    unfold putB
    split
    · next hl =>
      rw [putAt_getD (by simpa using hl) hk, zeros_getD]
      by_cases hc : (k : Int) < l.length
      · rw [if_pos ⟨by simp, by simpa using hc⟩, if_pos ⟨hl, hc⟩]; simp
      · rw [if_neg (by simp; omega), if_neg (by omega)]
    · next hl => rw [zeros_getD, if_neg (by omega)]
  · rw [List.getElem?_append_right (by omega), ← List.getD_eq_getElem?_getD, zeros_getD]
    rw [putB_length _ _ _ (by omega)] at hk
    rw [if_neg (by omega)]
theorem growU_law {bs : List Int} {most n q M : Int} (h : growOk bs most n ↔ q ≤ M) (hb : (bs.length : Int) / 65536 ≤ 16) : q ≤ M ↔ ¬ growU bs most n = 4294967295 := by
  unfold growU
  by_cases hg : growOk bs most n
  · rw [if_pos hg]; have := h.1 hg; omega
  · rw [if_neg hg]; have h2 : ¬ q ≤ M := fun hq => hg (h.2 hq); omega

set_option maxRecDepth 100000 in
set_option maxHeartbeats 4000000 in
theorem MemGrows_any {H : Heap} (mn mx : Int) (r1 : InR .u32 mn) (r2 : InR .i64 mx) (b0 : Value) (l : List Int) (hs : Sl 1 (EInt .u8) H b0 l) (c0 : Value) (m : List Int) (hs2 : Sl 1 (EInt .u32) H c0 m) : Ct Try.prog 5 [.agg #[.int .u32 mn, .int .i64 mx], b0, c0] H (fun u H' => u = .bool true ∧ Old H H') := by
  refine Ct.mk Try.func5 rfl Try.ntmps5 rfl ?_
  intro W0 hW0
  have o0 : Old H H := Old.refl H
  have q1 : 0 ≤ mn ∧ mn ≤ 4294967295 := r1
  have q2 : -9223372036854775808 ≤ mx ∧ mx ≤ 9223372036854775807 := r2
  refine KC.seq ?_
  refine KC.region ?_
  refine KL.opM (M.box rfl rfl rfl) rfl rfl rfl ?_
  rintro _ H1 ⟨rfl, n1⟩
  have z1 := n1.2.1
  have o0 := o0.trans n1.1
  have b1 := n1.2.2
  have bl := b1
  refine KL.op (R.assign rfl rfl) rfl rfl rfl ?_
  refine KL.nil ?_
  refine KQ.seq ?_
  refine KC.seq ?_
  refine KC.seq ?_
  refine KC.region ?_
  refine KL.op (R.move rfl rfl) rfl rfl rfl ?_
  refine KL.op ((by first | exact R.lenS rfl Try.underlying22 rfl (by first | exact hs.old o0 | exact hs2.old o0 | assumption) | exact R.len (ty := 0) rfl Try.underlying22 rfl)) rfl rfl rfl ?_
  refine KL.op (R.gtr rfl rfl rfl) rfl rfl rfl ?_
  refine KL.op (R.move rfl rfl) rfl rfl rfl ?_
  refine KL.case (d := 24) rfl ?_ ?_
  · intro hg24
    try simp only [decide_eq_true_eq, decide_eq_false_iff_not, Bool.not_eq_true', Bool.not_eq_false', Bool.and_eq_true, Bool.or_eq_false_iff] at hg24
    refine KL.skip rfl rfl rfl ?_
    refine KL.skip rfl rfl rfl ?_
    refine KL.skip rfl rfl rfl ?_
    refine KL.op (R.pick rfl rfl rfl) rfl rfl rfl ?_
    refine KL.nil ?_
    refine KQ.seq ?_
    refine KC.condT rfl ?_
    refine KC.seq ?_
    refine KC.region ?_
    refine KL.call rfl rfl rfl rfl Try.call8 rfl rfl rfl (works_any) ?_
    rintro _ H2 ⟨rfl, ox⟩
    have o0 := o0.trans ox
    have bl := (ox).blk bl
    refine KL.op (R.assign rfl rfl) rfl rfl rfl ?_
    refine KL.nil ?_
    refine KQ.seq ?_
    refine KC.ret ?_
    refine KQ.retThen ?_
    refine KQ.ofRet ?_
    refine KQ.fin1 Try.results5 rfl ?_
    exact ⟨rfl, o0⟩
  · intro hg24
    try simp only [decide_eq_true_eq, decide_eq_false_iff_not, Bool.not_eq_true', Bool.not_eq_false', Bool.and_eq_true, Bool.or_eq_false_iff] at hg24
    refine KL.op (R.move rfl rfl) rfl rfl rfl ?_
    refine KL.op ((by first | exact R.lenS rfl Try.underlying43 rfl (by first | exact hs.old o0 | exact hs2.old o0 | assumption) | exact R.len (ty := 0) rfl Try.underlying43 rfl)) rfl rfl rfl ?_
    refine KL.op (R.gtr rfl rfl rfl) rfl rfl rfl ?_
    refine KL.op (R.pick rfl rfl rfl) rfl rfl rfl ?_
    refine KL.nil ?_
    refine KQ.seq ?_
    refine KC.iteL rfl ?_ ?_
    · intro hc28
      try simp only [decide_eq_true_eq, decide_eq_false_iff_not, Bool.not_eq_true', Bool.not_eq_false', Bool.and_eq_true, Bool.or_eq_false_iff] at hc28
      refine KC.seq ?_
      refine KC.region ?_
      refine KL.call rfl rfl rfl rfl Try.call8 rfl rfl rfl (works_any) ?_
      rintro _ H3 ⟨rfl, ox⟩
      have o0 := o0.trans ox
      have bl := (ox).blk bl
      refine KL.op (R.assign rfl rfl) rfl rfl rfl ?_
      refine KL.nil ?_
      refine KQ.seq ?_
      refine KC.ret ?_
      refine KQ.retThen ?_
      refine KQ.ofRet ?_
      refine KQ.fin1 Try.results5 rfl ?_
      exact ⟨rfl, o0⟩
    · intro hc28
      try simp only [decide_eq_true_eq, decide_eq_false_iff_not, Bool.not_eq_true', Bool.not_eq_false', Bool.and_eq_true, Bool.or_eq_false_iff] at hc28
      refine KC.skip ?_
      refine KQ.seq ?_
      refine KC.seq ?_
      refine KC.region ?_
      refine KL.op (R.loadAgg rfl Try.underlying42 rfl sz42 rfl (by first | exact cells_of bl | assumption) rfl) rfl rfl rfl ?_
      refine KL.call rfl rfl rfl rfl Try.call15 rfl rfl rfl (New_any mn mx r1 r2) ?_
      have hbl := blk_lt bl
      rintro u H4 ⟨ox, hR⟩
      have zx := ox.1
      have o0 := o0.trans ox
      have bl := (ox).blk bl
      rcases hR with ⟨hok, g, v, rfl, hm, hf⟩ | ⟨hno, rfl⟩
      · skip
        have hmx := hok.1
        have hmx2 := hok.2
        refine KL.op (R.move rfl rfl) rfl rfl rfl ?_
        refine KL.op (R.extract rfl rfl rfl) rfl rfl rfl ?_
        refine KL.op (R.extract rfl rfl rfl) rfl rfl rfl ?_
        refine KL.op (R.assign rfl rfl) rfl rfl rfl ?_
        refine KL.op (R.assign rfl rfl) rfl rfl rfl ?_
        refine KL.nil ?_
        refine KQ.seq ?_
        refine KC.seq ?_
        refine KC.seq ?_
        refine KC.region ?_
        refine KL.op (R.move rfl rfl) rfl rfl rfl ?_
        refine KL.op ((R.neq rfl rfl rfl).val ((congrArg (fun b => Value.bool (!b)) (decide_eq_true (by rfl))))) rfl rfl rfl ?_
        refine KL.nil ?_
        refine KQ.seq ?_
        refine KC.condF rfl ?_
        refine KC.skip ?_
        refine KQ.seq ?_
        refine KC.seq ?_
        refine KC.region ?_
        refine KL.op (R.assign rfl rfl) rfl rfl rfl ?_
        refine KL.nil ?_
        refine KQ.seq ?_
        refine KC.seq ?_
        refine KC.seq ?_
        refine KC.region ?_
        refine KL.op ((by first | exact R.fieldAddr rfl Try.underlying42 rfl rfl sz2 rfl | exact R.fieldAddrP rfl Try.underlying42 rfl rfl sz2 rfl)) rfl rfl rfl ?_
        refine KL.op (R.load rfl Try.underlying2 rfl rfl (by first | exact cell_of bl rfl | exact ((hs2.old o0).int k (by omega)).1 | exact (wn.int k (by omega)).1 | exact ((hs.old o0).int k (by omega)).1 | assumption)) rfl rfl rfl ?_
        refine KL.op (R.geq rfl rfl rfl) rfl rfl rfl ?_
        refine KL.nil ?_
        refine KQ.seq ?_
        refine KC.iteL rfl ?_ ?_
        · intro hc40
          try simp only [decide_eq_true_eq, decide_eq_false_iff_not, Bool.not_eq_true', Bool.not_eq_false', Bool.and_eq_true, Bool.or_eq_false_iff] at hc40
          have hM : newM mx = min 16 mx := (by unfold newM; rw [if_pos hc40]; omega)
          refine KC.region ?_
          refine KL.op (R.move rfl rfl) rfl rfl rfl ?_
          refine KL.op ((by first | exact R.fieldAddr rfl Try.underlying42 rfl rfl sz2 rfl | exact R.fieldAddrP rfl Try.underlying42 rfl rfl sz2 rfl)) rfl rfl rfl ?_
          refine KL.op (R.load rfl Try.underlying2 rfl rfl (by first | exact cell_of bl rfl | exact ((hs2.old o0).int k (by omega)).1 | exact (wn.int k (by omega)).1 | exact ((hs.old o0).int k (by omega)).1 | assumption)) rfl rfl rfl ?_
          refine KL.op (R.convI rfl Try.underlying2 Try.underlying28 rfl (by dsimp only [InR]; omega)) rfl rfl rfl ?_
          refine KL.op (R.min rfl rfl rfl) rfl rfl rfl ?_
          refine KL.op (R.assign rfl rfl) rfl rfl rfl ?_
          refine KL.nil ?_
          refine KQ.seq ?_
          refine KC.seq ?_
          refine KC.region ?_
          refine KL.op (R.move rfl rfl) rfl rfl rfl ?_
          refine KL.op (R.move rfl rfl) rfl rfl rfl ?_
          refine KL.call rfl rfl rfl rfl Try.call10 rfl rfl rfl (Put_any _ _ _ _ hm 0 (by dsimp only [InR]; omega) _ l (hs.old o0) (by omega)) ?_
          have ltm := hm.lt
          have ltv := hm.w.lt
          rintro _ H5 ⟨rfl, hm1, f1⟩
          have bl := (f1.2 _ (by omega) (by have := hf.1; omega) (hf.2.imp id (fun h2 => by omega))).trans bl
          have ob1 := f1.ob (B := H.size) (by have := o0.1; omega) ⟨by have := hf.1; omega, hf.2.imp id (fun h => by omega)⟩
          have hm := hm1
          have hf : Fresh H.size g v := ⟨by have := hf.1; omega, hf.2.imp id (fun h => by omega)⟩
          have z_ob1 := ob1.1
          have o0 := o0.then ob1 (by omega)
          refine KL.op (R.assign rfl rfl) rfl rfl rfl ?_
          refine KL.nil ?_
          refine KQ.seq ?_
          refine KC.seq ?_
          refine KC.seq ?_
          refine KC.region ?_
          refine KL.op (R.move rfl rfl) rfl rfl rfl ?_
          refine KL.op (R.move rfl rfl) rfl rfl rfl ?_
          refine KL.op ((by first | exact R.lenS rfl Try.underlying22 rfl (by first | exact hs.old o0 | exact hs2.old o0 | exact hm | assumption) | exact R.len (ty := 0) rfl Try.underlying22 rfl)) rfl rfl rfl ?_
          refine KL.op (R.convI rfl Try.underlying3 Try.underlying28 rfl (by dsimp only [InR]; omega)) rfl rfl rfl ?_
          refine KL.op ((by first | exact R.fieldAddr rfl Try.underlying42 rfl rfl sz23 rfl | exact R.fieldAddrP rfl Try.underlying42 rfl rfl sz23 rfl)) rfl rfl rfl ?_
          refine KL.op (R.load rfl Try.underlying23 rfl rfl (by first | exact cell_of bl rfl | exact ((hs2.old o0).int k (by omega)).1 | exact (wn.int k (by omega)).1 | exact ((hs.old o0).int k (by omega)).1 | assumption)) rfl rfl rfl ?_
          refine KL.op (R.convI rfl Try.underlying23 Try.underlying28 rfl (by dsimp only [InR]; omega)) rfl rfl rfl ?_
          refine KL.op (R.mul rfl rfl rfl (by dsimp only [InR]; omega)) rfl rfl rfl ?_
          refine KL.op (R.leq rfl rfl rfl) rfl rfl rfl ?_
          refine KL.op ((R.neqB rfl Try.underlying4 rfl rfl).val (congrArg Value.bool (neqd (by rw [zeros_length]; omega)))) rfl rfl rfl ?_
          refine KL.nil ?_
          refine KQ.seq ?_
          refine KC.condF rfl ?_
          refine KC.skip ?_
          refine KQ.seq ?_
          refine KC.seq ?_
          refine KC.region ?_
          refine KL.op ((by first | exact R.fieldAddr rfl Try.underlying42 rfl rfl sz23 rfl | exact R.fieldAddrP rfl Try.underlying42 rfl rfl sz23 rfl)) rfl rfl rfl ?_
          refine KL.op (R.load rfl Try.underlying23 rfl rfl (by first | exact cell_of bl rfl | exact ((hs2.old o0).int k (by omega)).1 | exact (wn.int k (by omega)).1 | exact ((hs.old o0).int k (by omega)).1 | assumption)) rfl rfl rfl ?_
          refine KL.op (R.convI rfl Try.underlying23 Try.underlying28 rfl (by dsimp only [InR]; omega)) rfl rfl rfl ?_
          refine KL.op (R.assign rfl rfl) rfl rfl rfl ?_
          refine KL.nil ?_
          refine KQ.seq ?_
          refine KC.seq ?_
          refine KC.seq ?_
          refine KC.region ?_
          refine KL.op (R.move rfl rfl) rfl rfl rfl ?_
          refine KL.op ((by first | exact R.lenS rfl Try.underlying43 rfl (by first | exact hs.old o0 | exact hs2.old o0 | exact hm | assumption) | exact R.len (ty := 0) rfl Try.underlying43 rfl)) rfl rfl rfl ?_
          refine KL.op (R.move rfl rfl) rfl rfl rfl ?_
          refine KL.nil ?_
          refine KQ.seq ?_
          refine KC.block ?_
          rw [grB_start] at hm
          refine KC.loopD (κ := Nat × Int × Value) [65, 66, 67, 13, 68, 69, 70, 14, 71, 72, 73, 74, 75, 76, 15, 77, 78, 79, 80, 81, 82, 83, 84, 85, 86, 87, 88, 89, 6, 90, 91, 92, 93, 94, 11, 95, 64] (fun k => [(64, .int .i64 (k.1 : Nat)), (11, .int .u64 k.2.1)]) (fun k Hl => k.1 ≤ m.length ∧ MAt 65 .u32 Hl g k.2.2 (grB mn l k.2.1) (newM mx) ∧ Fresh H.size g k.2.2 ∧ mn ≤ k.2.1 ∧ Old H Hl) (fun k => m.length - k.1) (0, mn, v) ?_ ?_ ?_
          · exact (Sub.cons rfl (Sub.cons rfl (Ext.sub (Ext.refl _ _))))
          · exact ⟨Nat.zero_le _, hm, hf, Int.le_refl _, o0⟩
          · rintro ⟨k, p, v⟩ H6 ⟨hk, hm, hf, hp, o0⟩
            have zl_H6 := o0.1
            dsimp only
            dsimp only at hk hm hf hp o0
            have hlen := grB_length l r1.1 hp
            have hmn := hm.n
            refine KC.seq ?_
            refine KC.region ?_
            refine KL.op (R.lss rfl rfl rfl) rfl rfl rfl ?_
            refine KL.nil ?_
            refine KQ.seq ?_
            refine KC.seq ?_
            refine KC.iteL rfl ?_ ?_
            · intro hc65
              try simp only [decide_eq_true_eq, decide_eq_false_iff_not, Bool.not_eq_true', Bool.not_eq_false', Bool.and_eq_true, Bool.or_eq_false_iff] at hc65
              refine KC.skip ?_
              refine KQ.seq ?_
              refine KC.seq ?_
              refine KC.block ?_
              refine KC.seq ?_
              refine KC.region ?_
              refine KL.op (R.index1 rfl Try.underlying43 sz23 rfl rfl (by first | exact hs.old o0 | exact hs2.old o0 | exact hm | assumption) rfl (by omega)) rfl rfl rfl ?_
              refine KL.op (R.load rfl Try.underlying23 rfl rfl (by first | exact ((hs2.old o0).int k (by omega)).1 | exact (wn.int k (by omega)).1 | exact ((hs.old o0).int k (by omega)).1 | assumption)) rfl rfl rfl ?_
              refine KL.op (R.assign rfl rfl) rfl rfl rfl ?_
              refine KL.nil ?_
              refine KQ.seq ?_
              refine KC.seq ?_
              refine KC.region ?_
              refine KL.op (R.move rfl rfl) rfl rfl rfl ?_
              refine KL.op (R.move rfl rfl) rfl rfl rfl ?_
              refine KL.call rfl rfl rfl rfl Try.call16 rfl rfl rfl (Grow_one _ _ _ _ hm (m.getD k default) ((hs2.old o0).int k (by omega)).2) ?_
              have hnr := ((hs2.old o0).int k (by omega)).2
              dsimp only [InR] at hnr
              rintro _ H7 ⟨rfl, v2, hm2, f2, nx⟩
              have ob2 := f2.ob (B := H.size) (by have := o0.1; omega) hf
              have hm := hm2
              have hf2 := nx.fresh hf (by have := o0.1; omega)
              have hgo : growOk (grB mn l p) (newM mx) (m.getD k default) ↔ p + m.getD k default ≤ newM mx := (by unfold growOk; omega)
              have z_ob2 := ob2.1
              have o0 := o0.then ob2 (by omega)
              refine KL.op (R.assign rfl rfl) rfl rfl rfl ?_
              refine KL.nil ?_
              refine KQ.seq ?_
              refine KC.seq ?_
              refine KC.region ?_
              refine KL.op (R.move rfl rfl) rfl rfl rfl ?_
              refine KL.op (R.move rfl rfl) rfl rfl rfl ?_
              refine KL.op (R.convI rfl Try.underlying23 Try.underlying28 rfl (by dsimp only [InR]; omega)) rfl rfl rfl ?_
              refine KL.op (R.add rfl rfl rfl (by dsimp only [InR]; omega)) rfl rfl rfl ?_
              refine KL.op (R.move rfl rfl) rfl rfl rfl ?_
              refine KL.op (R.leq rfl rfl rfl) rfl rfl rfl ?_
              refine KL.op (R.assign rfl rfl) rfl rfl rfl ?_
              refine KL.nil ?_
              refine KQ.seq ?_
              refine KC.seq ?_
              refine KC.region ?_
              refine KL.op (R.move rfl rfl) rfl rfl rfl ?_
              refine KL.op (R.move rfl rfl) rfl rfl rfl ?_
              refine KL.op (R.neq rfl rfl rfl) rfl rfl rfl ?_
              refine KL.op ((R.neqB rfl Try.underlying4 rfl rfl).val (congrArg Value.bool (neqd2 (growU_law (by first | exact hgo | (rw [← hM]; exact hgo)) (by omega))))) rfl rfl rfl ?_
              refine KL.op (R.move rfl rfl) rfl rfl rfl ?_
              refine KL.op (R.move rfl rfl) rfl rfl rfl ?_
              refine KL.op (R.move rfl rfl) rfl rfl rfl ?_
              refine KL.case (d := 83) rfl ?_ ?_
              · intro hg83
                try simp only [decide_eq_true_eq, decide_eq_false_iff_not, Bool.not_eq_true', Bool.not_eq_false', Bool.and_eq_true, Bool.or_eq_false_iff] at hg83
                refine KL.op (R.move rfl rfl) rfl rfl rfl ?_
                refine KL.op (R.convI rfl Try.underlying23 Try.underlying28 rfl (by unfold growU; dsimp only [InR]; split <;> omega)) rfl rfl rfl ?_
                refine KL.op (R.move rfl rfl) rfl rfl rfl ?_
                refine KL.op ((R.neq rfl rfl rfl).val ((congrArg (fun b => Value.bool (!b)) (decide_eq_true (by unfold growU; rw [if_pos (hgo.2 (by omega))]; omega))))) rfl rfl rfl ?_
                refine KL.op (R.pick rfl rfl rfl) rfl rfl rfl ?_
                refine KL.op (R.pick rfl rfl rfl) rfl rfl rfl ?_
                refine KL.nil ?_
                refine KQ.seq ?_
                refine KC.condF rfl ?_
                refine KC.seq ?_
                refine KC.region ?_
                refine KL.op (R.move rfl rfl) rfl rfl rfl ?_
                refine KL.nil ?_
                refine KQ.seq ?_
                refine KC.iteL rfl ?_ ?_
                · intro hc90
                  try simp only [decide_eq_true_eq, decide_eq_false_iff_not, Bool.not_eq_true', Bool.not_eq_false', Bool.and_eq_true, Bool.or_eq_false_iff] at hc90
                  refine KC.region ?_
                  refine KL.op (R.move rfl rfl) rfl rfl rfl ?_
                  refine KL.op (R.move rfl rfl) rfl rfl rfl ?_
                  refine KL.op (R.convI rfl Try.underlying23 Try.underlying28 rfl (by dsimp only [InR]; omega)) rfl rfl rfl ?_
                  refine KL.op (R.add rfl rfl rfl (by dsimp only [InR]; omega)) rfl rfl rfl ?_
                  refine KL.op (R.assign rfl rfl) rfl rfl rfl ?_
                  refine KL.nil ?_
                  refine KQ.normBlock ?_
                  refine KQ.seq ?_
                  refine KC.region ?_
                  refine KL.op (R.add rfl rfl rfl (by dsimp only [InR]; omega)) rfl rfl rfl ?_
                  refine KL.op (R.move rfl rfl) rfl rfl rfl ?_
                  refine KL.nil ?_
                  refine KQ.again ((k + 1, p + m.getD k default, v2)) ?_ ?_ ?_
                  · exact (Sub.cons rfl (Sub.cons rfl (Ext.sub (by repeat (first | exact Ext.refl _ _ | refine Ext.put rfl ?_ | refine Ext.drop rfl ?_)))))
                  · show m.length - (k + 1) < m.length - k; omega
                  · exact by
                      refine ⟨by show k + 1 ≤ _; omega, ?_, hf2, by first | (show mn ≤ p; omega) | (show mn ≤ p + _; omega), o0⟩
                      unfold growB at hm
                      first
                        | (rw [if_pos (by unfold growOk; omega), grB_add l r1.1 hp (by omega)] at hm; exact hm)
                        | (rw [if_neg (by unfold growOk; omega)] at hm; exact hm)
                        | (exfalso; omega)
                · intro hc90
                  try simp only [decide_eq_true_eq, decide_eq_false_iff_not, Bool.not_eq_true', Bool.not_eq_false', Bool.and_eq_true, Bool.or_eq_false_iff] at hc90
                  refine KC.skip ?_
                  refine KQ.normBlock ?_
                  refine KQ.seq ?_
                  refine KC.region ?_
                  refine KL.op (R.add rfl rfl rfl (by dsimp only [InR]; omega)) rfl rfl rfl ?_
                  refine KL.op (R.move rfl rfl) rfl rfl rfl ?_
                  refine KL.nil ?_
                  refine KQ.again ((k + 1, p, v2)) ?_ ?_ ?_
                  · exact (Sub.cons rfl (Sub.cons rfl (Ext.sub (by repeat (first | exact Ext.refl _ _ | refine Ext.put rfl ?_ | refine Ext.drop rfl ?_)))))
                  · show m.length - (k + 1) < m.length - k; omega
                  · exact by
                      refine ⟨by show k + 1 ≤ _; omega, ?_, hf2, by first | (show mn ≤ p; omega) | (show mn ≤ p + _; omega), o0⟩
                      unfold growB at hm
                      first
                        | (rw [if_pos (by unfold growOk; omega), grB_add l r1.1 hp (by omega)] at hm; exact hm)
                        | (rw [if_neg (by unfold growOk; omega)] at hm; exact hm)
                        | (exfalso; omega)
              · intro hg83
                try simp only [decide_eq_true_eq, decide_eq_false_iff_not, Bool.not_eq_true', Bool.not_eq_false', Bool.and_eq_true, Bool.or_eq_false_iff] at hg83
                refine KL.skip rfl rfl rfl ?_
                refine KL.skip rfl rfl rfl ?_
                refine KL.skip rfl rfl rfl ?_
                refine KL.skip rfl rfl rfl ?_
                refine KL.op (R.pick rfl rfl rfl) rfl rfl rfl ?_
                refine KL.op (R.pick rfl rfl rfl) rfl rfl rfl ?_
                refine KL.nil ?_
                refine KQ.seq ?_
                refine KC.condF rfl ?_
                refine KC.seq ?_
                refine KC.region ?_
                refine KL.op (R.move rfl rfl) rfl rfl rfl ?_
                refine KL.nil ?_
                refine KQ.seq ?_
                refine KC.iteL rfl ?_ ?_
                · intro hc90
                  try simp only [decide_eq_true_eq, decide_eq_false_iff_not, Bool.not_eq_true', Bool.not_eq_false', Bool.and_eq_true, Bool.or_eq_false_iff] at hc90
                  refine KC.region ?_
                  refine KL.op (R.move rfl rfl) rfl rfl rfl ?_
                  refine KL.op (R.move rfl rfl) rfl rfl rfl ?_
                  refine KL.op (R.convI rfl Try.underlying23 Try.underlying28 rfl (by dsimp only [InR]; omega)) rfl rfl rfl ?_
                  refine KL.op (R.add rfl rfl rfl (by dsimp only [InR]; omega)) rfl rfl rfl ?_
                  refine KL.op (R.assign rfl rfl) rfl rfl rfl ?_
                  refine KL.nil ?_
                  refine KQ.normBlock ?_
                  refine KQ.seq ?_
                  refine KC.region ?_
                  refine KL.op (R.add rfl rfl rfl (by dsimp only [InR]; omega)) rfl rfl rfl ?_
                  refine KL.op (R.move rfl rfl) rfl rfl rfl ?_
                  refine KL.nil ?_
                  refine KQ.again ((k + 1, p + m.getD k default, v2)) ?_ ?_ ?_
                  · exact (Sub.cons rfl (Sub.cons rfl (Ext.sub (by repeat (first | exact Ext.refl _ _ | refine Ext.put rfl ?_ | refine Ext.drop rfl ?_)))))
                  · show m.length - (k + 1) < m.length - k; omega
                  · exact by
                      refine ⟨by show k + 1 ≤ _; omega, ?_, hf2, by first | (show mn ≤ p; omega) | (show mn ≤ p + _; omega), o0⟩
                      unfold growB at hm
                      first
                        | (rw [if_pos (by unfold growOk; omega), grB_add l r1.1 hp (by omega)] at hm; exact hm)
                        | (rw [if_neg (by unfold growOk; omega)] at hm; exact hm)
                        | (exfalso; omega)
                · intro hc90
                  try simp only [decide_eq_true_eq, decide_eq_false_iff_not, Bool.not_eq_true', Bool.not_eq_false', Bool.and_eq_true, Bool.or_eq_false_iff] at hc90
                  refine KC.skip ?_
                  refine KQ.normBlock ?_
                  refine KQ.seq ?_
                  refine KC.region ?_
                  refine KL.op (R.add rfl rfl rfl (by dsimp only [InR]; omega)) rfl rfl rfl ?_
                  refine KL.op (R.move rfl rfl) rfl rfl rfl ?_
                  refine KL.nil ?_
                  refine KQ.again ((k + 1, p, v2)) ?_ ?_ ?_
                  · exact (Sub.cons rfl (Sub.cons rfl (Ext.sub (by repeat (first | exact Ext.refl _ _ | refine Ext.put rfl ?_ | refine Ext.drop rfl ?_)))))
                  · show m.length - (k + 1) < m.length - k; omega
                  · exact by
                      refine ⟨by show k + 1 ≤ _; omega, ?_, hf2, by first | (show mn ≤ p; omega) | (show mn ≤ p + _; omega), o0⟩
                      unfold growB at hm
                      first
                        | (rw [if_pos (by unfold growOk; omega), grB_add l r1.1 hp (by omega)] at hm; exact hm)
                        | (rw [if_neg (by unfold growOk; omega)] at hm; exact hm)
                        | (exfalso; omega)
            · intro hc65
              try simp only [decide_eq_true_eq, decide_eq_false_iff_not, Bool.not_eq_true', Bool.not_eq_false', Bool.and_eq_true, Bool.or_eq_false_iff] at hc65
              refine KC.exit ?_
              refine KQ.exitThen ?_
              refine KQ.exitThen ?_
              refine KQ.hit ?_
              refine KQ.seq ?_
              refine KC.seq ?_
              refine KC.region ?_
              refine KL.op (R.move rfl rfl) rfl rfl rfl ?_
              refine KL.op (R.move rfl rfl) rfl rfl rfl ?_
              refine KL.op (R.mul rfl rfl rfl (by dsimp only [InR]; omega)) rfl rfl rfl ?_
              refine KL.op (R.convI rfl Try.underlying28 Try.underlying23 rfl (by dsimp only [InR]; omega)) rfl rfl rfl ?_
              refine KL.call rfl rfl rfl rfl Try.call13 rfl rfl rfl (Get_any _ _ _ _ hm 0 (p * 65536) (by dsimp only [InR]; omega) (by dsimp only [InR]; omega)) ?_
              rintro _ H8 ⟨xn, rfl, wn, ox⟩
              rw [prtP_all (by omega)] at wn
              rw [show decide (0 + p * 65536 ≤ ((grB mn l p).length : Int)) = true from decide_eq_true (by omega)]
              have o0 := o0.trans ox
              have hm := hm.old ox
              refine KL.op (R.move rfl rfl) rfl rfl rfl ?_
              refine KL.op (R.extract rfl rfl rfl) rfl rfl rfl ?_
              refine KL.op (R.extract rfl rfl rfl) rfl rfl rfl ?_
              refine KL.op (R.assign rfl rfl) rfl rfl rfl ?_
              refine KL.op (R.assign rfl rfl) rfl rfl rfl ?_
              refine KL.nil ?_
              refine KQ.seq ?_
              refine KC.seq ?_
              refine KC.seq ?_
              refine KC.region ?_
              refine KL.op (R.move rfl rfl) rfl rfl rfl ?_
              refine KL.op (R.not rfl rfl) rfl rfl rfl ?_
              refine KL.op (R.move rfl rfl) rfl rfl rfl ?_
              refine KL.op (R.move rfl rfl) rfl rfl rfl ?_
              refine KL.call rfl rfl rfl rfl Try.call17 rfl rfl rfl (Pages_any _ _ _ _ hm) ?_
              rintro _ _ ⟨rfl, rfl⟩
              refine KL.op (R.convI rfl Try.underlying23 Try.underlying28 rfl (by dsimp only [InR]; omega)) rfl rfl rfl ?_
              refine KL.op (R.move rfl rfl) rfl rfl rfl ?_
              refine KL.op ((R.neq rfl rfl rfl).val ((congrArg (fun b => Value.bool (!b)) (decide_eq_true (by omega))))) rfl rfl rfl ?_
              refine KL.op (R.pick rfl rfl rfl) rfl rfl rfl ?_
              refine KL.op (R.move rfl rfl) rfl rfl rfl ?_
              refine KL.op (R.move rfl rfl) rfl rfl rfl ?_
              refine KL.op (R.lenO rfl Try.underlying22 rfl wn) rfl rfl rfl ?_
              refine KL.op (R.convI rfl Try.underlying3 Try.underlying28 rfl (by dsimp only [InR]; omega)) rfl rfl rfl ?_
              refine KL.op (R.move rfl rfl) rfl rfl rfl ?_
              refine KL.op (R.mul rfl rfl rfl (by dsimp only [InR]; omega)) rfl rfl rfl ?_
              refine KL.op ((R.neq rfl rfl rfl).val ((congrArg (fun b => Value.bool (!b)) (decide_eq_true (by omega))))) rfl rfl rfl ?_
              refine KL.op (R.pick rfl rfl rfl) rfl rfl rfl ?_
              refine KL.nil ?_
              refine KQ.seq ?_
              refine KC.condF rfl ?_
              refine KC.skip ?_
              refine KQ.seq ?_
              refine KC.seq ?_
              refine KC.seq ?_
              refine KC.region ?_
              refine KL.op (R.move rfl rfl) rfl rfl rfl ?_
              refine KL.op (R.lenO rfl Try.underlying22 rfl wn) rfl rfl rfl ?_
              refine KL.op (R.move rfl rfl) rfl rfl rfl ?_
              refine KL.nil ?_
              refine KQ.seq ?_
              refine KC.block ?_
              refine KC.loopD (κ := Nat) [124, 125, 126, 127, 18, 19, 20, 128, 129, 130, 131, 132, 133, 134, 135, 136, 137, 138, 139, 140, 6, 141, 142, 143, 144, 123] (fun k => [(123, .int .i64 (k : Nat))]) (fun k Hl => k ≤ (grB mn l p).length ∧ H8 = Hl) (fun k => (grB mn l p).length - k) 0 ?_ ?_ ?_
              · exact (Sub.cons rfl (Ext.sub (Ext.refl _ _)))
              · exact ⟨Nat.zero_le _, rfl⟩
              · rintro k H9 ⟨hk, rfl⟩
                refine KC.seq ?_
                refine KC.region ?_
                refine KL.op (R.lss rfl rfl rfl) rfl rfl rfl ?_
                refine KL.nil ?_
                refine KQ.seq ?_
                refine KC.seq ?_
                refine KC.iteL rfl ?_ ?_
                · intro hc124
                  try simp only [decide_eq_true_eq, decide_eq_false_iff_not, Bool.not_eq_true', Bool.not_eq_false', Bool.and_eq_true, Bool.or_eq_false_iff] at hc124
                  refine KC.skip ?_
                  refine KQ.seq ?_
                  refine KC.seq ?_
                  refine KC.block ?_
                  refine KC.seq ?_
                  refine KC.region ?_
                  refine KL.op (R.move rfl rfl) rfl rfl rfl ?_
                  refine KL.op (R.indexO1 (j := k) rfl Try.underlying22 sz5 rfl rfl wn rfl (by omega)) rfl rfl rfl ?_
                  refine KL.op (R.load rfl Try.underlying5 rfl rfl (by first | exact ((hs2.old o0).int k (by omega)).1 | exact (wn.int k (by omega)).1 | exact ((hs.old o0).int k (by omega)).1 | assumption)) rfl rfl rfl ?_
                  refine KL.op (R.assign rfl rfl) rfl rfl rfl ?_
                  refine KL.op (R.assign rfl rfl) rfl rfl rfl ?_
                  refine KL.nil ?_
                  refine KQ.seq ?_
                  refine KC.seq ?_
                  refine KC.region ?_
                  refine KL.op (R.assign rfl rfl) rfl rfl rfl ?_
                  refine KL.nil ?_
                  refine KQ.seq ?_
                  refine KC.seq ?_
                  refine KC.region ?_
                  refine KL.op (R.move rfl rfl) rfl rfl rfl ?_
                  refine KL.op (R.move rfl rfl) rfl rfl rfl ?_
                  refine KL.case (d := 129) rfl ?_ ?_
                  · intro hg129
                    try simp only [decide_eq_true_eq, decide_eq_false_iff_not, Bool.not_eq_true', Bool.not_eq_false', Bool.and_eq_true, Bool.or_eq_false_iff] at hg129
                    refine KL.op (R.move rfl rfl) rfl rfl rfl ?_
                    refine KL.op (R.move rfl rfl) rfl rfl rfl ?_
                    refine KL.op ((by first | exact R.lenS rfl Try.underlying22 rfl (by first | exact hs.old o0 | exact hs2.old o0 | assumption) | exact R.len (ty := 0) rfl Try.underlying22 rfl)) rfl rfl rfl ?_
                    refine KL.op (R.lss rfl rfl rfl) rfl rfl rfl ?_
                    refine KL.op (R.pick rfl rfl rfl) rfl rfl rfl ?_
                    refine KL.nil ?_
                    refine KQ.seq ?_
                    refine KC.iteL rfl ?_ ?_
                    · intro hc134
                      try simp only [decide_eq_true_eq, decide_eq_false_iff_not, Bool.not_eq_true', Bool.not_eq_false', Bool.and_eq_true, Bool.or_eq_false_iff] at hc134
                      refine KC.seq ?_
                      refine KC.region ?_
                      refine KL.op (R.move rfl rfl) rfl rfl rfl ?_
                      refine KL.op (R.move rfl rfl) rfl rfl rfl ?_
                      refine KL.op (R.move rfl rfl) rfl rfl rfl ?_
                      refine KL.op (R.index1 (j := k) rfl Try.underlying22 sz5 rfl rfl (hs.old o0) rfl (by omega)) rfl rfl rfl ?_
                      refine KL.op (R.load rfl Try.underlying5 rfl rfl (by first | exact ((hs2.old o0).int k (by omega)).1 | exact (wn.int k (by omega)).1 | exact ((hs.old o0).int k (by omega)).1 | assumption)) rfl rfl rfl ?_
                      refine KL.op ((R.neq rfl rfl rfl).val ((congrArg (fun b => Value.bool (!b)) (decide_eq_true (by rw [grB_getD r1.1, if_pos (by omega)]))))) rfl rfl rfl ?_
                      refine KL.nil ?_
                      refine KQ.seq ?_
                      refine KC.condF rfl ?_
                      refine KC.skip ?_
                      refine KQ.normBlock ?_
                      refine KQ.seq ?_
                      refine KC.region ?_
                      refine KL.op (R.add rfl rfl rfl (by dsimp only [InR]; omega)) rfl rfl rfl ?_
                      refine KL.op (R.move rfl rfl) rfl rfl rfl ?_
                      refine KL.nil ?_
                      refine KQ.again (k + 1) ?_ ?_ ?_
                      · exact (Sub.cons rfl (Ext.sub (by repeat (first | exact Ext.refl _ _ | refine Ext.put rfl ?_ | refine Ext.drop rfl ?_))))
                      · omega
                      · exact ⟨by omega, rfl⟩
                    · intro hc134
                      try simp only [decide_eq_true_eq, decide_eq_false_iff_not, Bool.not_eq_true', Bool.not_eq_false', Bool.and_eq_true, Bool.or_eq_false_iff] at hc134
                      refine KC.seq ?_
                      refine KC.region ?_
                      refine KL.op (R.move rfl rfl) rfl rfl rfl ?_
                      refine KL.op (R.move rfl rfl) rfl rfl rfl ?_
                      refine KL.op ((R.neq rfl rfl rfl).val ((congrArg (fun b => Value.bool (!b)) (decide_eq_true (by rw [grB_getD r1.1, if_neg (by omega)]))))) rfl rfl rfl ?_
                      refine KL.nil ?_
                      refine KQ.seq ?_
                      refine KC.condF rfl ?_
                      refine KC.skip ?_
                      refine KQ.normBlock ?_
                      refine KQ.seq ?_
                      refine KC.region ?_
                      refine KL.op (R.add rfl rfl rfl (by dsimp only [InR]; omega)) rfl rfl rfl ?_
                      refine KL.op (R.move rfl rfl) rfl rfl rfl ?_
                      refine KL.nil ?_
                      refine KQ.again (k + 1) ?_ ?_ ?_
                      · exact (Sub.cons rfl (Ext.sub (by repeat (first | exact Ext.refl _ _ | refine Ext.put rfl ?_ | refine Ext.drop rfl ?_))))
                      · omega
                      · exact ⟨by omega, rfl⟩
                  · intro hg129
                    try simp only [decide_eq_true_eq, decide_eq_false_iff_not, Bool.not_eq_true', Bool.not_eq_false', Bool.and_eq_true, Bool.or_eq_false_iff] at hg129
                    refine KL.skip rfl rfl rfl ?_
                    refine KL.skip rfl rfl rfl ?_
                    refine KL.skip rfl rfl rfl ?_
                    refine KL.skip rfl rfl rfl ?_
                    refine KL.op (R.pick rfl rfl rfl) rfl rfl rfl ?_
                    refine KL.nil ?_
                    refine KQ.seq ?_
                    refine KC.condF rfl ?_
                    refine KC.seq ?_
                    refine KC.region ?_
                    refine KL.op (R.move rfl rfl) rfl rfl rfl ?_
                    refine KL.op (R.move rfl rfl) rfl rfl rfl ?_
                    refine KL.op ((R.neq rfl rfl rfl).val ((congrArg (fun b => Value.bool (!b)) (decide_eq_true (by rw [grB_getD r1.1, if_neg (by omega)]))))) rfl rfl rfl ?_
                    refine KL.nil ?_
                    refine KQ.seq ?_
                    refine KC.condF rfl ?_
                    refine KC.skip ?_
                    refine KQ.normBlock ?_
                    refine KQ.seq ?_
                    refine KC.region ?_
                    refine KL.op (R.add rfl rfl rfl (by dsimp only [InR]; omega)) rfl rfl rfl ?_
                    refine KL.op (R.move rfl rfl) rfl rfl rfl ?_
                    refine KL.nil ?_
                    refine KQ.again (k + 1) ?_ ?_ ?_
                    · exact (Sub.cons rfl (Ext.sub (by repeat (first | exact Ext.refl _ _ | refine Ext.put rfl ?_ | refine Ext.drop rfl ?_))))
                    · omega
                    · exact ⟨by omega, rfl⟩
                · intro hc124
                  try simp only [decide_eq_true_eq, decide_eq_false_iff_not, Bool.not_eq_true', Bool.not_eq_false', Bool.and_eq_true, Bool.or_eq_false_iff] at hc124
                  refine KC.exit ?_
                  refine KQ.exitThen ?_
                  refine KQ.exitThen ?_
                  refine KQ.hit ?_
                  refine KQ.seq ?_
                  refine KC.seq ?_
                  refine KC.region ?_
                  refine KL.call rfl rfl rfl rfl Try.call8 rfl rfl rfl (works_any) ?_
                  rintro _ H10 ⟨rfl, ox⟩
                  have o0 := o0.trans ox
                  refine KL.op (R.assign rfl rfl) rfl rfl rfl ?_
                  refine KL.nil ?_
                  refine KQ.seq ?_
                  refine KC.ret ?_
                  refine KQ.ofRet ?_
                  refine KQ.fin1 Try.results5 rfl ?_
                  exact ⟨rfl, o0⟩
        · intro hc40
          try simp only [decide_eq_true_eq, decide_eq_false_iff_not, Bool.not_eq_true', Bool.not_eq_false', Bool.and_eq_true, Bool.or_eq_false_iff] at hc40
          have hM : newM mx = 16 := (by unfold newM; rw [if_neg (by omega)])
          refine KC.skip ?_
          refine KQ.seq ?_
          refine KC.seq ?_
          refine KC.region ?_
          refine KL.op (R.move rfl rfl) rfl rfl rfl ?_
          refine KL.op (R.move rfl rfl) rfl rfl rfl ?_
          refine KL.call rfl rfl rfl rfl Try.call10 rfl rfl rfl (Put_any _ _ _ _ hm 0 (by dsimp only [InR]; omega) _ l (hs.old o0) (by omega)) ?_
          have ltm := hm.lt
          have ltv := hm.w.lt
          rintro _ H11 ⟨rfl, hm1, f1⟩
          have bl := (f1.2 _ (by omega) (by have := hf.1; omega) (hf.2.imp id (fun h2 => by omega))).trans bl
          have ob1 := f1.ob (B := H.size) (by have := o0.1; omega) ⟨by have := hf.1; omega, hf.2.imp id (fun h => by omega)⟩
          have hm := hm1
          have hf : Fresh H.size g v := ⟨by have := hf.1; omega, hf.2.imp id (fun h => by omega)⟩
          have z_ob1 := ob1.1
          have o0 := o0.then ob1 (by omega)
          refine KL.op (R.assign rfl rfl) rfl rfl rfl ?_
          refine KL.nil ?_
          refine KQ.seq ?_
          refine KC.seq ?_
          refine KC.seq ?_
          refine KC.region ?_
          refine KL.op (R.move rfl rfl) rfl rfl rfl ?_
          refine KL.op (R.move rfl rfl) rfl rfl rfl ?_
          refine KL.op ((by first | exact R.lenS rfl Try.underlying22 rfl (by first | exact hs.old o0 | exact hs2.old o0 | exact hm | assumption) | exact R.len (ty := 0) rfl Try.underlying22 rfl)) rfl rfl rfl ?_
          refine KL.op (R.convI rfl Try.underlying3 Try.underlying28 rfl (by dsimp only [InR]; omega)) rfl rfl rfl ?_
          refine KL.op ((by first | exact R.fieldAddr rfl Try.underlying42 rfl rfl sz23 rfl | exact R.fieldAddrP rfl Try.underlying42 rfl rfl sz23 rfl)) rfl rfl rfl ?_
          refine KL.op (R.load rfl Try.underlying23 rfl rfl (by first | exact cell_of bl rfl | exact ((hs2.old o0).int k (by omega)).1 | exact (wn.int k (by omega)).1 | exact ((hs.old o0).int k (by omega)).1 | assumption)) rfl rfl rfl ?_
          refine KL.op (R.convI rfl Try.underlying23 Try.underlying28 rfl (by dsimp only [InR]; omega)) rfl rfl rfl ?_
          refine KL.op (R.mul rfl rfl rfl (by dsimp only [InR]; omega)) rfl rfl rfl ?_
          refine KL.op (R.leq rfl rfl rfl) rfl rfl rfl ?_
          refine KL.op ((R.neqB rfl Try.underlying4 rfl rfl).val (congrArg Value.bool (neqd (by rw [zeros_length]; omega)))) rfl rfl rfl ?_
          refine KL.nil ?_
          refine KQ.seq ?_
          refine KC.condF rfl ?_
          refine KC.skip ?_
          refine KQ.seq ?_
          refine KC.seq ?_
          refine KC.region ?_
          refine KL.op ((by first | exact R.fieldAddr rfl Try.underlying42 rfl rfl sz23 rfl | exact R.fieldAddrP rfl Try.underlying42 rfl rfl sz23 rfl)) rfl rfl rfl ?_
          refine KL.op (R.load rfl Try.underlying23 rfl rfl (by first | exact cell_of bl rfl | exact ((hs2.old o0).int k (by omega)).1 | exact (wn.int k (by omega)).1 | exact ((hs.old o0).int k (by omega)).1 | assumption)) rfl rfl rfl ?_
          refine KL.op (R.convI rfl Try.underlying23 Try.underlying28 rfl (by dsimp only [InR]; omega)) rfl rfl rfl ?_
          refine KL.op (R.assign rfl rfl) rfl rfl rfl ?_
          refine KL.nil ?_
          refine KQ.seq ?_
          refine KC.seq ?_
          refine KC.seq ?_
          refine KC.region ?_
          refine KL.op (R.move rfl rfl) rfl rfl rfl ?_
          refine KL.op ((by first | exact R.lenS rfl Try.underlying43 rfl (by first | exact hs.old o0 | exact hs2.old o0 | exact hm | assumption) | exact R.len (ty := 0) rfl Try.underlying43 rfl)) rfl rfl rfl ?_
          refine KL.op (R.move rfl rfl) rfl rfl rfl ?_
          refine KL.nil ?_
          refine KQ.seq ?_
          refine KC.block ?_
          rw [grB_start] at hm
          refine KC.loopD (κ := Nat × Int × Value) [65, 66, 67, 13, 68, 69, 70, 14, 71, 72, 73, 74, 75, 76, 15, 77, 78, 79, 80, 81, 82, 83, 84, 85, 86, 87, 88, 89, 6, 90, 91, 92, 93, 94, 11, 95, 64] (fun k => [(64, .int .i64 (k.1 : Nat)), (11, .int .u64 k.2.1)]) (fun k Hl => k.1 ≤ m.length ∧ MAt 65 .u32 Hl g k.2.2 (grB mn l k.2.1) (newM mx) ∧ Fresh H.size g k.2.2 ∧ mn ≤ k.2.1 ∧ Old H Hl) (fun k => m.length - k.1) (0, mn, v) ?_ ?_ ?_
          · exact (Sub.cons rfl (Sub.cons rfl (Ext.sub (Ext.refl _ _))))
          · exact ⟨Nat.zero_le _, hm, hf, Int.le_refl _, o0⟩
          · rintro ⟨k, p, v⟩ H12 ⟨hk, hm, hf, hp, o0⟩
            have zl_H12 := o0.1
            dsimp only
            dsimp only at hk hm hf hp o0
            have hlen := grB_length l r1.1 hp
            have hmn := hm.n
            refine KC.seq ?_
            refine KC.region ?_
            refine KL.op (R.lss rfl rfl rfl) rfl rfl rfl ?_
            refine KL.nil ?_
            refine KQ.seq ?_
            refine KC.seq ?_
            refine KC.iteL rfl ?_ ?_
            · intro hc65
              try simp only [decide_eq_true_eq, decide_eq_false_iff_not, Bool.not_eq_true', Bool.not_eq_false', Bool.and_eq_true, Bool.or_eq_false_iff] at hc65
              refine KC.skip ?_
              refine KQ.seq ?_
              refine KC.seq ?_
              refine KC.block ?_
              refine KC.seq ?_
              refine KC.region ?_
              refine KL.op (R.index1 rfl Try.underlying43 sz23 rfl rfl (by first | exact hs.old o0 | exact hs2.old o0 | exact hm | assumption) rfl (by omega)) rfl rfl rfl ?_
              refine KL.op (R.load rfl Try.underlying23 rfl rfl (by first | exact ((hs2.old o0).int k (by omega)).1 | exact (wn.int k (by omega)).1 | exact ((hs.old o0).int k (by omega)).1 | assumption)) rfl rfl rfl ?_
              refine KL.op (R.assign rfl rfl) rfl rfl rfl ?_
              refine KL.nil ?_
              refine KQ.seq ?_
              refine KC.seq ?_
              refine KC.region ?_
              refine KL.op (R.move rfl rfl) rfl rfl rfl ?_
              refine KL.op (R.move rfl rfl) rfl rfl rfl ?_
              refine KL.call rfl rfl rfl rfl Try.call16 rfl rfl rfl (Grow_one _ _ _ _ hm (m.getD k default) ((hs2.old o0).int k (by omega)).2) ?_
              have hnr := ((hs2.old o0).int k (by omega)).2
              dsimp only [InR] at hnr
              rintro _ H13 ⟨rfl, v2, hm2, f2, nx⟩
              have ob2 := f2.ob (B := H.size) (by have := o0.1; omega) hf
              have hm := hm2
              have hf2 := nx.fresh hf (by have := o0.1; omega)
              have hgo : growOk (grB mn l p) (newM mx) (m.getD k default) ↔ p + m.getD k default ≤ newM mx := (by unfold growOk; omega)
              have z_ob2 := ob2.1
              have o0 := o0.then ob2 (by omega)
              refine KL.op (R.assign rfl rfl) rfl rfl rfl ?_
              refine KL.nil ?_
              refine KQ.seq ?_
              refine KC.seq ?_
              refine KC.region ?_
              refine KL.op (R.move rfl rfl) rfl rfl rfl ?_
              refine KL.op (R.move rfl rfl) rfl rfl rfl ?_
              refine KL.op (R.convI rfl Try.underlying23 Try.underlying28 rfl (by dsimp only [InR]; omega)) rfl rfl rfl ?_
              refine KL.op (R.add rfl rfl rfl (by dsimp only [InR]; omega)) rfl rfl rfl ?_
              refine KL.op (R.move rfl rfl) rfl rfl rfl ?_
              refine KL.op (R.leq rfl rfl rfl) rfl rfl rfl ?_
              refine KL.op (R.assign rfl rfl) rfl rfl rfl ?_
              refine KL.nil ?_
              refine KQ.seq ?_
              refine KC.seq ?_
              refine KC.region ?_
              refine KL.op (R.move rfl rfl) rfl rfl rfl ?_
              refine KL.op (R.move rfl rfl) rfl rfl rfl ?_
              refine KL.op (R.neq rfl rfl rfl) rfl rfl rfl ?_
              refine KL.op ((R.neqB rfl Try.underlying4 rfl rfl).val (congrArg Value.bool (neqd2 (growU_law (by first | exact hgo | (rw [← hM]; exact hgo)) (by omega))))) rfl rfl rfl ?_
              refine KL.op (R.move rfl rfl) rfl rfl rfl ?_
              refine KL.op (R.move rfl rfl) rfl rfl rfl ?_
              refine KL.op (R.move rfl rfl) rfl rfl rfl ?_
              refine KL.case (d := 83) rfl ?_ ?_
              · intro hg83
                try simp only [decide_eq_true_eq, decide_eq_false_iff_not, Bool.not_eq_true', Bool.not_eq_false', Bool.and_eq_true, Bool.or_eq_false_iff] at hg83
                refine KL.op (R.move rfl rfl) rfl rfl rfl ?_
                refine KL.op (R.convI rfl Try.underlying23 Try.underlying28 rfl (by unfold growU; dsimp only [InR]; split <;> omega)) rfl rfl rfl ?_
                refine KL.op (R.move rfl rfl) rfl rfl rfl ?_
                refine KL.op ((R.neq rfl rfl rfl).val ((congrArg (fun b => Value.bool (!b)) (decide_eq_true (by unfold growU; rw [if_pos (hgo.2 (by omega))]; omega))))) rfl rfl rfl ?_
                refine KL.op (R.pick rfl rfl rfl) rfl rfl rfl ?_
                refine KL.op (R.pick rfl rfl rfl) rfl rfl rfl ?_
                refine KL.nil ?_
                refine KQ.seq ?_
                refine KC.condF rfl ?_
                refine KC.seq ?_
                refine KC.region ?_
                refine KL.op (R.move rfl rfl) rfl rfl rfl ?_
                refine KL.nil ?_
                refine KQ.seq ?_
                refine KC.iteL rfl ?_ ?_
                · intro hc90
                  try simp only [decide_eq_true_eq, decide_eq_false_iff_not, Bool.not_eq_true', Bool.not_eq_false', Bool.and_eq_true, Bool.or_eq_false_iff] at hc90
                  refine KC.region ?_
                  refine KL.op (R.move rfl rfl) rfl rfl rfl ?_
                  refine KL.op (R.move rfl rfl) rfl rfl rfl ?_
                  refine KL.op (R.convI rfl Try.underlying23 Try.underlying28 rfl (by dsimp only [InR]; omega)) rfl rfl rfl ?_
                  refine KL.op (R.add rfl rfl rfl (by dsimp only [InR]; omega)) rfl rfl rfl ?_
                  refine KL.op (R.assign rfl rfl) rfl rfl rfl ?_
                  refine KL.nil ?_
                  refine KQ.normBlock ?_
                  refine KQ.seq ?_
                  refine KC.region ?_
                  refine KL.op (R.add rfl rfl rfl (by dsimp only [InR]; omega)) rfl rfl rfl ?_
                  refine KL.op (R.move rfl rfl) rfl rfl rfl ?_
                  refine KL.nil ?_
                  refine KQ.again ((k + 1, p + m.getD k default, v2)) ?_ ?_ ?_
                  · exact (Sub.cons rfl (Sub.cons rfl (Ext.sub (by repeat (first | exact Ext.refl _ _ | refine Ext.put rfl ?_ | refine Ext.drop rfl ?_)))))
                  · show m.length - (k + 1) < m.length - k; omega
                  · exact by
                      refine ⟨by show k + 1 ≤ _; omega, ?_, hf2, by first | (show mn ≤ p; omega) | (show mn ≤ p + _; omega), o0⟩
                      unfold growB at hm
                      first
                        | (rw [if_pos (by unfold growOk; omega), grB_add l r1.1 hp (by omega)] at hm; exact hm)
                        | (rw [if_neg (by unfold growOk; omega)] at hm; exact hm)
                        | (exfalso; omega)
                · intro hc90
                  try simp only [decide_eq_true_eq, decide_eq_false_iff_not, Bool.not_eq_true', Bool.not_eq_false', Bool.and_eq_true, Bool.or_eq_false_iff] at hc90
                  refine KC.skip ?_
                  refine KQ.normBlock ?_
                  refine KQ.seq ?_
                  refine KC.region ?_
                  refine KL.op (R.add rfl rfl rfl (by dsimp only [InR]; omega)) rfl rfl rfl ?_
                  refine KL.op (R.move rfl rfl) rfl rfl rfl ?_
                  refine KL.nil ?_
                  refine KQ.again ((k + 1, p, v2)) ?_ ?_ ?_
                  · exact (Sub.cons rfl (Sub.cons rfl (Ext.sub (by repeat (first | exact Ext.refl _ _ | refine Ext.put rfl ?_ | refine Ext.drop rfl ?_)))))
                  · show m.length - (k + 1) < m.length - k; omega
                  · exact by
                      refine ⟨by show k + 1 ≤ _; omega, ?_, hf2, by first | (show mn ≤ p; omega) | (show mn ≤ p + _; omega), o0⟩
                      unfold growB at hm
                      first
                        | (rw [if_pos (by unfold growOk; omega), grB_add l r1.1 hp (by omega)] at hm; exact hm)
                        | (rw [if_neg (by unfold growOk; omega)] at hm; exact hm)
                        | (exfalso; omega)
              · intro hg83
                try simp only [decide_eq_true_eq, decide_eq_false_iff_not, Bool.not_eq_true', Bool.not_eq_false', Bool.and_eq_true, Bool.or_eq_false_iff] at hg83
                refine KL.skip rfl rfl rfl ?_
                refine KL.skip rfl rfl rfl ?_
                refine KL.skip rfl rfl rfl ?_
                refine KL.skip rfl rfl rfl ?_
                refine KL.op (R.pick rfl rfl rfl) rfl rfl rfl ?_
                refine KL.op (R.pick rfl rfl rfl) rfl rfl rfl ?_
                refine KL.nil ?_
                refine KQ.seq ?_
                refine KC.condF rfl ?_
                refine KC.seq ?_
                refine KC.region ?_
                refine KL.op (R.move rfl rfl) rfl rfl rfl ?_
                refine KL.nil ?_
                refine KQ.seq ?_
                refine KC.iteL rfl ?_ ?_
                · intro hc90
                  try simp only [decide_eq_true_eq, decide_eq_false_iff_not, Bool.not_eq_true', Bool.not_eq_false', Bool.and_eq_true, Bool.or_eq_false_iff] at hc90
                  refine KC.region ?_
                  refine KL.op (R.move rfl rfl) rfl rfl rfl ?_
                  refine KL.op (R.move rfl rfl) rfl rfl rfl ?_
                  refine KL.op (R.convI rfl Try.underlying23 Try.underlying28 rfl (by dsimp only [InR]; omega)) rfl rfl rfl ?_
                  refine KL.op (R.add rfl rfl rfl (by dsimp only [InR]; omega)) rfl rfl rfl ?_
                  refine KL.op (R.assign rfl rfl) rfl rfl rfl ?_
                  refine KL.nil ?_
                  refine KQ.normBlock ?_
                  refine KQ.seq ?_
                  refine KC.region ?_
                  refine KL.op (R.add rfl rfl rfl (by dsimp only [InR]; omega)) rfl rfl rfl ?_
                  refine KL.op (R.move rfl rfl) rfl rfl rfl ?_
                  refine KL.nil ?_
                  refine KQ.again ((k + 1, p + m.getD k default, v2)) ?_ ?_ ?_
                  · exact (Sub.cons rfl (Sub.cons rfl (Ext.sub (by repeat (first | exact Ext.refl _ _ | refine Ext.put rfl ?_ | refine Ext.drop rfl ?_)))))
                  · show m.length - (k + 1) < m.length - k; omega
                  · exact by
                      refine ⟨by show k + 1 ≤ _; omega, ?_, hf2, by first | (show mn ≤ p; omega) | (show mn ≤ p + _; omega), o0⟩
                      unfold growB at hm
                      first
                        | (rw [if_pos (by unfold growOk; omega), grB_add l r1.1 hp (by omega)] at hm; exact hm)
                        | (rw [if_neg (by unfold growOk; omega)] at hm; exact hm)
                        | (exfalso; omega)
                · intro hc90
                  try simp only [decide_eq_true_eq, decide_eq_false_iff_not, Bool.not_eq_true', Bool.not_eq_false', Bool.and_eq_true, Bool.or_eq_false_iff] at hc90
                  refine KC.skip ?_
                  refine KQ.normBlock ?_
                  refine KQ.seq ?_
                  refine KC.region ?_
                  refine KL.op (R.add rfl rfl rfl (by dsimp only [InR]; omega)) rfl rfl rfl ?_
                  refine KL.op (R.move rfl rfl) rfl rfl rfl ?_
                  refine KL.nil ?_
                  refine KQ.again ((k + 1, p, v2)) ?_ ?_ ?_
                  · exact (Sub.cons rfl (Sub.cons rfl (Ext.sub (by repeat (first | exact Ext.refl _ _ | refine Ext.put rfl ?_ | refine Ext.drop rfl ?_)))))
                  · show m.length - (k + 1) < m.length - k; omega
                  · exact by
                      refine ⟨by show k + 1 ≤ _; omega, ?_, hf2, by first | (show mn ≤ p; omega) | (show mn ≤ p + _; omega), o0⟩
                      unfold growB at hm
                      first
                        | (rw [if_pos (by unfold growOk; omega), grB_add l r1.1 hp (by omega)] at hm; exact hm)
                        | (rw [if_neg (by unfold growOk; omega)] at hm; exact hm)
                        | (exfalso; omega)
            · intro hc65
              try simp only [decide_eq_true_eq, decide_eq_false_iff_not, Bool.not_eq_true', Bool.not_eq_false', Bool.and_eq_true, Bool.or_eq_false_iff] at hc65
              refine KC.exit ?_
              refine KQ.exitThen ?_
              refine KQ.exitThen ?_
              refine KQ.hit ?_
              refine KQ.seq ?_
              refine KC.seq ?_
              refine KC.region ?_
              refine KL.op (R.move rfl rfl) rfl rfl rfl ?_
              refine KL.op (R.move rfl rfl) rfl rfl rfl ?_
              refine KL.op (R.mul rfl rfl rfl (by dsimp only [InR]; omega)) rfl rfl rfl ?_
              refine KL.op (R.convI rfl Try.underlying28 Try.underlying23 rfl (by dsimp only [InR]; omega)) rfl rfl rfl ?_
              refine KL.call rfl rfl rfl rfl Try.call13 rfl rfl rfl (Get_any _ _ _ _ hm 0 (p * 65536) (by dsimp only [InR]; omega) (by dsimp only [InR]; omega)) ?_
              rintro _ H14 ⟨xn, rfl, wn, ox⟩
              rw [prtP_all (by omega)] at wn
              rw [show decide (0 + p * 65536 ≤ ((grB mn l p).length : Int)) = true from decide_eq_true (by omega)]
              have o0 := o0.trans ox
              have hm := hm.old ox
              refine KL.op (R.move rfl rfl) rfl rfl rfl ?_
              refine KL.op (R.extract rfl rfl rfl) rfl rfl rfl ?_
              refine KL.op (R.extract rfl rfl rfl) rfl rfl rfl ?_
              refine KL.op (R.assign rfl rfl) rfl rfl rfl ?_
              refine KL.op (R.assign rfl rfl) rfl rfl rfl ?_
              refine KL.nil ?_
              refine KQ.seq ?_
              refine KC.seq ?_
              refine KC.seq ?_
              refine KC.region ?_
              refine KL.op (R.move rfl rfl) rfl rfl rfl ?_
              refine KL.op (R.not rfl rfl) rfl rfl rfl ?_
              refine KL.op (R.move rfl rfl) rfl rfl rfl ?_
              refine KL.op (R.move rfl rfl) rfl rfl rfl ?_
              refine KL.call rfl rfl rfl rfl Try.call17 rfl rfl rfl (Pages_any _ _ _ _ hm) ?_
              rintro _ _ ⟨rfl, rfl⟩
              refine KL.op (R.convI rfl Try.underlying23 Try.underlying28 rfl (by dsimp only [InR]; omega)) rfl rfl rfl ?_
              refine KL.op (R.move rfl rfl) rfl rfl rfl ?_
              refine KL.op ((R.neq rfl rfl rfl).val ((congrArg (fun b => Value.bool (!b)) (decide_eq_true (by omega))))) rfl rfl rfl ?_
              refine KL.op (R.pick rfl rfl rfl) rfl rfl rfl ?_
              refine KL.op (R.move rfl rfl) rfl rfl rfl ?_
              refine KL.op (R.move rfl rfl) rfl rfl rfl ?_
              refine KL.op (R.lenO rfl Try.underlying22 rfl wn) rfl rfl rfl ?_
              refine KL.op (R.convI rfl Try.underlying3 Try.underlying28 rfl (by dsimp only [InR]; omega)) rfl rfl rfl ?_
              refine KL.op (R.move rfl rfl) rfl rfl rfl ?_
              refine KL.op (R.mul rfl rfl rfl (by dsimp only [InR]; omega)) rfl rfl rfl ?_
              refine KL.op ((R.neq rfl rfl rfl).val ((congrArg (fun b => Value.bool (!b)) (decide_eq_true (by omega))))) rfl rfl rfl ?_
              refine KL.op (R.pick rfl rfl rfl) rfl rfl rfl ?_
              refine KL.nil ?_
              refine KQ.seq ?_
              refine KC.condF rfl ?_
              refine KC.skip ?_
              refine KQ.seq ?_
              refine KC.seq ?_
              refine KC.seq ?_
              refine KC.region ?_
              refine KL.op (R.move rfl rfl) rfl rfl rfl ?_
              refine KL.op (R.lenO rfl Try.underlying22 rfl wn) rfl rfl rfl ?_
              refine KL.op (R.move rfl rfl) rfl rfl rfl ?_
              refine KL.nil ?_
              refine KQ.seq ?_
              refine KC.block ?_
              refine KC.loopD (κ := Nat) [124, 125, 126, 127, 18, 19, 20, 128, 129, 130, 131, 132, 133, 134, 135, 136, 137, 138, 139, 140, 6, 141, 142, 143, 144, 123] (fun k => [(123, .int .i64 (k : Nat))]) (fun k Hl => k ≤ (grB mn l p).length ∧ H14 = Hl) (fun k => (grB mn l p).length - k) 0 ?_ ?_ ?_
              · exact (Sub.cons rfl (Ext.sub (Ext.refl _ _)))
              · exact ⟨Nat.zero_le _, rfl⟩
              · rintro k H15 ⟨hk, rfl⟩
                refine KC.seq ?_
                refine KC.region ?_
                refine KL.op (R.lss rfl rfl rfl) rfl rfl rfl ?_
                refine KL.nil ?_
                refine KQ.seq ?_
                refine KC.seq ?_
                refine KC.iteL rfl ?_ ?_
                · intro hc124
                  try simp only [decide_eq_true_eq, decide_eq_false_iff_not, Bool.not_eq_true', Bool.not_eq_false', Bool.and_eq_true, Bool.or_eq_false_iff] at hc124
                  refine KC.skip ?_
                  refine KQ.seq ?_
                  refine KC.seq ?_
                  refine KC.block ?_
                  refine KC.seq ?_
                  refine KC.region ?_
                  refine KL.op (R.move rfl rfl) rfl rfl rfl ?_
                  refine KL.op (R.indexO1 (j := k) rfl Try.underlying22 sz5 rfl rfl wn rfl (by omega)) rfl rfl rfl ?_
                  refine KL.op (R.load rfl Try.underlying5 rfl rfl (by first | exact ((hs2.old o0).int k (by omega)).1 | exact (wn.int k (by omega)).1 | exact ((hs.old o0).int k (by omega)).1 | assumption)) rfl rfl rfl ?_
                  refine KL.op (R.assign rfl rfl) rfl rfl rfl ?_
                  refine KL.op (R.assign rfl rfl) rfl rfl rfl ?_
                  refine KL.nil ?_
                  refine KQ.seq ?_
                  refine KC.seq ?_
                  refine KC.region ?_
                  refine KL.op (R.assign rfl rfl) rfl rfl rfl ?_
                  refine KL.nil ?_
                  refine KQ.seq ?_
                  refine KC.seq ?_
                  refine KC.region ?_
                  refine KL.op (R.move rfl rfl) rfl rfl rfl ?_
                  refine KL.op (R.move rfl rfl) rfl rfl rfl ?_
                  refine KL.case (d := 129) rfl ?_ ?_
                  · intro hg129
                    try simp only [decide_eq_true_eq, decide_eq_false_iff_not, Bool.not_eq_true', Bool.not_eq_false', Bool.and_eq_true, Bool.or_eq_false_iff] at hg129
                    refine KL.op (R.move rfl rfl) rfl rfl rfl ?_
                    refine KL.op (R.move rfl rfl) rfl rfl rfl ?_
                    refine KL.op ((by first | exact R.lenS rfl Try.underlying22 rfl (by first | exact hs.old o0 | exact hs2.old o0 | assumption) | exact R.len (ty := 0) rfl Try.underlying22 rfl)) rfl rfl rfl ?_
                    refine KL.op (R.lss rfl rfl rfl) rfl rfl rfl ?_
                    refine KL.op (R.pick rfl rfl rfl) rfl rfl rfl ?_
                    refine KL.nil ?_
                    refine KQ.seq ?_
                    refine KC.iteL rfl ?_ ?_
                    · intro hc134
                      try simp only [decide_eq_true_eq, decide_eq_false_iff_not, Bool.not_eq_true', Bool.not_eq_false', Bool.and_eq_true, Bool.or_eq_false_iff] at hc134
                      refine KC.seq ?_
                      refine KC.region ?_
                      refine KL.op (R.move rfl rfl) rfl rfl rfl ?_
                      refine KL.op (R.move rfl rfl) rfl rfl rfl ?_
                      refine KL.op (R.move rfl rfl) rfl rfl rfl ?_
                      refine KL.op (R.index1 (j := k) rfl Try.underlying22 sz5 rfl rfl (hs.old o0) rfl (by omega)) rfl rfl rfl ?_
                      refine KL.op (R.load rfl Try.underlying5 rfl rfl (by first | exact ((hs2.old o0).int k (by omega)).1 | exact (wn.int k (by omega)).1 | exact ((hs.old o0).int k (by omega)).1 | assumption)) rfl rfl rfl ?_
                      refine KL.op ((R.neq rfl rfl rfl).val ((congrArg (fun b => Value.bool (!b)) (decide_eq_true (by rw [grB_getD r1.1, if_pos (by omega)]))))) rfl rfl rfl ?_
                      refine KL.nil ?_
                      refine KQ.seq ?_
                      refine KC.condF rfl ?_
                      refine KC.skip ?_
                      refine KQ.normBlock ?_
                      refine KQ.seq ?_
                      refine KC.region ?_
                      refine KL.op (R.add rfl rfl rfl (by dsimp only [InR]; omega)) rfl rfl rfl ?_
                      refine KL.op (R.move rfl rfl) rfl rfl rfl ?_
                      refine KL.nil ?_
                      refine KQ.again (k + 1) ?_ ?_ ?_
                      · exact (Sub.cons rfl (Ext.sub (by repeat (first | exact Ext.refl _ _ | refine Ext.put rfl ?_ | refine Ext.drop rfl ?_))))
                      · omega
                      · exact ⟨by omega, rfl⟩
                    · intro hc134
                      try simp only [decide_eq_true_eq, decide_eq_false_iff_not, Bool.not_eq_true', Bool.not_eq_false', Bool.and_eq_true, Bool.or_eq_false_iff] at hc134
                      refine KC.seq ?_
                      refine KC.region ?_
                      refine KL.op (R.move rfl rfl) rfl rfl rfl ?_
                      refine KL.op (R.move rfl rfl) rfl rfl rfl ?_
                      refine KL.op ((R.neq rfl rfl rfl).val ((congrArg (fun b => Value.bool (!b)) (decide_eq_true (by rw [grB_getD r1.1, if_neg (by omega)]))))) rfl rfl rfl ?_
                      refine KL.nil ?_
                      refine KQ.seq ?_
                      refine KC.condF rfl ?_
                      refine KC.skip ?_
                      refine KQ.normBlock ?_
                      refine KQ.seq ?_
                      refine KC.region ?_
                      refine KL.op (R.add rfl rfl rfl (by dsimp only [InR]; omega)) rfl rfl rfl ?_
                      refine KL.op (R.move rfl rfl) rfl rfl rfl ?_
                      refine KL.nil ?_
                      refine KQ.again (k + 1) ?_ ?_ ?_
                      · exact (Sub.cons rfl (Ext.sub (by repeat (first | exact Ext.refl _ _ | refine Ext.put rfl ?_ | refine Ext.drop rfl ?_))))
                      · omega
                      · exact ⟨by omega, rfl⟩
                  · intro hg129
                    try simp only [decide_eq_true_eq, decide_eq_false_iff_not, Bool.not_eq_true', Bool.not_eq_false', Bool.and_eq_true, Bool.or_eq_false_iff] at hg129
                    refine KL.skip rfl rfl rfl ?_
                    refine KL.skip rfl rfl rfl ?_
                    refine KL.skip rfl rfl rfl ?_
                    refine KL.skip rfl rfl rfl ?_
                    refine KL.op (R.pick rfl rfl rfl) rfl rfl rfl ?_
                    refine KL.nil ?_
                    refine KQ.seq ?_
                    refine KC.condF rfl ?_
                    refine KC.seq ?_
                    refine KC.region ?_
                    refine KL.op (R.move rfl rfl) rfl rfl rfl ?_
                    refine KL.op (R.move rfl rfl) rfl rfl rfl ?_
                    refine KL.op ((R.neq rfl rfl rfl).val ((congrArg (fun b => Value.bool (!b)) (decide_eq_true (by rw [grB_getD r1.1, if_neg (by omega)]))))) rfl rfl rfl ?_
                    refine KL.nil ?_
                    refine KQ.seq ?_
                    refine KC.condF rfl ?_
                    refine KC.skip ?_
                    refine KQ.normBlock ?_
                    refine KQ.seq ?_
                    refine KC.region ?_
                    refine KL.op (R.add rfl rfl rfl (by dsimp only [InR]; omega)) rfl rfl rfl ?_
                    refine KL.op (R.move rfl rfl) rfl rfl rfl ?_
                    refine KL.nil ?_
                    refine KQ.again (k + 1) ?_ ?_ ?_
                    · exact (Sub.cons rfl (Ext.sub (by repeat (first | exact Ext.refl _ _ | refine Ext.put rfl ?_ | refine Ext.drop rfl ?_))))
                    · omega
                    · exact ⟨by omega, rfl⟩
                · intro hc124
                  try simp only [decide_eq_true_eq, decide_eq_false_iff_not, Bool.not_eq_true', Bool.not_eq_false', Bool.and_eq_true, Bool.or_eq_false_iff] at hc124
                  refine KC.exit ?_
                  refine KQ.exitThen ?_
                  refine KQ.exitThen ?_
                  refine KQ.hit ?_
                  refine KQ.seq ?_
                  refine KC.seq ?_
                  refine KC.region ?_
                  refine KL.call rfl rfl rfl rfl Try.call8 rfl rfl rfl (works_any) ?_
                  rintro _ H16 ⟨rfl, ox⟩
                  have o0 := o0.trans ox
                  refine KL.op (R.assign rfl rfl) rfl rfl rfl ?_
                  refine KL.nil ?_
                  refine KQ.seq ?_
                  refine KC.ret ?_
                  refine KQ.ofRet ?_
                  refine KQ.fin1 Try.results5 rfl ?_
                  exact ⟨rfl, o0⟩
      · skip
        refine KL.op (R.move rfl rfl) rfl rfl rfl ?_
        refine KL.op (R.extract rfl rfl rfl) rfl rfl rfl ?_
        refine KL.op (R.extract rfl rfl rfl) rfl rfl rfl ?_
        refine KL.op (R.assign rfl rfl) rfl rfl rfl ?_
        refine KL.op (R.assign rfl rfl) rfl rfl rfl ?_
        refine KL.nil ?_
        refine KQ.seq ?_
        refine KC.seq ?_
        refine KC.seq ?_
        refine KC.region ?_
        refine KL.op (R.move rfl rfl) rfl rfl rfl ?_
        refine KL.op ((R.neq rfl rfl rfl).val ((congrArg (fun b => Value.bool (!b)) (decide_eq_false (by decide))))) rfl rfl rfl ?_
        refine KL.nil ?_
        refine KQ.seq ?_
        refine KC.condT rfl ?_
        refine KC.seq ?_
        refine KC.region ?_
        refine KL.call rfl rfl rfl rfl Try.call8 rfl rfl rfl (works_any) ?_
        rintro _ H17 ⟨rfl, ox⟩
        have o0 := o0.trans ox
        have bl := (ox).blk bl
        refine KL.op (R.assign rfl rfl) rfl rfl rfl ?_
        refine KL.nil ?_
        refine KQ.seq ?_
        refine KC.ret ?_
        refine KQ.retThen ?_
        refine KQ.ofRet ?_
        refine KQ.fin1 Try.results5 rfl ?_
        exact ⟨rfl, o0⟩

theorem MemGrows_c {H : Heap} (c : List Value) (x : Int × Int) (e : ELim H c x) (b0 : Value) (l : List Int) (hs : Sl 1 (EInt .u8) H b0 l) (c0 : Value) (m : List Int) (hs2 : Sl 1 (EInt .u32) H c0 m) : Ct Try.prog 5 [.agg c.toArray, b0, c0] H (fun u H' => u = .bool true ∧ Old H H') := by
  obtain ⟨rfl, r1, r2⟩ := e
  exact MemGrows_any x.1 x.2 r1 r2 b0 l hs c0 m hs2

end Go.Proofs.Ytdefjpakpgchhaa
