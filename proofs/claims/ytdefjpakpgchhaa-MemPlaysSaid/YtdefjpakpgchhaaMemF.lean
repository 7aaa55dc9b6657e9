/- A store changes no byte but its own. No condition. -/
import Derived.Test.YtdefjpakpgchhaaMemE
namespace Go.Proofs.Ytdefjpakpgchhaa
open Go Go.RowKit
set_option linter.unusedVariables false
set_option linter.unusedSimpArgs false
set_option linter.unnecessarySimpa false

theorem Own.fr {α : Type} {n : Nat} {E : El α} {e : TypeId} {H0 H H' : Heap} {B g : Nat} {v v2 : Value} {l : List α} (h : Own n E e H0 B H v l) (f : Fr g v2 H H') (h3 : v = .slice none 0 0 ∨ (vblock v ≠ g ∧ (v2 = .slice none 0 0 ∨ vblock v ≠ vblock v2))) : Own n E e H0 B H' v l := by
  have nilcase : v = .slice none 0 0 → Own n E e H0 B H' v l := by
    rintro rfl
    obtain ⟨flat, ⟨h0, hc⟩, hel⟩ := h
    rcases hc with hc | ⟨_, _, _, hv, _⟩
    · exact ⟨flat, ⟨h0, .inl hc⟩, hel⟩
    · cases hv
  rcases h3 with h3 | ⟨h3, h4⟩
  · exact nilcase h3
  · rcases h.lt with hv | hv
    · exact nilcase hv
    · exact h.keep (f.2 _ hv.2 h3 h4)
theorem prtP_all {bs : List Int} {n : Int} (h : (bs.length : Int) = n) : prtP bs 0 n = bs := by
  unfold prtP prt
  rw [if_pos (by omega), show (0 : Int).toNat = 0 from rfl, Nat.zero_add, List.drop_zero, List.take_of_length_le (by omega)]
theorem storeB_length (bs : List Int) (op p x : Int) (hp : 0 ≤ p) : (storeB bs op p x).length = bs.length := by
  unfold storeB
  split
  · next h => unfold inA at h; rw [putAt_length (by rw [bytesOf_length]; omega)]
  · rfl
theorem bytesOf_getD {x : Int} {w i : Nat} (h : i < w) : (bytesOf x w).getD i default = x / 256 ^ i % 256 := by
  simp [bytesOf, List.getD_eq_getElem?_getD, h]
theorem storeB_getD {bs : List Int} {op p x : Int} {i : Nat} (hp : 0 ≤ p) (hi : i < bs.length) : (storeB bs op p x).getD i default = if inA bs 54 62 op p ∧ p ≤ i ∧ i < p + mw op then x / 256 ^ (i - p.toNat) % 256 else bs.getD i default := by
  unfold storeB
  split
  · next h =>
    have h' := h
    unfold inA at h
    rw [putAt_getD (by rw [bytesOf_length]; omega) hi, bytesOf_length]
    by_cases hc : p ≤ i ∧ (i : Int) < p + mw op
    · rw [if_pos (by omega), if_pos ⟨h', hc⟩, bytesOf_getD (by omega)]
    · rw [if_neg (by omega), if_neg (fun h => hc h.2)]
  · next h => rw [if_neg (fun hh => h hh.1)]
theorem wid {op : Int} (h1 : 54 ≤ op) (h2 : op ≤ 62) : ([.int .u32 4, .int .u32 8, .int .u32 0, .int .u32 0, .int .u32 1, .int .u32 2, .int .u32 1, .int .u32 2, .int .u32 4] : List Value).getD (op - 54).toNat default = .int .u32 (mw op : Nat) := by
  have : op = 54 ∨ op = 55 ∨ op = 56 ∨ op = 57 ∨ op = 58 ∨ op = 59 ∨ op = 60 ∨ op = 61 ∨ op = 62 := by omega
  rcases this with rfl | rfl | rfl | rfl | rfl | rfl | rfl | rfl | rfl <;> rfl
def ldop (op : Int) : Int := ([40, 41, 0, 0, 45, 47, 49, 51, 53] : List Int).getD (op - 54).toNat 0
theorem lid {op : Int} (h1 : 54 ≤ op) (h2 : op ≤ 62) : ([.int .u8 40, .int .u8 41, .int .u8 0, .int .u8 0, .int .u8 45, .int .u8 47, .int .u8 49, .int .u8 51, .int .u8 53] : List Value).getD (op - 54).toNat default = .int .u8 (ldop op) := by
  have : op = 54 ∨ op = 55 ∨ op = 56 ∨ op = 57 ∨ op = 58 ∨ op = 59 ∨ op = 60 ∨ op = 61 ∨ op = 62 := by omega
  rcases this with rfl | rfl | rfl | rfl | rfl | rfl | rfl | rfl | rfl <;> rfl
theorem ldop_spec {op : Int} (h1 : 54 ≤ op) (h2 : op ≤ 62) (h3 : mw op ≠ 0) : 40 ≤ ldop op ∧ ldop op ≤ 53 ∧ mw (ldop op) = mw op ∧ (∀ y, loadN (ldop op) y = y) ∧ (mw op = 1 ∨ mw op = 2 ∨ mw op = 4 ∨ mw op = 8) := by
  have : op = 54 ∨ op = 55 ∨ op = 56 ∨ op = 57 ∨ op = 58 ∨ op = 59 ∨ op = 60 ∨ op = 61 ∨ op = 62 := by omega
  rcases this with rfl | rfl | rfl | rfl | rfl | rfl | rfl | rfl | rfl
  all_goals first | exact absurd rfl h3 | exact ⟨by decide, by decide, rfl, fun y => rfl, by decide⟩
theorem ldop_in {bs : List Int} {op p x : Int} (hp : 0 ≤ p) (hA : inA bs 54 62 op p) : inA (storeB bs op p x) 40 53 (ldop op) p := by
  have hA' := hA
  unfold inA at hA
  obtain ⟨h1, h2, h3, -, -⟩ := ldop_spec hA.1 hA.2.1 hA.2.2.1
  unfold inA
  rw [storeB_length _ _ _ _ hp, h3]
  exact ⟨h1, h2, hA.2.2.1, hA.2.2.2⟩
theorem ldop_load {bs : List Int} {op p x : Int} (hp : 0 ≤ p) (hA : inA bs 54 62 op p) : loadX (storeB bs op p x) (ldop op) p = x % 256 ^ mw op := by
  unfold loadX
  rw [if_pos (ldop_in hp hA)]
  have hA' := hA
  unfold inA at hA
  obtain ⟨h1, h2, h3, h4, -⟩ := ldop_spec hA.1 hA.2.1 hA.2.2.1
  rw [h4, h3]
  unfold storeB
  rw [if_pos hA']
  have := prt_putAt (bs := bs) (l := bytesOf x (mw op)) (p := p.toNat) (by rw [bytesOf_length]; omega)
  rw [bytesOf_length] at this
  rw [this, ld_bytesOf]
theorem low_bytes {x : Int} {w : Nat} (hw : w = 1 ∨ w = 2 ∨ w = 4 ∨ w = 8) : IntKind.u64.wrap (x * 2 ^ (min (64 - 8 * (w : Int)).toNat IntKind.u64.bits)) / 2 ^ (min (64 - 8 * (w : Int)).toNat IntKind.u64.bits) = x % 256 ^ w := by
  rw [IntKind.wrap_u64]
  rcases hw with rfl | rfl | rfl | rfl
  · have e : min (64 - 8 * ((1 : Nat) : Int)).toNat IntKind.u64.bits = 56 := rfl
    rw [e]; omega
  · have e : min (64 - 8 * ((2 : Nat) : Int)).toNat IntKind.u64.bits = 48 := rfl
    rw [e]; omega
  · have e : min (64 - 8 * ((4 : Nat) : Int)).toNat IntKind.u64.bits = 32 := rfl
    rw [e]; omega
  · have e : min (64 - 8 * ((8 : Nat) : Int)).toNat IntKind.u64.bits = 0 := rfl
    rw [e]; omega

set_option maxRecDepth 100000 in
set_option maxHeartbeats 4000000 in
theorem MemOwn_any {H : Heap} (b0 : Value) (l : List Int) (hs : Sl 1 (EInt .u8) H b0 l) (at_ place op x : Int) (r1 : InR .u32 at_) (r2 : InR .u32 place) (r3 : InR .u8 op) (r4 : InR .u64 x) : Ct Try.prog 4 [b0, .int .u32 at_, .int .u32 place, .int .u8 op, .int .u64 x] H (fun u H' => u = .bool true ∧ Old H H') := by
  refine Ct.mk Try.func4 rfl Try.ntmps4 rfl ?_
  intro W0 hW0
  have o0 : Old H H := Old.refl H
  have r1 := r1
  have q1 : 0 ≤ at_ ∧ at_ ≤ 4294967295 := r1
  have q2 : 0 ≤ place ∧ place ≤ 4294967295 := r2
  have q3 : 0 ≤ op ∧ op ≤ 255 := r3
  have q4 : 0 ≤ x ∧ x ≤ 18446744073709551615 := r4
  refine KC.seq ?_
  refine KC.region ?_
  refine KL.op (R.assign rfl rfl) rfl rfl rfl ?_
  refine KL.nil ?_
  refine KQ.seq ?_
  refine KC.seq ?_
  refine KC.seq ?_
  refine KC.region ?_
  refine KL.op (R.move rfl rfl) rfl rfl rfl ?_
  refine KL.op ((by first | exact R.lenS rfl Try.underlying22 rfl (by first | exact hs.old o0 | assumption) | exact R.len (ty := 0) rfl Try.underlying22 rfl)) rfl rfl rfl ?_
  refine KL.op (R.gtr rfl rfl rfl) rfl rfl rfl ?_
  refine KL.op (R.move rfl rfl) rfl rfl rfl ?_
  refine KL.case (d := 27) rfl ?_ ?_
  · intro hg27
    try simp only [decide_eq_true_eq, decide_eq_false_iff_not, Bool.not_eq_true', Bool.not_eq_false', Bool.and_eq_true, Bool.or_eq_false_iff] at hg27
    refine KL.skip rfl rfl rfl ?_
    refine KL.skip rfl rfl rfl ?_
    refine KL.op (R.pick rfl rfl rfl) rfl rfl rfl ?_
    refine KL.op (R.move rfl rfl) rfl rfl rfl ?_
    refine KL.skip rfl rfl rfl ?_
    refine KL.skip rfl rfl rfl ?_
    refine KL.op (R.pick rfl rfl rfl) rfl rfl rfl ?_
    refine KL.nil ?_
    refine KQ.seq ?_
    refine KC.condT rfl ?_
    refine KC.seq ?_
    refine KC.region ?_
    refine KL.call rfl rfl rfl rfl Try.call8 rfl rfl rfl (works_any) ?_
    rintro _ H1 ⟨rfl, ox⟩
    have o0 := o0.trans ox
    refine KL.op (R.assign rfl rfl) rfl rfl rfl ?_
    refine KL.nil ?_
    refine KQ.seq ?_
    refine KC.ret ?_
    refine KQ.retThen ?_
    refine KQ.ofRet ?_
    refine KQ.fin1 Try.results4 rfl ?_
    exact ⟨rfl, o0⟩
  · intro hg27
    try simp only [decide_eq_true_eq, decide_eq_false_iff_not, Bool.not_eq_true', Bool.not_eq_false', Bool.and_eq_true, Bool.or_eq_false_iff] at hg27
    refine KL.op (R.move rfl rfl) rfl rfl rfl ?_
    refine KL.op (R.lss rfl rfl rfl) rfl rfl rfl ?_
    refine KL.op (R.pick rfl rfl rfl) rfl rfl rfl ?_
    refine KL.op (R.move rfl rfl) rfl rfl rfl ?_
    refine KL.case (d := 31) rfl ?_ ?_
    · intro hg31
      try simp only [decide_eq_true_eq, decide_eq_false_iff_not, Bool.not_eq_true', Bool.not_eq_false', Bool.and_eq_true, Bool.or_eq_false_iff] at hg31
      refine KL.skip rfl rfl rfl ?_
      refine KL.skip rfl rfl rfl ?_
      refine KL.op (R.pick rfl rfl rfl) rfl rfl rfl ?_
      refine KL.nil ?_
      refine KQ.seq ?_
      refine KC.condT rfl ?_
      refine KC.seq ?_
      refine KC.region ?_
      refine KL.call rfl rfl rfl rfl Try.call8 rfl rfl rfl (works_any) ?_
      rintro _ H2 ⟨rfl, ox⟩
      have o0 := o0.trans ox
      refine KL.op (R.assign rfl rfl) rfl rfl rfl ?_
      refine KL.nil ?_
      refine KQ.seq ?_
      refine KC.ret ?_
      refine KQ.retThen ?_
      refine KQ.ofRet ?_
      refine KQ.fin1 Try.results4 rfl ?_
      exact ⟨rfl, o0⟩
    · intro hg31
      try simp only [decide_eq_true_eq, decide_eq_false_iff_not, Bool.not_eq_true', Bool.not_eq_false', Bool.and_eq_true, Bool.or_eq_false_iff] at hg31
      refine KL.op (R.move rfl rfl) rfl rfl rfl ?_
      refine KL.op (R.gtr rfl rfl rfl) rfl rfl rfl ?_
      refine KL.op (R.pick rfl rfl rfl) rfl rfl rfl ?_
      refine KL.nil ?_
      refine KQ.seq ?_
      refine KC.iteL rfl ?_ ?_
      · intro hc34
        try simp only [decide_eq_true_eq, decide_eq_false_iff_not, Bool.not_eq_true', Bool.not_eq_false', Bool.and_eq_true, Bool.or_eq_false_iff] at hc34
        refine KC.seq ?_
        refine KC.region ?_
        refine KL.call rfl rfl rfl rfl Try.call8 rfl rfl rfl (works_any) ?_
        rintro _ H3 ⟨rfl, ox⟩
        have o0 := o0.trans ox
        refine KL.op (R.assign rfl rfl) rfl rfl rfl ?_
        refine KL.nil ?_
        refine KQ.seq ?_
        refine KC.ret ?_
        refine KQ.retThen ?_
        refine KQ.ofRet ?_
        refine KQ.fin1 Try.results4 rfl ?_
        exact ⟨rfl, o0⟩
      · intro hc34
        try simp only [decide_eq_true_eq, decide_eq_false_iff_not, Bool.not_eq_true', Bool.not_eq_false', Bool.and_eq_true, Bool.or_eq_false_iff] at hc34
        refine KC.skip ?_
        refine KQ.seq ?_
        refine KC.seq ?_
        refine KC.region ?_
        refine KL.call rfl rfl rfl rfl Try.call9 rfl rfl rfl (one_any) ?_
        rintro _ H4 ⟨g, v, rfl, hm, hf, ox⟩
        have o0 := o0.trans ox
        refine KL.op (R.assign rfl rfl) rfl rfl rfl ?_
        refine KL.nil ?_
        refine KQ.seq ?_
        refine KC.seq ?_
        refine KC.region ?_
        refine KL.op (R.move rfl rfl) rfl rfl rfl ?_
        refine KL.op (R.rem rfl rfl rfl (by omega) (by omega)) rfl rfl rfl ?_
        refine KL.op (R.assign rfl rfl) rfl rfl rfl ?_
        refine KL.nil ?_
        refine KQ.seq ?_
        refine KC.seq ?_
        refine KC.seq ?_
        refine KC.region ?_
        refine KL.op (R.move rfl rfl) rfl rfl rfl ?_
        refine KL.op (R.move rfl rfl) rfl rfl rfl ?_
        refine KL.op (R.move rfl rfl) rfl rfl rfl ?_
        refine KL.call rfl rfl rfl rfl Try.call10 rfl rfl rfl (Put_yes _ _ _ _ hm (at_ % 63536) (by dsimp only [InR]; omega) _ l (hs.old o0) (by omega) (by rw [zeros1_len]; omega)) ?_
        rintro _ H5 ⟨rfl, hm1, f1⟩
        have ob1 := f1.ob (B := H.size) (by have := o0.1; omega) ⟨by have := hf.1; omega, hf.2.imp id (fun h => by omega)⟩
        have hm := hm1
        have hlB : (putAt (zeros 1) (at_ % 63536).toNat l).length = 65536 := (by rw [putAt_length (by rw [zeros1_len]; omega), zeros1_len])
        have z_ob1 := ob1.1
        have o0 := o0.then ob1 (by omega)
        refine KL.op (R.not rfl rfl) rfl rfl rfl ?_
        refine KL.nil ?_
        refine KQ.seq ?_
        refine KC.condF rfl ?_
        refine KC.skip ?_
        refine KQ.seq ?_
        refine KC.seq ?_
        refine KC.region ?_
        refine KL.op (R.move rfl rfl) rfl rfl rfl ?_
        refine KL.call rfl rfl rfl rfl Try.call13 rfl rfl rfl (Get_any _ _ _ _ hm 0 65536 (by dsimp only [InR]; omega) (by dsimp only [InR]; omega)) ?_
        have hg1 := hm.lt
        have hv1 := hm.w.lt
        rintro _ H6 ⟨xw, rfl, ww, ox⟩
        rw [prtP_all (by omega)] at ww
        have hxw := ww.lt
        have o0 := o0.trans ox
        have hm := hm.old ox
        refine KL.op (R.move rfl rfl) rfl rfl rfl ?_
        refine KL.op (R.extract rfl rfl rfl) rfl rfl rfl ?_
        refine KL.op (R.extract rfl rfl rfl) rfl rfl rfl ?_
        refine KL.op (R.assign rfl rfl) rfl rfl rfl ?_
        refine KL.op (R.assign rfl rfl) rfl rfl rfl ?_
        refine KL.nil ?_
        refine KQ.seq ?_
        refine KC.seq ?_
        refine KC.region ?_
        refine KL.op (R.move rfl rfl) rfl rfl rfl ?_
        refine KL.op (R.move rfl rfl) rfl rfl rfl ?_
        refine KL.op (R.move rfl rfl) rfl rfl rfl ?_
        refine KL.op (R.move rfl rfl) rfl rfl rfl ?_
        refine KL.call rfl rfl rfl rfl Try.call14 rfl rfl rfl (Store_any _ _ _ _ hm op place 0 r3 r2 (by dsimp only [InR]; omega) x r4) ?_
        rintro _ H7 ⟨rfl, hm2, f2⟩
        have ob2 := f2.ob (B := H.size) (by have := o0.1; omega) ⟨by have := hf.1; omega, hf.2.imp id (fun h => by omega)⟩
        have ww := ww.fr f2 (hxw.imp id (fun h => ⟨by omega, hv1.imp id (fun h' => by omega)⟩))
        have hm := hm2
        have hlS : (storeB (putAt (zeros 1) (at_ % 63536).toNat l) op (place + 0) x).length = 65536 := (by rw [storeB_length _ _ _ _ (by omega), hlB])
        have hR := Classical.em (inA (putAt (zeros 1) (at_ % 63536).toNat l) 54 62 op (place + 0))
        have hml := mw_le op
        have z_ob2 := ob2.1
        have o0 := o0.then ob2 (by omega)
        rcases hR with hA | hA
        · skip
          rw [decide_eq_true hA]
          refine KL.op (R.assign rfl rfl) rfl rfl rfl ?_
          refine KL.nil ?_
          refine KQ.seq ?_
          refine KC.seq ?_
          refine KC.region ?_
          refine KL.op (R.move rfl rfl) rfl rfl rfl ?_
          refine KL.call rfl rfl rfl rfl Try.call13 rfl rfl rfl (Get_any _ _ _ _ hm 0 65536 (by dsimp only [InR]; omega) (by dsimp only [InR]; omega)) ?_
          rintro _ H8 ⟨xn, rfl, wn, ox⟩
          rw [prtP_all (by omega)] at wn
          have o0 := o0.trans ox
          have hm := hm.old ox
          have ww := ww.old ox
          refine KL.op (R.move rfl rfl) rfl rfl rfl ?_
          refine KL.op (R.extract rfl rfl rfl) rfl rfl rfl ?_
          refine KL.op (R.extract rfl rfl rfl) rfl rfl rfl ?_
          refine KL.op (R.assign rfl rfl) rfl rfl rfl ?_
          refine KL.op (R.assign rfl rfl) rfl rfl rfl ?_
          refine KL.nil ?_
          refine KQ.seq ?_
          refine KC.seq ?_
          refine KC.region ?_
          refine KL.op (R.buildArr (cs := #[(.int .u32 4), (.int .u32 8), (.int .u32 0), (.int .u32 0), (.int .u32 1), (.int .u32 2), (.int .u32 1), (.int .u32 2), (.int .u32 4)]) rfl Try.underlying38 zr38 sz23 rfl (by kernel_rfl)) rfl rfl rfl ?_
          refine KL.op (R.move rfl rfl) rfl rfl rfl ?_
          refine KL.op (R.sub rfl rfl rfl (by dsimp only [InR]; omega)) rfl rfl rfl ?_
          refine KL.op ((R.indexArr (j := (op - 54).toNat) rfl Try.underlying38 sz23 Try.underlying23 rfl rfl rfl (by omega) (by omega) (nth_getD (by show _ < 9; omega))).val (wid (by omega) (by omega))) rfl rfl rfl ?_
          refine KL.op (R.assign rfl rfl) rfl rfl rfl ?_
          refine KL.nil ?_
          refine KQ.seq ?_
          refine KC.seq ?_
          refine KC.seq ?_
          refine KC.region ?_
          refine KL.op (R.move rfl rfl) rfl rfl rfl ?_
          refine KL.op (R.lenO rfl Try.underlying22 rfl ww) rfl rfl rfl ?_
          refine KL.op ((R.neq rfl rfl rfl).val ((congrArg (fun b => Value.bool (!b)) (decide_eq_true (by omega))))) rfl rfl rfl ?_
          refine KL.op (R.move rfl rfl) rfl rfl rfl ?_
          refine KL.op (R.move rfl rfl) rfl rfl rfl ?_
          refine KL.op (R.lenO rfl Try.underlying22 rfl wn) rfl rfl rfl ?_
          refine KL.op ((R.neq rfl rfl rfl).val ((congrArg (fun b => Value.bool (!b)) (decide_eq_true (by omega))))) rfl rfl rfl ?_
          refine KL.op (R.pick rfl rfl rfl) rfl rfl rfl ?_
          refine KL.op (R.move rfl rfl) rfl rfl rfl ?_
          refine KL.op (R.move rfl rfl) rfl rfl rfl ?_
          refine KL.op (R.move rfl rfl) rfl rfl rfl ?_
          refine KL.op (R.gtr rfl rfl rfl) rfl rfl rfl ?_
          refine KL.op (R.move rfl rfl) rfl rfl rfl ?_
          refine KL.case (d := 75) rfl ?_ ?_
          · intro hg75
            try simp only [decide_eq_true_eq, decide_eq_false_iff_not, Bool.not_eq_true', Bool.not_eq_false', Bool.and_eq_true, Bool.or_eq_false_iff] at hg75
            refine KL.op (R.move rfl rfl) rfl rfl rfl ?_
            refine KL.op (R.convI rfl Try.underlying23 Try.underlying28 rfl (by dsimp only [InR]; omega)) rfl rfl rfl ?_
            refine KL.op (R.move rfl rfl) rfl rfl rfl ?_
            refine KL.op (R.convI rfl Try.underlying23 Try.underlying28 rfl (by dsimp only [InR]; omega)) rfl rfl rfl ?_
            refine KL.op (R.add rfl rfl rfl (by dsimp only [InR]; omega)) rfl rfl rfl ?_
            refine KL.op (R.leq rfl rfl rfl) rfl rfl rfl ?_
            refine KL.op (R.pick rfl rfl rfl) rfl rfl rfl ?_
            refine KL.op ((R.neqB rfl Try.underlying4 rfl rfl).val (congrArg Value.bool (show _ = false from by unfold inA at hA; first | rfl | (simp; omega)))) rfl rfl rfl ?_
            refine KL.op (R.pick rfl rfl rfl) rfl rfl rfl ?_
            refine KL.nil ?_
            refine KQ.seq ?_
            refine KC.condF rfl ?_
            refine KC.skip ?_
            refine KQ.seq ?_
            refine KC.seq ?_
            refine KC.seq ?_
            refine KC.region ?_
            refine KL.op (R.move rfl rfl) rfl rfl rfl ?_
            refine KL.op (R.lenO rfl Try.underlying22 rfl wn) rfl rfl rfl ?_
            refine KL.op (R.move rfl rfl) rfl rfl rfl ?_
            refine KL.nil ?_
            refine KQ.seq ?_
            refine KC.block ?_
            refine KC.loopD (κ := Nat) [88, 89, 18, 90, 91, 92, 93, 94, 19, 95, 96, 97, 98, 99, 100, 101, 102, 103, 104, 105, 106, 107, 108, 20, 109, 110, 111, 112, 113, 114, 115, 116, 117, 118, 119, 120, 121, 122, 123, 124, 125, 126, 127, 128, 129, 130, 131, 132, 133, 134, 135, 136, 10, 137, 87] (fun k => [(87, .int .i64 (k : Nat))]) (fun k Hl => k ≤ 65536 ∧ H8 = Hl) (fun k => 65536 - k) 0 ?_ ?_ ?_
            · exact (Sub.cons rfl (Ext.sub (Ext.refl _ _)))
            · exact ⟨Nat.zero_le _, rfl⟩
            · rintro k H9 ⟨hk, rfl⟩
              refine KC.seq ?_
              refine KC.region ?_
              refine KL.op (R.lss rfl rfl rfl) rfl rfl rfl ?_
              refine KL.nil ?_
              refine KQ.seq ?_
              refine KC.seq ?_
              refine KC.iteL rfl ?_ ?_
              · intro hc88
                try simp only [decide_eq_true_eq, decide_eq_false_iff_not, Bool.not_eq_true', Bool.not_eq_false', Bool.and_eq_true, Bool.or_eq_false_iff] at hc88
                have hK := IntKind.wrap_u64 ((k : Int) - place)
                refine KC.skip ?_
                refine KQ.seq ?_
                refine KC.seq ?_
                refine KC.block ?_
                refine KC.seq ?_
                refine KC.region ?_
                refine KL.op (R.move rfl rfl) rfl rfl rfl ?_
                refine KL.op (R.assign rfl rfl) rfl rfl rfl ?_
                refine KL.nil ?_
                refine KQ.seq ?_
                refine KC.seq ?_
                refine KC.region ?_
                refine KL.op (R.move rfl rfl) rfl rfl rfl ?_
                refine KL.op (R.convI rfl Try.underlying3 Try.underlying28 rfl (by dsimp only [InR]; omega)) rfl rfl rfl ?_
                refine KL.op (R.move rfl rfl) rfl rfl rfl ?_
                refine KL.op (R.convI rfl Try.underlying23 Try.underlying28 rfl (by dsimp only [InR]; omega)) rfl rfl rfl ?_
                refine KL.op (R.subW rfl rfl rfl) rfl rfl rfl ?_
                refine KL.op (R.assign rfl rfl) rfl rfl rfl ?_
                refine KL.nil ?_
                refine KQ.seq ?_
                refine KC.seq ?_
                refine KC.region ?_
                refine KL.op (R.move rfl rfl) rfl rfl rfl ?_
                refine KL.op (R.move rfl rfl) rfl rfl rfl ?_
                refine KL.op (R.move rfl rfl) rfl rfl rfl ?_
                refine KL.op (R.convI rfl Try.underlying3 Try.underlying28 rfl (by dsimp only [InR]; omega)) rfl rfl rfl ?_
                refine KL.op (R.move rfl rfl) rfl rfl rfl ?_
                refine KL.op (R.convI rfl Try.underlying23 Try.underlying28 rfl (by dsimp only [InR]; omega)) rfl rfl rfl ?_
                refine KL.op (R.geq rfl rfl rfl) rfl rfl rfl ?_
                refine KL.op (R.pick rfl rfl rfl) rfl rfl rfl ?_
                refine KL.op (R.move rfl rfl) rfl rfl rfl ?_
                refine KL.case (d := 103) rfl ?_ ?_
                · intro hg103
                  try simp only [decide_eq_true_eq, decide_eq_false_iff_not, Bool.not_eq_true', Bool.not_eq_false', Bool.and_eq_true, Bool.or_eq_false_iff] at hg103
                  refine KL.op (R.move rfl rfl) rfl rfl rfl ?_
                  refine KL.op (R.move rfl rfl) rfl rfl rfl ?_
                  refine KL.op (R.convI rfl Try.underlying23 Try.underlying28 rfl (by dsimp only [InR]; omega)) rfl rfl rfl ?_
                  refine KL.op (R.lss rfl rfl rfl) rfl rfl rfl ?_
                  refine KL.op (R.pick rfl rfl rfl) rfl rfl rfl ?_
                  refine KL.op (R.assign rfl rfl) rfl rfl rfl ?_
                  refine KL.nil ?_
                  refine KQ.seq ?_
                  refine KC.seq ?_
                  refine KC.quiet (by kernel_rfl) (by kernel_rfl) ?_
                  refine KD.op (R.move rfl rfl) rfl rfl rfl ?_
                  refine KD.op (R.not rfl rfl) rfl rfl rfl ?_
                  refine KD.op (R.move rfl rfl) rfl rfl rfl ?_
                  refine KD.case (d := 111) rfl ?_ ?_
                  · intro hg111
                    try simp only [decide_eq_true_eq, decide_eq_false_iff_not, Bool.not_eq_true', Bool.not_eq_false', Bool.and_eq_true, Bool.or_eq_false_iff] at hg111
                    refine KD.op (R.move rfl rfl) rfl rfl rfl ?_
                    refine KD.op (R.move rfl rfl) rfl rfl rfl ?_
                    refine KD.op (R.indexO1 (j := k) rfl Try.underlying22 sz5 rfl rfl wn rfl (by omega)) rfl rfl rfl ?_
                    refine KD.op (R.load rfl Try.underlying5 rfl rfl (by first | exact (wn.int k (by omega)).1 | exact (ww.int k (by omega)).1 | assumption)) rfl rfl rfl ?_
                    refine KD.op (R.move rfl rfl) rfl rfl rfl ?_
                    refine KD.op (R.move rfl rfl) rfl rfl rfl ?_
                    refine KD.op (R.indexO1 (j := k) rfl Try.underlying22 sz5 rfl rfl ww rfl (by omega)) rfl rfl rfl ?_
                    refine KD.op (R.load rfl Try.underlying5 rfl rfl (by first | exact (wn.int k (by omega)).1 | exact (ww.int k (by omega)).1 | assumption)) rfl rfl rfl ?_
                    refine KD.op ((R.neq rfl rfl rfl).val ((congrArg (fun b => Value.bool (!b)) (decide_eq_true (by rw [storeB_getD (by omega) (by omega), if_neg (by rintro ⟨h0, h1, h2⟩; first | exact hA h0 | omega)]))))) rfl rfl rfl ?_
                    refine KD.op (R.pick rfl rfl rfl) rfl rfl rfl ?_
                    refine KD.op (R.move rfl rfl) rfl rfl rfl ?_
                    refine KD.op (R.move rfl rfl) rfl rfl rfl ?_
                    refine KD.op (R.move rfl rfl) rfl rfl rfl ?_
                    refine KD.case (d := 124) rfl ?_ ?_
                    · intro hg124
                      try simp only [decide_eq_true_eq, decide_eq_false_iff_not, Bool.not_eq_true', Bool.not_eq_false', Bool.and_eq_true, Bool.or_eq_false_iff] at hg124
                      refine KD.op (R.move rfl rfl) rfl rfl rfl ?_
                      refine KD.op (R.move rfl rfl) rfl rfl rfl ?_
                      refine KD.op (R.indexO1 (j := k) rfl Try.underlying22 sz5 rfl rfl wn rfl (by omega)) rfl rfl rfl ?_
                      refine KD.op (R.load rfl Try.underlying5 rfl rfl (by first | exact (wn.int k (by omega)).1 | exact (ww.int k (by omega)).1 | assumption)) rfl rfl rfl ?_
                      refine KD.op (R.move rfl rfl) rfl rfl rfl ?_
                      refine KD.op (R.move rfl rfl) rfl rfl rfl ?_
                      refine KD.op (R.mul rfl rfl rfl (by dsimp only [InR]; omega)) rfl rfl rfl ?_
                      refine KD.op (R.shr rfl rfl rfl (by omega)) rfl rfl rfl ?_
                      refine KD.op (R.convW rfl Try.underlying28 Try.underlying5 rfl) rfl rfl rfl ?_
                      refine KD.op ((R.neq rfl rfl rfl).val ((congrArg (fun b => Value.bool (!b)) (decide_eq_true (by first | (exfalso; omega) | rw [storeB_getD (by omega) (by omega), if_pos ⟨hA, by omega, by omega⟩, show IntKind.u64.wrap ((k : Int) - place) = ((k - (place + 0).toNat : Nat) : Int) by omega, shr8 (by omega)]))))) rfl rfl rfl ?_
                      refine KD.op (R.pick rfl rfl rfl) rfl rfl rfl ?_
                      refine KD.op (R.pick rfl rfl rfl) rfl rfl rfl ?_
                      refine KD.nil ?_
                      refine KQ.seq ?_
                      refine KC.condF rfl ?_
                      refine KC.skip ?_
                      refine KQ.normBlock ?_
                      refine KQ.seq ?_
                      refine KC.region ?_
                      refine KL.op (R.add rfl rfl rfl (by dsimp only [InR]; omega)) rfl rfl rfl ?_
                      refine KL.op (R.move rfl rfl) rfl rfl rfl ?_
                      refine KL.nil ?_
                      refine KQ.again (k + 1) ?_ ?_ ?_
                      · exact (Sub.cons rfl (Ext.sub (by repeat (first | exact Ext.refl _ _ | refine Ext.put rfl ?_ | refine Ext.drop rfl ?_))))
                      · omega
                      · exact ⟨by omega, rfl⟩
                    · intro hg124
                      try simp only [decide_eq_true_eq, decide_eq_false_iff_not, Bool.not_eq_true', Bool.not_eq_false', Bool.and_eq_true, Bool.or_eq_false_iff] at hg124
                      refine KD.skip rfl rfl rfl ?_
                      refine KD.skip rfl rfl rfl ?_
                      refine KD.skip rfl rfl rfl ?_
                      refine KD.skip rfl rfl rfl ?_
                      refine KD.skip rfl rfl rfl ?_
                      refine KD.skip rfl rfl rfl ?_
                      refine KD.skip rfl rfl rfl ?_
                      refine KD.skip rfl rfl rfl ?_
                      refine KD.skip rfl rfl rfl ?_
                      refine KD.skip rfl rfl rfl ?_
                      refine KD.op (R.pick rfl rfl rfl) rfl rfl rfl ?_
                      refine KD.op (R.pick rfl rfl rfl) rfl rfl rfl ?_
                      refine KD.nil ?_
                      refine KQ.seq ?_
                      refine KC.condF rfl ?_
                      refine KC.skip ?_
                      refine KQ.normBlock ?_
                      refine KQ.seq ?_
                      refine KC.region ?_
                      refine KL.op (R.add rfl rfl rfl (by dsimp only [InR]; omega)) rfl rfl rfl ?_
                      refine KL.op (R.move rfl rfl) rfl rfl rfl ?_
                      refine KL.nil ?_
                      refine KQ.again (k + 1) ?_ ?_ ?_
                      · exact (Sub.cons rfl (Ext.sub (by repeat (first | exact Ext.refl _ _ | refine Ext.put rfl ?_ | refine Ext.drop rfl ?_))))
                      · omega
                      · exact ⟨by omega, rfl⟩
                  · intro hg111
                    try simp only [decide_eq_true_eq, decide_eq_false_iff_not, Bool.not_eq_true', Bool.not_eq_false', Bool.and_eq_true, Bool.or_eq_false_iff] at hg111
                    refine KD.skip rfl rfl rfl ?_
                    refine KD.skip rfl rfl rfl ?_
                    refine KD.skip rfl rfl rfl ?_
                    refine KD.skip rfl rfl rfl ?_
                    refine KD.skip rfl rfl rfl ?_
                    refine KD.skip rfl rfl rfl ?_
                    refine KD.skip rfl rfl rfl ?_
                    refine KD.skip rfl rfl rfl ?_
                    refine KD.skip rfl rfl rfl ?_
                    refine KD.op (R.pick rfl rfl rfl) rfl rfl rfl ?_
                    refine KD.op (R.move rfl rfl) rfl rfl rfl ?_
                    refine KD.op (R.move rfl rfl) rfl rfl rfl ?_
                    refine KD.op (R.move rfl rfl) rfl rfl rfl ?_
                    refine KD.case (d := 124) rfl ?_ ?_
                    · intro hg124
                      try simp only [decide_eq_true_eq, decide_eq_false_iff_not, Bool.not_eq_true', Bool.not_eq_false', Bool.and_eq_true, Bool.or_eq_false_iff] at hg124
                      refine KD.op (R.move rfl rfl) rfl rfl rfl ?_
                      refine KD.op (R.move rfl rfl) rfl rfl rfl ?_
                      refine KD.op (R.indexO1 (j := k) rfl Try.underlying22 sz5 rfl rfl wn rfl (by omega)) rfl rfl rfl ?_
                      refine KD.op (R.load rfl Try.underlying5 rfl rfl (by first | exact (wn.int k (by omega)).1 | exact (ww.int k (by omega)).1 | assumption)) rfl rfl rfl ?_
                      refine KD.op (R.move rfl rfl) rfl rfl rfl ?_
                      refine KD.op (R.move rfl rfl) rfl rfl rfl ?_
                      refine KD.op (R.mul rfl rfl rfl (by dsimp only [InR]; omega)) rfl rfl rfl ?_
                      refine KD.op (R.shr rfl rfl rfl (by omega)) rfl rfl rfl ?_
                      refine KD.op (R.convW rfl Try.underlying28 Try.underlying5 rfl) rfl rfl rfl ?_
                      refine KD.op ((R.neq rfl rfl rfl).val ((congrArg (fun b => Value.bool (!b)) (decide_eq_true (by first | (exfalso; omega) | rw [storeB_getD (by omega) (by omega), if_pos ⟨hA, by omega, by omega⟩, show IntKind.u64.wrap ((k : Int) - place) = ((k - (place + 0).toNat : Nat) : Int) by omega, shr8 (by omega)]))))) rfl rfl rfl ?_
                      refine KD.op (R.pick rfl rfl rfl) rfl rfl rfl ?_
                      refine KD.op (R.pick rfl rfl rfl) rfl rfl rfl ?_
                      refine KD.nil ?_
                      refine KQ.seq ?_
                      refine KC.condF rfl ?_
                      refine KC.skip ?_
                      refine KQ.normBlock ?_
                      refine KQ.seq ?_
                      refine KC.region ?_
                      refine KL.op (R.add rfl rfl rfl (by dsimp only [InR]; omega)) rfl rfl rfl ?_
                      refine KL.op (R.move rfl rfl) rfl rfl rfl ?_
                      refine KL.nil ?_
                      refine KQ.again (k + 1) ?_ ?_ ?_
                      · exact (Sub.cons rfl (Ext.sub (by repeat (first | exact Ext.refl _ _ | refine Ext.put rfl ?_ | refine Ext.drop rfl ?_))))
                      · omega
                      · exact ⟨by omega, rfl⟩
                    · intro hg124
                      try simp only [decide_eq_true_eq, decide_eq_false_iff_not, Bool.not_eq_true', Bool.not_eq_false', Bool.and_eq_true, Bool.or_eq_false_iff] at hg124
                      refine KD.skip rfl rfl rfl ?_
                      refine KD.skip rfl rfl rfl ?_
                      refine KD.skip rfl rfl rfl ?_
                      refine KD.skip rfl rfl rfl ?_
                      refine KD.skip rfl rfl rfl ?_
                      refine KD.skip rfl rfl rfl ?_
                      refine KD.skip rfl rfl rfl ?_
                      refine KD.skip rfl rfl rfl ?_
                      refine KD.skip rfl rfl rfl ?_
                      refine KD.skip rfl rfl rfl ?_
                      refine KD.op (R.pick rfl rfl rfl) rfl rfl rfl ?_
                      refine KD.op (R.pick rfl rfl rfl) rfl rfl rfl ?_
                      refine KD.nil ?_
                      refine KQ.seq ?_
                      refine KC.condF rfl ?_
                      refine KC.skip ?_
                      refine KQ.normBlock ?_
                      refine KQ.seq ?_
                      refine KC.region ?_
                      refine KL.op (R.add rfl rfl rfl (by dsimp only [InR]; omega)) rfl rfl rfl ?_
                      refine KL.op (R.move rfl rfl) rfl rfl rfl ?_
                      refine KL.nil ?_
                      refine KQ.again (k + 1) ?_ ?_ ?_
                      · exact (Sub.cons rfl (Ext.sub (by repeat (first | exact Ext.refl _ _ | refine Ext.put rfl ?_ | refine Ext.drop rfl ?_))))
                      · omega
                      · exact ⟨by omega, rfl⟩
                · intro hg103
                  try simp only [decide_eq_true_eq, decide_eq_false_iff_not, Bool.not_eq_true', Bool.not_eq_false', Bool.and_eq_true, Bool.or_eq_false_iff] at hg103
                  refine KL.skip rfl rfl rfl ?_
                  refine KL.skip rfl rfl rfl ?_
                  refine KL.skip rfl rfl rfl ?_
                  refine KL.skip rfl rfl rfl ?_
                  refine KL.op (R.pick rfl rfl rfl) rfl rfl rfl ?_
                  refine KL.op (R.assign rfl rfl) rfl rfl rfl ?_
                  refine KL.nil ?_
                  refine KQ.seq ?_
                  refine KC.seq ?_
                  refine KC.quiet (by kernel_rfl) (by kernel_rfl) ?_
                  refine KD.op (R.move rfl rfl) rfl rfl rfl ?_
                  refine KD.op (R.not rfl rfl) rfl rfl rfl ?_
                  refine KD.op (R.move rfl rfl) rfl rfl rfl ?_
                  refine KD.op (R.move rfl rfl) rfl rfl rfl ?_
                  refine KD.op (R.move rfl rfl) rfl rfl rfl ?_
                  refine KD.op (R.indexO1 (j := k) rfl Try.underlying22 sz5 rfl rfl wn rfl (by omega)) rfl rfl rfl ?_
                  refine KD.op (R.load rfl Try.underlying5 rfl rfl (by first | exact (wn.int k (by omega)).1 | exact (ww.int k (by omega)).1 | assumption)) rfl rfl rfl ?_
                  refine KD.op (R.move rfl rfl) rfl rfl rfl ?_
                  refine KD.op (R.move rfl rfl) rfl rfl rfl ?_
                  refine KD.op (R.indexO1 (j := k) rfl Try.underlying22 sz5 rfl rfl ww rfl (by omega)) rfl rfl rfl ?_
                  refine KD.op (R.load rfl Try.underlying5 rfl rfl (by first | exact (wn.int k (by omega)).1 | exact (ww.int k (by omega)).1 | assumption)) rfl rfl rfl ?_
                  refine KD.op ((R.neq rfl rfl rfl).val ((congrArg (fun b => Value.bool (!b)) (decide_eq_true (by rw [storeB_getD (by omega) (by omega), if_neg (by rintro ⟨h0, h1, h2⟩; first | exact hA h0 | omega)]))))) rfl rfl rfl ?_
                  refine KD.op (R.pick rfl rfl rfl) rfl rfl rfl ?_
                  refine KD.op (R.move rfl rfl) rfl rfl rfl ?_
                  refine KD.op (R.move rfl rfl) rfl rfl rfl ?_
                  refine KD.op (R.move rfl rfl) rfl rfl rfl ?_
                  refine KD.skip rfl rfl rfl ?_
                  refine KD.skip rfl rfl rfl ?_
                  refine KD.skip rfl rfl rfl ?_
                  refine KD.skip rfl rfl rfl ?_
                  refine KD.skip rfl rfl rfl ?_
                  refine KD.skip rfl rfl rfl ?_
                  refine KD.skip rfl rfl rfl ?_
                  refine KD.skip rfl rfl rfl ?_
                  refine KD.skip rfl rfl rfl ?_
                  refine KD.skip rfl rfl rfl ?_
                  refine KD.op (R.pick rfl rfl rfl) rfl rfl rfl ?_
                  refine KD.op (R.pick rfl rfl rfl) rfl rfl rfl ?_
                  refine KD.nil ?_
                  refine KQ.seq ?_
                  refine KC.condF rfl ?_
                  refine KC.skip ?_
                  refine KQ.normBlock ?_
                  refine KQ.seq ?_
                  refine KC.region ?_
                  refine KL.op (R.add rfl rfl rfl (by dsimp only [InR]; omega)) rfl rfl rfl ?_
                  refine KL.op (R.move rfl rfl) rfl rfl rfl ?_
                  refine KL.nil ?_
                  refine KQ.again (k + 1) ?_ ?_ ?_
                  · exact (Sub.cons rfl (Ext.sub (by repeat (first | exact Ext.refl _ _ | refine Ext.put rfl ?_ | refine Ext.drop rfl ?_))))
                  · omega
                  · exact ⟨by omega, rfl⟩
              · intro hc88
                try simp only [decide_eq_true_eq, decide_eq_false_iff_not, Bool.not_eq_true', Bool.not_eq_false', Bool.and_eq_true, Bool.or_eq_false_iff] at hc88
                refine KC.exit ?_
                refine KQ.exitThen ?_
                refine KQ.exitThen ?_
                refine KQ.hit ?_
                refine KQ.seq ?_
                refine KC.seq ?_
                refine KC.seq ?_
                refine KC.region ?_
                refine KL.op (R.move rfl rfl) rfl rfl rfl ?_
                refine KL.op (R.not rfl rfl) rfl rfl rfl ?_
                refine KL.nil ?_
                refine KQ.seq ?_
                refine KC.condF rfl ?_
                refine KC.skip ?_
                refine KQ.seq ?_
                refine KC.seq ?_
                refine KC.region ?_
                refine KL.op (R.buildArr (cs := #[(.int .u8 40), (.int .u8 41), (.int .u8 0), (.int .u8 0), (.int .u8 45), (.int .u8 47), (.int .u8 49), (.int .u8 51), (.int .u8 53)]) rfl Try.underlying39 zr39 sz5 rfl (by kernel_rfl)) rfl rfl rfl ?_
                refine KL.op (R.move rfl rfl) rfl rfl rfl ?_
                refine KL.op (R.sub rfl rfl rfl (by dsimp only [InR]; omega)) rfl rfl rfl ?_
                refine KL.op ((R.indexArr (j := (op - 54).toNat) rfl Try.underlying39 sz5 Try.underlying5 rfl rfl rfl (by omega) (by omega) (nth_getD (by show _ < 9; omega))).val (lid (by omega) (by omega))) rfl rfl rfl ?_
                refine KL.op (R.assign rfl rfl) rfl rfl rfl ?_
                refine KL.nil ?_
                refine KQ.seq ?_
                refine KC.seq ?_
                refine KC.region ?_
                refine KL.op (R.move rfl rfl) rfl rfl rfl ?_
                refine KL.op (R.move rfl rfl) rfl rfl rfl ?_
                refine KL.op (R.move rfl rfl) rfl rfl rfl ?_
                refine KL.call rfl rfl rfl rfl Try.call12 rfl rfl rfl (Load_any _ _ _ _ hm (ldop op) place 0 (by have h1 := hA; unfold inA at h1; have := ldop_spec h1.1 h1.2.1 h1.2.2.1; dsimp only [InR]; omega) r2 (by dsimp only [InR]; omega)) ?_
                rintro _ H10 ⟨rfl, ox⟩
                unfold loadV
                rw [decide_eq_true (ldop_in (by omega) hA)]
                have o0 := o0.trans ox
                have hm := hm.old ox
                refine KL.op (R.move rfl rfl) rfl rfl rfl ?_
                refine KL.op (R.extract rfl rfl rfl) rfl rfl rfl ?_
                refine KL.op (R.extract rfl rfl rfl) rfl rfl rfl ?_
                refine KL.op (R.assign rfl rfl) rfl rfl rfl ?_
                refine KL.op (R.assign rfl rfl) rfl rfl rfl ?_
                refine KL.nil ?_
                refine KQ.seq ?_
                refine KC.seq ?_
                refine KC.region ?_
                refine KL.op (R.move rfl rfl) rfl rfl rfl ?_
                refine KL.op (R.move rfl rfl) rfl rfl rfl ?_
                refine KL.op (R.move rfl rfl) rfl rfl rfl ?_
                refine KL.op (R.move rfl rfl) rfl rfl rfl ?_
                refine KL.op (R.move rfl rfl) rfl rfl rfl ?_
                refine KL.op (R.mul rfl rfl rfl (by dsimp only [InR]; omega)) rfl rfl rfl ?_
                refine KL.op (R.sub rfl rfl rfl (by dsimp only [InR]; omega)) rfl rfl rfl ?_
                refine KL.op (R.shl rfl rfl rfl (by omega)) rfl rfl rfl ?_
                refine KL.op (R.move rfl rfl) rfl rfl rfl ?_
                refine KL.op (R.mul rfl rfl rfl (by dsimp only [InR]; omega)) rfl rfl rfl ?_
                refine KL.op (R.sub rfl rfl rfl (by dsimp only [InR]; omega)) rfl rfl rfl ?_
                refine KL.op (R.shr rfl rfl rfl (by omega)) rfl rfl rfl ?_
                refine KL.op ((R.eql rfl rfl rfl).val (congrArg Value.bool (decide_eq_true (by rw [ldop_load (by omega) hA, low_bytes (by have h1 := hA; unfold inA at h1; have := ldop_spec h1.1 h1.2.1 h1.2.2.1; omega)])))) rfl rfl rfl ?_
                refine KL.op (R.pick rfl rfl rfl) rfl rfl rfl ?_
                refine KL.op (R.move rfl rfl) rfl rfl rfl ?_
                refine KL.call rfl rfl rfl rfl Try.call8 rfl rfl rfl (works_any) ?_
                rintro _ H11 ⟨rfl, ox⟩
                have o0 := o0.trans ox
                have hm := hm.old ox
                refine KL.op (R.pick rfl rfl rfl) rfl rfl rfl ?_
                refine KL.op (R.assign rfl rfl) rfl rfl rfl ?_
                refine KL.nil ?_
                refine KQ.seq ?_
                refine KC.ret ?_
                refine KQ.ofRet ?_
                refine KQ.fin1 Try.results4 rfl ?_
                exact ⟨rfl, o0⟩
          · intro hg75
            try simp only [decide_eq_true_eq, decide_eq_false_iff_not, Bool.not_eq_true', Bool.not_eq_false', Bool.and_eq_true, Bool.or_eq_false_iff] at hg75
            refine KL.skip rfl rfl rfl ?_
            refine KL.skip rfl rfl rfl ?_
            refine KL.skip rfl rfl rfl ?_
            refine KL.skip rfl rfl rfl ?_
            refine KL.skip rfl rfl rfl ?_
            refine KL.skip rfl rfl rfl ?_
            refine KL.op (R.pick rfl rfl rfl) rfl rfl rfl ?_
            refine KL.op ((R.neqB rfl Try.underlying4 rfl rfl).val (congrArg Value.bool (show _ = false from by unfold inA at hA; first | rfl | (simp; omega)))) rfl rfl rfl ?_
            refine KL.op (R.pick rfl rfl rfl) rfl rfl rfl ?_
            refine KL.nil ?_
            refine KQ.seq ?_
            refine KC.condF rfl ?_
            refine KC.skip ?_
            refine KQ.seq ?_
            refine KC.seq ?_
            refine KC.seq ?_
            refine KC.region ?_
            refine KL.op (R.move rfl rfl) rfl rfl rfl ?_
            refine KL.op (R.lenO rfl Try.underlying22 rfl wn) rfl rfl rfl ?_
            refine KL.op (R.move rfl rfl) rfl rfl rfl ?_
            refine KL.nil ?_
            refine KQ.seq ?_
            refine KC.block ?_
            refine KC.loopD (κ := Nat) [88, 89, 18, 90, 91, 92, 93, 94, 19, 95, 96, 97, 98, 99, 100, 101, 102, 103, 104, 105, 106, 107, 108, 20, 109, 110, 111, 112, 113, 114, 115, 116, 117, 118, 119, 120, 121, 122, 123, 124, 125, 126, 127, 128, 129, 130, 131, 132, 133, 134, 135, 136, 10, 137, 87] (fun k => [(87, .int .i64 (k : Nat))]) (fun k Hl => k ≤ 65536 ∧ H8 = Hl) (fun k => 65536 - k) 0 ?_ ?_ ?_
            · exact (Sub.cons rfl (Ext.sub (Ext.refl _ _)))
            · exact ⟨Nat.zero_le _, rfl⟩
            · rintro k H12 ⟨hk, rfl⟩
              refine KC.seq ?_
              refine KC.region ?_
              refine KL.op (R.lss rfl rfl rfl) rfl rfl rfl ?_
              refine KL.nil ?_
              refine KQ.seq ?_
              refine KC.seq ?_
              refine KC.iteL rfl ?_ ?_
              · intro hc88
                try simp only [decide_eq_true_eq, decide_eq_false_iff_not, Bool.not_eq_true', Bool.not_eq_false', Bool.and_eq_true, Bool.or_eq_false_iff] at hc88
                have hK := IntKind.wrap_u64 ((k : Int) - place)
                refine KC.skip ?_
                refine KQ.seq ?_
                refine KC.seq ?_
                refine KC.block ?_
                refine KC.seq ?_
                refine KC.region ?_
                refine KL.op (R.move rfl rfl) rfl rfl rfl ?_
                refine KL.op (R.assign rfl rfl) rfl rfl rfl ?_
                refine KL.nil ?_
                refine KQ.seq ?_
                refine KC.seq ?_
                refine KC.region ?_
                refine KL.op (R.move rfl rfl) rfl rfl rfl ?_
                refine KL.op (R.convI rfl Try.underlying3 Try.underlying28 rfl (by dsimp only [InR]; omega)) rfl rfl rfl ?_
                refine KL.op (R.move rfl rfl) rfl rfl rfl ?_
                refine KL.op (R.convI rfl Try.underlying23 Try.underlying28 rfl (by dsimp only [InR]; omega)) rfl rfl rfl ?_
                refine KL.op (R.subW rfl rfl rfl) rfl rfl rfl ?_
                refine KL.op (R.assign rfl rfl) rfl rfl rfl ?_
                refine KL.nil ?_
                refine KQ.seq ?_
                refine KC.seq ?_
                refine KC.region ?_
                refine KL.op (R.move rfl rfl) rfl rfl rfl ?_
                refine KL.op (R.move rfl rfl) rfl rfl rfl ?_
                refine KL.op (R.move rfl rfl) rfl rfl rfl ?_
                refine KL.op (R.convI rfl Try.underlying3 Try.underlying28 rfl (by dsimp only [InR]; omega)) rfl rfl rfl ?_
                refine KL.op (R.move rfl rfl) rfl rfl rfl ?_
                refine KL.op (R.convI rfl Try.underlying23 Try.underlying28 rfl (by dsimp only [InR]; omega)) rfl rfl rfl ?_
                refine KL.op (R.geq rfl rfl rfl) rfl rfl rfl ?_
                refine KL.op (R.pick rfl rfl rfl) rfl rfl rfl ?_
                refine KL.op (R.move rfl rfl) rfl rfl rfl ?_
                refine KL.case (d := 103) rfl ?_ ?_
                · intro hg103
                  try simp only [decide_eq_true_eq, decide_eq_false_iff_not, Bool.not_eq_true', Bool.not_eq_false', Bool.and_eq_true, Bool.or_eq_false_iff] at hg103
                  refine KL.op (R.move rfl rfl) rfl rfl rfl ?_
                  refine KL.op (R.move rfl rfl) rfl rfl rfl ?_
                  refine KL.op (R.convI rfl Try.underlying23 Try.underlying28 rfl (by dsimp only [InR]; omega)) rfl rfl rfl ?_
                  refine KL.op (R.lss rfl rfl rfl) rfl rfl rfl ?_
                  refine KL.op (R.pick rfl rfl rfl) rfl rfl rfl ?_
                  refine KL.op (R.assign rfl rfl) rfl rfl rfl ?_
                  refine KL.nil ?_
                  refine KQ.seq ?_
                  refine KC.seq ?_
                  refine KC.quiet (by kernel_rfl) (by kernel_rfl) ?_
                  refine KD.op (R.move rfl rfl) rfl rfl rfl ?_
                  refine KD.op (R.not rfl rfl) rfl rfl rfl ?_
                  refine KD.op (R.move rfl rfl) rfl rfl rfl ?_
                  refine KD.case (d := 111) rfl ?_ ?_
                  · intro hg111
                    try simp only [decide_eq_true_eq, decide_eq_false_iff_not, Bool.not_eq_true', Bool.not_eq_false', Bool.and_eq_true, Bool.or_eq_false_iff] at hg111
                    refine KD.op (R.move rfl rfl) rfl rfl rfl ?_
                    refine KD.op (R.move rfl rfl) rfl rfl rfl ?_
                    refine KD.op (R.indexO1 (j := k) rfl Try.underlying22 sz5 rfl rfl wn rfl (by omega)) rfl rfl rfl ?_
                    refine KD.op (R.load rfl Try.underlying5 rfl rfl (by first | exact (wn.int k (by omega)).1 | exact (ww.int k (by omega)).1 | assumption)) rfl rfl rfl ?_
                    refine KD.op (R.move rfl rfl) rfl rfl rfl ?_
                    refine KD.op (R.move rfl rfl) rfl rfl rfl ?_
                    refine KD.op (R.indexO1 (j := k) rfl Try.underlying22 sz5 rfl rfl ww rfl (by omega)) rfl rfl rfl ?_
                    refine KD.op (R.load rfl Try.underlying5 rfl rfl (by first | exact (wn.int k (by omega)).1 | exact (ww.int k (by omega)).1 | assumption)) rfl rfl rfl ?_
                    refine KD.op ((R.neq rfl rfl rfl).val ((congrArg (fun b => Value.bool (!b)) (decide_eq_true (by rw [storeB_getD (by omega) (by omega), if_neg (by rintro ⟨h0, h1, h2⟩; first | exact hA h0 | omega)]))))) rfl rfl rfl ?_
                    refine KD.op (R.pick rfl rfl rfl) rfl rfl rfl ?_
                    refine KD.op (R.move rfl rfl) rfl rfl rfl ?_
                    refine KD.op (R.move rfl rfl) rfl rfl rfl ?_
                    refine KD.op (R.move rfl rfl) rfl rfl rfl ?_
                    refine KD.case (d := 124) rfl ?_ ?_
                    · intro hg124
                      try simp only [decide_eq_true_eq, decide_eq_false_iff_not, Bool.not_eq_true', Bool.not_eq_false', Bool.and_eq_true, Bool.or_eq_false_iff] at hg124
                      refine KD.op (R.move rfl rfl) rfl rfl rfl ?_
                      refine KD.op (R.move rfl rfl) rfl rfl rfl ?_
                      refine KD.op (R.indexO1 (j := k) rfl Try.underlying22 sz5 rfl rfl wn rfl (by omega)) rfl rfl rfl ?_
                      refine KD.op (R.load rfl Try.underlying5 rfl rfl (by first | exact (wn.int k (by omega)).1 | exact (ww.int k (by omega)).1 | assumption)) rfl rfl rfl ?_
                      refine KD.op (R.move rfl rfl) rfl rfl rfl ?_
                      refine KD.op (R.move rfl rfl) rfl rfl rfl ?_
                      refine KD.op (R.mul rfl rfl rfl (by dsimp only [InR]; omega)) rfl rfl rfl ?_
                      refine KD.op (R.shr rfl rfl rfl (by omega)) rfl rfl rfl ?_
                      refine KD.op (R.convW rfl Try.underlying28 Try.underlying5 rfl) rfl rfl rfl ?_
                      refine KD.op ((R.neq rfl rfl rfl).val ((congrArg (fun b => Value.bool (!b)) (decide_eq_true (by first | (exfalso; omega) | rw [storeB_getD (by omega) (by omega), if_pos ⟨hA, by omega, by omega⟩, show IntKind.u64.wrap ((k : Int) - place) = ((k - (place + 0).toNat : Nat) : Int) by omega, shr8 (by omega)]))))) rfl rfl rfl ?_
                      refine KD.op (R.pick rfl rfl rfl) rfl rfl rfl ?_
                      refine KD.op (R.pick rfl rfl rfl) rfl rfl rfl ?_
                      refine KD.nil ?_
                      refine KQ.seq ?_
                      refine KC.condF rfl ?_
                      refine KC.skip ?_
                      refine KQ.normBlock ?_
                      refine KQ.seq ?_
                      refine KC.region ?_
                      refine KL.op (R.add rfl rfl rfl (by dsimp only [InR]; omega)) rfl rfl rfl ?_
                      refine KL.op (R.move rfl rfl) rfl rfl rfl ?_
                      refine KL.nil ?_
                      refine KQ.again (k + 1) ?_ ?_ ?_
                      · exact (Sub.cons rfl (Ext.sub (by repeat (first | exact Ext.refl _ _ | refine Ext.put rfl ?_ | refine Ext.drop rfl ?_))))
                      · omega
                      · exact ⟨by omega, rfl⟩
                    · intro hg124
                      try simp only [decide_eq_true_eq, decide_eq_false_iff_not, Bool.not_eq_true', Bool.not_eq_false', Bool.and_eq_true, Bool.or_eq_false_iff] at hg124
                      refine KD.skip rfl rfl rfl ?_
                      refine KD.skip rfl rfl rfl ?_
                      refine KD.skip rfl rfl rfl ?_
                      refine KD.skip rfl rfl rfl ?_
                      refine KD.skip rfl rfl rfl ?_
                      refine KD.skip rfl rfl rfl ?_
                      refine KD.skip rfl rfl rfl ?_
                      refine KD.skip rfl rfl rfl ?_
                      refine KD.skip rfl rfl rfl ?_
                      refine KD.skip rfl rfl rfl ?_
                      refine KD.op (R.pick rfl rfl rfl) rfl rfl rfl ?_
                      refine KD.op (R.pick rfl rfl rfl) rfl rfl rfl ?_
                      refine KD.nil ?_
                      refine KQ.seq ?_
                      refine KC.condF rfl ?_
                      refine KC.skip ?_
                      refine KQ.normBlock ?_
                      refine KQ.seq ?_
                      refine KC.region ?_
                      refine KL.op (R.add rfl rfl rfl (by dsimp only [InR]; omega)) rfl rfl rfl ?_
                      refine KL.op (R.move rfl rfl) rfl rfl rfl ?_
                      refine KL.nil ?_
                      refine KQ.again (k + 1) ?_ ?_ ?_
                      · exact (Sub.cons rfl (Ext.sub (by repeat (first | exact Ext.refl _ _ | refine Ext.put rfl ?_ | refine Ext.drop rfl ?_))))
                      · omega
                      · exact ⟨by omega, rfl⟩
                  · intro hg111
                    try simp only [decide_eq_true_eq, decide_eq_false_iff_not, Bool.not_eq_true', Bool.not_eq_false', Bool.and_eq_true, Bool.or_eq_false_iff] at hg111
                    refine KD.skip rfl rfl rfl ?_
                    refine KD.skip rfl rfl rfl ?_
                    refine KD.skip rfl rfl rfl ?_
                    refine KD.skip rfl rfl rfl ?_
                    refine KD.skip rfl rfl rfl ?_
                    refine KD.skip rfl rfl rfl ?_
                    refine KD.skip rfl rfl rfl ?_
                    refine KD.skip rfl rfl rfl ?_
                    refine KD.skip rfl rfl rfl ?_
                    refine KD.op (R.pick rfl rfl rfl) rfl rfl rfl ?_
                    refine KD.op (R.move rfl rfl) rfl rfl rfl ?_
                    refine KD.op (R.move rfl rfl) rfl rfl rfl ?_
                    refine KD.op (R.move rfl rfl) rfl rfl rfl ?_
                    refine KD.case (d := 124) rfl ?_ ?_
                    · intro hg124
                      try simp only [decide_eq_true_eq, decide_eq_false_iff_not, Bool.not_eq_true', Bool.not_eq_false', Bool.and_eq_true, Bool.or_eq_false_iff] at hg124
                      refine KD.op (R.move rfl rfl) rfl rfl rfl ?_
                      refine KD.op (R.move rfl rfl) rfl rfl rfl ?_
                      refine KD.op (R.indexO1 (j := k) rfl Try.underlying22 sz5 rfl rfl wn rfl (by omega)) rfl rfl rfl ?_
                      refine KD.op (R.load rfl Try.underlying5 rfl rfl (by first | exact (wn.int k (by omega)).1 | exact (ww.int k (by omega)).1 | assumption)) rfl rfl rfl ?_
                      refine KD.op (R.move rfl rfl) rfl rfl rfl ?_
                      refine KD.op (R.move rfl rfl) rfl rfl rfl ?_
                      refine KD.op (R.mul rfl rfl rfl (by dsimp only [InR]; omega)) rfl rfl rfl ?_
                      refine KD.op (R.shr rfl rfl rfl (by omega)) rfl rfl rfl ?_
                      refine KD.op (R.convW rfl Try.underlying28 Try.underlying5 rfl) rfl rfl rfl ?_
                      refine KD.op ((R.neq rfl rfl rfl).val ((congrArg (fun b => Value.bool (!b)) (decide_eq_true (by first | (exfalso; omega) | rw [storeB_getD (by omega) (by omega), if_pos ⟨hA, by omega, by omega⟩, show IntKind.u64.wrap ((k : Int) - place) = ((k - (place + 0).toNat : Nat) : Int) by omega, shr8 (by omega)]))))) rfl rfl rfl ?_
                      refine KD.op (R.pick rfl rfl rfl) rfl rfl rfl ?_
                      refine KD.op (R.pick rfl rfl rfl) rfl rfl rfl ?_
                      refine KD.nil ?_
                      refine KQ.seq ?_
                      refine KC.condF rfl ?_
                      refine KC.skip ?_
                      refine KQ.normBlock ?_
                      refine KQ.seq ?_
                      refine KC.region ?_
                      refine KL.op (R.add rfl rfl rfl (by dsimp only [InR]; omega)) rfl rfl rfl ?_
                      refine KL.op (R.move rfl rfl) rfl rfl rfl ?_
                      refine KL.nil ?_
                      refine KQ.again (k + 1) ?_ ?_ ?_
                      · exact (Sub.cons rfl (Ext.sub (by repeat (first | exact Ext.refl _ _ | refine Ext.put rfl ?_ | refine Ext.drop rfl ?_))))
                      · omega
                      · exact ⟨by omega, rfl⟩
                    · intro hg124
                      try simp only [decide_eq_true_eq, decide_eq_false_iff_not, Bool.not_eq_true', Bool.not_eq_false', Bool.and_eq_true, Bool.or_eq_false_iff] at hg124
                      refine KD.skip rfl rfl rfl ?_
                      refine KD.skip rfl rfl rfl ?_
                      refine KD.skip rfl rfl rfl ?_
                      refine KD.skip rfl rfl rfl ?_
                      refine KD.skip rfl rfl rfl ?_
                      refine KD.skip rfl rfl rfl ?_
                      refine KD.skip rfl rfl rfl ?_
                      refine KD.skip rfl rfl rfl ?_
                      refine KD.skip rfl rfl rfl ?_
                      refine KD.skip rfl rfl rfl ?_
                      refine KD.op (R.pick rfl rfl rfl) rfl rfl rfl ?_
                      refine KD.op (R.pick rfl rfl rfl) rfl rfl rfl ?_
                      refine KD.nil ?_
                      refine KQ.seq ?_
                      refine KC.condF rfl ?_
                      refine KC.skip ?_
                      refine KQ.normBlock ?_
                      refine KQ.seq ?_
                      refine KC.region ?_
                      refine KL.op (R.add rfl rfl rfl (by dsimp only [InR]; omega)) rfl rfl rfl ?_
                      refine KL.op (R.move rfl rfl) rfl rfl rfl ?_
                      refine KL.nil ?_
                      refine KQ.again (k + 1) ?_ ?_ ?_
                      · exact (Sub.cons rfl (Ext.sub (by repeat (first | exact Ext.refl _ _ | refine Ext.put rfl ?_ | refine Ext.drop rfl ?_))))
                      · omega
                      · exact ⟨by omega, rfl⟩
                · intro hg103
                  try simp only [decide_eq_true_eq, decide_eq_false_iff_not, Bool.not_eq_true', Bool.not_eq_false', Bool.and_eq_true, Bool.or_eq_false_iff] at hg103
                  refine KL.skip rfl rfl rfl ?_
                  refine KL.skip rfl rfl rfl ?_
                  refine KL.skip rfl rfl rfl ?_
                  refine KL.skip rfl rfl rfl ?_
                  refine KL.op (R.pick rfl rfl rfl) rfl rfl rfl ?_
                  refine KL.op (R.assign rfl rfl) rfl rfl rfl ?_
                  refine KL.nil ?_
                  refine KQ.seq ?_
                  refine KC.seq ?_
                  refine KC.quiet (by kernel_rfl) (by kernel_rfl) ?_
                  refine KD.op (R.move rfl rfl) rfl rfl rfl ?_
                  refine KD.op (R.not rfl rfl) rfl rfl rfl ?_
                  refine KD.op (R.move rfl rfl) rfl rfl rfl ?_
                  refine KD.op (R.move rfl rfl) rfl rfl rfl ?_
                  refine KD.op (R.move rfl rfl) rfl rfl rfl ?_
                  refine KD.op (R.indexO1 (j := k) rfl Try.underlying22 sz5 rfl rfl wn rfl (by omega)) rfl rfl rfl ?_
                  refine KD.op (R.load rfl Try.underlying5 rfl rfl (by first | exact (wn.int k (by omega)).1 | exact (ww.int k (by omega)).1 | assumption)) rfl rfl rfl ?_
                  refine KD.op (R.move rfl rfl) rfl rfl rfl ?_
                  refine KD.op (R.move rfl rfl) rfl rfl rfl ?_
                  refine KD.op (R.indexO1 (j := k) rfl Try.underlying22 sz5 rfl rfl ww rfl (by omega)) rfl rfl rfl ?_
                  refine KD.op (R.load rfl Try.underlying5 rfl rfl (by first | exact (wn.int k (by omega)).1 | exact (ww.int k (by omega)).1 | assumption)) rfl rfl rfl ?_
                  refine KD.op ((R.neq rfl rfl rfl).val ((congrArg (fun b => Value.bool (!b)) (decide_eq_true (by rw [storeB_getD (by omega) (by omega), if_neg (by rintro ⟨h0, h1, h2⟩; first | exact hA h0 | omega)]))))) rfl rfl rfl ?_
                  refine KD.op (R.pick rfl rfl rfl) rfl rfl rfl ?_
                  refine KD.op (R.move rfl rfl) rfl rfl rfl ?_
                  refine KD.op (R.move rfl rfl) rfl rfl rfl ?_
                  refine KD.op (R.move rfl rfl) rfl rfl rfl ?_
                  refine KD.skip rfl rfl rfl ?_
                  refine KD.skip rfl rfl rfl ?_
                  refine KD.skip rfl rfl rfl ?_
                  refine KD.skip rfl rfl rfl ?_
                  refine KD.skip rfl rfl rfl ?_
                  refine KD.skip rfl rfl rfl ?_
                  refine KD.skip rfl rfl rfl ?_
                  refine KD.skip rfl rfl rfl ?_
                  refine KD.skip rfl rfl rfl ?_
                  refine KD.skip rfl rfl rfl ?_
                  refine KD.op (R.pick rfl rfl rfl) rfl rfl rfl ?_
                  refine KD.op (R.pick rfl rfl rfl) rfl rfl rfl ?_
                  refine KD.nil ?_
                  refine KQ.seq ?_
                  refine KC.condF rfl ?_
                  refine KC.skip ?_
                  refine KQ.normBlock ?_
                  refine KQ.seq ?_
                  refine KC.region ?_
                  refine KL.op (R.add rfl rfl rfl (by dsimp only [InR]; omega)) rfl rfl rfl ?_
                  refine KL.op (R.move rfl rfl) rfl rfl rfl ?_
                  refine KL.nil ?_
                  refine KQ.again (k + 1) ?_ ?_ ?_
                  · exact (Sub.cons rfl (Ext.sub (by repeat (first | exact Ext.refl _ _ | refine Ext.put rfl ?_ | refine Ext.drop rfl ?_))))
                  · omega
                  · exact ⟨by omega, rfl⟩
              · intro hc88
                try simp only [decide_eq_true_eq, decide_eq_false_iff_not, Bool.not_eq_true', Bool.not_eq_false', Bool.and_eq_true, Bool.or_eq_false_iff] at hc88
                refine KC.exit ?_
                refine KQ.exitThen ?_
                refine KQ.exitThen ?_
                refine KQ.hit ?_
                refine KQ.seq ?_
                refine KC.seq ?_
                refine KC.seq ?_
                refine KC.region ?_
                refine KL.op (R.move rfl rfl) rfl rfl rfl ?_
                refine KL.op (R.not rfl rfl) rfl rfl rfl ?_
                refine KL.nil ?_
                refine KQ.seq ?_
                refine KC.condF rfl ?_
                refine KC.skip ?_
                refine KQ.seq ?_
                refine KC.seq ?_
                refine KC.region ?_
                refine KL.op (R.buildArr (cs := #[(.int .u8 40), (.int .u8 41), (.int .u8 0), (.int .u8 0), (.int .u8 45), (.int .u8 47), (.int .u8 49), (.int .u8 51), (.int .u8 53)]) rfl Try.underlying39 zr39 sz5 rfl (by kernel_rfl)) rfl rfl rfl ?_
                refine KL.op (R.move rfl rfl) rfl rfl rfl ?_
                refine KL.op (R.sub rfl rfl rfl (by dsimp only [InR]; omega)) rfl rfl rfl ?_
                refine KL.op ((R.indexArr (j := (op - 54).toNat) rfl Try.underlying39 sz5 Try.underlying5 rfl rfl rfl (by omega) (by omega) (nth_getD (by show _ < 9; omega))).val (lid (by omega) (by omega))) rfl rfl rfl ?_
                refine KL.op (R.assign rfl rfl) rfl rfl rfl ?_
                refine KL.nil ?_
                refine KQ.seq ?_
                refine KC.seq ?_
                refine KC.region ?_
                refine KL.op (R.move rfl rfl) rfl rfl rfl ?_
                refine KL.op (R.move rfl rfl) rfl rfl rfl ?_
                refine KL.op (R.move rfl rfl) rfl rfl rfl ?_
                refine KL.call rfl rfl rfl rfl Try.call12 rfl rfl rfl (Load_any _ _ _ _ hm (ldop op) place 0 (by have h1 := hA; unfold inA at h1; have := ldop_spec h1.1 h1.2.1 h1.2.2.1; dsimp only [InR]; omega) r2 (by dsimp only [InR]; omega)) ?_
                rintro _ H13 ⟨rfl, ox⟩
                unfold loadV
                rw [decide_eq_true (ldop_in (by omega) hA)]
                have o0 := o0.trans ox
                have hm := hm.old ox
                refine KL.op (R.move rfl rfl) rfl rfl rfl ?_
                refine KL.op (R.extract rfl rfl rfl) rfl rfl rfl ?_
                refine KL.op (R.extract rfl rfl rfl) rfl rfl rfl ?_
                refine KL.op (R.assign rfl rfl) rfl rfl rfl ?_
                refine KL.op (R.assign rfl rfl) rfl rfl rfl ?_
                refine KL.nil ?_
                refine KQ.seq ?_
                refine KC.seq ?_
                refine KC.region ?_
                refine KL.op (R.move rfl rfl) rfl rfl rfl ?_
                refine KL.op (R.move rfl rfl) rfl rfl rfl ?_
                refine KL.op (R.move rfl rfl) rfl rfl rfl ?_
                refine KL.op (R.move rfl rfl) rfl rfl rfl ?_
                refine KL.op (R.move rfl rfl) rfl rfl rfl ?_
                refine KL.op (R.mul rfl rfl rfl (by dsimp only [InR]; omega)) rfl rfl rfl ?_
                refine KL.op (R.sub rfl rfl rfl (by dsimp only [InR]; omega)) rfl rfl rfl ?_
                refine KL.op (R.shl rfl rfl rfl (by omega)) rfl rfl rfl ?_
                refine KL.op (R.move rfl rfl) rfl rfl rfl ?_
                refine KL.op (R.mul rfl rfl rfl (by dsimp only [InR]; omega)) rfl rfl rfl ?_
                refine KL.op (R.sub rfl rfl rfl (by dsimp only [InR]; omega)) rfl rfl rfl ?_
                refine KL.op (R.shr rfl rfl rfl (by omega)) rfl rfl rfl ?_
                refine KL.op ((R.eql rfl rfl rfl).val (congrArg Value.bool (decide_eq_true (by rw [ldop_load (by omega) hA, low_bytes (by have h1 := hA; unfold inA at h1; have := ldop_spec h1.1 h1.2.1 h1.2.2.1; omega)])))) rfl rfl rfl ?_
                refine KL.op (R.pick rfl rfl rfl) rfl rfl rfl ?_
                refine KL.op (R.move rfl rfl) rfl rfl rfl ?_
                refine KL.call rfl rfl rfl rfl Try.call8 rfl rfl rfl (works_any) ?_
                rintro _ H14 ⟨rfl, ox⟩
                have o0 := o0.trans ox
                have hm := hm.old ox
                refine KL.op (R.pick rfl rfl rfl) rfl rfl rfl ?_
                refine KL.op (R.assign rfl rfl) rfl rfl rfl ?_
                refine KL.nil ?_
                refine KQ.seq ?_
                refine KC.ret ?_
                refine KQ.ofRet ?_
                refine KQ.fin1 Try.results4 rfl ?_
                exact ⟨rfl, o0⟩
        · skip
          rw [decide_eq_false hA]
          refine KL.op (R.assign rfl rfl) rfl rfl rfl ?_
          refine KL.nil ?_
          refine KQ.seq ?_
          refine KC.seq ?_
          refine KC.region ?_
          refine KL.op (R.move rfl rfl) rfl rfl rfl ?_
          refine KL.call rfl rfl rfl rfl Try.call13 rfl rfl rfl (Get_any _ _ _ _ hm 0 65536 (by dsimp only [InR]; omega) (by dsimp only [InR]; omega)) ?_
          rintro _ H15 ⟨xn, rfl, wn, ox⟩
          rw [prtP_all (by omega)] at wn
          have o0 := o0.trans ox
          have hm := hm.old ox
          have ww := ww.old ox
          refine KL.op (R.move rfl rfl) rfl rfl rfl ?_
          refine KL.op (R.extract rfl rfl rfl) rfl rfl rfl ?_
          refine KL.op (R.extract rfl rfl rfl) rfl rfl rfl ?_
          refine KL.op (R.assign rfl rfl) rfl rfl rfl ?_
          refine KL.op (R.assign rfl rfl) rfl rfl rfl ?_
          refine KL.nil ?_
          refine KQ.seq ?_
          refine KC.seq ?_
          refine KC.region ?_
          refine KL.op (R.buildArr (cs := #[(.int .u32 4), (.int .u32 8), (.int .u32 0), (.int .u32 0), (.int .u32 1), (.int .u32 2), (.int .u32 1), (.int .u32 2), (.int .u32 4)]) rfl Try.underlying38 zr38 sz23 rfl (by kernel_rfl)) rfl rfl rfl ?_
          refine KL.op (R.move rfl rfl) rfl rfl rfl ?_
          refine KL.op (R.sub rfl rfl rfl (by dsimp only [InR]; omega)) rfl rfl rfl ?_
          refine KL.op ((R.indexArr (j := (op - 54).toNat) rfl Try.underlying38 sz23 Try.underlying23 rfl rfl rfl (by omega) (by omega) (nth_getD (by show _ < 9; omega))).val (wid (by omega) (by omega))) rfl rfl rfl ?_
          refine KL.op (R.assign rfl rfl) rfl rfl rfl ?_
          refine KL.nil ?_
          refine KQ.seq ?_
          refine KC.seq ?_
          refine KC.seq ?_
          refine KC.region ?_
          refine KL.op (R.move rfl rfl) rfl rfl rfl ?_
          refine KL.op (R.lenO rfl Try.underlying22 rfl ww) rfl rfl rfl ?_
          refine KL.op ((R.neq rfl rfl rfl).val ((congrArg (fun b => Value.bool (!b)) (decide_eq_true (by omega))))) rfl rfl rfl ?_
          refine KL.op (R.move rfl rfl) rfl rfl rfl ?_
          refine KL.op (R.move rfl rfl) rfl rfl rfl ?_
          refine KL.op (R.lenO rfl Try.underlying22 rfl wn) rfl rfl rfl ?_
          refine KL.op ((R.neq rfl rfl rfl).val ((congrArg (fun b => Value.bool (!b)) (decide_eq_true (by omega))))) rfl rfl rfl ?_
          refine KL.op (R.pick rfl rfl rfl) rfl rfl rfl ?_
          refine KL.op (R.move rfl rfl) rfl rfl rfl ?_
          refine KL.op (R.move rfl rfl) rfl rfl rfl ?_
          refine KL.op (R.move rfl rfl) rfl rfl rfl ?_
          refine KL.op (R.gtr rfl rfl rfl) rfl rfl rfl ?_
          refine KL.op (R.move rfl rfl) rfl rfl rfl ?_
          refine KL.case (d := 75) rfl ?_ ?_
          · intro hg75
            try simp only [decide_eq_true_eq, decide_eq_false_iff_not, Bool.not_eq_true', Bool.not_eq_false', Bool.and_eq_true, Bool.or_eq_false_iff] at hg75
            refine KL.op (R.move rfl rfl) rfl rfl rfl ?_
            refine KL.op (R.convI rfl Try.underlying23 Try.underlying28 rfl (by dsimp only [InR]; omega)) rfl rfl rfl ?_
            refine KL.op (R.move rfl rfl) rfl rfl rfl ?_
            refine KL.op (R.convI rfl Try.underlying23 Try.underlying28 rfl (by dsimp only [InR]; omega)) rfl rfl rfl ?_
            refine KL.op (R.add rfl rfl rfl (by dsimp only [InR]; omega)) rfl rfl rfl ?_
            refine KL.op (R.leq rfl rfl rfl) rfl rfl rfl ?_
            refine KL.op (R.pick rfl rfl rfl) rfl rfl rfl ?_
            refine KL.op ((R.neqB rfl Try.underlying4 rfl rfl).val (congrArg Value.bool (show _ = false from by unfold inA at hA; first | rfl | (simp; omega)))) rfl rfl rfl ?_
            refine KL.op (R.pick rfl rfl rfl) rfl rfl rfl ?_
            refine KL.nil ?_
            refine KQ.seq ?_
            refine KC.condF rfl ?_
            refine KC.skip ?_
            refine KQ.seq ?_
            refine KC.seq ?_
            refine KC.seq ?_
            refine KC.region ?_
            refine KL.op (R.move rfl rfl) rfl rfl rfl ?_
            refine KL.op (R.lenO rfl Try.underlying22 rfl wn) rfl rfl rfl ?_
            refine KL.op (R.move rfl rfl) rfl rfl rfl ?_
            refine KL.nil ?_
            refine KQ.seq ?_
            refine KC.block ?_
            refine KC.loopD (κ := Nat) [88, 89, 18, 90, 91, 92, 93, 94, 19, 95, 96, 97, 98, 99, 100, 101, 102, 103, 104, 105, 106, 107, 108, 20, 109, 110, 111, 112, 113, 114, 115, 116, 117, 118, 119, 120, 121, 122, 123, 124, 125, 126, 127, 128, 129, 130, 131, 132, 133, 134, 135, 136, 10, 137, 87] (fun k => [(87, .int .i64 (k : Nat))]) (fun k Hl => k ≤ 65536 ∧ H15 = Hl) (fun k => 65536 - k) 0 ?_ ?_ ?_
            · exact (Sub.cons rfl (Ext.sub (Ext.refl _ _)))
            · exact ⟨Nat.zero_le _, rfl⟩
            · rintro k H16 ⟨hk, rfl⟩
              refine KC.seq ?_
              refine KC.region ?_
              refine KL.op (R.lss rfl rfl rfl) rfl rfl rfl ?_
              refine KL.nil ?_
              refine KQ.seq ?_
              refine KC.seq ?_
              refine KC.iteL rfl ?_ ?_
              · intro hc88
                try simp only [decide_eq_true_eq, decide_eq_false_iff_not, Bool.not_eq_true', Bool.not_eq_false', Bool.and_eq_true, Bool.or_eq_false_iff] at hc88
                have hK := IntKind.wrap_u64 ((k : Int) - place)
                refine KC.skip ?_
                refine KQ.seq ?_
                refine KC.seq ?_
                refine KC.block ?_
                refine KC.seq ?_
                refine KC.region ?_
                refine KL.op (R.move rfl rfl) rfl rfl rfl ?_
                refine KL.op (R.assign rfl rfl) rfl rfl rfl ?_
                refine KL.nil ?_
                refine KQ.seq ?_
                refine KC.seq ?_
                refine KC.region ?_
                refine KL.op (R.move rfl rfl) rfl rfl rfl ?_
                refine KL.op (R.convI rfl Try.underlying3 Try.underlying28 rfl (by dsimp only [InR]; omega)) rfl rfl rfl ?_
                refine KL.op (R.move rfl rfl) rfl rfl rfl ?_
                refine KL.op (R.convI rfl Try.underlying23 Try.underlying28 rfl (by dsimp only [InR]; omega)) rfl rfl rfl ?_
                refine KL.op (R.subW rfl rfl rfl) rfl rfl rfl ?_
                refine KL.op (R.assign rfl rfl) rfl rfl rfl ?_
                refine KL.nil ?_
                refine KQ.seq ?_
                refine KC.seq ?_
                refine KC.region ?_
                refine KL.op (R.move rfl rfl) rfl rfl rfl ?_
                refine KL.op (R.move rfl rfl) rfl rfl rfl ?_
                refine KL.skip rfl rfl rfl ?_
                refine KL.skip rfl rfl rfl ?_
                refine KL.skip rfl rfl rfl ?_
                refine KL.skip rfl rfl rfl ?_
                refine KL.skip rfl rfl rfl ?_
                refine KL.op (R.pick rfl rfl rfl) rfl rfl rfl ?_
                refine KL.op (R.move rfl rfl) rfl rfl rfl ?_
                refine KL.skip rfl rfl rfl ?_
                refine KL.skip rfl rfl rfl ?_
                refine KL.skip rfl rfl rfl ?_
                refine KL.skip rfl rfl rfl ?_
                refine KL.op (R.pick rfl rfl rfl) rfl rfl rfl ?_
                refine KL.op (R.assign rfl rfl) rfl rfl rfl ?_
                refine KL.nil ?_
                refine KQ.seq ?_
                refine KC.seq ?_
                refine KC.quiet (by kernel_rfl) (by kernel_rfl) ?_
                refine KD.op (R.move rfl rfl) rfl rfl rfl ?_
                refine KD.op (R.not rfl rfl) rfl rfl rfl ?_
                refine KD.op (R.move rfl rfl) rfl rfl rfl ?_
                refine KD.op (R.move rfl rfl) rfl rfl rfl ?_
                refine KD.op (R.move rfl rfl) rfl rfl rfl ?_
                refine KD.op (R.indexO1 (j := k) rfl Try.underlying22 sz5 rfl rfl wn rfl (by omega)) rfl rfl rfl ?_
                refine KD.op (R.load rfl Try.underlying5 rfl rfl (by first | exact (wn.int k (by omega)).1 | exact (ww.int k (by omega)).1 | assumption)) rfl rfl rfl ?_
                refine KD.op (R.move rfl rfl) rfl rfl rfl ?_
                refine KD.op (R.move rfl rfl) rfl rfl rfl ?_
                refine KD.op (R.indexO1 (j := k) rfl Try.underlying22 sz5 rfl rfl ww rfl (by omega)) rfl rfl rfl ?_
                refine KD.op (R.load rfl Try.underlying5 rfl rfl (by first | exact (wn.int k (by omega)).1 | exact (ww.int k (by omega)).1 | assumption)) rfl rfl rfl ?_
                refine KD.op ((R.neq rfl rfl rfl).val ((congrArg (fun b => Value.bool (!b)) (decide_eq_true (by rw [storeB_getD (by omega) (by omega), if_neg (by rintro ⟨h0, h1, h2⟩; first | exact hA h0 | omega)]))))) rfl rfl rfl ?_
                refine KD.op (R.pick rfl rfl rfl) rfl rfl rfl ?_
                refine KD.op (R.move rfl rfl) rfl rfl rfl ?_
                refine KD.op (R.move rfl rfl) rfl rfl rfl ?_
                refine KD.op (R.move rfl rfl) rfl rfl rfl ?_
                refine KD.skip rfl rfl rfl ?_
                refine KD.skip rfl rfl rfl ?_
                refine KD.skip rfl rfl rfl ?_
                refine KD.skip rfl rfl rfl ?_
                refine KD.skip rfl rfl rfl ?_
                refine KD.skip rfl rfl rfl ?_
                refine KD.skip rfl rfl rfl ?_
                refine KD.skip rfl rfl rfl ?_
                refine KD.skip rfl rfl rfl ?_
                refine KD.skip rfl rfl rfl ?_
                refine KD.op (R.pick rfl rfl rfl) rfl rfl rfl ?_
                refine KD.op (R.pick rfl rfl rfl) rfl rfl rfl ?_
                refine KD.nil ?_
                refine KQ.seq ?_
                refine KC.condF rfl ?_
                refine KC.skip ?_
                refine KQ.normBlock ?_
                refine KQ.seq ?_
                refine KC.region ?_
                refine KL.op (R.add rfl rfl rfl (by dsimp only [InR]; omega)) rfl rfl rfl ?_
                refine KL.op (R.move rfl rfl) rfl rfl rfl ?_
                refine KL.nil ?_
                refine KQ.again (k + 1) ?_ ?_ ?_
                · exact (Sub.cons rfl (Ext.sub (by repeat (first | exact Ext.refl _ _ | refine Ext.put rfl ?_ | refine Ext.drop rfl ?_))))
                · omega
                · exact ⟨by omega, rfl⟩
              · intro hc88
                try simp only [decide_eq_true_eq, decide_eq_false_iff_not, Bool.not_eq_true', Bool.not_eq_false', Bool.and_eq_true, Bool.or_eq_false_iff] at hc88
                refine KC.exit ?_
                refine KQ.exitThen ?_
                refine KQ.exitThen ?_
                refine KQ.hit ?_
                refine KQ.seq ?_
                refine KC.seq ?_
                refine KC.seq ?_
                refine KC.region ?_
                refine KL.op (R.move rfl rfl) rfl rfl rfl ?_
                refine KL.op (R.not rfl rfl) rfl rfl rfl ?_
                refine KL.nil ?_
                refine KQ.seq ?_
                refine KC.condT rfl ?_
                refine KC.seq ?_
                refine KC.region ?_
                refine KL.call rfl rfl rfl rfl Try.call8 rfl rfl rfl (works_any) ?_
                rintro _ H17 ⟨rfl, ox⟩
                have o0 := o0.trans ox
                have hm := hm.old ox
                refine KL.op (R.assign rfl rfl) rfl rfl rfl ?_
                refine KL.nil ?_
                refine KQ.seq ?_
                refine KC.ret ?_
                refine KQ.retThen ?_
                refine KQ.ofRet ?_
                refine KQ.fin1 Try.results4 rfl ?_
                exact ⟨rfl, o0⟩
          · intro hg75
            try simp only [decide_eq_true_eq, decide_eq_false_iff_not, Bool.not_eq_true', Bool.not_eq_false', Bool.and_eq_true, Bool.or_eq_false_iff] at hg75
            refine KL.skip rfl rfl rfl ?_
            refine KL.skip rfl rfl rfl ?_
            refine KL.skip rfl rfl rfl ?_
            refine KL.skip rfl rfl rfl ?_
            refine KL.skip rfl rfl rfl ?_
            refine KL.skip rfl rfl rfl ?_
            refine KL.op (R.pick rfl rfl rfl) rfl rfl rfl ?_
            refine KL.op ((R.neqB rfl Try.underlying4 rfl rfl).val (congrArg Value.bool (show _ = false from by unfold inA at hA; first | rfl | (simp; omega)))) rfl rfl rfl ?_
            refine KL.op (R.pick rfl rfl rfl) rfl rfl rfl ?_
            refine KL.nil ?_
            refine KQ.seq ?_
            refine KC.condF rfl ?_
            refine KC.skip ?_
            refine KQ.seq ?_
            refine KC.seq ?_
            refine KC.seq ?_
            refine KC.region ?_
            refine KL.op (R.move rfl rfl) rfl rfl rfl ?_
            refine KL.op (R.lenO rfl Try.underlying22 rfl wn) rfl rfl rfl ?_
            refine KL.op (R.move rfl rfl) rfl rfl rfl ?_
            refine KL.nil ?_
            refine KQ.seq ?_
            refine KC.block ?_
            refine KC.loopD (κ := Nat) [88, 89, 18, 90, 91, 92, 93, 94, 19, 95, 96, 97, 98, 99, 100, 101, 102, 103, 104, 105, 106, 107, 108, 20, 109, 110, 111, 112, 113, 114, 115, 116, 117, 118, 119, 120, 121, 122, 123, 124, 125, 126, 127, 128, 129, 130, 131, 132, 133, 134, 135, 136, 10, 137, 87] (fun k => [(87, .int .i64 (k : Nat))]) (fun k Hl => k ≤ 65536 ∧ H15 = Hl) (fun k => 65536 - k) 0 ?_ ?_ ?_
            · exact (Sub.cons rfl (Ext.sub (Ext.refl _ _)))
            · exact ⟨Nat.zero_le _, rfl⟩
            · rintro k H18 ⟨hk, rfl⟩
              refine KC.seq ?_
              refine KC.region ?_
              refine KL.op (R.lss rfl rfl rfl) rfl rfl rfl ?_
              refine KL.nil ?_
              refine KQ.seq ?_
              refine KC.seq ?_
              refine KC.iteL rfl ?_ ?_
              · intro hc88
                try simp only [decide_eq_true_eq, decide_eq_false_iff_not, Bool.not_eq_true', Bool.not_eq_false', Bool.and_eq_true, Bool.or_eq_false_iff] at hc88
                have hK := IntKind.wrap_u64 ((k : Int) - place)
                refine KC.skip ?_
                refine KQ.seq ?_
                refine KC.seq ?_
                refine KC.block ?_
                refine KC.seq ?_
                refine KC.region ?_
                refine KL.op (R.move rfl rfl) rfl rfl rfl ?_
                refine KL.op (R.assign rfl rfl) rfl rfl rfl ?_
                refine KL.nil ?_
                refine KQ.seq ?_
                refine KC.seq ?_
                refine KC.region ?_
                refine KL.op (R.move rfl rfl) rfl rfl rfl ?_
                refine KL.op (R.convI rfl Try.underlying3 Try.underlying28 rfl (by dsimp only [InR]; omega)) rfl rfl rfl ?_
                refine KL.op (R.move rfl rfl) rfl rfl rfl ?_
                refine KL.op (R.convI rfl Try.underlying23 Try.underlying28 rfl (by dsimp only [InR]; omega)) rfl rfl rfl ?_
                refine KL.op (R.subW rfl rfl rfl) rfl rfl rfl ?_
                refine KL.op (R.assign rfl rfl) rfl rfl rfl ?_
                refine KL.nil ?_
                refine KQ.seq ?_
                refine KC.seq ?_
                refine KC.region ?_
                refine KL.op (R.move rfl rfl) rfl rfl rfl ?_
                refine KL.op (R.move rfl rfl) rfl rfl rfl ?_
                refine KL.skip rfl rfl rfl ?_
                refine KL.skip rfl rfl rfl ?_
                refine KL.skip rfl rfl rfl ?_
                refine KL.skip rfl rfl rfl ?_
                refine KL.skip rfl rfl rfl ?_
                refine KL.op (R.pick rfl rfl rfl) rfl rfl rfl ?_
                refine KL.op (R.move rfl rfl) rfl rfl rfl ?_
                refine KL.skip rfl rfl rfl ?_
                refine KL.skip rfl rfl rfl ?_
                refine KL.skip rfl rfl rfl ?_
                refine KL.skip rfl rfl rfl ?_
                refine KL.op (R.pick rfl rfl rfl) rfl rfl rfl ?_
                refine KL.op (R.assign rfl rfl) rfl rfl rfl ?_
                refine KL.nil ?_
                refine KQ.seq ?_
                refine KC.seq ?_
                refine KC.quiet (by kernel_rfl) (by kernel_rfl) ?_
                refine KD.op (R.move rfl rfl) rfl rfl rfl ?_
                refine KD.op (R.not rfl rfl) rfl rfl rfl ?_
                refine KD.op (R.move rfl rfl) rfl rfl rfl ?_
                refine KD.op (R.move rfl rfl) rfl rfl rfl ?_
                refine KD.op (R.move rfl rfl) rfl rfl rfl ?_
                refine KD.op (R.indexO1 (j := k) rfl Try.underlying22 sz5 rfl rfl wn rfl (by omega)) rfl rfl rfl ?_
                refine KD.op (R.load rfl Try.underlying5 rfl rfl (by first | exact (wn.int k (by omega)).1 | exact (ww.int k (by omega)).1 | assumption)) rfl rfl rfl ?_
                refine KD.op (R.move rfl rfl) rfl rfl rfl ?_
                refine KD.op (R.move rfl rfl) rfl rfl rfl ?_
                refine KD.op (R.indexO1 (j := k) rfl Try.underlying22 sz5 rfl rfl ww rfl (by omega)) rfl rfl rfl ?_
                refine KD.op (R.load rfl Try.underlying5 rfl rfl (by first | exact (wn.int k (by omega)).1 | exact (ww.int k (by omega)).1 | assumption)) rfl rfl rfl ?_
                refine KD.op ((R.neq rfl rfl rfl).val ((congrArg (fun b => Value.bool (!b)) (decide_eq_true (by rw [storeB_getD (by omega) (by omega), if_neg (by rintro ⟨h0, h1, h2⟩; first | exact hA h0 | omega)]))))) rfl rfl rfl ?_
                refine KD.op (R.pick rfl rfl rfl) rfl rfl rfl ?_
                refine KD.op (R.move rfl rfl) rfl rfl rfl ?_
                refine KD.op (R.move rfl rfl) rfl rfl rfl ?_
                refine KD.op (R.move rfl rfl) rfl rfl rfl ?_
                refine KD.skip rfl rfl rfl ?_
                refine KD.skip rfl rfl rfl ?_
                refine KD.skip rfl rfl rfl ?_
                refine KD.skip rfl rfl rfl ?_
                refine KD.skip rfl rfl rfl ?_
                refine KD.skip rfl rfl rfl ?_
                refine KD.skip rfl rfl rfl ?_
                refine KD.skip rfl rfl rfl ?_
                refine KD.skip rfl rfl rfl ?_
                refine KD.skip rfl rfl rfl ?_
                refine KD.op (R.pick rfl rfl rfl) rfl rfl rfl ?_
                refine KD.op (R.pick rfl rfl rfl) rfl rfl rfl ?_
                refine KD.nil ?_
                refine KQ.seq ?_
                refine KC.condF rfl ?_
                refine KC.skip ?_
                refine KQ.normBlock ?_
                refine KQ.seq ?_
                refine KC.region ?_
                refine KL.op (R.add rfl rfl rfl (by dsimp only [InR]; omega)) rfl rfl rfl ?_
                refine KL.op (R.move rfl rfl) rfl rfl rfl ?_
                refine KL.nil ?_
                refine KQ.again (k + 1) ?_ ?_ ?_
                · exact (Sub.cons rfl (Ext.sub (by repeat (first | exact Ext.refl _ _ | refine Ext.put rfl ?_ | refine Ext.drop rfl ?_))))
                · omega
                · exact ⟨by omega, rfl⟩
              · intro hc88
                try simp only [decide_eq_true_eq, decide_eq_false_iff_not, Bool.not_eq_true', Bool.not_eq_false', Bool.and_eq_true, Bool.or_eq_false_iff] at hc88
                refine KC.exit ?_
                refine KQ.exitThen ?_
                refine KQ.exitThen ?_
                refine KQ.hit ?_
                refine KQ.seq ?_
                refine KC.seq ?_
                refine KC.seq ?_
                refine KC.region ?_
                refine KL.op (R.move rfl rfl) rfl rfl rfl ?_
                refine KL.op (R.not rfl rfl) rfl rfl rfl ?_
                refine KL.nil ?_
                refine KQ.seq ?_
                refine KC.condT rfl ?_
                refine KC.seq ?_
                refine KC.region ?_
                refine KL.call rfl rfl rfl rfl Try.call8 rfl rfl rfl (works_any) ?_
                rintro _ H19 ⟨rfl, ox⟩
                have o0 := o0.trans ox
                have hm := hm.old ox
                refine KL.op (R.assign rfl rfl) rfl rfl rfl ?_
                refine KL.nil ?_
                refine KQ.seq ?_
                refine KC.ret ?_
                refine KQ.retThen ?_
                refine KQ.ofRet ?_
                refine KQ.fin1 Try.results4 rfl ?_
                exact ⟨rfl, o0⟩

end Go.Proofs.Ytdefjpakpgchhaa
