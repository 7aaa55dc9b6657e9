/- The reader of an instruction. No condition. -/
import Derived.Test.YtnjodpgahbpiaaaInsA
namespace Go.Proofs.Ytnjodpgahbpiaaa
open Go Go.RowKit
set_option linter.unusedVariables false
set_option linter.unusedSimpArgs false
set_option linter.unnecessarySimpa false

/-- an instruction as a value -/
def insV (x : Ins) (vl : Value) : Value := .agg [.int .u8 x.op, .int .u32 x.a, .int .u32 x.b, .int .i64 x.c, vl].toArray
theorem zU : InR .u32 0 := by decide
theorem zI : InR .i64 0 := by decide
def InsR (x : Ins) : Prop := InR .u8 x.op ∧ InR .u32 x.a ∧ InR .u32 x.b ∧ InR .i64 x.c
namespace Isp
section
variable {r r1 : List Int} {op e : Int} {k : Nat} {x : Rest}
theorem ins_err (hd : r = op :: r1) (h1 : Opc.float op = false) (h2 : Opc.known op = true) (h : bodyP (Opc.form op) r1 = .error e) : insP r = .error e := by
  subst hd; simp [insP, h1, h2, h]
theorem ins_ok (hd : r = op :: r1) (h1 : Opc.float op = false) (h2 : Opc.known op = true) (h : bodyP (Opc.form op) r1 = .ok (x, k)) : insP r = .ok (mk op x, 1 + k) := by
  subst hd; simp [insP, h1, h2, h]
theorem labs_e1 (h : u32P r = .error e) : labsP r = .error e := by simp [labsP, mapP, bindP, h]
theorem labs_e2 {n : Int} {k1 : Nat} (h1 : u32P r = .ok (n, k1)) (h : manyP u32P n.toNat (r.drop k1) = .error e) : labsP r = .error e := by simp [labsP, mapP, bindP, h1, h]
theorem labs_e3 {n : Int} {k1 k2 : Nat} {ls : List Int} (h1 : u32P r = .ok (n, k1)) (h2 : manyP u32P n.toNat (r.drop k1) = .ok (ls, k2)) (h : u32P (r.drop (k1 + k2)) = .error e) : labsP r = .error e := by simp [labsP, mapP, bindP, h1, h2, h]
theorem labs_ok {n a : Int} {k1 k2 k3 : Nat} {ls : List Int} (h1 : u32P r = .ok (n, k1)) (h2 : manyP u32P n.toNat (r.drop k1) = .ok (ls, k2)) (h : u32P (r.drop (k1 + k2)) = .ok (a, k3)) : labsP r = .ok ((ls, a), k1 + k2 + k3) := by simp [labsP, mapP, bindP, h1, h2, h]
theorem many_len {p : Prs Int} : ∀ (n : Nat) (r : List Int) (ls : List Int) (k : Nat), manyP p n r = .ok (ls, k) → ls.length = n
  | 0, r, ls, k, h => by simp only [manyP] at h; injection h with h; injection h with h1 h2; subst h1; rfl
  | n + 1, r, ls, k, h => by
    simp only [manyP, mapP, bindP] at h
    split at h
    · cases h
    · next z kz hz =>
      injection h with h
      injection h with h1 h2
      subst h1
      split at hz
      · cases hz
      · split at hz
        · cases hz
        · next y m hy =>
          injection hz with hz
          injection hz with h3 h4
          subst h3
          simp only [List.length_cons]
          rw [many_len n _ _ _ hy]
end
end Isp
theorem RD.frame {H H' : Heap} {g i : Nat} {v : Value} {l : List Int} (h : RD H g v l i) : g < H.size := h.lt

theorem b24 {f e : Int} {r : List Int} (hf : f = 2 ∨ f = 4) (h : Isp.u32P r = .error e) : Isp.bodyP f r = .error e := by rcases hf with rfl | rfl <;> simp [Isp.bodyP, Isp.mapP, h]
theorem b24o {f a : Int} {k : Nat} {r : List Int} (hf : f = 2 ∨ f = 4) (h : Isp.u32P r = .ok (a, k)) : Isp.bodyP f r = .ok ((a, 0, 0, []), k) := by rcases hf with rfl | rfl <;> simp [Isp.bodyP, Isp.mapP, h]

set_option maxRecDepth 100000 in
set_option maxHeartbeats 4000000 in
theorem instr_any {H : Heap} {g : Nat} {v : Value} {l : List Int} {i : Nat} (rd : RD H g v l i) : CtX Try.prog 27 [.pointer (some ⟨g, 0, none⟩)] H (fun u H' => ∃ x k, Isp.insP (l.drop i) = .ok (x, k) ∧ (∃ vl, u = insV x vl ∧ Own 1 (EInt .u32) 33 #[] H.size H' vl x.l) ∧ InsR x ∧ RD H' g v l (i + k) ∧ Fr g (.slice none 0 0) H H') (fun p H' => ∃ e, Isp.insP (l.drop i) = .error e ∧ p = failV e ∧ Fr g (.slice none 0 0) H H') := by
  refine CtX.mk Try.func27 rfl Try.ntmps27 rfl ?_
  intro W0 hW0
  have o0 : OldB 0 H H := OldB.refl _ H
  have hle := rd.le
  have hlt := rd.lt
  have fr : Fr g (.slice none 0 0) H H := Fr.refl _ _ _
  refine KC.seq ?_
  refine KC.region ?_
  refine KL.opM (M.alloc rfl zr36 rfl) rfl rfl rfl ?_
  rintro _ H1 ⟨rfl, n1⟩
  have z1 := n1.2.1
  have o0 := o0.trans ((n1.1).b (by omega))
  have rd := rd.old n1.1
  have fr := fr.old n1.1
  have b1 := n1.2.2
  have b2 := b1
  refine KL.nil ?_
  refine KQ.seq ?_
  refine KC.seq ?_
  refine KC.region ?_
  refine KL.op (R.move rfl rfl) rfl rfl rfl ?_
  refine KL.callX rfl rfl rfl rfl Try.call40 rfl rfl rfl (byte_any rd) ?_ ?_
  · rintro vx H2 ⟨hx1, hx2, hx3⟩
    refine KQ.panThen ?_
    exact KQ.pan (⟨_, by rw [show l.drop i = [] from by
          cases hq : l.drop i with
          | nil => rfl
          | cons y r => rw [hq] at hx1; cases hx1]; rfl, hx2, fr.thenN hx3⟩)
  rintro _ H3 ⟨x0, hp0, rfl, hx0, rd2, f1⟩
  have zf_H3 := f1.1
  have o0 := o0.trans (f1.low (Nat.zero_le _) (Nat.zero_le _))
  have fr := fr.thenN f1
  have b2 := f1.at_ b2 (by omega)
  have rd := rd2
  have zrd := rd.lt
  have hd0 : l.drop i = x0 :: l.drop (i + 1) := by
    have hlt : i < l.length := by have := rd.le; omega
    rw [drop_getD hlt] at hp0 ⊢
    injection hp0 with hp0; injection hp0 with hp0; rw [hp0]
  dsimp only [InR] at hx0
  refine KL.op (R.buildL rfl Try.underlying36 zr36 [(0, 1), (1, 1), (2, 1), (3, 1), (4, 1)] (fun w => by kernel_rfl) rfl ⟨⟨_, rfl, rfl⟩, trivial⟩ rfl rfl ⟨⟨_, rfl, by first | rfl⟩, trivial⟩ rfl) rfl rfl rfl ?_
  refine KL.opM (M.alloc rfl zr36 rfl) rfl rfl rfl ?_
  rintro _ H4 ⟨rfl, n4⟩
  have z4 := n4.2.1
  have o0 := o0.trans ((n4.1).b (by omega))
  have fr := fr.old n4.1
  have b2 := (n4.1).blk b2
  have rd := rd.old n4.1
  have b4 := n4.2.2
  have b3 := b4
  refine KL.opS (S.storeAgg rfl sz36 rfl rfl (rfl) (by simp [Value.oneCell']) b3 (by simp)) rfl rfl ?_
  rintro H5 ⟨u5, b5⟩
  have o0 := o0.trans (OldB.upd u5 (by omega))
  have zu5 := u5.1
  have fr := (by first | exact fr.upd u5 | exact fr.updN u5 (by omega))
  have b2 := ((u5).2 _ (by omega)).trans b2
  have rd := rd.updT u5 (by omega)
  have b3 := b5
  rw [over_all (by rfl)] at b3
  refine KL.nil ?_
  refine KQ.seq ?_
  refine KC.seq ?_
  refine KC.seq ?_
  refine KC.region ?_
  refine KL.op ((by first | exact R.fieldAddr rfl Try.underlying36 rfl rfl sz5 rfl | exact R.fieldAddrP rfl Try.underlying36 rfl rfl sz5 rfl)) rfl rfl rfl ?_
  refine KL.op (R.load rfl Try.underlying5 rfl rfl (by first | exact cell_of b2 rfl | exact cell_of b3 rfl | assumption)) rfl rfl rfl ?_
  refine KL.call rfl rfl rfl rfl Try.call41 rfl rfl rfl (Float_k _) ?_
  rintro _ _ ⟨rfl, rfl⟩
  refine KL.nil ?_
  refine KQ.seq ?_
  refine KC.iteL rfl ?_ ?_
  · intro hc10
    try simp only [decide_eq_true_eq, decide_eq_false_iff_not, Bool.not_eq_true', Bool.not_eq_false', Bool.and_eq_true, Bool.or_eq_false_iff] at hc10
    refine KC.region ?_
    refine KL.op (R.buildL rfl Try.underlying77 zr77 [(0, 1)] (fun w => by kernel_rfl) rfl ⟨⟨_, rfl, rfl⟩, trivial⟩ rfl rfl ⟨⟨_, rfl, by first | rfl⟩, trivial⟩ rfl) rfl rfl rfl ?_
    refine KL.op (R.makeIface rfl Try.underlying77 rfl rfl) rfl rfl rfl ?_
    refine KL.panic rfl rfl rfl ?_
    refine KQ.panThen ?_
    exact KQ.pan (⟨61, by rw [hd0]; simp [Isp.insP, show Opc.float x0 = true by simpa using hc10], rfl, fr⟩)
  · intro hc10
    try simp only [decide_eq_true_eq, decide_eq_false_iff_not, Bool.not_eq_true', Bool.not_eq_false', Bool.and_eq_true, Bool.or_eq_false_iff] at hc10
    have hfl : Opc.float x0 = false := by simpa using hc10
    refine KC.skip ?_
    refine KQ.seq ?_
    refine KC.seq ?_
    refine KC.seq ?_
    refine KC.region ?_
    refine KL.op ((by first | exact R.fieldAddr rfl Try.underlying36 rfl rfl sz5 rfl | exact R.fieldAddrP rfl Try.underlying36 rfl rfl sz5 rfl)) rfl rfl rfl ?_
    refine KL.op (R.load rfl Try.underlying5 rfl rfl (by first | exact cell_of b2 rfl | exact cell_of b3 rfl | assumption)) rfl rfl rfl ?_
    refine KL.call rfl rfl rfl rfl Try.call28 rfl rfl rfl (Known_k _) ?_
    rintro _ _ ⟨rfl, rfl⟩
    refine KL.op (R.not rfl rfl) rfl rfl rfl ?_
    refine KL.nil ?_
    refine KQ.seq ?_
    refine KC.iteL rfl ?_ ?_
    · intro hc16
      try simp only [decide_eq_true_eq, decide_eq_false_iff_not, Bool.not_eq_true', Bool.not_eq_false', Bool.and_eq_true, Bool.or_eq_false_iff] at hc16
      refine KC.region ?_
      refine KL.op (R.buildL rfl Try.underlying77 zr77 [(0, 1)] (fun w => by kernel_rfl) rfl ⟨⟨_, rfl, rfl⟩, trivial⟩ rfl rfl ⟨⟨_, rfl, by first | rfl⟩, trivial⟩ rfl) rfl rfl rfl ?_
      refine KL.op (R.makeIface rfl Try.underlying77 rfl rfl) rfl rfl rfl ?_
      refine KL.panic rfl rfl rfl ?_
      refine KQ.panThen ?_
      exact KQ.pan (⟨60, by rw [hd0]; simp [Isp.insP, hfl, show Opc.known x0 = false by simpa using hc16], rfl, fr⟩)
    · intro hc16
      try simp only [decide_eq_true_eq, decide_eq_false_iff_not, Bool.not_eq_true', Bool.not_eq_false', Bool.and_eq_true, Bool.or_eq_false_iff] at hc16
      have hkn : Opc.known x0 = true := by simpa using hc16
      refine KC.skip ?_
      refine KQ.seq ?_
      refine KC.seq ?_
      refine KC.seq ?_
      refine KC.region ?_
      refine KL.op ((by first | exact R.fieldAddr rfl Try.underlying36 rfl rfl sz5 rfl | exact R.fieldAddrP rfl Try.underlying36 rfl rfl sz5 rfl)) rfl rfl rfl ?_
      refine KL.op (R.load rfl Try.underlying5 rfl rfl (by first | exact cell_of b2 rfl | exact cell_of b3 rfl | assumption)) rfl rfl rfl ?_
      refine KL.call rfl rfl rfl rfl Try.call29 rfl rfl rfl (Form_k _) ?_
      rintro _ _ ⟨rfl, rfl⟩
      refine KL.nil ?_
      refine KQ.seq ?_
      refine KC.block ?_
      refine KC.seq ?_
      refine KC.region ?_
      refine KL.op (R.eql rfl rfl rfl) rfl rfl rfl ?_
      refine KL.op (R.assign rfl rfl) rfl rfl rfl ?_
      refine KL.nil ?_
      refine KQ.seq ?_
      refine KC.iteL rfl ?_ ?_
      · intro hc22
        try simp only [decide_eq_true_eq, decide_eq_false_iff_not, Bool.not_eq_true', Bool.not_eq_false', Bool.and_eq_true, Bool.or_eq_false_iff] at hc22
        refine KC.region ?_
        refine KL.op (R.move rfl rfl) rfl rfl rfl ?_
        refine KL.callX rfl rfl rfl rfl Try.call42 rfl rfl rfl (block_any rd) ?_ ?_
        · rintro vx H6 ⟨ex, hx1, hx2, hx3⟩
          refine KQ.panBlock ?_
          refine KQ.panThen ?_
          exact KQ.pan (⟨_, Isp.ins_err hd0 hfl hkn (by simp [Isp.bodyP, Isp.mapP, Isp.bindP, hc22, hx1]), hx2, fr.thenN hx3⟩)
        rintro _ H7 ⟨a1, hp1, rfl, ha1, rd2, f1⟩
        have zf_H7 := f1.1
        have o0 := o0.trans (f1.low (Nat.zero_le _) (Nat.zero_le _))
        have fr := fr.thenN f1
        have b2 := f1.at_ b2 (by omega)
        have b3 := f1.at_ b3 (by omega)
        have rd := rd2
        have zrd := rd.lt
        dsimp only [InR] at ha1
        refine KL.op (R.convI rfl Try.underlying5 Try.underlying33 rfl (by dsimp only [InR]; omega)) rfl rfl rfl ?_
        refine KL.op ((by first | exact R.fieldAddr rfl Try.underlying36 rfl rfl sz33 rfl | exact R.fieldAddrP rfl Try.underlying36 rfl rfl sz33 rfl)) rfl rfl rfl ?_
        refine KL.opS (S.store rfl sz33 rfl rfl rfl rfl b3 (by simp)) rfl rfl ?_
        rintro H8 ⟨u8, b8⟩
        have o0 := o0.trans (OldB.upd u8 (by omega))
        have zu8 := u8.1
        have fr := (by first | exact fr.upd u8 | exact fr.updN u8 (by omega))
        have b2 := ((u8).2 _ (by omega)).trans b2
        have rd := rd.updT u8 (by omega)
        have b3 := b8
        refine KL.nil ?_
        refine KQ.normBlock ?_
        refine KQ.seq ?_
        refine KC.seq ?_
        have wl : Own 1 (EInt .u32) 33 #[] H.size H8 (.slice none 0 0) [] := Own.nil _ _ _ _ _ _
        refine KC.region ?_
        refine KL.op (R.loadAgg rfl Try.underlying36 rfl sz36 rfl (by first | exact cells_of b2 | exact cells_of b3 | assumption) rfl) rfl rfl rfl ?_
        refine KL.opS (S.storeAgg rfl sz36 rfl rfl (rfl) (by intro u hu; simp only [List.set_cons_succ, List.set_cons_zero, List.mem_cons, List.not_mem_nil, or_false] at hu; rcases hu with rfl | rfl | rfl | rfl | rfl <;> first | rfl | exact wl.one) b2 (by simp)) rfl rfl ?_
        rintro H9 ⟨u9, b9⟩
        have o0 := o0.trans (OldB.upd u9 (by omega))
        have zu9 := u9.1
        have fr := (by first | exact fr.upd u9 | exact fr.updN u9 (by omega))
        have b3 := ((u9).2 _ (by omega)).trans b3
        have rd := rd.updT u9 (by omega)
        have wl := wl.upd u9 (by first | exact .inl rfl | exact .inr (by omega) | exact wl.lt.imp id (fun h => by omega))
        have b2 := b9
        rw [over_all (by rfl)] at b2
        refine KL.nil ?_
        refine KQ.seq ?_
        refine KC.ret ?_
        refine KQ.ofRetX ?_
        refine KQ.toX ?_
        refine KQ.finCell Try.results27 rfl Try.underlying36 rfl sz36 (cells_of b2) (rfl) ?_
        exact ⟨Isp.mk x0 (a1, 0, 0, []), 1 + 1, Isp.ins_ok hd0 hfl hkn (by simp [Isp.bodyP, Isp.mapP, Isp.bindP, hc22, hp1]), ⟨_, rfl, wl⟩, ⟨hx0, by dsimp only [InR, Isp.mk]; omega, zU, zI⟩, by rw [show i + (1 + 1) = i + 1 + 1 by omega]; exact rd, fr⟩
      · intro hc22
        try simp only [decide_eq_true_eq, decide_eq_false_iff_not, Bool.not_eq_true', Bool.not_eq_false', Bool.and_eq_true, Bool.or_eq_false_iff] at hc22
        refine KC.seq ?_
        refine KC.seq ?_
        refine KC.region ?_
        refine KL.op (R.eql rfl rfl rfl) rfl rfl rfl ?_
        refine KL.op (R.assign rfl rfl) rfl rfl rfl ?_
        refine KL.nil ?_
        refine KQ.seq ?_
        refine KC.iteL rfl ?_ ?_
        · intro hc28a
          try simp only [decide_eq_true_eq, decide_eq_false_iff_not, Bool.not_eq_true', Bool.not_eq_false', Bool.and_eq_true, Bool.or_eq_false_iff] at hc28a
          refine KC.skip ?_
          refine KQ.seq ?_
          refine KC.condT rfl ?_
          refine KC.region ?_
          refine KL.op (R.move rfl rfl) rfl rfl rfl ?_
          refine KL.callX rfl rfl rfl rfl Try.call43 rfl rfl rfl (u32_any rd) ?_ ?_
          · rintro vx H10 ⟨hx1, hx2, hx3⟩
            refine KQ.panBlock ?_
            refine KQ.panThen ?_
            exact KQ.pan (⟨_, Isp.ins_err hd0 hfl hkn (b24 (by first | exact .inl hc28a | exact .inr hc28b) hx1), hx2, fr.thenN hx3⟩)
          rintro _ H11 ⟨a1, k1, hp1, rfl, ha1, rd2, f1⟩
          have zf_H11 := f1.1
          have o0 := o0.trans (f1.low (Nat.zero_le _) (Nat.zero_le _))
          have fr := fr.thenN f1
          have b2 := f1.at_ b2 (by omega)
          have b3 := f1.at_ b3 (by omega)
          have rd := rd2
          have zrd := rd.lt
          refine KL.op ((by first | exact R.fieldAddr rfl Try.underlying36 rfl rfl sz33 rfl | exact R.fieldAddrP rfl Try.underlying36 rfl rfl sz33 rfl)) rfl rfl rfl ?_
          refine KL.opS (S.store rfl sz33 rfl rfl rfl rfl b3 (by simp)) rfl rfl ?_
          rintro H12 ⟨u12, b12⟩
          have o0 := o0.trans (OldB.upd u12 (by omega))
          have zu12 := u12.1
          have fr := (by first | exact fr.upd u12 | exact fr.updN u12 (by omega))
          have b2 := ((u12).2 _ (by omega)).trans b2
          have rd := rd.updT u12 (by omega)
          have b3 := b12
          refine KL.nil ?_
          refine KQ.normBlock ?_
          refine KQ.seq ?_
          refine KC.seq ?_
          have wl : Own 1 (EInt .u32) 33 #[] H.size H12 (.slice none 0 0) [] := Own.nil _ _ _ _ _ _
          refine KC.region ?_
          refine KL.op (R.loadAgg rfl Try.underlying36 rfl sz36 rfl (by first | exact cells_of b2 | exact cells_of b3 | assumption) rfl) rfl rfl rfl ?_
          refine KL.opS (S.storeAgg rfl sz36 rfl rfl (rfl) (by intro u hu; simp only [List.set_cons_succ, List.set_cons_zero, List.mem_cons, List.not_mem_nil, or_false] at hu; rcases hu with rfl | rfl | rfl | rfl | rfl <;> first | rfl | exact wl.one) b2 (by simp)) rfl rfl ?_
          rintro H13 ⟨u13, b13⟩
          have o0 := o0.trans (OldB.upd u13 (by omega))
          have zu13 := u13.1
          have fr := (by first | exact fr.upd u13 | exact fr.updN u13 (by omega))
          have b3 := ((u13).2 _ (by omega)).trans b3
          have rd := rd.updT u13 (by omega)
          have wl := wl.upd u13 (by first | exact .inl rfl | exact .inr (by omega) | exact wl.lt.imp id (fun h => by omega))
          have b2 := b13
          rw [over_all (by rfl)] at b2
          refine KL.nil ?_
          refine KQ.seq ?_
          refine KC.ret ?_
          refine KQ.ofRetX ?_
          refine KQ.toX ?_
          refine KQ.finCell Try.results27 rfl Try.underlying36 rfl sz36 (cells_of b2) (rfl) ?_
          exact ⟨Isp.mk x0 (a1, 0, 0, []), 1 + k1, Isp.ins_ok hd0 hfl hkn (b24o (by first | exact .inl hc28a | exact .inr hc28b) hp1), ⟨_, rfl, wl⟩, ⟨hx0, by unfold Isp.okU at ha1; dsimp only [InR, Isp.mk]; omega, zU, zI⟩, by rw [show i + (1 + k1) = i + 1 + k1 by omega]; exact rd, fr⟩
        · intro hc28a
          try simp only [decide_eq_true_eq, decide_eq_false_iff_not, Bool.not_eq_true', Bool.not_eq_false', Bool.and_eq_true, Bool.or_eq_false_iff] at hc28a
          refine KC.region ?_
          refine KL.op (R.eql rfl rfl rfl) rfl rfl rfl ?_
          refine KL.op (R.assign rfl rfl) rfl rfl rfl ?_
          refine KL.nil ?_
          refine KQ.seq ?_
          refine KC.iteL rfl ?_ ?_
          · intro hc28b
            try simp only [decide_eq_true_eq, decide_eq_false_iff_not, Bool.not_eq_true', Bool.not_eq_false', Bool.and_eq_true, Bool.or_eq_false_iff] at hc28b
            refine KC.region ?_
            refine KL.op (R.move rfl rfl) rfl rfl rfl ?_
            refine KL.callX rfl rfl rfl rfl Try.call43 rfl rfl rfl (u32_any rd) ?_ ?_
            · rintro vx H14 ⟨hx1, hx2, hx3⟩
              refine KQ.panBlock ?_
              refine KQ.panThen ?_
              exact KQ.pan (⟨_, Isp.ins_err hd0 hfl hkn (b24 (by first | exact .inl hc28a | exact .inr hc28b) hx1), hx2, fr.thenN hx3⟩)
            rintro _ H15 ⟨a1, k1, hp1, rfl, ha1, rd2, f1⟩
            have zf_H15 := f1.1
            have o0 := o0.trans (f1.low (Nat.zero_le _) (Nat.zero_le _))
            have fr := fr.thenN f1
            have b2 := f1.at_ b2 (by omega)
            have b3 := f1.at_ b3 (by omega)
            have rd := rd2
            have zrd := rd.lt
            refine KL.op ((by first | exact R.fieldAddr rfl Try.underlying36 rfl rfl sz33 rfl | exact R.fieldAddrP rfl Try.underlying36 rfl rfl sz33 rfl)) rfl rfl rfl ?_
            refine KL.opS (S.store rfl sz33 rfl rfl rfl rfl b3 (by simp)) rfl rfl ?_
            rintro H16 ⟨u16, b16⟩
            have o0 := o0.trans (OldB.upd u16 (by omega))
            have zu16 := u16.1
            have fr := (by first | exact fr.upd u16 | exact fr.updN u16 (by omega))
            have b2 := ((u16).2 _ (by omega)).trans b2
            have rd := rd.updT u16 (by omega)
            have b3 := b16
            refine KL.nil ?_
            refine KQ.normBlock ?_
            refine KQ.seq ?_
            refine KC.seq ?_
            have wl : Own 1 (EInt .u32) 33 #[] H.size H16 (.slice none 0 0) [] := Own.nil _ _ _ _ _ _
            refine KC.region ?_
            refine KL.op (R.loadAgg rfl Try.underlying36 rfl sz36 rfl (by first | exact cells_of b2 | exact cells_of b3 | assumption) rfl) rfl rfl rfl ?_
            refine KL.opS (S.storeAgg rfl sz36 rfl rfl (rfl) (by intro u hu; simp only [List.set_cons_succ, List.set_cons_zero, List.mem_cons, List.not_mem_nil, or_false] at hu; rcases hu with rfl | rfl | rfl | rfl | rfl <;> first | rfl | exact wl.one) b2 (by simp)) rfl rfl ?_
            rintro H17 ⟨u17, b17⟩
            have o0 := o0.trans (OldB.upd u17 (by omega))
            have zu17 := u17.1
            have fr := (by first | exact fr.upd u17 | exact fr.updN u17 (by omega))
            have b3 := ((u17).2 _ (by omega)).trans b3
            have rd := rd.updT u17 (by omega)
            have wl := wl.upd u17 (by first | exact .inl rfl | exact .inr (by omega) | exact wl.lt.imp id (fun h => by omega))
            have b2 := b17
            rw [over_all (by rfl)] at b2
            refine KL.nil ?_
            refine KQ.seq ?_
            refine KC.ret ?_
            refine KQ.ofRetX ?_
            refine KQ.toX ?_
            refine KQ.finCell Try.results27 rfl Try.underlying36 rfl sz36 (cells_of b2) (rfl) ?_
            exact ⟨Isp.mk x0 (a1, 0, 0, []), 1 + k1, Isp.ins_ok hd0 hfl hkn (b24o (by first | exact .inl hc28a | exact .inr hc28b) hp1), ⟨_, rfl, wl⟩, ⟨hx0, by unfold Isp.okU at ha1; dsimp only [InR, Isp.mk]; omega, zU, zI⟩, by rw [show i + (1 + k1) = i + 1 + k1 by omega]; exact rd, fr⟩
          · intro hc28b
            try simp only [decide_eq_true_eq, decide_eq_false_iff_not, Bool.not_eq_true', Bool.not_eq_false', Bool.and_eq_true, Bool.or_eq_false_iff] at hc28b
            refine KC.seq ?_
            refine KC.region ?_
            refine KL.op (R.eql rfl rfl rfl) rfl rfl rfl ?_
            refine KL.op (R.assign rfl rfl) rfl rfl rfl ?_
            refine KL.nil ?_
            refine KQ.seq ?_
            refine KC.iteL rfl ?_ ?_
            · intro hc34
              try simp only [decide_eq_true_eq, decide_eq_false_iff_not, Bool.not_eq_true', Bool.not_eq_false', Bool.and_eq_true, Bool.or_eq_false_iff] at hc34
              refine KC.seq ?_
              refine KC.seq ?_
              refine KC.region ?_
              refine KL.op (R.move rfl rfl) rfl rfl rfl ?_
              refine KL.callX rfl rfl rfl rfl Try.call43 rfl rfl rfl (u32_any rd) ?_ ?_
              · rintro vx H18 ⟨hx1, hx2, hx3⟩
                refine KQ.panThen ?_
                refine KQ.panThen ?_
                refine KQ.panBlock ?_
                refine KQ.panThen ?_
                exact KQ.pan (⟨_, Isp.ins_err hd0 hfl hkn (by rw [hc34]; simp [Isp.bodyP, Isp.mapP, Isp.labs_e1 hx1]), hx2, fr.thenN hx3⟩)
              rintro _ H19 ⟨n, k1, hp1, rfl, hn, rd2, f1⟩
              have zf_H19 := f1.1
              have o0 := o0.trans (f1.low (Nat.zero_le _) (Nat.zero_le _))
              have fr := fr.thenN f1
              have b2 := f1.at_ b2 (by omega)
              have b3 := f1.at_ b3 (by omega)
              have rd := rd2
              have zrd := rd.lt
              refine KL.op (R.assign rfl rfl) rfl rfl rfl ?_
              refine KL.nil ?_
              refine KQ.seq ?_
              refine KC.block ?_
              refine KC.loopD (κ := Nat × List Int × Nat × Value) [38, 39, 42, 43, 44, 45, 46, 47, 48, 40, 41, 4] (fun k => [(4, .int .u32 (k.1 : Nat))]) (fun k Hl => RD Hl g v l (i + 1 + k1 + k.2.2.1) ∧ Hl[Array.size H3]? = some (.cells [.int .u8 x0, .int .u32 0, .int .u32 0, .int .i64 0, k.2.2.2].toArray 36 (0, 0)) ∧ Hl[Array.size H]? = some (.cells [.int .u8 0, .int .u32 0, .int .u32 0, .int .i64 0, .slice none 0 0].toArray 36 (0, 0)) ∧ Own 1 (EInt .u32) 33 #[] (Array.size H19) Hl k.2.2.2 k.2.1 ∧ Isp.Pre Isp.u32P n.toNat (l.drop (i + 1 + k1)) k.1 k.2.1 k.2.2.1 ∧ Fr g (.slice none 0 0) H Hl ∧ k.2.1.length + k.1 = n.toNat ∧ Array.size H19 ≤ Hl.size) (fun k => k.1) (n.toNat, [], 0, .slice none 0 0) ?_ ?_ ?_
              · exact (Sub.cons (congrArg (fun z => some (Value.int .u32 z)) (show n = ((n.toNat : Nat) : Int) by unfold Isp.okU at hn; omega)) (Ext.sub (Ext.refl _ _)))
              · exact ⟨by simpa using rd, b3, b2, Own.nil _ _ _ _ _ _, Isp.Pre.start _ _ _, fr, by simp, Nat.le_refl _⟩
              · rintro ⟨m, ls, kk, vl⟩ H20 ⟨rd, b3, b2, wl, hpre, fr, hlen, hsz⟩
                dsimp only at rd b3 b2 wl hpre hlen
                have zrd := rd.lt
                have o0 : OldB 0 H H20 := fr.low (Nat.zero_le _) (Nat.zero_le _)
                have zfr := fr.1
                have hn2 := hn
                unfold Isp.okU at hn2
                refine KC.seq ?_
                refine KC.seq ?_
                refine KC.region ?_
                refine KL.op (R.move rfl rfl) rfl rfl rfl ?_
                refine KL.op (R.gtr rfl rfl rfl) rfl rfl rfl ?_
                refine KL.nil ?_
                refine KQ.seq ?_
                refine KC.iteL rfl ?_ ?_
                · intro hc39
                  try simp only [decide_eq_true_eq, decide_eq_false_iff_not, Bool.not_eq_true', Bool.not_eq_false', Bool.and_eq_true, Bool.or_eq_false_iff] at hc39
                  refine KC.skip ?_
                  refine KQ.seq ?_
                  refine KC.seq ?_
                  refine KC.block ?_
                  refine KC.order [0, 1, 2, 3, 4, 5, 6, 7] (clOf [(3, 3), (4, 2), (5, 2), (7, 2)]) (fun j Hc => j = 1 → Hc[Array.size H3]? = some (.cells [.int .u8 x0, .int .u32 0, .int .u32 0, .int .i64 0, vl].toArray 36 (0, 0))) (fun p H' => ∃ e, Isp.insP (l.drop i) = .error e ∧ p = failV e ∧ Fr g (.slice none 0 0) H H') (by kernel_rfl) (by kernel_rfl) (by kernel_rfl) rfl (fun _ _ => b3) (fun vx Hx hx => KQ.panBlock (KQ.panThen (KQ.panThen (KQ.panBlock (KQ.panThen (KQ.panBlock (KQ.panThen (KQ.pan hx)))))))) ?_
                  refine KO.op rfl rfl (fun Hg hg => (by first | exact R.fieldAddr rfl Try.underlying36 rfl rfl sz34 rfl | exact R.fieldAddrP rfl Try.underlying36 rfl rfl sz34 rfl)) rfl rfl rfl ?_
                  refine KO.op rfl rfl (fun Hg hg => R.load rfl Try.underlying34 rfl rfl (cell_of (hg rfl) rfl)) rfl rfl rfl ?_
                  refine KO.op rfl rfl (fun Hg hg => R.move rfl rfl) rfl rfl rfl ?_
                  refine KO.callX rfl rfl rfl rfl rfl rfl Try.call43 rfl rfl rfl ((u32_any rd).mono (fun _ _ h => h) (fun vx Hx ⟨hx1, hx2, hx3⟩ => ⟨_, Isp.ins_err hd0 hfl hkn (by
                      rw [hc34]
                      have hm1 : m = (m - 1) + 1 := by omega
                      rw [hm1] at hpre
                      simp [Isp.bodyP, Isp.mapP, Isp.labs_e2 hp1 (by rw [List.drop_drop]; exact hpre.fail (by rw [List.drop_drop]; exact hx1))]), hx2, fr.thenN hx3⟩)) (fun _ _ hR j _ _ _ => by obtain ⟨x, k, _, _, _, _, f⟩ := hR; exact f.at_ b3 (by omega)) ?_
                  rintro _ H21 ⟨a2, k2, hp2, rfl, ha2, rd2, f1⟩
                  have zf_H21 := f1.1
                  have o0 := o0.trans (f1.low (Nat.zero_le _) (Nat.zero_le _))
                  have b3 := f1.at_ b3 (by omega)
                  have b2 := f1.at_ b2 (by omega)
                  have wl := wl.frK f1 (by omega)
                  have fr := fr.thenN f1
                  have rd := rd2
                  have zrd := rd.lt
                  refine KO.opM rfl rfl (M.lit rfl Try.underlying34 zs33 (by decide) rfl rfl rfl) rfl rfl rfl (fun _ _ hR j _ _ _ => hR.2.1.blk b3) ?_
                  rintro _ H22 ⟨rfl, n22⟩
                  have z22 := n22.2.1
                  have o0 := o0.trans ((n22.1).b (by omega))
                  have b3 := (n22.1).blk b3
                  have b2 := (n22.1).blk b2
                  have wl := wl.old n22.1
                  have fr := fr.old n22.1
                  have rd := rd.old n22.1
                  have b22 := n22.2.2
                  have h1 : Sl 1 (EInt .u32) H22 _ [a2] := Sl.lits (l := [a2]) n22 rfl (by simp) (by intro y hy; simp only [List.mem_cons, List.not_mem_nil, or_false] at hy; subst hy; unfold Isp.okU at ha2; dsimp only [InR]; omega)
                  have lt23 := wl.lt
                  refine KO.opM rfl rfl (M.append rfl Try.underlying34 inf33 rfl (by decide) rfl rfl wl (by exact h1) (fun _ _ h _ => h) (by omega) (by simp; omega) (by unfold maxLen; simp; omega)) rfl rfl rfl (fun _ _ hR j _ _ _ => (hR.2.2 _ (blk_lt b3) (wl.lt.imp id (fun h => by omega))).trans b3) ?_
                  rintro vn H23 ⟨w23, g23⟩
                  try dsimp only at g23
                  have ob23 := g23.oldB wl (by omega)
                  have o0 := o0.trans (ob23.mono (by omega))
                  have z23 := ob23.1
                  have b3 := (g23.2 _ (blk_lt b3) (by first | exact .inr (by omega) | exact .inl rfl | exact lt23.imp id (fun h => by omega))).trans b3
                  have b2 := (g23.2 _ (blk_lt b2) (by first | exact .inr (by omega) | exact .inl rfl | exact lt23.imp id (fun h => by omega))).trans b2
                  have fr := (by first | exact fr.grownN g23 (lt23.imp id (fun h => by omega)) | exact fr.grown nx g23)
                  have rd := rd.grownT g23 (lt23.imp id (fun h => by omega))
                  have wl := w23
                  refine KO.op rfl rfl (fun Hg hg => (by first | exact R.fieldAddr rfl Try.underlying36 rfl rfl sz34 rfl | exact R.fieldAddrP rfl Try.underlying36 rfl rfl sz34 rfl)) rfl rfl rfl ?_
                  refine KO.opS rfl rfl (S.store rfl sz34 rfl rfl wl.cells1 wl.one b3 (by simp)) rfl rfl (fun _ hR j hj1 hj2 hj => by subst hj; exact absurd (by decide +kernel) hj2) ?_
                  rintro H24 ⟨u24, b24⟩
                  have o0 := o0.trans (OldB.upd u24 (by omega))
                  have zu24 := u24.1
                  have b2 := ((u24).2 _ (by omega)).trans b2
                  have wl := wl.upd u24 (by first | exact .inl rfl | exact .inr (by omega) | exact wl.lt.imp id (fun h => by omega))
                  have fr := (by first | exact fr.upd u24 | exact fr.updN u24 (by omega))
                  have rd := rd.updT u24 (by omega)
                  have b3 := b24
                  refine KO.nil ?_
                  refine KQ.normBlock ?_
                  refine KQ.seq ?_
                  refine KC.region ?_
                  refine KL.op (R.move rfl rfl) rfl rfl rfl ?_
                  refine KL.op ((R.sub rfl rfl rfl (by dsimp only [InR]; omega)).val (congrArg (Value.int .u32) (show (m : Int) - 1 = ((m - 1 : Nat) : Int) by omega))) rfl rfl rfl ?_
                  refine KL.op (R.assign rfl rfl) rfl rfl rfl ?_
                  refine KL.nil ?_
                  refine KQ.again ((m - 1, ls ++ [a2], kk + k2, vn)) ?_ ?_ ?_
                  · exact (Sub.cons rfl (Ext.sub (by repeat (first | exact Ext.refl _ _ | refine Ext.put rfl ?_ | refine Ext.drop rfl ?_))))
                  · show m - 1 < m; omega
                  · exact ⟨by rw [show i + 1 + k1 + (kk + k2) = i + 1 + k1 + kk + k2 by omega]; exact rd, b3, b2, wl, by
                      dsimp only
                      have hm1 : m = (m - 1) + 1 := by omega
                      rw [hm1] at hpre
                      exact hpre.step (by rw [List.drop_drop]; exact hp2), fr, by simp only [List.length_append, List.length_singleton]; omega, by omega⟩
                · intro hc39
                  try simp only [decide_eq_true_eq, decide_eq_false_iff_not, Bool.not_eq_true', Bool.not_eq_false', Bool.and_eq_true, Bool.or_eq_false_iff] at hc39
                  refine KC.exit ?_
                  refine KQ.exitThen ?_
                  refine KQ.exitThen ?_
                  refine KQ.hit ?_
                  refine KQ.seq ?_
                  refine KC.region ?_
                  refine KL.op (R.move rfl rfl) rfl rfl rfl ?_
                  have hm0 : m = 0 := by omega
                  subst hm0
                  have hmany := hpre.done
                  refine KL.callX rfl rfl rfl rfl Try.call43 rfl rfl rfl (u32_any rd) ?_ ?_
                  · rintro vx H25 ⟨hx1, hx2, hx3⟩
                    refine KQ.panBlock ?_
                    refine KQ.panThen ?_
                    exact KQ.pan (⟨_, Isp.ins_err hd0 hfl hkn (by rw [hc34]; simp [Isp.bodyP, Isp.mapP, Isp.labs_e3 hp1 (by rw [List.drop_drop]; exact hmany) (by rw [List.drop_drop, ← Nat.add_assoc]; exact hx1)]), hx2, fr.thenN hx3⟩)
                  rintro _ H26 ⟨a3, k3, hp3, rfl, ha3, rd2, f1⟩
                  have zf_H26 := f1.1
                  have o0 := o0.trans (f1.low (Nat.zero_le _) (Nat.zero_le _))
                  have b3 := f1.at_ b3 (by omega)
                  have b2 := f1.at_ b2 (by omega)
                  have wl := wl.frK f1 (by omega)
                  have fr := fr.thenN f1
                  have rd := rd2
                  have zrd := rd.lt
                  refine KL.op ((by first | exact R.fieldAddr rfl Try.underlying36 rfl rfl sz33 rfl | exact R.fieldAddrP rfl Try.underlying36 rfl rfl sz33 rfl)) rfl rfl rfl ?_
                  refine KL.opS (S.store rfl sz33 rfl rfl rfl rfl b3 (by simp)) rfl rfl ?_
                  rintro H27 ⟨u27, b27⟩
                  have o0 := o0.trans (OldB.upd u27 (by omega))
                  have zu27 := u27.1
                  have b2 := ((u27).2 _ (by omega)).trans b2
                  have wl := wl.upd u27 (by first | exact .inl rfl | exact .inr (by omega) | exact wl.lt.imp id (fun h => by omega))
                  have fr := (by first | exact fr.upd u27 | exact fr.updN u27 (by omega))
                  have rd := rd.updT u27 (by omega)
                  have b3 := b27
                  refine KL.nil ?_
                  refine KQ.normBlock ?_
                  refine KQ.seq ?_
                  refine KC.seq ?_
                  refine KC.region ?_
                  refine KL.op (R.loadAgg rfl Try.underlying36 rfl sz36 rfl (by first | exact cells_of b3 | exact cells_of b2 | assumption) rfl) rfl rfl rfl ?_
                  refine KL.opS (S.storeAgg rfl sz36 rfl rfl (rfl) (by intro u hu; simp only [List.set_cons_succ, List.set_cons_zero, List.mem_cons, List.not_mem_nil, or_false] at hu; rcases hu with rfl | rfl | rfl | rfl | rfl <;> first | rfl | exact wl.one) b2 (by simp)) rfl rfl ?_
                  rintro H28 ⟨u28, b28⟩
                  have o0 := o0.trans (OldB.upd u28 (by omega))
                  have zu28 := u28.1
                  have b3 := ((u28).2 _ (by omega)).trans b3
                  have wl := wl.upd u28 (by first | exact .inl rfl | exact .inr (by omega) | exact wl.lt.imp id (fun h => by omega))
                  have fr := (by first | exact fr.upd u28 | exact fr.updN u28 (by omega))
                  have rd := rd.updT u28 (by omega)
                  have b2 := b28
                  rw [over_all (by rfl)] at b2
                  refine KL.nil ?_
                  refine KQ.seq ?_
                  refine KC.ret ?_
                  refine KQ.ofRetX ?_
                  refine KQ.toX ?_
                  refine KQ.finCell Try.results27 rfl Try.underlying36 rfl sz36 (cells_of b2) (rfl) ?_
                  exact ⟨Isp.mk x0 (a3, 0, 0, ls), 1 + (k1 + kk + k3), Isp.ins_ok hd0 hfl hkn (by rw [hc34]; simp [Isp.bodyP, Isp.mapP, Isp.labs_ok hp1 (by rw [List.drop_drop]; exact hmany) (by rw [List.drop_drop, ← Nat.add_assoc]; exact hp3)]), ⟨_, rfl, wl.weak (by omega)⟩, ⟨hx0, by unfold Isp.okU at ha3; dsimp only [InR, Isp.mk]; omega, zU, zI⟩, by rw [show i + (1 + (k1 + kk + k3)) = i + 1 + k1 + kk + k3 by omega]; exact rd, fr⟩
            · intro hc34
              try simp only [decide_eq_true_eq, decide_eq_false_iff_not, Bool.not_eq_true', Bool.not_eq_false', Bool.and_eq_true, Bool.or_eq_false_iff] at hc34
              refine KC.seq ?_
              refine KC.region ?_
              refine KL.op (R.eql rfl rfl rfl) rfl rfl rfl ?_
              refine KL.op (R.assign rfl rfl) rfl rfl rfl ?_
              refine KL.nil ?_
              refine KQ.seq ?_
              refine KC.iteL rfl ?_ ?_
              · intro hc52
                try simp only [decide_eq_true_eq, decide_eq_false_iff_not, Bool.not_eq_true', Bool.not_eq_false', Bool.and_eq_true, Bool.or_eq_false_iff] at hc52
                refine KC.seq ?_
                refine KC.region ?_
                refine KL.op (R.move rfl rfl) rfl rfl rfl ?_
                refine KL.callX rfl rfl rfl rfl Try.call43 rfl rfl rfl (u32_any rd) ?_ ?_
                · rintro vx H29 ⟨hx1, hx2, hx3⟩
                  refine KQ.panThen ?_
                  refine KQ.panBlock ?_
                  refine KQ.panThen ?_
                  exact KQ.pan (⟨_, Isp.ins_err hd0 hfl hkn (by simp [Isp.bodyP, Isp.mapP, Isp.bindP, hc52, hx1]), hx2, fr.thenN hx3⟩)
                rintro _ H30 ⟨a1, k1, hp1, rfl, ha1, rd2, f1⟩
                have zf_H30 := f1.1
                have o0 := o0.trans (f1.low (Nat.zero_le _) (Nat.zero_le _))
                have fr := fr.thenN f1
                have b2 := f1.at_ b2 (by omega)
                have b3 := f1.at_ b3 (by omega)
                have rd := rd2
                have zrd := rd.lt
                refine KL.op ((by first | exact R.fieldAddr rfl Try.underlying36 rfl rfl sz33 rfl | exact R.fieldAddrP rfl Try.underlying36 rfl rfl sz33 rfl)) rfl rfl rfl ?_
                refine KL.opS (S.store rfl sz33 rfl rfl rfl rfl b3 (by simp)) rfl rfl ?_
                rintro H31 ⟨u31, b31⟩
                have o0 := o0.trans (OldB.upd u31 (by omega))
                have zu31 := u31.1
                have fr := (by first | exact fr.upd u31 | exact fr.updN u31 (by omega))
                have b2 := ((u31).2 _ (by omega)).trans b2
                have rd := rd.updT u31 (by omega)
                have b3 := b31
                refine KL.nil ?_
                refine KQ.seq ?_
                refine KC.region ?_
                refine KL.op (R.move rfl rfl) rfl rfl rfl ?_
                refine KL.callX rfl rfl rfl rfl Try.call44 rfl rfl rfl (zero_any rd) ?_ ?_
                · rintro vx H32 ⟨hx1, hx2, hx3⟩
                  refine KQ.panBlock ?_
                  refine KQ.panThen ?_
                  exact KQ.pan (⟨_, Isp.ins_err hd0 hfl hkn (by simp [Isp.bodyP, Isp.mapP, Isp.bindP, hc52, hp1, List.drop_drop, hx1]), hx2, fr.thenN hx3⟩)
                rintro _ H33 ⟨rfl, hp2, rd2, f1⟩
                have zf_H33 := f1.1
                have o0 := o0.trans (f1.low (Nat.zero_le _) (Nat.zero_le _))
                have fr := fr.thenN f1
                have b2 := f1.at_ b2 (by omega)
                have b3 := f1.at_ b3 (by omega)
                have rd := rd2
                have zrd := rd.lt
                refine KL.nil ?_
                refine KQ.normBlock ?_
                refine KQ.seq ?_
                refine KC.seq ?_
                have wl : Own 1 (EInt .u32) 33 #[] H.size H33 (.slice none 0 0) [] := Own.nil _ _ _ _ _ _
                refine KC.region ?_
                refine KL.op (R.loadAgg rfl Try.underlying36 rfl sz36 rfl (by first | exact cells_of b2 | exact cells_of b3 | assumption) rfl) rfl rfl rfl ?_
                refine KL.opS (S.storeAgg rfl sz36 rfl rfl (rfl) (by intro u hu; simp only [List.set_cons_succ, List.set_cons_zero, List.mem_cons, List.not_mem_nil, or_false] at hu; rcases hu with rfl | rfl | rfl | rfl | rfl <;> first | rfl | exact wl.one) b2 (by simp)) rfl rfl ?_
                rintro H34 ⟨u34, b34⟩
                have o0 := o0.trans (OldB.upd u34 (by omega))
                have zu34 := u34.1
                have fr := (by first | exact fr.upd u34 | exact fr.updN u34 (by omega))
                have b3 := ((u34).2 _ (by omega)).trans b3
                have rd := rd.updT u34 (by omega)
                have wl := wl.upd u34 (by first | exact .inl rfl | exact .inr (by omega) | exact wl.lt.imp id (fun h => by omega))
                have b2 := b34
                rw [over_all (by rfl)] at b2
                refine KL.nil ?_
                refine KQ.seq ?_
                refine KC.ret ?_
                refine KQ.ofRetX ?_
                refine KQ.toX ?_
                refine KQ.finCell Try.results27 rfl Try.underlying36 rfl sz36 (cells_of b2) (rfl) ?_
                exact ⟨Isp.mk x0 (a1, 0, 0, []), 1 + (k1 + 1), Isp.ins_ok hd0 hfl hkn (by simp [Isp.bodyP, Isp.mapP, Isp.bindP, hc52, hp1, List.drop_drop, hp2]), ⟨_, rfl, wl⟩, ⟨hx0, by unfold Isp.okU at ha1; dsimp only [InR, Isp.mk]; omega, zU, zI⟩, by rw [show i + (1 + (k1 + 1)) = i + 1 + k1 + 1 by omega]; exact rd, fr⟩
              · intro hc52
                try simp only [decide_eq_true_eq, decide_eq_false_iff_not, Bool.not_eq_true', Bool.not_eq_false', Bool.and_eq_true, Bool.or_eq_false_iff] at hc52
                refine KC.seq ?_
                refine KC.region ?_
                refine KL.op (R.eql rfl rfl rfl) rfl rfl rfl ?_
                refine KL.op (R.assign rfl rfl) rfl rfl rfl ?_
                refine KL.nil ?_
                refine KQ.seq ?_
                refine KC.iteL rfl ?_ ?_
                · intro hc59
                  try simp only [decide_eq_true_eq, decide_eq_false_iff_not, Bool.not_eq_true', Bool.not_eq_false', Bool.and_eq_true, Bool.or_eq_false_iff] at hc59
                  refine KC.region ?_
                  refine KL.op (R.move rfl rfl) rfl rfl rfl ?_
                  refine KL.callX rfl rfl rfl rfl Try.call43 rfl rfl rfl (u32_any rd) ?_ ?_
                  · rintro vx H35 ⟨hx1, hx2, hx3⟩
                    refine KQ.panBlock ?_
                    refine KQ.panThen ?_
                    exact KQ.pan (⟨_, Isp.ins_err hd0 hfl hkn (by simp [Isp.bodyP, Isp.mapP, Isp.bindP, hc59, hx1]), hx2, fr.thenN hx3⟩)
                  rintro _ H36 ⟨a1, k1, hp1, rfl, ha1, rd2, f1⟩
                  have zf_H36 := f1.1
                  have o0 := o0.trans (f1.low (Nat.zero_le _) (Nat.zero_le _))
                  have fr := fr.thenN f1
                  have b2 := f1.at_ b2 (by omega)
                  have b3 := f1.at_ b3 (by omega)
                  have rd := rd2
                  have zrd := rd.lt
                  refine KL.op (R.move rfl rfl) rfl rfl rfl ?_
                  refine KL.callX rfl rfl rfl rfl Try.call43 rfl rfl rfl (u32_any rd) ?_ ?_
                  · rintro vx H37 ⟨hx1, hx2, hx3⟩
                    refine KQ.panBlock ?_
                    refine KQ.panThen ?_
                    exact KQ.pan (⟨_, Isp.ins_err hd0 hfl hkn (by simp [Isp.bodyP, Isp.mapP, Isp.bindP, hc59, hp1, List.drop_drop, hx1]), hx2, fr.thenN hx3⟩)
                  rintro _ H38 ⟨a2, k2, hp2, rfl, ha2, rd2, f1⟩
                  have zf_H38 := f1.1
                  have o0 := o0.trans (f1.low (Nat.zero_le _) (Nat.zero_le _))
                  have fr := fr.thenN f1
                  have b2 := f1.at_ b2 (by omega)
                  have b3 := f1.at_ b3 (by omega)
                  have rd := rd2
                  have zrd := rd.lt
                  refine KL.op ((by first | exact R.fieldAddr rfl Try.underlying36 rfl rfl sz33 rfl | exact R.fieldAddrP rfl Try.underlying36 rfl rfl sz33 rfl)) rfl rfl rfl ?_
                  refine KL.opS (S.store rfl sz33 rfl rfl rfl rfl b3 (by simp)) rfl rfl ?_
                  rintro H39 ⟨u39, b39⟩
                  have o0 := o0.trans (OldB.upd u39 (by omega))
                  have zu39 := u39.1
                  have fr := (by first | exact fr.upd u39 | exact fr.updN u39 (by omega))
                  have b2 := ((u39).2 _ (by omega)).trans b2
                  have rd := rd.updT u39 (by omega)
                  have b3 := b39
                  refine KL.op ((by first | exact R.fieldAddr rfl Try.underlying36 rfl rfl sz33 rfl | exact R.fieldAddrP rfl Try.underlying36 rfl rfl sz33 rfl)) rfl rfl rfl ?_
                  refine KL.opS (S.store rfl sz33 rfl rfl rfl rfl b3 (by simp)) rfl rfl ?_
                  rintro H40 ⟨u40, b40⟩
                  have o0 := o0.trans (OldB.upd u40 (by omega))
                  have zu40 := u40.1
                  have fr := (by first | exact fr.upd u40 | exact fr.updN u40 (by omega))
                  have b2 := ((u40).2 _ (by omega)).trans b2
                  have rd := rd.updT u40 (by omega)
                  have b3 := b40
                  refine KL.nil ?_
                  refine KQ.normBlock ?_
                  refine KQ.seq ?_
                  refine KC.seq ?_
                  have wl : Own 1 (EInt .u32) 33 #[] H.size H40 (.slice none 0 0) [] := Own.nil _ _ _ _ _ _
                  refine KC.region ?_
                  refine KL.op (R.loadAgg rfl Try.underlying36 rfl sz36 rfl (by first | exact cells_of b2 | exact cells_of b3 | assumption) rfl) rfl rfl rfl ?_
                  refine KL.opS (S.storeAgg rfl sz36 rfl rfl (rfl) (by intro u hu; simp only [List.set_cons_succ, List.set_cons_zero, List.mem_cons, List.not_mem_nil, or_false] at hu; rcases hu with rfl | rfl | rfl | rfl | rfl <;> first | rfl | exact wl.one) b2 (by simp)) rfl rfl ?_
                  rintro H41 ⟨u41, b41⟩
                  have o0 := o0.trans (OldB.upd u41 (by omega))
                  have zu41 := u41.1
                  have fr := (by first | exact fr.upd u41 | exact fr.updN u41 (by omega))
                  have b3 := ((u41).2 _ (by omega)).trans b3
                  have rd := rd.updT u41 (by omega)
                  have wl := wl.upd u41 (by first | exact .inl rfl | exact .inr (by omega) | exact wl.lt.imp id (fun h => by omega))
                  have b2 := b41
                  rw [over_all (by rfl)] at b2
                  refine KL.nil ?_
                  refine KQ.seq ?_
                  refine KC.ret ?_
                  refine KQ.ofRetX ?_
                  refine KQ.toX ?_
                  refine KQ.finCell Try.results27 rfl Try.underlying36 rfl sz36 (cells_of b2) (rfl) ?_
                  exact ⟨Isp.mk x0 (a1, a2, 0, []), 1 + (k1 + k2), Isp.ins_ok hd0 hfl hkn (by simp [Isp.bodyP, Isp.mapP, Isp.bindP, hc59, hp1, List.drop_drop, hp2]), ⟨_, rfl, wl⟩, ⟨hx0, by unfold Isp.okU at ha1; dsimp only [InR, Isp.mk]; omega, by unfold Isp.okU at ha2; dsimp only [InR, Isp.mk]; omega, zI⟩, by rw [show i + (1 + (k1 + k2)) = i + 1 + k1 + k2 by omega]; exact rd, fr⟩
                · intro hc59
                  try simp only [decide_eq_true_eq, decide_eq_false_iff_not, Bool.not_eq_true', Bool.not_eq_false', Bool.and_eq_true, Bool.or_eq_false_iff] at hc59
                  refine KC.seq ?_
                  refine KC.region ?_
                  refine KL.op (R.eql rfl rfl rfl) rfl rfl rfl ?_
                  refine KL.op (R.assign rfl rfl) rfl rfl rfl ?_
                  refine KL.nil ?_
                  refine KQ.seq ?_
                  refine KC.iteL rfl ?_ ?_
                  · intro hc67
                    try simp only [decide_eq_true_eq, decide_eq_false_iff_not, Bool.not_eq_true', Bool.not_eq_false', Bool.and_eq_true, Bool.or_eq_false_iff] at hc67
                    refine KC.region ?_
                    refine KL.op (R.move rfl rfl) rfl rfl rfl ?_
                    refine KL.callX rfl rfl rfl rfl Try.call44 rfl rfl rfl (zero_any rd) ?_ ?_
                    · rintro vx H42 ⟨hx1, hx2, hx3⟩
                      refine KQ.panBlock ?_
                      refine KQ.panThen ?_
                      exact KQ.pan (⟨_, Isp.ins_err hd0 hfl hkn (by simp [Isp.bodyP, Isp.mapP, Isp.bindP, hc67, hx1]), hx2, fr.thenN hx3⟩)
                    rintro _ H43 ⟨rfl, hp2, rd2, f1⟩
                    have zf_H43 := f1.1
                    have o0 := o0.trans (f1.low (Nat.zero_le _) (Nat.zero_le _))
                    have fr := fr.thenN f1
                    have b2 := f1.at_ b2 (by omega)
                    have b3 := f1.at_ b3 (by omega)
                    have rd := rd2
                    have zrd := rd.lt
                    refine KL.nil ?_
                    refine KQ.normBlock ?_
                    refine KQ.seq ?_
                    refine KC.seq ?_
                    have wl : Own 1 (EInt .u32) 33 #[] H.size H43 (.slice none 0 0) [] := Own.nil _ _ _ _ _ _
                    refine KC.region ?_
                    refine KL.op (R.loadAgg rfl Try.underlying36 rfl sz36 rfl (by first | exact cells_of b2 | exact cells_of b3 | assumption) rfl) rfl rfl rfl ?_
                    refine KL.opS (S.storeAgg rfl sz36 rfl rfl (rfl) (by intro u hu; simp only [List.set_cons_succ, List.set_cons_zero, List.mem_cons, List.not_mem_nil, or_false] at hu; rcases hu with rfl | rfl | rfl | rfl | rfl <;> first | rfl | exact wl.one) b2 (by simp)) rfl rfl ?_
                    rintro H44 ⟨u44, b44⟩
                    have o0 := o0.trans (OldB.upd u44 (by omega))
                    have zu44 := u44.1
                    have fr := (by first | exact fr.upd u44 | exact fr.updN u44 (by omega))
                    have b3 := ((u44).2 _ (by omega)).trans b3
                    have rd := rd.updT u44 (by omega)
                    have wl := wl.upd u44 (by first | exact .inl rfl | exact .inr (by omega) | exact wl.lt.imp id (fun h => by omega))
                    have b2 := b44
                    rw [over_all (by rfl)] at b2
                    refine KL.nil ?_
                    refine KQ.seq ?_
                    refine KC.ret ?_
                    refine KQ.ofRetX ?_
                    refine KQ.toX ?_
                    refine KQ.finCell Try.results27 rfl Try.underlying36 rfl sz36 (cells_of b2) (rfl) ?_
                    exact ⟨Isp.mk x0 (0, 0, 0, []), 1 + 1, Isp.ins_ok hd0 hfl hkn (by simp [Isp.bodyP, Isp.mapP, Isp.bindP, hc67, hp2]), ⟨_, rfl, wl⟩, ⟨hx0, zU, zU, zI⟩, by rw [show i + (1 + 1) = i + 1 + 1 by omega]; exact rd, fr⟩
                  · intro hc67
                    try simp only [decide_eq_true_eq, decide_eq_false_iff_not, Bool.not_eq_true', Bool.not_eq_false', Bool.and_eq_true, Bool.or_eq_false_iff] at hc67
                    refine KC.seq ?_
                    refine KC.region ?_
                    refine KL.op (R.eql rfl rfl rfl) rfl rfl rfl ?_
                    refine KL.op (R.assign rfl rfl) rfl rfl rfl ?_
                    refine KL.nil ?_
                    refine KQ.seq ?_
                    refine KC.iteL rfl ?_ ?_
                    · intro hc71
                      try simp only [decide_eq_true_eq, decide_eq_false_iff_not, Bool.not_eq_true', Bool.not_eq_false', Bool.and_eq_true, Bool.or_eq_false_iff] at hc71
                      refine KC.region ?_
                      refine KL.op (R.move rfl rfl) rfl rfl rfl ?_
                      refine KL.callX rfl rfl rfl rfl Try.call45 rfl rfl rfl (signed_any rd 32 (by omega) (by omega)) ?_ ?_
                      · rintro vx H45 ⟨hx1, hx2, hx3⟩
                        refine KQ.panBlock ?_
                        refine KQ.panThen ?_
                        exact KQ.pan (⟨_, Isp.ins_err hd0 hfl hkn (by simp [Isp.bodyP, Isp.mapP, Isp.bindP, hc71, hx1]), hx2, fr.thenN hx3⟩)
                      rintro _ H46 ⟨a1, k1, hp1, rfl, ha1, rd2, f1⟩
                      have zf_H46 := f1.1
                      have o0 := o0.trans (f1.low (Nat.zero_le _) (Nat.zero_le _))
                      have fr := fr.thenN f1
                      have b2 := f1.at_ b2 (by omega)
                      have b3 := f1.at_ b3 (by omega)
                      have rd := rd2
                      have zrd := rd.lt
                      refine KL.op ((by first | exact R.fieldAddr rfl Try.underlying36 rfl rfl sz2 rfl | exact R.fieldAddrP rfl Try.underlying36 rfl rfl sz2 rfl)) rfl rfl rfl ?_
                      refine KL.opS (S.store rfl sz2 rfl rfl rfl rfl b3 (by simp)) rfl rfl ?_
                      rintro H47 ⟨u47, b47⟩
                      have o0 := o0.trans (OldB.upd u47 (by omega))
                      have zu47 := u47.1
                      have fr := (by first | exact fr.upd u47 | exact fr.updN u47 (by omega))
                      have b2 := ((u47).2 _ (by omega)).trans b2
                      have rd := rd.updT u47 (by omega)
                      have b3 := b47
                      refine KL.nil ?_
                      refine KQ.normBlock ?_
                      refine KQ.seq ?_
                      refine KC.seq ?_
                      have wl : Own 1 (EInt .u32) 33 #[] H.size H47 (.slice none 0 0) [] := Own.nil _ _ _ _ _ _
                      refine KC.region ?_
                      refine KL.op (R.loadAgg rfl Try.underlying36 rfl sz36 rfl (by first | exact cells_of b2 | exact cells_of b3 | assumption) rfl) rfl rfl rfl ?_
                      refine KL.opS (S.storeAgg rfl sz36 rfl rfl (rfl) (by intro u hu; simp only [List.set_cons_succ, List.set_cons_zero, List.mem_cons, List.not_mem_nil, or_false] at hu; rcases hu with rfl | rfl | rfl | rfl | rfl <;> first | rfl | exact wl.one) b2 (by simp)) rfl rfl ?_
                      rintro H48 ⟨u48, b48⟩
                      have o0 := o0.trans (OldB.upd u48 (by omega))
                      have zu48 := u48.1
                      have fr := (by first | exact fr.upd u48 | exact fr.updN u48 (by omega))
                      have b3 := ((u48).2 _ (by omega)).trans b3
                      have rd := rd.updT u48 (by omega)
                      have wl := wl.upd u48 (by first | exact .inl rfl | exact .inr (by omega) | exact wl.lt.imp id (fun h => by omega))
                      have b2 := b48
                      rw [over_all (by rfl)] at b2
                      refine KL.nil ?_
                      refine KQ.seq ?_
                      refine KC.ret ?_
                      refine KQ.ofRetX ?_
                      refine KQ.toX ?_
                      refine KQ.finCell Try.results27 rfl Try.underlying36 rfl sz36 (cells_of b2) (rfl) ?_
                      exact ⟨Isp.mk x0 (0, 0, a1, []), 1 + k1, Isp.ins_ok hd0 hfl hkn (by simp [Isp.bodyP, Isp.mapP, Isp.bindP, hc71, hp1]), ⟨_, rfl, wl⟩, ⟨hx0, zU, zU, by unfold Isp.okN at ha1; simp at ha1; dsimp only [InR, Isp.mk]; omega⟩, by rw [show i + (1 + k1) = i + 1 + k1 by omega]; exact rd, fr⟩
                    · intro hc71
                      try simp only [decide_eq_true_eq, decide_eq_false_iff_not, Bool.not_eq_true', Bool.not_eq_false', Bool.and_eq_true, Bool.or_eq_false_iff] at hc71
                      refine KC.seq ?_
                      refine KC.region ?_
                      refine KL.op (R.eql rfl rfl rfl) rfl rfl rfl ?_
                      refine KL.op (R.assign rfl rfl) rfl rfl rfl ?_
                      refine KL.nil ?_
                      refine KQ.seq ?_
                      refine KC.iteL rfl ?_ ?_
                      · intro hc76
                        try simp only [decide_eq_true_eq, decide_eq_false_iff_not, Bool.not_eq_true', Bool.not_eq_false', Bool.and_eq_true, Bool.or_eq_false_iff] at hc76
                        refine KC.region ?_
                        refine KL.op (R.move rfl rfl) rfl rfl rfl ?_
                        refine KL.callX rfl rfl rfl rfl Try.call45 rfl rfl rfl (signed_any rd 64 (by omega) (by omega)) ?_ ?_
                        · rintro vx H49 ⟨hx1, hx2, hx3⟩
                          refine KQ.panBlock ?_
                          refine KQ.panThen ?_
                          exact KQ.pan (⟨_, Isp.ins_err hd0 hfl hkn (by simp [Isp.bodyP, Isp.mapP, Isp.bindP, hc76, hx1]), hx2, fr.thenN hx3⟩)
                        rintro _ H50 ⟨a1, k1, hp1, rfl, ha1, rd2, f1⟩
                        have zf_H50 := f1.1
                        have o0 := o0.trans (f1.low (Nat.zero_le _) (Nat.zero_le _))
                        have fr := fr.thenN f1
                        have b2 := f1.at_ b2 (by omega)
                        have b3 := f1.at_ b3 (by omega)
                        have rd := rd2
                        have zrd := rd.lt
                        refine KL.op ((by first | exact R.fieldAddr rfl Try.underlying36 rfl rfl sz2 rfl | exact R.fieldAddrP rfl Try.underlying36 rfl rfl sz2 rfl)) rfl rfl rfl ?_
                        refine KL.opS (S.store rfl sz2 rfl rfl rfl rfl b3 (by simp)) rfl rfl ?_
                        rintro H51 ⟨u51, b51⟩
                        have o0 := o0.trans (OldB.upd u51 (by omega))
                        have zu51 := u51.1
                        have fr := (by first | exact fr.upd u51 | exact fr.updN u51 (by omega))
                        have b2 := ((u51).2 _ (by omega)).trans b2
                        have rd := rd.updT u51 (by omega)
                        have b3 := b51
                        refine KL.nil ?_
                        refine KQ.normBlock ?_
                        refine KQ.seq ?_
                        refine KC.seq ?_
                        have wl : Own 1 (EInt .u32) 33 #[] H.size H51 (.slice none 0 0) [] := Own.nil _ _ _ _ _ _
                        refine KC.region ?_
                        refine KL.op (R.loadAgg rfl Try.underlying36 rfl sz36 rfl (by first | exact cells_of b2 | exact cells_of b3 | assumption) rfl) rfl rfl rfl ?_
                        refine KL.opS (S.storeAgg rfl sz36 rfl rfl (rfl) (by intro u hu; simp only [List.set_cons_succ, List.set_cons_zero, List.mem_cons, List.not_mem_nil, or_false] at hu; rcases hu with rfl | rfl | rfl | rfl | rfl <;> first | rfl | exact wl.one) b2 (by simp)) rfl rfl ?_
                        rintro H52 ⟨u52, b52⟩
                        have o0 := o0.trans (OldB.upd u52 (by omega))
                        have zu52 := u52.1
                        have fr := (by first | exact fr.upd u52 | exact fr.updN u52 (by omega))
                        have b3 := ((u52).2 _ (by omega)).trans b3
                        have rd := rd.updT u52 (by omega)
                        have wl := wl.upd u52 (by first | exact .inl rfl | exact .inr (by omega) | exact wl.lt.imp id (fun h => by omega))
                        have b2 := b52
                        rw [over_all (by rfl)] at b2
                        refine KL.nil ?_
                        refine KQ.seq ?_
                        refine KC.ret ?_
                        refine KQ.ofRetX ?_
                        refine KQ.toX ?_
                        refine KQ.finCell Try.results27 rfl Try.underlying36 rfl sz36 (cells_of b2) (rfl) ?_
                        exact ⟨Isp.mk x0 (0, 0, a1, []), 1 + k1, Isp.ins_ok hd0 hfl hkn (by simp [Isp.bodyP, Isp.mapP, Isp.bindP, hc76, hp1]), ⟨_, rfl, wl⟩, ⟨hx0, zU, zU, by unfold Isp.okN at ha1; simp at ha1; dsimp only [InR, Isp.mk]; omega⟩, by rw [show i + (1 + k1) = i + 1 + k1 by omega]; exact rd, fr⟩
                      · intro hc76
                        try simp only [decide_eq_true_eq, decide_eq_false_iff_not, Bool.not_eq_true', Bool.not_eq_false', Bool.and_eq_true, Bool.or_eq_false_iff] at hc76
                        refine KC.skip ?_
                        refine KQ.normBlock ?_
                        refine KQ.seq ?_
                        refine KC.seq ?_
                        have wl : Own 1 (EInt .u32) 33 #[] H.size H5 (.slice none 0 0) [] := Own.nil _ _ _ _ _ _
                        refine KC.region ?_
                        refine KL.op (R.loadAgg rfl Try.underlying36 rfl sz36 rfl (by first | exact cells_of b2 | exact cells_of b3 | assumption) rfl) rfl rfl rfl ?_
                        refine KL.opS (S.storeAgg rfl sz36 rfl rfl (rfl) (by intro u hu; simp only [List.set_cons_succ, List.set_cons_zero, List.mem_cons, List.not_mem_nil, or_false] at hu; rcases hu with rfl | rfl | rfl | rfl | rfl <;> first | rfl | exact wl.one) b2 (by simp)) rfl rfl ?_
                        rintro H53 ⟨u53, b53⟩
                        have o0 := o0.trans (OldB.upd u53 (by omega))
                        have zu53 := u53.1
                        have fr := (by first | exact fr.upd u53 | exact fr.updN u53 (by omega))
                        have rd := rd.updT u53 (by omega)
                        have b3 := ((u53).2 _ (by omega)).trans b3
                        have wl := wl.upd u53 (by first | exact .inl rfl | exact .inr (by omega) | exact wl.lt.imp id (fun h => by omega))
                        have b2 := b53
                        rw [over_all (by rfl)] at b2
                        refine KL.nil ?_
                        refine KQ.seq ?_
                        refine KC.ret ?_
                        refine KQ.ofRetX ?_
                        refine KQ.toX ?_
                        refine KQ.finCell Try.results27 rfl Try.underlying36 rfl sz36 (cells_of b2) (rfl) ?_
                        exact ⟨Isp.mk x0 (0, 0, 0, []), 1 + 0, Isp.ins_ok hd0 hfl hkn (by simp [Isp.bodyP, Isp.mapP, Isp.bindP, hc22, hc28a, hc28b, hc34, hc52, hc59, hc67, hc71, hc76]), ⟨_, rfl, wl⟩, ⟨hx0, zU, zU, zI⟩, by rw [show i + (1 + 0) = i + 1 by omega]; exact rd, fr⟩

end Go.Proofs.Ytnjodpgahbpiaaa
