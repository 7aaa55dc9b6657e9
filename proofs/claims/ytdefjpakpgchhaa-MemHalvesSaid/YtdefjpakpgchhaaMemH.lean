/- An access is its halves. No condition. -/
import Derived.Test.YtdefjpakpgchhaaMemHP
namespace Go.Proofs.Ytdefjpakpgchhaa
open Go Go.RowKit
set_option linter.unusedVariables false
set_option linter.unusedSimpArgs false
set_option linter.unnecessarySimpa false

def EArr : El (List Int) := fun _ cs l => cs = l.map (Value.int .u8)
instance keepsArr : Keeps EArr := ⟨fun _ h => h⟩
theorem MAt.upd {t : TypeId} {k : IntKind} {H H' : Heap} {g : Nat} {v : Value} {bs : List Int} {most : Int} {g2 : Nat} (h : MAt t k H g v bs most) (u : Upd g2 H H') (h1 : g ≠ g2) (h2 : v = .slice none 0 0 ∨ vblock v ≠ g2) : MAt t k H' g v bs most := ⟨(u.2 g h1).trans h.b, h.w.upd u h2, h.d, h.n⟩


theorem tab_lit : ∀ j x, nth tab j = some x → EArr #[] (((flatV [.agg #[.int .u8 41, .int .u8 53, .int .u8 32, .int .u8 52], .agg #[.int .u8 53, .int .u8 51, .int .u8 16, .int .u8 50], .agg #[.int .u8 51, .int .u8 49, .int .u8 8, .int .u8 48], .agg #[.int .u8 40, .int .u8 47, .int .u8 16, .int .u8 46], .agg #[.int .u8 47, .int .u8 45, .int .u8 8, .int .u8 44]]).drop (j * 4)).take 4) x := by
  intro j x hj
  have hlt := nth_lt hj
  have : j = 0 ∨ j = 1 ∨ j = 2 ∨ j = 3 ∨ j = 4 := by simp [tab] at hlt; omega
  rcases this with rfl | rfl | rfl | rfl | rfl <;> (injection hj with hj; subst hj; rfl)

set_option maxRecDepth 100000 in
set_option maxHeartbeats 1000000 in
theorem load_any {H : Heap} (g : Nat) (v : Value) (bs : List Int) (most : Int) (h : MAt 65 .u32 H g v bs most) (g1 g2 g3 : Nat) (t1 t2 t3 : TypeId) (at_ off more op : Int) (b1 : H[g1]? = some (.cells [.pointer (some ⟨g, 0, none⟩)].toArray t1 (0, 0))) (b2 : H[g2]? = some (.cells [.int .u32 at_].toArray t2 (0, 0))) (b3 : H[g3]? = some (.cells [.int .u32 off].toArray t3 (0, 0))) (r1 : 0 ≤ at_ ∧ at_ ≤ 2000) (r2 : 0 ≤ off ∧ off ≤ 2000) (r3 : 0 ≤ more ∧ more ≤ 4) (r4 : InR .u8 op) : Ct Try.prog 11 [.int .u8 op, .int .u32 more, .pointer (some ⟨g1, 0, none⟩), .pointer (some ⟨g2, 0, none⟩), .pointer (some ⟨g3, 0, none⟩)] H (fun u H' => u = .int .u64 (loadX bs op (at_ + more + off)) ∧ Old H H') := by
  refine Ct.mk Try.func11 rfl Try.ntmps11 rfl ?_
  intro W0 hW0
  have o0 : Old H H := Old.refl H
  refine KC.seq ?_
  refine KC.region ?_
  refine KL.op (R.assign rfl rfl) rfl rfl rfl ?_
  refine KL.nil ?_
  refine KQ.seq ?_
  refine KC.seq ?_
  refine KC.region ?_
  refine KL.op (R.load rfl Try.underlying25 rfl rfl (by first | exact cell_of b1 rfl | exact cell_of b2 rfl | exact cell_of b3 rfl | assumption)) rfl rfl rfl ?_
  refine KL.op (R.move rfl rfl) rfl rfl rfl ?_
  refine KL.op (R.load rfl Try.underlying23 rfl rfl (by first | exact cell_of b1 rfl | exact cell_of b2 rfl | exact cell_of b3 rfl | assumption)) rfl rfl rfl ?_
  refine KL.op (R.move rfl rfl) rfl rfl rfl ?_
  refine KL.op (R.add rfl rfl rfl (by dsimp only [InR]; omega)) rfl rfl rfl ?_
  refine KL.op (R.load rfl Try.underlying23 rfl rfl (by first | exact cell_of b1 rfl | exact cell_of b2 rfl | exact cell_of b3 rfl | assumption)) rfl rfl rfl ?_
  refine KL.call rfl rfl rfl rfl Try.call12 rfl rfl rfl (Load_any _ _ _ _ h op (at_ + more) off r4 (by dsimp only [InR]; omega) (by dsimp only [InR]; omega)) ?_
  rintro _ H1 ⟨rfl, ox⟩
  have o0 := o0.trans ox
  have b1 := (ox).blk b1
  have b2 := (ox).blk b2
  have b3 := (ox).blk b3
  refine KL.op (R.move rfl rfl) rfl rfl rfl ?_
  refine KL.op (R.extract rfl rfl rfl) rfl rfl rfl ?_
  refine KL.op (R.extract rfl rfl rfl) rfl rfl rfl ?_
  refine KL.op (R.assign rfl rfl) rfl rfl rfl ?_
  refine KL.op (R.assign rfl rfl) rfl rfl rfl ?_
  refine KL.nil ?_
  refine KQ.seq ?_
  refine KC.seq ?_
  refine KC.region ?_
  refine KL.op (R.move rfl rfl) rfl rfl rfl ?_
  refine KL.op (R.assign rfl rfl) rfl rfl rfl ?_
  refine KL.nil ?_
  refine KQ.seq ?_
  refine KC.ret ?_
  refine KQ.ofRet ?_
  refine KQ.fin1 Try.results11 rfl ?_
  exact ⟨rfl, o0⟩

set_option maxRecDepth 100000 in
set_option maxHeartbeats 1000000 in
theorem MemHalves_any {H : Heap} (b0 : Value) (l : List Int) (hs : Sl 1 (EInt .u8) H b0 l) (at_ off : Int) (r1 : InR .u32 at_) (r2 : InR .u32 off) : Ct Try.prog 3 [b0, .int .u32 at_, .int .u32 off] H (fun u H' => u = .bool true ∧ Old H H') := by
  refine Ct.mk Try.func3 rfl Try.ntmps3 rfl ?_
  intro W0 hW0
  have o0 : Old H H := Old.refl H
  have q1 : 0 ≤ at_ ∧ at_ ≤ 4294967295 := r1
  have q2 : 0 ≤ off ∧ off ≤ 4294967295 := r2
  refine KC.seq ?_
  refine KC.region ?_
  refine KL.opM (M.box rfl rfl rfl) rfl rfl rfl ?_
  rintro _ H1 ⟨rfl, n1⟩
  have z1 := n1.2.1
  have o0 := o0.trans n1.1
  have b1 := n1.2.2
  have c4 := b1
  refine KL.opM (M.box rfl rfl rfl) rfl rfl rfl ?_
  rintro _ H2 ⟨rfl, n2⟩
  have z2 := n2.2.1
  have o0 := o0.trans n2.1
  have c4 := (n2.1).blk c4
  have b2 := n2.2.2
  have c5 := b2
  refine KL.op (R.assign rfl rfl) rfl rfl rfl ?_
  refine KL.nil ?_
  refine KQ.seq ?_
  refine KC.seq ?_
  refine KC.seq ?_
  refine KC.region ?_
  refine KL.op (R.move rfl rfl) rfl rfl rfl ?_
  refine KL.op ((by first | exact R.lenS rfl Try.underlying22 rfl (by first | exact hs.old o0 | exact ht | assumption) | exact R.len (ty := 0) rfl Try.underlying22 rfl)) rfl rfl rfl ?_
  refine KL.op (R.gtr rfl rfl rfl) rfl rfl rfl ?_
  refine KL.nil ?_
  refine KQ.seq ?_
  refine KC.iteL rfl ?_ ?_
  · intro hc13
    try simp only [decide_eq_true_eq, decide_eq_false_iff_not, Bool.not_eq_true', Bool.not_eq_false', Bool.and_eq_true, Bool.or_eq_false_iff] at hc13
    refine KC.seq ?_
    refine KC.region ?_
    refine KL.call rfl rfl rfl rfl Try.call8 rfl rfl rfl (works_any) ?_
    rintro _ H3 ⟨rfl, ox⟩
    have o0 := o0.trans ox
    have c4 := (ox).blk c4
    have c5 := (ox).blk c5
    refine KL.op (R.assign rfl rfl) rfl rfl rfl ?_
    refine KL.nil ?_
    refine KQ.seq ?_
    refine KC.ret ?_
    refine KQ.retThen ?_
    refine KQ.ofRet ?_
    refine KQ.fin1 Try.results3 rfl ?_
    exact ⟨rfl, o0⟩
  · intro hc13
    try simp only [decide_eq_true_eq, decide_eq_false_iff_not, Bool.not_eq_true', Bool.not_eq_false', Bool.and_eq_true, Bool.or_eq_false_iff] at hc13
    refine KC.skip ?_
    refine KQ.seq ?_
    refine KC.seq ?_
    refine KC.region ?_
    refine KL.call rfl rfl rfl rfl Try.call9 rfl rfl rfl (one_any) ?_
    have lt4 := blk_lt c4
    have lt5 := blk_lt c5
    rintro _ H4 ⟨g, v, rfl, hm, hf, ox⟩
    have zo := ox.1
    have ltm := hm.lt
    have ltv := hm.w.lt
    have o0 := o0.trans ox
    have c4 := (ox).blk c4
    have c5 := (ox).blk c5
    refine KL.opM (M.alloc rfl zr25 rfl) rfl rfl rfl ?_
    rintro _ H5 ⟨rfl, n5⟩
    have z5 := n5.2.1
    have o0 := o0.trans n5.1
    have c4 := (n5.1).blk c4
    have c5 := (n5.1).blk c5
    have hm := hm.old n5.1
    have b5 := n5.2.2
    have bp := b5
    refine KL.opS (S.store rfl sz25 rfl rfl rfl rfl bp (by simp)) rfl rfl ?_
    rintro H6 ⟨u6, b6⟩
    have o0 := o0.upd u6 (by omega)
    have zu6 := u6.1
    have c4 := ((u6).2 _ (by omega)).trans c4
    have c5 := ((u6).2 _ (by omega)).trans c5
    have bp := b6
    have hm := hm.upd u6 (by omega) (hf.2.elim .inl (fun h => ltv.imp id (fun h2 => by omega)))
    refine KL.nil ?_
    refine KQ.seq ?_
    refine KC.seq ?_
    refine KC.seq ?_
    refine KC.region ?_
    refine KL.op (R.load rfl Try.underlying25 rfl rfl (by first | exact cell_of c4 rfl | exact cell_of c5 rfl | exact cell_of bp rfl | assumption)) rfl rfl rfl ?_
    refine KL.op (R.move rfl rfl) rfl rfl rfl ?_
    refine KL.call rfl rfl rfl rfl Try.call10 rfl rfl rfl (Put_yes _ _ _ _ hm 0 (by dsimp only [InR]; omega) _ l (hs.old o0) (by omega) (by rw [zeros1_len]; omega)) ?_
    have ltp := blk_lt bp
    rintro _ H7 ⟨rfl, hm1, f1⟩
    have bp := (f1.2 _ (by omega) (by omega) (ltv.imp id (fun h2 => by omega))).trans bp
    have c4 := (f1.2 _ (by omega) (by have := hf.1; omega) (hf.2.imp id (fun h2 => by omega))).trans c4
    have c5 := (f1.2 _ (by omega) (by have := hf.1; omega) (hf.2.imp id (fun h2 => by omega))).trans c5
    have ob1 := f1.ob (B := H.size) (by have := o0.1; omega) ⟨by have := hf.1; omega, hf.2.imp id (fun h => by omega)⟩
    have hm := hm1
    have zf := f1.1
    have hlB : (putAt (zeros 1) (0 : Int).toNat l).length = 65536 := (by rw [putAt_length (by rw [zeros1_len]; simp; omega), zeros1_len])
    have z_ob1 := ob1.1
    have o0 := o0.then ob1 (by omega)
    refine KL.op (R.not rfl rfl) rfl rfl rfl ?_
    refine KL.nil ?_
    refine KQ.seq ?_
    refine KC.condF rfl ?_
    refine KC.skip ?_
    refine KQ.seq ?_
    refine KC.seq ?_
    refine KC.region ?_
    refine KL.op (R.makeFunc rfl rfl rfl) rfl rfl rfl ?_
    refine KL.op (R.assign rfl rfl) rfl rfl rfl ?_
    refine KL.nil ?_
    refine KQ.seq ?_
    refine KC.seq ?_
    refine KC.text (clOf [(0, 1), (4, 2), (5, 2)]) (fun i Hc => i = 2 → cellH Hc ⟨_, 0, none⟩ = some (.int .u32 off)) (by kernel_rfl) (by kernel_rfl) (fun _ _ => cell_of c5 rfl) ?_
    refine KP.now rfl (R.load rfl Try.underlying23 rfl rfl (by first | exact cell_of bp rfl | exact cell_of c4 rfl | exact cell_of c5 rfl | assumption)) rfl rfl rfl ?_
    refine KP.op rfl (fun Hg hg => R.rem rfl rfl rfl (by omega) (by omega)) rfl rfl rfl ?_
    refine KP.op rfl (fun Hg hg => R.load rfl Try.underlying23 rfl rfl (hg rfl)) rfl rfl rfl ?_
    refine KP.op rfl (fun Hg hg => R.rem rfl rfl rfl (by omega) (by omega)) rfl rfl rfl ?_
    refine KP.opS rfl (S.store rfl sz23 rfl rfl rfl rfl c4 (by simp)) rfl rfl (fun _ h _ _ _ _ => cell_of ((h.1.2 _ (by omega)).trans c5) rfl) ?_
    rintro H8 ⟨u8, b8⟩
    have o0 := o0.upd u8 (by omega)
    have zu8 := u8.1
    have bp := ((u8).2 _ (by omega)).trans bp
    have c5 := ((u8).2 _ (by omega)).trans c5
    have c4 := b8
    have hm := hm.upd u8 (by have := hf.1; omega) (hf.2.imp id (fun h2 => by omega))
    refine KP.opS rfl (S.store rfl sz23 rfl rfl rfl rfl c5 (by simp)) rfl rfl (fun _ h i h1 h2 h3 => by subst h3; exact absurd (by decide +kernel) h2) ?_
    rintro H9 ⟨u9, b9⟩
    have o0 := o0.upd u9 (by omega)
    have zu9 := u9.1
    have bp := ((u9).2 _ (by omega)).trans bp
    have c4 := ((u9).2 _ (by omega)).trans c4
    have c5 := b9
    have hm := hm.upd u9 (by have := hf.1; omega) (hf.2.imp id (fun h2 => by omega))
    refine KP.nil ?_
    refine KQ.seq ?_
    refine KC.seq ?_
    refine KC.seq ?_
    refine KC.region ?_
    refine KL.op (R.buildArr (cs := #[(.int .u8 41), (.int .u8 53), (.int .u8 32), (.int .u8 52)]) rfl Try.underlying32 zr32 sz5 rfl (by kernel_rfl)) rfl rfl rfl ?_
    refine KL.op (R.buildArr (cs := #[(.int .u8 53), (.int .u8 51), (.int .u8 16), (.int .u8 50)]) rfl Try.underlying32 zr32 sz5 rfl (by kernel_rfl)) rfl rfl rfl ?_
    refine KL.op (R.buildArr (cs := #[(.int .u8 51), (.int .u8 49), (.int .u8 8), (.int .u8 48)]) rfl Try.underlying32 zr32 sz5 rfl (by kernel_rfl)) rfl rfl rfl ?_
    refine KL.op (R.buildArr (cs := #[(.int .u8 40), (.int .u8 47), (.int .u8 16), (.int .u8 46)]) rfl Try.underlying32 zr32 sz5 rfl (by kernel_rfl)) rfl rfl rfl ?_
    refine KL.op (R.buildArr (cs := #[(.int .u8 47), (.int .u8 45), (.int .u8 8), (.int .u8 44)]) rfl Try.underlying32 zr32 sz5 rfl (by kernel_rfl)) rfl rfl rfl ?_
    refine KL.opM (M.lit rfl Try.underlying33 zs32 (by decide) rfl rfl rfl) rfl rfl rfl ?_
    rintro _ H10 ⟨rfl, n10⟩
    have z10 := n10.2.1
    have o0 := o0.trans n10.1
    have bp := (n10.1).blk bp
    have c4 := (n10.1).blk c4
    have c5 := (n10.1).blk c5
    have hm := hm.old n10.1
    have b10 := n10.2.2
    have hT : Own 4 EArr 32 #[] 0 H10 _ tab := Own.litN (l := tab) n10 (Nat.zero_le _) rfl (by unfold maxLen; decide) rfl (tab_lit)
    have ht := hT.sl (emptyOld _) (by decide)
    have oL : Old H10 H10 := Old.refl _
    have hm0 := hm
    have ht0 := ht
    refine KL.op ((by first | exact R.lenS rfl Try.underlying33 rfl (by first | exact hs.old o0 | exact ht | exact hm | exact ht | assumption) | exact R.len (ty := 0) rfl Try.underlying33 rfl)) rfl rfl rfl ?_
    refine KL.op (R.move rfl rfl) rfl rfl rfl ?_
    refine KL.nil ?_
    refine KQ.seq ?_
    refine KC.block ?_
    refine KC.loopD (κ := Nat) [33, 34, 35, 10, 36, 37, 38, 39, 40, 41, 42, 43, 44, 45, 46, 47, 48, 49, 50, 51, 52, 53, 54, 55, 56, 57, 58, 59, 60, 61, 62, 63, 64, 65, 66, 67, 68, 69, 70, 71, 72, 6, 73, 32] (fun k => [(32, .int .i64 (k : Nat))]) (fun k Hl => k ≤ 5 ∧ Old H10 Hl) (fun k => 5 - k) 0 ?_ ?_ ?_
    · exact (Sub.cons rfl (Ext.sub (Ext.refl _ _)))
    · exact ⟨Nat.zero_le _, Old.refl _⟩
    · rintro k H11 ⟨hk, oL⟩
      have zoL := oL.1
      have o0 := o0.trans oL
      have hm := hm.old oL
      have bp := oL.blk bp
      have c4 := oL.blk c4
      have c5 := oL.blk c5
      have ht := ht.old oL
      refine KC.seq ?_
      refine KC.region ?_
      refine KL.op (R.lss rfl rfl rfl) rfl rfl rfl ?_
      refine KL.nil ?_
      refine KQ.seq ?_
      refine KC.seq ?_
      refine KC.iteL rfl ?_ ?_
      · intro hc33
        try simp only [decide_eq_true_eq, decide_eq_false_iff_not, Bool.not_eq_true', Bool.not_eq_false', Bool.and_eq_true, Bool.or_eq_false_iff] at hc33
        have hk5 : k < 5 := (by have : tab.length = 5 := rfl; omega)
        obtain ⟨x0, x1, x2, x3, hx, q0, q1, q2, q3, hrow⟩ := tab_row hm.byt hlB hk5
        obtain ⟨cs, hcl, hcx, hce⟩ := ht.at k (by have : tab.length = 5 := rfl; omega)
        rw [hx] at hce
        have hce2 : cs = [.int .u8 x0, .int .u8 x1, .int .u8 x2, .int .u8 x3] := hce
        subst hce2
        have q2r : 0 ≤ x2 ∧ x2 ≤ 64 := (by omega)
        refine KC.skip ?_
        refine KQ.seq ?_
        refine KC.seq ?_
        refine KC.block ?_
        refine KC.seq ?_
        refine KC.region ?_
        refine KL.op (R.index (j := k) rfl Try.underlying33 sz32 rfl rfl ht rfl (by have : tab.length = 5 := rfl; omega)) rfl rfl rfl ?_
        refine KL.op (R.loadAgg rfl Try.underlying32 rfl sz32 rfl hcx rfl) rfl rfl rfl ?_
        refine KL.opM (M.alloc rfl zr32 rfl) rfl rfl rfl ?_
        rintro _ H12 ⟨rfl, n12⟩
        have z12 := n12.2.1
        have o0 := o0.trans n12.1
        have hm := hm.old n12.1
        have bp := (n12.1).blk bp
        have c4 := (n12.1).blk c4
        have c5 := (n12.1).blk c5
        have ht := ht.old n12.1
        have oL := oL.trans n12.1
        have b12 := n12.2.2
        have bx := b12
        refine KL.opS (S.storeAgg rfl sz32 rfl rfl rfl (by simp [Value.oneCell']) bx (by simp)) rfl rfl ?_
        rintro H13 ⟨u13, b13⟩
        have o0 := o0.upd u13 (by omega)
        have zu13 := u13.1
        have bp := ((u13).2 _ (by omega)).trans bp
        have c4 := ((u13).2 _ (by omega)).trans c4
        have c5 := ((u13).2 _ (by omega)).trans c5
        have oL := oL.upd u13 (by omega)
        have bx := b13
        have hm := hm0.old oL
        have ht := ht0.old oL
        refine KL.nil ?_
        refine KQ.seq ?_
        refine KC.seq ?_
        refine KC.grow (by kernel_rfl) (by kernel_rfl) ?_
        refine KG.op (fun Hg og => by have bp := og.blk bp; have c4 := og.blk c4; have c5 := og.blk c5; have bx := og.blk bx; have hm := hm.old og; have ht := ht.old og; have o0 := o0.trans og; exact R.move rfl rfl) rfl rfl rfl ?_
        refine KG.op (fun Hg og => by have bp := og.blk bp; have c4 := og.blk c4; have c5 := og.blk c5; have bx := og.blk bx; have hm := hm.old og; have ht := ht.old og; have o0 := o0.trans og; exact R.indexAddrArr (j := 0) rfl Try.underlying32 sz5 rfl rfl (by first | rfl | omega) (by omega)) rfl rfl rfl ?_
        refine KG.op (fun Hg og => by have bp := og.blk bp; have c4 := og.blk c4; have c5 := og.blk c5; have bx := og.blk bx; have hm := hm.old og; have ht := ht.old og; have o0 := o0.trans og; exact R.load rfl Try.underlying5 rfl rfl (by first | exact cell_of bp rfl | exact cell_of c4 rfl | exact cell_of c5 rfl | exact cell_of bx rfl | assumption)) rfl rfl rfl ?_
        refine KG.call rfl rfl rfl rfl Try.call11 rfl rfl rfl (fun Hg og => load_any _ _ _ _ (hm.old og) _ _ _ _ _ _ _ _ _ _ (og.blk bp) (og.blk c4) (og.blk c5) (by omega) (by omega) (by omega) q0) ?_
        refine KG.op (fun Hg og => by have bp := og.blk bp; have c4 := og.blk c4; have c5 := og.blk c5; have bx := og.blk bx; have hm := hm.old og; have ht := ht.old og; have o0 := o0.trans og; exact R.move rfl rfl) rfl rfl rfl ?_
        refine KG.op (fun Hg og => by have bp := og.blk bp; have c4 := og.blk c4; have c5 := og.blk c5; have bx := og.blk bx; have hm := hm.old og; have ht := ht.old og; have o0 := o0.trans og; exact R.indexAddrArr (j := 1) rfl Try.underlying32 sz5 rfl rfl (by first | rfl | omega) (by omega)) rfl rfl rfl ?_
        refine KG.op (fun Hg og => by have bp := og.blk bp; have c4 := og.blk c4; have c5 := og.blk c5; have bx := og.blk bx; have hm := hm.old og; have ht := ht.old og; have o0 := o0.trans og; exact R.load rfl Try.underlying5 rfl rfl (by first | exact cell_of bp rfl | exact cell_of c4 rfl | exact cell_of c5 rfl | exact cell_of bx rfl | assumption)) rfl rfl rfl ?_
        refine KG.call rfl rfl rfl rfl Try.call11 rfl rfl rfl (fun Hg og => load_any _ _ _ _ (hm.old og) _ _ _ _ _ _ _ _ _ _ (og.blk bp) (og.blk c4) (og.blk c5) (by omega) (by omega) (by omega) q1) ?_
        refine KG.op (fun Hg og => by have bp := og.blk bp; have c4 := og.blk c4; have c5 := og.blk c5; have bx := og.blk bx; have hm := hm.old og; have ht := ht.old og; have o0 := o0.trans og; exact R.move rfl rfl) rfl rfl rfl ?_
        refine KG.op (fun Hg og => by have bp := og.blk bp; have c4 := og.blk c4; have c5 := og.blk c5; have bx := og.blk bx; have hm := hm.old og; have ht := ht.old og; have o0 := o0.trans og; exact R.indexAddrArr (j := 1) rfl Try.underlying32 sz5 rfl rfl (by first | rfl | omega) (by omega)) rfl rfl rfl ?_
        refine KG.op (fun Hg og => by have bp := og.blk bp; have c4 := og.blk c4; have c5 := og.blk c5; have bx := og.blk bx; have hm := hm.old og; have ht := ht.old og; have o0 := o0.trans og; exact R.load rfl Try.underlying5 rfl rfl (by first | exact cell_of bp rfl | exact cell_of c4 rfl | exact cell_of c5 rfl | exact cell_of bx rfl | assumption)) rfl rfl rfl ?_
        refine KG.op (fun Hg og => by have bp := og.blk bp; have c4 := og.blk c4; have c5 := og.blk c5; have bx := og.blk bx; have hm := hm.old og; have ht := ht.old og; have o0 := o0.trans og; exact R.indexAddrArr (j := 2) rfl Try.underlying32 sz5 rfl rfl (by first | rfl | omega) (by omega)) rfl rfl rfl ?_
        refine KG.op (fun Hg og => by have bp := og.blk bp; have c4 := og.blk c4; have c5 := og.blk c5; have bx := og.blk bx; have hm := hm.old og; have ht := ht.old og; have o0 := o0.trans og; exact R.load rfl Try.underlying5 rfl rfl (by first | exact cell_of bp rfl | exact cell_of c4 rfl | exact cell_of c5 rfl | exact cell_of bx rfl | assumption)) rfl rfl rfl ?_
        refine KG.op (fun Hg og => by have bp := og.blk bp; have c4 := og.blk c4; have c5 := og.blk c5; have bx := og.blk bx; have hm := hm.old og; have ht := ht.old og; have o0 := o0.trans og; exact R.quo rfl rfl rfl (by omega) (by omega) (by dsimp only [InR]; omega)) rfl rfl rfl ?_
        refine KG.op (fun Hg og => by have bp := og.blk bp; have c4 := og.blk c4; have c5 := og.blk c5; have bx := og.blk bx; have hm := hm.old og; have ht := ht.old og; have o0 := o0.trans og; exact R.convI rfl Try.underlying5 Try.underlying23 rfl (by dsimp only [InR]; omega)) rfl rfl rfl ?_
        refine KG.call rfl rfl rfl rfl Try.call11 rfl rfl rfl (fun Hg og => load_any _ _ _ _ (hm.old og) _ _ _ _ _ _ _ _ _ _ (og.blk bp) (og.blk c4) (og.blk c5) (by omega) (by omega) (by omega) q1) ?_
        refine KG.op (fun Hg og => by have bp := og.blk bp; have c4 := og.blk c4; have c5 := og.blk c5; have bx := og.blk bx; have hm := hm.old og; have ht := ht.old og; have o0 := o0.trans og; exact R.indexAddrArr (j := 2) rfl Try.underlying32 sz5 rfl rfl (by first | rfl | omega) (by omega)) rfl rfl rfl ?_
        refine KG.op (fun Hg og => by have bp := og.blk bp; have c4 := og.blk c4; have c5 := og.blk c5; have bx := og.blk bx; have hm := hm.old og; have ht := ht.old og; have o0 := o0.trans og; exact R.load rfl Try.underlying5 rfl rfl (by first | exact cell_of bp rfl | exact cell_of c4 rfl | exact cell_of c5 rfl | exact cell_of bx rfl | assumption)) rfl rfl rfl ?_
        refine KG.op (fun Hg og => by have bp := og.blk bp; have c4 := og.blk c4; have c5 := og.blk c5; have bx := og.blk bx; have hm := hm.old og; have ht := ht.old og; have o0 := o0.trans og; exact R.shl rfl rfl rfl (by omega)) rfl rfl rfl ?_
        refine KG.op (fun Hg og => by have bp := og.blk bp; have c4 := og.blk c4; have c5 := og.blk c5; have bx := og.blk bx; have hm := hm.old og; have ht := ht.old og; have o0 := o0.trans og; exact R.bits rfl rfl rfl rfl) rfl rfl rfl ?_
        refine KG.op (fun Hg og => by have bp := og.blk bp; have c4 := og.blk c4; have c5 := og.blk c5; have bx := og.blk bx; have hm := hm.old og; have ht := ht.old og; have o0 := o0.trans og; exact (R.neq rfl rfl rfl).val ((congrArg (fun b => Value.bool (!b)) (decide_eq_true (by (obtain ⟨e1, e2⟩ := hrow (at_ % 2000 + 0 + off % 2000) (at_ % 2000 + 0 + off % 2000) (at_ % 2000 + x2 / 8 + off % 2000) (by omega) (by omega) rfl (by omega); exact e1)))))) rfl rfl rfl ?_
        refine KG.op (fun Hg og => by have bp := og.blk bp; have c4 := og.blk c4; have c5 := og.blk c5; have bx := og.blk bx; have hm := hm.old og; have ht := ht.old og; have o0 := o0.trans og; exact R.move rfl rfl) rfl rfl rfl ?_
        refine KG.op (fun Hg og => by have bp := og.blk bp; have c4 := og.blk c4; have c5 := og.blk c5; have bx := og.blk bx; have hm := hm.old og; have ht := ht.old og; have o0 := o0.trans og; exact R.move rfl rfl) rfl rfl rfl ?_
        refine KG.op (fun Hg og => by have bp := og.blk bp; have c4 := og.blk c4; have c5 := og.blk c5; have bx := og.blk bx; have hm := hm.old og; have ht := ht.old og; have o0 := o0.trans og; exact R.indexAddrArr (j := 1) rfl Try.underlying32 sz5 rfl rfl (by first | rfl | omega) (by omega)) rfl rfl rfl ?_
        refine KG.op (fun Hg og => by have bp := og.blk bp; have c4 := og.blk c4; have c5 := og.blk c5; have bx := og.blk bx; have hm := hm.old og; have ht := ht.old og; have o0 := o0.trans og; exact R.load rfl Try.underlying5 rfl rfl (by first | exact cell_of bp rfl | exact cell_of c4 rfl | exact cell_of c5 rfl | exact cell_of bx rfl | assumption)) rfl rfl rfl ?_
        refine KG.call rfl rfl rfl rfl Try.call11 rfl rfl rfl (fun Hg og => load_any _ _ _ _ (hm.old og) _ _ _ _ _ _ _ _ _ _ (og.blk bp) (og.blk c4) (og.blk c5) (by omega) (by omega) (by omega) q1) ?_
        refine KG.op (fun Hg og => by have bp := og.blk bp; have c4 := og.blk c4; have c5 := og.blk c5; have bx := og.blk bx; have hm := hm.old og; have ht := ht.old og; have o0 := o0.trans og; exact R.move rfl rfl) rfl rfl rfl ?_
        refine KG.op (fun Hg og => by have bp := og.blk bp; have c4 := og.blk c4; have c5 := og.blk c5; have bx := og.blk bx; have hm := hm.old og; have ht := ht.old og; have o0 := o0.trans og; exact R.indexAddrArr (j := 3) rfl Try.underlying32 sz5 rfl rfl (by first | rfl | omega) (by omega)) rfl rfl rfl ?_
        refine KG.op (fun Hg og => by have bp := og.blk bp; have c4 := og.blk c4; have c5 := og.blk c5; have bx := og.blk bx; have hm := hm.old og; have ht := ht.old og; have o0 := o0.trans og; exact R.load rfl Try.underlying5 rfl rfl (by first | exact cell_of bp rfl | exact cell_of c4 rfl | exact cell_of c5 rfl | exact cell_of bx rfl | assumption)) rfl rfl rfl ?_
        refine KG.call rfl rfl rfl rfl Try.call11 rfl rfl rfl (fun Hg og => load_any _ _ _ _ (hm.old og) _ _ _ _ _ _ _ _ _ _ (og.blk bp) (og.blk c4) (og.blk c5) (by omega) (by omega) (by omega) q3) ?_
        refine KG.op (fun Hg og => by have bp := og.blk bp; have c4 := og.blk c4; have c5 := og.blk c5; have bx := og.blk bx; have hm := hm.old og; have ht := ht.old og; have o0 := o0.trans og; exact R.bits rfl rfl rfl rfl) rfl rfl rfl ?_
        refine KG.op (fun Hg og => by have bp := og.blk bp; have c4 := og.blk c4; have c5 := og.blk c5; have bx := og.blk bx; have hm := hm.old og; have ht := ht.old og; have o0 := o0.trans og; exact R.indexAddrArr (j := 2) rfl Try.underlying32 sz5 rfl rfl (by first | rfl | omega) (by omega)) rfl rfl rfl ?_
        refine KG.op (fun Hg og => by have bp := og.blk bp; have c4 := og.blk c4; have c5 := og.blk c5; have bx := og.blk bx; have hm := hm.old og; have ht := ht.old og; have o0 := o0.trans og; exact R.load rfl Try.underlying5 rfl rfl (by first | exact cell_of bp rfl | exact cell_of c4 rfl | exact cell_of c5 rfl | exact cell_of bx rfl | assumption)) rfl rfl rfl ?_
        refine KG.op (fun Hg og => by have bp := og.blk bp; have c4 := og.blk c4; have c5 := og.blk c5; have bx := og.blk bx; have hm := hm.old og; have ht := ht.old og; have o0 := o0.trans og; exact R.sub rfl rfl rfl (by dsimp only [InR]; omega)) rfl rfl rfl ?_
        refine KG.op (fun Hg og => by have bp := og.blk bp; have c4 := og.blk c4; have c5 := og.blk c5; have bx := og.blk bx; have hm := hm.old og; have ht := ht.old og; have o0 := o0.trans og; exact R.shl rfl rfl rfl (by omega)) rfl rfl rfl ?_
        refine KG.op (fun Hg og => by have bp := og.blk bp; have c4 := og.blk c4; have c5 := og.blk c5; have bx := og.blk bx; have hm := hm.old og; have ht := ht.old og; have o0 := o0.trans og; exact (R.neq rfl rfl rfl).val ((congrArg (fun b => Value.bool (!b)) (decide_eq_true (by (obtain ⟨e1, e2⟩ := hrow (at_ % 2000 + 0 + off % 2000) (at_ % 2000 + 0 + off % 2000) (at_ % 2000 + x2 / 8 + off % 2000) (by omega) (by omega) rfl (by omega); exact e2)))))) rfl rfl rfl ?_
        refine KG.op (fun Hg og => by have bp := og.blk bp; have c4 := og.blk c4; have c5 := og.blk c5; have bx := og.blk bx; have hm := hm.old og; have ht := ht.old og; have o0 := o0.trans og; exact R.pick rfl rfl rfl) rfl rfl rfl ?_
        refine KG.nil ?_
        intro H14 ogH14
        have o0 := o0.trans ogH14
        have bp := (ogH14).blk bp
        have c4 := (ogH14).blk c4
        have c5 := (ogH14).blk c5
        have oL := oL.trans ogH14
        have bx := (ogH14).blk bx
        have hm := hm.old ogH14
        have ht := ht.old ogH14
        have zH14 := ogH14.1
        refine KQ.seq ?_
        refine KC.condF rfl ?_
        refine KC.skip ?_
        refine KQ.normBlock ?_
        refine KQ.seq ?_
        refine KC.region ?_
        refine KL.op (R.add rfl rfl rfl (by dsimp only [InR]; omega)) rfl rfl rfl ?_
        refine KL.op (R.move rfl rfl) rfl rfl rfl ?_
        refine KL.nil ?_
        refine KQ.again (k + 1) ?_ ?_ ?_
        · exact (Sub.cons rfl (Ext.sub (by repeat (first | exact Ext.refl _ _ | refine Ext.put rfl ?_ | refine Ext.drop rfl ?_))))
        · omega
        · exact ⟨by omega, oL⟩
      · intro hc33
        try simp only [decide_eq_true_eq, decide_eq_false_iff_not, Bool.not_eq_true', Bool.not_eq_false', Bool.and_eq_true, Bool.or_eq_false_iff] at hc33
        refine KC.exit ?_
        refine KQ.exitThen ?_
        refine KQ.exitThen ?_
        refine KQ.hit ?_
        refine KQ.seq ?_
        refine KC.seq ?_
        refine KC.region ?_
        refine KL.call rfl rfl rfl rfl Try.call8 rfl rfl rfl (works_any) ?_
        rintro _ H15 ⟨rfl, ox⟩
        have o0 := o0.trans ox
        have hm := hm.old ox
        have bp := (ox).blk bp
        have c4 := (ox).blk c4
        have c5 := (ox).blk c5
        have ht := ht.old ox
        have oL := oL.trans ox
        refine KL.op (R.assign rfl rfl) rfl rfl rfl ?_
        refine KL.nil ?_
        refine KQ.seq ?_
        refine KC.ret ?_
        refine KQ.ofRet ?_
        refine KQ.fin1 Try.results3 rfl ?_
        exact ⟨rfl, o0⟩

end Go.Proofs.Ytdefjpakpgchhaa
