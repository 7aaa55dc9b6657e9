/- TypingPlays walked. No condition. -/
import Derived.Test.YtglopfbdnpbgeaaTyN
namespace Go.Proofs.Ytglopfbdnpbgeaa
open Go Go.RowKit
set_option linter.unusedVariables false
set_option linter.unusedSimpArgs false
set_option linter.unnecessarySimpa false

section
variable {B : Nat} {X X' : Nat → Prop} {H H' : Heap} {g : Nat} {vL : Value} {s : DS}
theorem st_new {O : Nat → Prop} (o : Old H H') (hO : ∀ b, O b → H.size ≤ b) : StepO (fun _ => False) O H H' := ⟨o.1, fun b hb _ => o.2 b hb, fun b hb => .inr (hO b hb)⟩
end
theorem rs_newX {H' : Heap} {g : Nat} {B : Nat} {X : Nat → Prop} (hb : H'[g]? = some (.cells [.slice none 0 0, .int .i64 0, .int .i64 0].toArray 46 (0, 0))) (hB : B ≤ g) (hX : ∀ b, X b → b < g) : RS B X H' g (.slice none 0 0) ⟨[], [], 0⟩ :=
  ⟨hb, hB, Own.nil _ _ _ _ _ _, fun b h => absurd h (Of.nil b), fun b h => ⟨by have := blk_lt hb; have := hX b h; omega, fun hm => by
    rcases hm with rfl | hm | hm
    · have := hX _ h; omega
    · exact Of.nil b hm
    · exact Of.nil b hm⟩, Nat.zero_le _, Nat.zero_le _, Nat.zero_le _⟩

set_option maxRecDepth 100000 in
set_option maxHeartbeats 4000000 in
theorem RNewX_k {Hb H : Heap} {v : Value} {l : List Int} (hs : Sl 1 (EInt .u8) Hb v l) (oN : Old Hb H) {X : Nat → Prop} (hX : ∀ b, X b → Hb.size ≤ b ∧ b < H.size) (hl : l.length ≤ 1000000) : Ct Try.prog 9 [v] H (fun u H' => ∃ g vL, u = .pointer (some ⟨g, 0, none⟩) ∧ RS H.size X H' g vL (DS.new l) ∧ Old H H') := by
  refine Ct.mk Try.func9 rfl Try.ntmps9 rfl ?_
  intro W0 hW0
  have o0 : Old H H := Old.refl H
  refine KC.seq ?_
  refine KC.region ?_
  refine KL.op (R.assign rfl rfl) rfl rfl rfl ?_
  refine KL.nil ?_
  refine KQ.seq ?_
  refine KC.seq ?_
  refine KC.region ?_
  refine KL.op (R.buildL rfl Try.underlying46 zr46 [(0, 1), (1, 1), (2, 1)] (fun w => by kernel_rfl) rfl trivial rfl rfl trivial rfl) rfl rfl rfl ?_
  refine KL.opM (M.box rfl rfl rfl) rfl rfl rfl ?_
  rintro _ H1 ⟨rfl, n1⟩
  have z1 := n1.2.1
  have o0 := o0.trans n1.1
  have b1 := n1.2.2
  have bg := b1
  refine KL.op (R.assign rfl rfl) rfl rfl rfl ?_
  refine KL.nil ?_
  refine KQ.seq ?_
  refine KC.seq ?_
  refine KC.region ?_
  refine KL.op (R.move rfl rfl) rfl rfl rfl ?_
  refine KL.op (R.move rfl rfl) rfl rfl rfl ?_
  refine KL.op (R.move rfl rfl) rfl rfl rfl ?_
  have zB := o0.1
  have zO := oN.1
  have hlow1 : ∀ b, MS (Array.size H) (.slice none 0 0) (.slice none 0 0) b → Array.size H ≤ b := fun b hb => by
    rcases hb with rfl | hb | hb
    · omega
    · exact absurd hb (Of.nil b)
    · exact absurd hb (Of.nil b)
  have hlow : ∀ b, MX (MS (Array.size H) (.slice none 0 0) (.slice none 0 0)) X b → Hb.size ≤ b := fun b hb => by
    rcases hb with hb | hb
    · have := hlow1 b hb; omega
    · exact (hX b hb).1
  have hq : ∀ H2, KeepP (MX (MS (Array.size H) (.slice none 0 0) (.slice none 0 0)) X) H1 H2 → Sl 1 (EInt .u8) H2 v l := fun H2 k => hs.old (keep_base (oN.trans o0) hlow k)
  refine KL.call rfl rfl rfl rfl Try.call17 rfl rfl rfl (ROpen_k (rs_newX (X := X) bg (Nat.le_refl _) (fun b hb => (hX b hb).2)) hq hq hl hl (by show (0 : Nat) < _; omega)) ?_
  rintro _ H2 ⟨vL, ht, hst⟩
  have hob := hst.oldB (B0 := Array.size H) (by omega) (fun b hb => hlow1 b hb)
  have z_hob := hob.1
  have o0 := o0.then hob (by omega)
  refine KL.nil ?_
  refine KQ.seq ?_
  refine KC.seq ?_
  refine KC.region ?_
  refine KL.op (R.move rfl rfl) rfl rfl rfl ?_
  refine KL.op (R.assign rfl rfl) rfl rfl rfl ?_
  refine KL.nil ?_
  refine KQ.seq ?_
  refine KC.ret ?_
  refine KQ.ofRet ?_
  refine KQ.fin1 Try.results9 rfl ?_
  exact ⟨_, _, rfl, ht, o0⟩

set_option maxRecDepth 100000 in
set_option maxHeartbeats 4000000 in
theorem TypingPlays_k {H : Heap} {v u : Value} {ends : List Int} {l : List Dox} (hs : Sl 1 (EInt .u8) H v ends) (ht : Sl 4 EDo H u l) : Ct Try.prog 3 [v, u] H (fun u H' => u = .bool true ∧ Old H H') := by
  refine Ct.mk Try.func3 rfl Try.ntmps3 rfl ?_
  intro W0 hW0
  have o0 : Old H H := Old.refl H
  have hll := hs.len
  have hlu := ht.len
  refine KC.seq ?_
  refine KC.region ?_
  refine KL.op (R.assign rfl rfl) rfl rfl rfl ?_
  refine KL.nil ?_
  refine KQ.seq ?_
  refine KC.seq ?_
  refine KC.seq ?_
  refine KC.region ?_
  refine KL.call rfl rfl rfl rfl Try.call6 rfl rfl rfl (known_k) ?_
  rintro _ H1 ⟨rfl, ox⟩
  have zc_H1 := (ox).1
  have o0 := o0.trans ox
  refine KL.op (R.not rfl rfl) rfl rfl rfl ?_
  refine KL.nil ?_
  refine KQ.seq ?_
  refine KC.condF rfl ?_
  refine KC.skip ?_
  refine KQ.seq ?_
  refine KC.seq ?_
  refine KC.seq ?_
  refine KC.region ?_
  refine KL.op (R.move rfl rfl) rfl rfl rfl ?_
  refine KL.call rfl rfl rfl rfl Try.call7 rfl rfl rfl (heavy_k (ht.old o0)) ?_
  rintro _ H2 ⟨rfl, ox⟩
  have zc_H2 := (ox).1
  have o0 := o0.trans ox
  refine KL.op (R.move rfl rfl) rfl rfl rfl ?_
  refine KL.case (d := 25) rfl ?_ ?_
  · intro hg25
    try simp only [decide_eq_true_eq, decide_eq_false_iff_not, Bool.not_eq_true', Bool.not_eq_false', Bool.and_eq_true, Bool.or_eq_false_iff] at hg25
    refine KL.skip rfl rfl rfl ?_
    refine KL.skip rfl rfl rfl ?_
    refine KL.skip rfl rfl rfl ?_
    refine KL.op (R.pick rfl rfl rfl) rfl rfl rfl ?_
    refine KL.nil ?_
    refine KQ.seq ?_
    refine KC.condT rfl ?_
    refine KC.seq ?_
    refine KC.region ?_
    refine KL.op (R.assign rfl rfl) rfl rfl rfl ?_
    refine KL.nil ?_
    refine KQ.seq ?_
    refine KC.ret ?_
    refine KQ.retThen ?_
    refine KQ.ofRet ?_
    refine KQ.fin1 Try.results3 rfl ?_
    exact ⟨rfl, o0⟩
  · intro hg25
    try simp only [decide_eq_true_eq, decide_eq_false_iff_not, Bool.not_eq_true', Bool.not_eq_false', Bool.and_eq_true, Bool.or_eq_false_iff] at hg25
    have hhv : ¬ (2000 < wt l ∨ 300 < l.length) := of_decide_eq_false hg25
    refine KL.op (R.move rfl rfl) rfl rfl rfl ?_
    refine KL.op (R.lenS rfl Try.underlying22 rfl hs) rfl rfl rfl ?_
    refine KL.op (R.gtr rfl rfl rfl) rfl rfl rfl ?_
    refine KL.op (R.pick rfl rfl rfl) rfl rfl rfl ?_
    refine KL.nil ?_
    refine KQ.seq ?_
    refine KC.iteL rfl ?_ ?_
    · intro hc29
      try simp only [decide_eq_true_eq, decide_eq_false_iff_not, Bool.not_eq_true', Bool.not_eq_false', Bool.and_eq_true, Bool.or_eq_false_iff] at hc29
      refine KC.seq ?_
      refine KC.region ?_
      refine KL.op (R.assign rfl rfl) rfl rfl rfl ?_
      refine KL.nil ?_
      refine KQ.seq ?_
      refine KC.ret ?_
      refine KQ.retThen ?_
      refine KQ.ofRet ?_
      refine KQ.fin1 Try.results3 rfl ?_
      exact ⟨rfl, o0⟩
    · intro hc29
      try simp only [decide_eq_true_eq, decide_eq_false_iff_not, Bool.not_eq_true', Bool.not_eq_false', Bool.and_eq_true, Bool.or_eq_false_iff] at hc29
      have hen : ends.length ≤ 1000 := by omega
      refine KC.skip ?_
      refine KQ.seq ?_
      refine KC.seq ?_
      refine KC.region ?_
      refine KL.op (R.move rfl rfl) rfl rfl rfl ?_
      refine KL.call rfl rfl rfl rfl Try.call8 rfl rfl rfl (New_k (hs.old o0) (by omega)) ?_
      rintro _ H3 ⟨g, vl, vf, rfl, ts0, ox⟩
      have ts : TS H.size (fun _ => False) H3 g vl vf (DS.new ends) := TS.base_le ts0 (by have := o0.1; omega)
      have zc_H3 := (ox).1
      have o0 := o0.trans ox
      refine KL.op (R.move rfl rfl) rfl rfl rfl ?_
      have tsN := ts
      have zN := o0.1
      have oN := o0
      refine KL.call rfl rfl rfl rfl Try.call9 rfl rfl rfl (RNewX_k hs oN (X := MS g vl vf) (fun b hb => tsN.low b hb) (by omega)) ?_
      rintro _ H4 ⟨gr, vL, rfl, rs0, ox⟩
      have rs : RS H.size (MS g vl vf) H4 gr vL (DS.new ends) := RS.base_le rs0 (by omega)
      have zc_H4 := (ox).1
      have o0 := o0.trans ox
      have ts := ts.old ox
      have ts : TS H.size (MS gr vL (.slice none 0 0)) H4 g vl vf (DS.new ends) := tsN.other (st_new ox (fun b hb => (rs0.low b hb).1)) (fun b hb => (rs0.low b hb).2)
      refine KL.op (R.assign rfl rfl) rfl rfl rfl ?_
      refine KL.op (R.assign rfl rfl) rfl rfl rfl ?_
      refine KL.nil ?_
      refine KQ.seq ?_
      refine KC.seq ?_
      refine KC.seq ?_
      refine KC.region ?_
      refine KL.op (R.move rfl rfl) rfl rfl rfl ?_
      refine KL.op (R.lenS rfl Try.underlying23 rfl ht) rfl rfl rfl ?_
      refine KL.op (R.move rfl rfl) rfl rfl rfl ?_
      refine KL.nil ?_
      refine KQ.seq ?_
      refine KC.block ?_
      refine KC.loopD (κ := Nat) [37, 38, 39, 8, 40, 41, 43, 42, 44, 45, 46, 47, 48, 49, 50, 51, 53, 52, 55, 56, 54, 57, 58, 9, 10, 60, 61, 59, 62, 63, 11, 12, 64, 65, 66, 67, 68, 69, 70, 71, 4, 73, 72, 74, 75, 76, 77, 78, 79, 80, 81, 82, 84, 83, 85, 86, 87, 88, 89, 90, 91, 92, 93, 94, 95, 96, 98, 97, 100, 101, 99, 102, 103, 13, 14, 105, 106, 104, 107, 108, 15, 16, 109, 110, 111, 112, 113, 114, 115, 116, 117, 118, 120, 119, 121, 122, 123, 124, 126, 125, 128, 129, 130, 131, 127, 132, 133, 17, 18, 135, 136, 137, 138, 134, 139, 140, 19, 20, 141, 142, 143, 144, 145, 146, 147, 148, 149, 150, 151, 152, 153, 154, 155, 156, 157, 158, 159, 160, 161, 162, 163, 164, 165, 166, 167, 168, 169, 170, 171, 172, 173, 174, 175, 36] (fun k => [(36, .int .i64 (k : Nat))]) (fun k Hl => k ≤ l.length ∧ Old H Hl ∧ ∃ vl vf vL d, TS H.size (MS gr vL (.slice none 0 0)) Hl g vl vf d ∧ RS H.size (MS g vl vf) Hl gr vL d ∧ d.all.length ≤ wt (l.take k) ∧ d.fr.length ≤ k + 1) (fun k => l.length - k) 0 ?_ ?_ ?_
      · exact (Sub.cons rfl (Ext.sub (Ext.refl _ _)))
      · exact ⟨Nat.zero_le _, o0, _, _, _, _, ts, rs, Nat.zero_le _, Nat.le_refl _⟩
      · rintro k H5 ⟨hk, o0, vl, vf, vL, d, ts, rs, hda, hdf⟩
        have zl_H5 := o0.1
        have zl := o0.1
        refine KC.seq ?_
        refine KC.region ?_
        refine KL.op (R.lss rfl rfl rfl) rfl rfl rfl ?_
        refine KL.nil ?_
        refine KQ.seq ?_
        refine KC.seq ?_
        refine KC.iteL rfl ?_ ?_
        · intro hc37
          try simp only [decide_eq_true_eq, decide_eq_false_iff_not, Bool.not_eq_true', Bool.not_eq_false', Bool.and_eq_true, Bool.or_eq_false_iff] at hc37
          obtain ⟨vl1, ve1, hcx, hx1, hx2, hr1, hr2, hb1, hb2⟩ := ht.doAt k (by omega)
          have hwt := wt_take (l := l) (k := k) (by omega)
          have hwl := wt_le l (k + 1)
          obtain ⟨n, hn⟩ : ∃ n : Nat, (l.getD k default).n = (n : Int) := ⟨(l.getD k default).n.toNat, by have := hr2.1; omega⟩
          have hn2 : n < 4294967296 := by have := hr2.2; omega
          refine KC.skip ?_
          refine KQ.seq ?_
          refine KC.seq ?_
          refine KC.block ?_
          refine KC.seq ?_
          have oP : Old H5 H5 := Old.refl _
          have tsP := ts
          have rsP := rs
          have hbs : ¬ MS g vl vf (Array.size H5) := fun hm => by have := (ts.low _ hm).2; omega
          have hbr : ¬ MS gr vL (.slice none 0 0) (Array.size H5) := fun hm => by have := (rs.low _ hm).2; omega
          have hbs0 := hbs
          have hbr0 := hbr
          have zP := o0.1
          refine KC.region ?_
          refine KL.op (R.index (j := k) rfl Try.underlying23 sz32 rfl rfl ht rfl (by omega)) rfl rfl rfl ?_
          refine KL.op (R.loadAgg (cs := [.int .i64 (l.getD k default).kind, vl1, ve1, .int .u32 (l.getD k default).n]) rfl Try.underlying32 rfl sz32 rfl (o0.cells hcx) rfl) rfl rfl rfl ?_
          refine KL.opM (M.alloc rfl zr32 rfl) rfl rfl rfl ?_
          rintro _ H6 ⟨rfl, n6⟩
          have z6 := n6.2.1
          have o0 := o0.trans n6.1
          have ts := ts.old n6.1
          have rs := rs.old n6.1
          have oP := oP.trans n6.1
          have b6 := n6.2.2
          have bx := b6
          refine KL.opS (S.storeAgg (us := [.int .i64 (l.getD k default).kind, vl1, ve1, .int .u32 (l.getD k default).n]) rfl sz32 rfl rfl (rfl) (by intro u hu; simp only [List.mem_cons, List.not_mem_nil, or_false] at hu; rcases hu with rfl | rfl | rfl | rfl <;> first | rfl | exact hx1.one | exact hx2.one) bx (by simp)) rfl rfl ?_
          rintro H7 ⟨u7, b7⟩
          have o0 := o0.upd u7 (by omega)
          have zu7 := u7.1
          have oP := oP.upd u7 (by omega)
          have bx := b7
          rw [over_all (by rfl)] at bx
          have ts := tsP.old oP
          have rs := rsP.old oP
          refine KL.nil ?_
          refine KQ.seq ?_
          refine KC.seq ?_
          refine KC.cutD (κ := Unit) [40, 41, 43, 42, 44, 45, 46, 47, 48, 49, 50, 51, 53, 52, 55, 56, 54, 57, 58, 9, 10, 60, 61, 59, 62, 63, 11, 12, 64, 65, 66, 67, 68, 69, 70, 71, 4, 73, 72, 74, 75, 76, 77, 78, 79, 80, 81, 82, 84, 83, 85, 86, 87, 88, 89, 90, 91, 92, 93, 94, 95, 96, 98, 97, 100, 101, 99, 102, 103, 13, 14, 105, 106, 104, 107, 108, 15, 16, 109, 110, 111, 112, 113, 114, 115, 116, 117, 118, 120, 119, 121, 122, 123, 124, 126, 125, 128, 129, 130, 131, 127, 132, 133, 17, 18, 135, 136, 137, 138, 134, 139, 140, 19, 20, 141, 142, 143, 144, 145, 146, 147, 148, 149, 150] (fun _ => []) (fun _ Hl => Old H Hl ∧ ∃ vl vf vL d, TS H.size (MS gr vL (.slice none 0 0)) Hl g vl vf d ∧ RS H.size (MS g vl vf) Hl gr vL d ∧ d.all.length ≤ wt (l.take (k + 1)) ∧ d.fr.length ≤ k + 2) ?_ ?_
          · skip
            refine KC.seq ?_
            refine KC.region ?_
            refine KL.op ((by first | exact R.fieldAddr rfl Try.underlying32 rfl rfl sz3 rfl | exact R.fieldAddrP rfl Try.underlying32 rfl rfl sz3 rfl)) rfl rfl rfl ?_
            refine KL.op (R.load rfl Try.underlying3 rfl rfl (cell_of bx rfl)) rfl rfl rfl ?_
            refine KL.nil ?_
            refine KQ.seq ?_
            refine KC.block ?_
            refine KC.seq ?_
            refine KC.region ?_
            refine KL.op (R.eql rfl rfl rfl) rfl rfl rfl ?_
            refine KL.op (R.assign rfl rfl) rfl rfl rfl ?_
            refine KL.nil ?_
            refine KQ.seq ?_
            refine KC.iteL rfl ?_ ?_
            · intro hc42
              try simp only [decide_eq_true_eq, decide_eq_false_iff_not, Bool.not_eq_true', Bool.not_eq_false', Bool.and_eq_true, Bool.or_eq_false_iff] at hc42
              refine KC.seq ?_
              refine KC.region ?_
              refine KL.op (R.move rfl rfl) rfl rfl rfl ?_
              refine KL.op ((by first | exact R.fieldAddr rfl Try.underlying32 rfl rfl sz22 rfl | exact R.fieldAddrP rfl Try.underlying32 rfl rfl sz22 rfl)) rfl rfl rfl ?_
              refine KL.op (R.load rfl Try.underlying22 rfl rfl (cell_of bx rfl)) rfl rfl rfl ?_
              refine KL.call rfl rfl rfl rfl Try.call10 rfl rfl rfl (Push_k ts (hx1.old o0) (by omega)) ?_
              rintro uu H8 ⟨vl, ts1, st⟩
              have hob := st.oldB (B0 := H.size) (by have := o0.1; omega) (fun b hb => (ts.low b hb).1)
              have rs := rs.other st (fun b hb => (ts1.low b hb).2)
              have hbs := st.notM hbs (blk_lt bx)
              have bx := st.blk hbs0 bx
              have ts := ts1
              have hbs0 := hbs
              have z_hob := hob.1
              have o0 := o0.then hob (by omega)
              refine KL.nil ?_
              refine KQ.seq ?_
              refine KC.region ?_
              refine KL.op (R.move rfl rfl) rfl rfl rfl ?_
              refine KL.op ((by first | exact R.fieldAddr rfl Try.underlying32 rfl rfl sz22 rfl | exact R.fieldAddrP rfl Try.underlying32 rfl rfl sz22 rfl)) rfl rfl rfl ?_
              refine KL.op (R.load rfl Try.underlying22 rfl rfl (cell_of bx rfl)) rfl rfl rfl ?_
              refine KL.call rfl rfl rfl rfl Try.call11 rfl rfl rfl (RPush_k rs (hx1.old o0) (by omega)) ?_
              rintro uu H9 ⟨rs1, st⟩
              have hob := st.oldB (B0 := H.size) (by have := o0.1; omega) (fun b hb => (rs.low b hb).1)
              have ts := ts.other st (fun b hb => (rs1.low b hb).2)
              have hbr := st.notM hbr (blk_lt bx)
              have bx := st.blk hbr0 bx
              have rs := rs1
              have hbr0 := hbr
              have hda2 := d.push_b (l.getD k default).l
              have hda : (d.push (l.getD k default).l).all.length ≤ wt (l.take (k + 1)) := by rw [hda2.1]; omega
              have hdf : (d.push (l.getD k default).l).fr.length ≤ k + 2 := by omega
              have z_hob := hob.1
              have o0 := o0.then hob (by omega)
              refine KL.nil ?_
              refine KQ.normBlock ?_
              refine KQ.meet () ?_ ?_
              · exact (Ext.sub (by repeat (first | exact Ext.refl _ _ | refine Ext.put rfl ?_ | refine Ext.drop rfl ?_)))
              · exact ⟨o0, _, _, _, _, ts, rs, by first | exact hda | omega, by first | exact hdf | omega⟩
            · intro hc42
              try simp only [decide_eq_true_eq, decide_eq_false_iff_not, Bool.not_eq_true', Bool.not_eq_false', Bool.and_eq_true, Bool.or_eq_false_iff] at hc42
              refine KC.seq ?_
              refine KC.region ?_
              refine KL.op (R.eql rfl rfl rfl) rfl rfl rfl ?_
              refine KL.op (R.assign rfl rfl) rfl rfl rfl ?_
              refine KL.nil ?_
              refine KQ.seq ?_
              refine KC.iteL rfl ?_ ?_
              · intro hc52
                try simp only [decide_eq_true_eq, decide_eq_false_iff_not, Bool.not_eq_true', Bool.not_eq_false', Bool.and_eq_true, Bool.or_eq_false_iff] at hc52
                refine KC.seq ?_
                refine KC.region ?_
                refine KL.op (R.move rfl rfl) rfl rfl rfl ?_
                refine KL.call rfl rfl rfl rfl Try.call12 rfl rfl rfl (Pop_k ts) ?_
                rintro uu H10 ⟨vl, hu, ts1, st⟩
                have hob := st.oldB (B0 := H.size) (by have := o0.1; omega) (fun b hb => (ts.low b hb).1)
                have rs := rs.other st (fun b hb => (ts1.low b hb).2)
                have hbs := st.notM hbs (blk_lt bx)
                have bx := st.blk hbs0 bx
                have ts := ts1
                have hbs0 := hbs
                subst hu
                have z_hob := hob.1
                have o0 := o0.then hob (by omega)
                refine KL.op (R.move rfl rfl) rfl rfl rfl ?_
                refine KL.op (R.extract rfl rfl rfl) rfl rfl rfl ?_
                refine KL.op (R.extract rfl rfl rfl) rfl rfl rfl ?_
                refine KL.op (R.assign rfl rfl) rfl rfl rfl ?_
                refine KL.op (R.assign rfl rfl) rfl rfl rfl ?_
                refine KL.nil ?_
                refine KQ.seq ?_
                refine KC.seq ?_
                refine KC.region ?_
                refine KL.op (R.move rfl rfl) rfl rfl rfl ?_
                refine KL.call rfl rfl rfl rfl Try.call13 rfl rfl rfl (RPop_k rs) ?_
                rintro uu H11 ⟨hu, rs1, st⟩
                have hob := st.oldB (B0 := H.size) (by have := o0.1; omega) (fun b hb => (rs.low b hb).1)
                have ts := ts.other st (fun b hb => (rs1.low b hb).2)
                have hbr := st.notM hbr (blk_lt bx)
                have bx := st.blk hbr0 bx
                have rs := rs1
                have hbr0 := hbr
                have hda2 := d.pop_b
                have hda : d.pop.2.2.all.length ≤ wt (l.take (k + 1)) := by omega
                have hdf : d.pop.2.2.fr.length ≤ k + 2 := by omega
                subst hu
                have z_hob := hob.1
                have o0 := o0.then hob (by omega)
                refine KL.op (R.move rfl rfl) rfl rfl rfl ?_
                refine KL.op (R.extract rfl rfl rfl) rfl rfl rfl ?_
                refine KL.op (R.extract rfl rfl rfl) rfl rfl rfl ?_
                refine KL.op (R.assign rfl rfl) rfl rfl rfl ?_
                refine KL.op (R.assign rfl rfl) rfl rfl rfl ?_
                refine KL.nil ?_
                refine KQ.seq ?_
                refine KC.seq ?_
                refine KC.region ?_
                refine KL.op (R.move rfl rfl) rfl rfl rfl ?_
                refine KL.op (R.move rfl rfl) rfl rfl rfl ?_
                refine KL.op ((R.neq rfl rfl rfl).val ((congrArg (fun b => Value.bool (!b)) (decide_eq_true (by rfl))))) rfl rfl rfl ?_
                refine KL.op (R.move rfl rfl) rfl rfl rfl ?_
                refine KL.op (R.move rfl rfl) rfl rfl rfl ?_
                refine KL.op (R.move rfl rfl) rfl rfl rfl ?_
                refine KL.op ((R.neqB rfl Try.underlying4 rfl rfl).val (congrArg Value.bool (show (!(_ == _)) = false by simp))) rfl rfl rfl ?_
                refine KL.op (R.pick rfl rfl rfl) rfl rfl rfl ?_
                refine KL.nil ?_
                refine KQ.seq ?_
                refine KC.condF rfl ?_
                refine KC.skip ?_
                refine KQ.normBlock ?_
                refine KQ.meet () ?_ ?_
                · exact (Ext.sub (by repeat (first | exact Ext.refl _ _ | refine Ext.put rfl ?_ | refine Ext.drop rfl ?_)))
                · exact ⟨o0, _, _, _, _, ts, rs, by first | exact hda | omega, by first | exact hdf | omega⟩
              · intro hc52
                try simp only [decide_eq_true_eq, decide_eq_false_iff_not, Bool.not_eq_true', Bool.not_eq_false', Bool.and_eq_true, Bool.or_eq_false_iff] at hc52
                refine KC.seq ?_
                refine KC.region ?_
                refine KL.op (R.eql rfl rfl rfl) rfl rfl rfl ?_
                refine KL.op (R.assign rfl rfl) rfl rfl rfl ?_
                refine KL.nil ?_
                refine KQ.seq ?_
                refine KC.iteL rfl ?_ ?_
                · intro hc72
                  try simp only [decide_eq_true_eq, decide_eq_false_iff_not, Bool.not_eq_true', Bool.not_eq_false', Bool.and_eq_true, Bool.or_eq_false_iff] at hc72
                  refine KC.seq ?_
                  refine KC.text (clOf [(3, 2), (7, 2)]) (fun i Hc => (i = 2 ∨ i = 6) → Hc[(Array.size H5)]? = some (.cells ([.int .i64 (l.getD k default).kind, vl1, ve1, .int .u32 (l.getD k default).n] : List Value).toArray 32 (0, 0))) (by kernel_rfl) (by kernel_rfl) (fun _ _ => bx) ?_
                  refine KP.op rfl (fun Hg hg => R.move rfl rfl) rfl rfl rfl ?_
                  refine KP.op rfl (fun Hg hg => (by first | exact R.fieldAddr rfl Try.underlying32 rfl rfl sz22 rfl | exact R.fieldAddrP rfl Try.underlying32 rfl rfl sz22 rfl)) rfl rfl rfl ?_
                  refine KP.op rfl (fun Hg hg => R.load rfl Try.underlying22 rfl rfl (cell_of (hg (by omega)) rfl)) rfl rfl rfl ?_
                  refine KP.call rfl rfl rfl rfl rfl Try.call14 rfl rfl rfl (Want_k ts (hx1.old o0)) (fun _ _ hR j _ _ _ => by obtain ⟨_, _, _, st⟩ := hR; exact st.blk hbs0 bx) ?_
                  rintro uu H12 ⟨vl, hu, ts1, st⟩
                  have hob := st.oldB (B0 := H.size) (by have := o0.1; omega) (fun b hb => (ts.low b hb).1)
                  have rs := rs.other st (fun b hb => (ts1.low b hb).2)
                  have hbs := st.notM hbs (blk_lt bx)
                  have bx := st.blk hbs0 bx
                  have ts := ts1
                  have hbs0 := hbs
                  subst hu
                  have z_hob := hob.1
                  have o0 := o0.then hob (by omega)
                  refine KP.op rfl (fun Hg hg => R.move rfl rfl) rfl rfl rfl ?_
                  refine KP.op rfl (fun Hg hg => (by first | exact R.fieldAddr rfl Try.underlying32 rfl rfl sz22 rfl | exact R.fieldAddrP rfl Try.underlying32 rfl rfl sz22 rfl)) rfl rfl rfl ?_
                  refine KP.op rfl (fun Hg hg => R.load rfl Try.underlying22 rfl rfl (cell_of (hg (by omega)) rfl)) rfl rfl rfl ?_
                  refine KP.call rfl rfl rfl rfl rfl Try.call15 rfl rfl rfl (RWant_k rs (hx1.old o0)) (fun _ _ hR j _ _ _ => by obtain ⟨_, _, st⟩ := hR; exact st.blk hbr0 bx) ?_
                  rintro uu H13 ⟨hu, rs1, st⟩
                  have hob := st.oldB (B0 := H.size) (by have := o0.1; omega) (fun b hb => (rs.low b hb).1)
                  have ts := ts.other st (fun b hb => (rs1.low b hb).2)
                  have hbr := st.notM hbr (blk_lt bx)
                  have bx := st.blk hbr0 bx
                  have rs := rs1
                  have hbr0 := hbr
                  have hda2 := d.want_b (l.getD k default).l
                  have hda : (d.want (l.getD k default).l).2.all.length ≤ wt (l.take (k + 1)) := by omega
                  have hdf : (d.want (l.getD k default).l).2.fr.length ≤ k + 2 := by omega
                  subst hu
                  have z_hob := hob.1
                  have o0 := o0.then hob (by omega)
                  refine KP.op rfl (fun Hg hg => (R.neqB rfl Try.underlying4 rfl rfl).val (congrArg Value.bool (show (!(_ == _)) = false by simp))) rfl rfl rfl ?_
                  refine KP.nil ?_
                  refine KQ.seq ?_
                  refine KC.condF rfl ?_
                  refine KC.skip ?_
                  refine KQ.normBlock ?_
                  refine KQ.meet () ?_ ?_
                  · exact (Ext.sub (by repeat (first | exact Ext.refl _ _ | refine Ext.put rfl ?_ | refine Ext.drop rfl ?_)))
                  · exact ⟨o0, _, _, _, _, ts, rs, by first | exact hda | omega, by first | exact hdf | omega⟩
                · intro hc72
                  try simp only [decide_eq_true_eq, decide_eq_false_iff_not, Bool.not_eq_true', Bool.not_eq_false', Bool.and_eq_true, Bool.or_eq_false_iff] at hc72
                  refine KC.seq ?_
                  refine KC.region ?_
                  refine KL.op (R.eql rfl rfl rfl) rfl rfl rfl ?_
                  refine KL.op (R.assign rfl rfl) rfl rfl rfl ?_
                  refine KL.nil ?_
                  refine KQ.seq ?_
                  refine KC.iteL rfl ?_ ?_
                  · intro hc83
                    try simp only [decide_eq_true_eq, decide_eq_false_iff_not, Bool.not_eq_true', Bool.not_eq_false', Bool.and_eq_true, Bool.or_eq_false_iff] at hc83
                    refine KC.seq ?_
                    refine KC.region ?_
                    refine KL.op (R.move rfl rfl) rfl rfl rfl ?_
                    refine KL.op ((by first | exact R.fieldAddr rfl Try.underlying32 rfl rfl sz22 rfl | exact R.fieldAddrP rfl Try.underlying32 rfl rfl sz22 rfl)) rfl rfl rfl ?_
                    refine KL.op (R.load rfl Try.underlying22 rfl rfl (cell_of bx rfl)) rfl rfl rfl ?_
                    refine KL.op ((by first | exact R.fieldAddr rfl Try.underlying32 rfl rfl sz22 rfl | exact R.fieldAddrP rfl Try.underlying32 rfl rfl sz22 rfl)) rfl rfl rfl ?_
                    refine KL.op (R.load rfl Try.underlying22 rfl rfl (cell_of bx rfl)) rfl rfl rfl ?_
                    refine KL.call rfl rfl rfl rfl Try.call16 rfl rfl rfl (Open_k ts (hx1.old o0) (hx2.old o0) (by omega) (by omega) (by omega)) ?_
                    rintro uu H14 ⟨vf, ts1, st⟩
                    have hob := st.oldB (B0 := H.size) (by have := o0.1; omega) (fun b hb => (ts.low b hb).1)
                    have rs := rs.other st (fun b hb => (ts1.low b hb).2)
                    have hbs := st.notM hbs (blk_lt bx)
                    have bx := st.blk hbs0 bx
                    have ts := ts1
                    have hbs0 := hbs
                    have z_hob := hob.1
                    have o0 := o0.then hob (by omega)
                    refine KL.nil ?_
                    refine KQ.seq ?_
                    refine KC.region ?_
                    refine KL.op (R.move rfl rfl) rfl rfl rfl ?_
                    refine KL.op ((by first | exact R.fieldAddr rfl Try.underlying32 rfl rfl sz22 rfl | exact R.fieldAddrP rfl Try.underlying32 rfl rfl sz22 rfl)) rfl rfl rfl ?_
                    refine KL.op (R.load rfl Try.underlying22 rfl rfl (cell_of bx rfl)) rfl rfl rfl ?_
                    refine KL.op ((by first | exact R.fieldAddr rfl Try.underlying32 rfl rfl sz22 rfl | exact R.fieldAddrP rfl Try.underlying32 rfl rfl sz22 rfl)) rfl rfl rfl ?_
                    refine KL.op (R.load rfl Try.underlying22 rfl rfl (cell_of bx rfl)) rfl rfl rfl ?_
                    have hMr : ∀ b, MX (MS gr vL (.slice none 0 0)) (MS g vl vf) b → Array.size H ≤ b := fun b hb => hb.elim (fun hb => (rs.low b hb).1) (fun hb => (ts.low b hb).1)
                    refine KL.call rfl rfl rfl rfl Try.call17 rfl rfl rfl (ROpen_k rs (fun H2 kk => hx1.old (keep_base o0 hMr kk)) (fun H2 kk => hx2.old (keep_base o0 hMr kk)) (by omega) (by omega) (by omega)) ?_
                    rintro uu H15 ⟨vL, rs1, st⟩
                    have hob := st.oldB (B0 := H.size) (by have := o0.1; omega) (fun b hb => (rs.low b hb).1)
                    have ts := ts.other st (fun b hb => (rs1.low b hb).2)
                    have hbr := st.notM hbr (blk_lt bx)
                    have bx := st.blk hbr0 bx
                    have rs := rs1
                    have hbr0 := hbr
                    have hda2 := d.open_b (l.getD k default).l (l.getD k default).ends
                    have hda : (d.open (l.getD k default).l (l.getD k default).ends).all.length ≤ wt (l.take (k + 1)) := by omega
                    have hdf : (d.open (l.getD k default).l (l.getD k default).ends).fr.length ≤ k + 2 := by omega
                    have z_hob := hob.1
                    have o0 := o0.then hob (by omega)
                    refine KL.nil ?_
                    refine KQ.normBlock ?_
                    refine KQ.meet () ?_ ?_
                    · exact (Ext.sub (by repeat (first | exact Ext.refl _ _ | refine Ext.put rfl ?_ | refine Ext.drop rfl ?_)))
                    · exact ⟨o0, _, _, _, _, ts, rs, by first | exact hda | omega, by first | exact hdf | omega⟩
                  · intro hc83
                    try simp only [decide_eq_true_eq, decide_eq_false_iff_not, Bool.not_eq_true', Bool.not_eq_false', Bool.and_eq_true, Bool.or_eq_false_iff] at hc83
                    refine KC.seq ?_
                    refine KC.region ?_
                    refine KL.op (R.eql rfl rfl rfl) rfl rfl rfl ?_
                    refine KL.op (R.assign rfl rfl) rfl rfl rfl ?_
                    refine KL.nil ?_
                    refine KQ.seq ?_
                    refine KC.iteL rfl ?_ ?_
                    · intro hc97
                      try simp only [decide_eq_true_eq, decide_eq_false_iff_not, Bool.not_eq_true', Bool.not_eq_false', Bool.and_eq_true, Bool.or_eq_false_iff] at hc97
                      refine KC.seq ?_
                      refine KC.region ?_
                      refine KL.op (R.move rfl rfl) rfl rfl rfl ?_
                      refine KL.call rfl rfl rfl rfl Try.call18 rfl rfl rfl (Close_s ts) ?_
                      rintro uu H16 ⟨ev, vl, vf, hu, hq, ts1, st⟩
                      have hob := st.oldB (B0 := H.size) (by have := o0.1; omega) (fun b hb => (ts.low b hb).1)
                      have rs := rs.other st (fun b hb => (ts1.low b hb).2)
                      have hbs := st.notM hbs (blk_lt bx)
                      have bx := st.blk hbs0 bx
                      have ts := ts1
                      have hbs0 := hbs
                      subst hu
                      have z_hob := hob.1
                      have o0 := o0.then hob (by omega)
                      refine KL.op (R.move rfl rfl) rfl rfl rfl ?_
                      refine KL.op (R.extract rfl rfl rfl) rfl rfl rfl ?_
                      refine KL.op (R.extract rfl rfl rfl) rfl rfl rfl ?_
                      refine KL.op (R.assign rfl rfl) rfl rfl rfl ?_
                      refine KL.op (R.assign rfl rfl) rfl rfl rfl ?_
                      refine KL.nil ?_
                      refine KQ.seq ?_
                      refine KC.seq ?_
                      refine KC.region ?_
                      refine KL.op (R.move rfl rfl) rfl rfl rfl ?_
                      refine KL.call rfl rfl rfl rfl Try.call19 rfl rfl rfl (RClose_k rs) ?_
                      rintro uu H17 ⟨ez, vL, hu, hz, rs1, st⟩
                      have hob := st.oldB (B0 := H.size) (by have := o0.1; omega) (fun b hb => (rs.low b hb).1)
                      have ts := ts.other st (fun b hb => (rs1.low b hb).2)
                      have hbr := st.notM hbr (blk_lt bx)
                      have bx := st.blk hbr0 bx
                      have rs := rs1
                      have hbr0 := hbr
                      have hx := hq _ ⟨st.1, fun b hb hn => st.2.1 b hb (fun hh => hn (.inr hh))⟩
                      have hda2 := d.close_b
                      have hda : d.close.2.2.all.length ≤ wt (l.take (k + 1)) := by omega
                      have hdf : d.close.2.2.fr.length ≤ k + 2 := by omega
                      subst hu
                      have z_hob := hob.1
                      have o0 := o0.then hob (by omega)
                      refine KL.op (R.move rfl rfl) rfl rfl rfl ?_
                      refine KL.op (R.extract rfl rfl rfl) rfl rfl rfl ?_
                      refine KL.op (R.extract rfl rfl rfl) rfl rfl rfl ?_
                      refine KL.op (R.assign rfl rfl) rfl rfl rfl ?_
                      refine KL.op (R.assign rfl rfl) rfl rfl rfl ?_
                      refine KL.nil ?_
                      refine KQ.seq ?_
                      refine KC.seq ?_
                      refine KC.region ?_
                      refine KL.op (R.move rfl rfl) rfl rfl rfl ?_
                      refine KL.op (R.convBS rfl Try.underlying22 Try.underlying5 Try.underlying9 rfl (hx)) rfl rfl rfl ?_
                      refine KL.op (R.move rfl rfl) rfl rfl rfl ?_
                      refine KL.op (R.convBS rfl Try.underlying22 Try.underlying5 Try.underlying9 rfl (hz)) rfl rfl rfl ?_
                      refine KL.op ((R.neqStr rfl rfl rfl).val (congrArg (fun b => Value.bool (!b)) (beq_self_eq_true _))) rfl rfl rfl ?_
                      refine KL.op (R.move rfl rfl) rfl rfl rfl ?_
                      refine KL.op (R.move rfl rfl) rfl rfl rfl ?_
                      refine KL.op (R.move rfl rfl) rfl rfl rfl ?_
                      refine KL.op ((R.neqB rfl Try.underlying4 rfl rfl).val (congrArg Value.bool (show (!(_ == _)) = false by simp))) rfl rfl rfl ?_
                      refine KL.op (R.pick rfl rfl rfl) rfl rfl rfl ?_
                      refine KL.nil ?_
                      refine KQ.seq ?_
                      refine KC.condF rfl ?_
                      refine KC.skip ?_
                      refine KQ.normBlock ?_
                      refine KQ.meet () ?_ ?_
                      · exact (Ext.sub (by repeat (first | exact Ext.refl _ _ | refine Ext.put rfl ?_ | refine Ext.drop rfl ?_)))
                      · exact ⟨o0, _, _, _, _, ts, rs, by first | exact hda | omega, by first | exact hdf | omega⟩
                    · intro hc97
                      try simp only [decide_eq_true_eq, decide_eq_false_iff_not, Bool.not_eq_true', Bool.not_eq_false', Bool.and_eq_true, Bool.or_eq_false_iff] at hc97
                      refine KC.seq ?_
                      refine KC.region ?_
                      refine KL.op (R.eql rfl rfl rfl) rfl rfl rfl ?_
                      refine KL.op (R.assign rfl rfl) rfl rfl rfl ?_
                      refine KL.nil ?_
                      refine KQ.seq ?_
                      refine KC.iteL rfl ?_ ?_
                      · intro hc119
                        try simp only [decide_eq_true_eq, decide_eq_false_iff_not, Bool.not_eq_true', Bool.not_eq_false', Bool.and_eq_true, Bool.or_eq_false_iff] at hc119
                        refine KC.seq ?_
                        refine KC.region ?_
                        refine KL.op (R.move rfl rfl) rfl rfl rfl ?_
                        refine KL.call rfl rfl rfl rfl Try.call20 rfl rfl rfl (Dead_k ts) ?_
                        rintro uu H18 ⟨vl, ts1, st⟩
                        have hob := st.oldB (B0 := H.size) (by have := o0.1; omega) (fun b hb => (ts.low b hb).1)
                        have rs := rs.other st (fun b hb => (ts1.low b hb).2)
                        have hbs := st.notM hbs (blk_lt bx)
                        have bx := st.blk hbs0 bx
                        have ts := ts1
                        have hbs0 := hbs
                        have z_hob := hob.1
                        have o0 := o0.then hob (by omega)
                        refine KL.nil ?_
                        refine KQ.seq ?_
                        refine KC.region ?_
                        refine KL.op (R.move rfl rfl) rfl rfl rfl ?_
                        refine KL.call rfl rfl rfl rfl Try.call21 rfl rfl rfl (RKill_k rs) ?_
                        rintro uu H19 ⟨rs1, st⟩
                        have hob := st.oldB (B0 := H.size) (by have := o0.1; omega) (fun b hb => (rs.low b hb).1)
                        have ts := ts.other st (fun b hb => (rs1.low b hb).2)
                        have hbr := st.notM hbr (blk_lt bx)
                        have bx := st.blk hbr0 bx
                        have rs := rs1
                        have hbr0 := hbr
                        have hda2 := d.kill_b
                        have hda : d.kill.all.length ≤ wt (l.take (k + 1)) := by omega
                        have hdf : d.kill.fr.length ≤ k + 2 := by omega
                        have z_hob := hob.1
                        have o0 := o0.then hob (by omega)
                        refine KL.nil ?_
                        refine KQ.normBlock ?_
                        refine KQ.meet () ?_ ?_
                        · exact (Ext.sub (by repeat (first | exact Ext.refl _ _ | refine Ext.put rfl ?_ | refine Ext.drop rfl ?_)))
                        · exact ⟨o0, _, _, _, _, ts, rs, by first | exact hda | omega, by first | exact hdf | omega⟩
                      · intro hc119
                        try simp only [decide_eq_true_eq, decide_eq_false_iff_not, Bool.not_eq_true', Bool.not_eq_false', Bool.and_eq_true, Bool.or_eq_false_iff] at hc119
                        refine KC.seq ?_
                        refine KC.region ?_
                        refine KL.op (R.eql rfl rfl rfl) rfl rfl rfl ?_
                        refine KL.op (R.assign rfl rfl) rfl rfl rfl ?_
                        refine KL.nil ?_
                        refine KQ.seq ?_
                        refine KC.iteL rfl ?_ ?_
                        · intro hc125
                          try simp only [decide_eq_true_eq, decide_eq_false_iff_not, Bool.not_eq_true', Bool.not_eq_false', Bool.and_eq_true, Bool.or_eq_false_iff] at hc125
                          refine KC.seq ?_
                          refine KC.region ?_
                          refine KL.op (R.move rfl rfl) rfl rfl rfl ?_
                          refine KL.op ((by first | exact R.fieldAddr rfl Try.underlying32 rfl rfl sz30 rfl | exact R.fieldAddrP rfl Try.underlying32 rfl rfl sz30 rfl)) rfl rfl rfl ?_
                          refine KL.op ((R.load rfl Try.underlying30 rfl rfl (cell_of bx rfl)).val (congrArg (Value.int .u32) hn)) rfl rfl rfl ?_
                          refine KL.call rfl rfl rfl rfl Try.call22 rfl rfl rfl (Label_k ts n hn2) ?_
                          rintro uu H20 ⟨vx, hu, wx, ox⟩
                          subst hu
                          have zc_H20 := (ox).1
                          have o0 := o0.trans ox
                          have bx := (ox).blk bx
                          have ts := ts.old ox
                          have rs := rs.old ox
                          refine KL.op (R.move rfl rfl) rfl rfl rfl ?_
                          refine KL.op (R.extract rfl rfl rfl) rfl rfl rfl ?_
                          refine KL.op (R.extract rfl rfl rfl) rfl rfl rfl ?_
                          refine KL.op (R.assign rfl rfl) rfl rfl rfl ?_
                          refine KL.op (R.assign rfl rfl) rfl rfl rfl ?_
                          refine KL.nil ?_
                          refine KQ.seq ?_
                          refine KC.seq ?_
                          refine KC.region ?_
                          refine KL.op (R.move rfl rfl) rfl rfl rfl ?_
                          refine KL.op ((by first | exact R.fieldAddr rfl Try.underlying32 rfl rfl sz30 rfl | exact R.fieldAddrP rfl Try.underlying32 rfl rfl sz30 rfl)) rfl rfl rfl ?_
                          refine KL.op ((R.load rfl Try.underlying30 rfl rfl (cell_of bx rfl)).val (congrArg (Value.int .u32) hn)) rfl rfl rfl ?_
                          refine KL.call rfl rfl rfl rfl Try.call23 rfl rfl rfl (RLabel_k rs n hn2) ?_
                          rintro uu _ ⟨vz, hu, hz, rfl⟩
                          subst hu
                          refine KL.op (R.move rfl rfl) rfl rfl rfl ?_
                          refine KL.op (R.extract rfl rfl rfl) rfl rfl rfl ?_
                          refine KL.op (R.extract rfl rfl rfl) rfl rfl rfl ?_
                          refine KL.op (R.assign rfl rfl) rfl rfl rfl ?_
                          refine KL.op (R.assign rfl rfl) rfl rfl rfl ?_
                          refine KL.nil ?_
                          refine KQ.seq ?_
                          refine KC.seq ?_
                          refine KC.region ?_
                          refine KL.op (R.move rfl rfl) rfl rfl rfl ?_
                          refine KL.op (R.convBS rfl Try.underlying22 Try.underlying5 Try.underlying9 rfl (wx.sl (emptyOld _) (by decide))) rfl rfl rfl ?_
                          refine KL.op (R.move rfl rfl) rfl rfl rfl ?_
                          refine KL.op (R.convBS rfl Try.underlying22 Try.underlying5 Try.underlying9 rfl (hz)) rfl rfl rfl ?_
                          refine KL.op ((R.neqStr rfl rfl rfl).val (congrArg (fun b => Value.bool (!b)) (beq_self_eq_true _))) rfl rfl rfl ?_
                          refine KL.op (R.move rfl rfl) rfl rfl rfl ?_
                          refine KL.op (R.move rfl rfl) rfl rfl rfl ?_
                          refine KL.op (R.move rfl rfl) rfl rfl rfl ?_
                          refine KL.op ((R.neqB rfl Try.underlying4 rfl rfl).val (congrArg Value.bool (show (!(_ == _)) = false by simp))) rfl rfl rfl ?_
                          refine KL.op (R.pick rfl rfl rfl) rfl rfl rfl ?_
                          refine KL.nil ?_
                          refine KQ.seq ?_
                          refine KC.condF rfl ?_
                          refine KC.skip ?_
                          refine KQ.normBlock ?_
                          refine KQ.meet () ?_ ?_
                          · exact (Ext.sub (by repeat (first | exact Ext.refl _ _ | refine Ext.put rfl ?_ | refine Ext.drop rfl ?_)))
                          · exact ⟨o0, _, _, _, _, ts, rs, by first | exact hda | omega, by first | exact hdf | omega⟩
                        · intro hc125
                          try simp only [decide_eq_true_eq, decide_eq_false_iff_not, Bool.not_eq_true', Bool.not_eq_false', Bool.and_eq_true, Bool.or_eq_false_iff] at hc125
                          refine KC.skip ?_
                          refine KQ.normBlock ?_
                          refine KQ.meet () ?_ ?_
                          · exact (Ext.sub (by repeat (first | exact Ext.refl _ _ | refine Ext.put rfl ?_ | refine Ext.drop rfl ?_)))
                          · exact ⟨o0, _, _, _, _, ts, rs, by first | exact hda | omega, by first | exact hdf | omega⟩
          · rintro _ H21 ⟨o0, vl, vf, vL, d, ts, rs, hda, hdf⟩
            have zl := o0.1
            refine KQ.seq ?_
            refine KC.seq ?_
            obtain ⟨bg9, hB9, wL9, ng9, hX9, hm9, ha9, hfl9⟩ := id rs
            have os : Old H21 H21 := Old.refl _
            have ob := o0
            have tsS := ts
            have rsS := rs
            have bg9S := bg9
            refine KC.text (clOf [(1, 2), (10, 2), (12, 2), (17, 2)]) (fun _ Hc => Old H21 Hc) (by kernel_rfl) (by kernel_rfl) (fun _ => Old.refl _) ?_
            refine KP.op rfl (fun Hg og => by have ts := tsS.old og; have rs := rsS.old og; have bg9 := og.blk bg9S; have o0 := ob.trans og; exact R.move rfl rfl) rfl rfl rfl ?_
            refine KP.call rfl rfl rfl rfl rfl Try.call24 rfl rfl rfl (Frames_k ts) (fun _ _ h _ _ _ => h.2 ▸ os) ?_
            rintro _ _ ⟨rfl, rfl⟩
            refine KP.op rfl (fun Hg og => by have ts := tsS.old og; have rs := rsS.old og; have bg9 := og.blk bg9S; have o0 := ob.trans og; exact R.move rfl rfl) rfl rfl rfl ?_
            refine KP.op rfl (fun Hg og => by have ts := tsS.old og; have rs := rsS.old og; have bg9 := og.blk bg9S; have o0 := ob.trans og; exact R.nilCheck rfl rfl) rfl rfl rfl ?_
            refine KP.op rfl (fun Hg og => by have ts := tsS.old og; have rs := rsS.old og; have bg9 := og.blk bg9S; have o0 := ob.trans og; exact (by first | exact R.fieldAddr rfl Try.underlying46 rfl rfl sz44 rfl | exact R.fieldAddrP rfl Try.underlying46 rfl rfl sz44 rfl)) rfl rfl rfl ?_
            refine KP.op rfl (fun Hg og => by have ts := tsS.old og; have rs := rsS.old og; have bg9 := og.blk bg9S; have o0 := ob.trans og; exact R.load rfl Try.underlying44 rfl rfl (cell_of bg9 rfl)) rfl rfl rfl ?_
            refine KP.op rfl (fun Hg og => by have ts := tsS.old og; have rs := rsS.old og; have bg9 := og.blk bg9S; have o0 := ob.trans og; exact R.lenO rfl Try.underlying44 rfl wL9) rfl rfl rfl ?_
            refine KP.op rfl (fun Hg og => by have ts := tsS.old og; have rs := rsS.old og; have bg9 := og.blk bg9S; have o0 := ob.trans og; exact (R.neq rfl rfl rfl).val ((congrArg (fun b => Value.bool (!b)) (decide_eq_true (by rfl))))) rfl rfl rfl ?_
            refine KP.op rfl (fun Hg og => by have ts := tsS.old og; have rs := rsS.old og; have bg9 := og.blk bg9S; have o0 := ob.trans og; exact R.move rfl rfl) rfl rfl rfl ?_
            refine KP.op rfl (fun Hg og => by have ts := tsS.old og; have rs := rsS.old og; have bg9 := og.blk bg9S; have o0 := ob.trans og; exact R.move rfl rfl) rfl rfl rfl ?_
            refine KP.call rfl rfl rfl rfl rfl Try.call25 rfl rfl rfl (Height_k ts) (fun _ _ h _ _ _ => h.2 ▸ os) ?_
            rintro _ _ ⟨rfl, rfl⟩
            refine KP.op rfl (fun Hg og => by have ts := tsS.old og; have rs := rsS.old og; have bg9 := og.blk bg9S; have o0 := ob.trans og; exact R.move rfl rfl) rfl rfl rfl ?_
            refine KP.call rfl rfl rfl rfl rfl Try.call26 rfl rfl rfl (RHeight_k rs) (fun _ _ h _ _ _ => os.trans h.2) ?_
            rintro _ H22 ⟨rfl, ox⟩
            have zc_H22 := (ox).1
            have o0 := o0.trans ox
            have os := os.trans ox
            have ts := ts.old ox
            have rs := rs.old ox
            have bg9 := (ox).blk bg9
            refine KP.op rfl (fun Hg og => by have ts := tsS.old og; have rs := rsS.old og; have bg9 := og.blk bg9S; have o0 := ob.trans og; exact (R.neq rfl rfl rfl).val ((congrArg (fun b => Value.bool (!b)) (decide_eq_true (by rfl))))) rfl rfl rfl ?_
            refine KP.op rfl (fun Hg og => by have ts := tsS.old og; have rs := rsS.old og; have bg9 := og.blk bg9S; have o0 := ob.trans og; exact R.pick rfl rfl rfl) rfl rfl rfl ?_
            refine KP.op rfl (fun Hg og => by have ts := tsS.old og; have rs := rsS.old og; have bg9 := og.blk bg9S; have o0 := ob.trans og; exact R.move rfl rfl) rfl rfl rfl ?_
            refine KP.op rfl (fun Hg og => by have ts := tsS.old og; have rs := rsS.old og; have bg9 := og.blk bg9S; have o0 := ob.trans og; exact R.move rfl rfl) rfl rfl rfl ?_
            refine KP.call rfl rfl rfl rfl rfl Try.call27 rfl rfl rfl (Most_k ts) (fun _ _ h _ _ _ => h.2 ▸ os) ?_
            rintro _ _ ⟨rfl, rfl⟩
            refine KP.op rfl (fun Hg og => by have ts := tsS.old og; have rs := rsS.old og; have bg9 := og.blk bg9S; have o0 := ob.trans og; exact R.move rfl rfl) rfl rfl rfl ?_
            refine KP.op rfl (fun Hg og => by have ts := tsS.old og; have rs := rsS.old og; have bg9 := og.blk bg9S; have o0 := ob.trans og; exact R.nilCheck rfl rfl) rfl rfl rfl ?_
            refine KP.op rfl (fun Hg og => by have ts := tsS.old og; have rs := rsS.old og; have bg9 := og.blk bg9S; have o0 := ob.trans og; exact (by first | exact R.fieldAddr rfl Try.underlying46 rfl rfl sz3 rfl | exact R.fieldAddrP rfl Try.underlying46 rfl rfl sz3 rfl)) rfl rfl rfl ?_
            refine KP.op rfl (fun Hg og => by have ts := tsS.old og; have rs := rsS.old og; have bg9 := og.blk bg9S; have o0 := ob.trans og; exact R.load rfl Try.underlying3 rfl rfl (cell_of bg9 rfl)) rfl rfl rfl ?_
            refine KP.op rfl (fun Hg og => by have ts := tsS.old og; have rs := rsS.old og; have bg9 := og.blk bg9S; have o0 := ob.trans og; exact (R.neq rfl rfl rfl).val ((congrArg (fun b => Value.bool (!b)) (decide_eq_true (by rfl))))) rfl rfl rfl ?_
            refine KP.op rfl (fun Hg og => by have ts := tsS.old og; have rs := rsS.old og; have bg9 := og.blk bg9S; have o0 := ob.trans og; exact R.pick rfl rfl rfl) rfl rfl rfl ?_
            refine KP.nil ?_
            refine KQ.seq ?_
            refine KC.condF rfl ?_
            refine KC.skip ?_
            refine KQ.normBlock ?_
            refine KQ.seq ?_
            refine KC.region ?_
            refine KL.op ((R.add rfl rfl rfl (by dsimp only [InR]; omega)).val (congrArg (Value.int .i64) (show (k : Int) + 1 = ((k + 1 : Nat) : Int) by omega))) rfl rfl rfl ?_
            refine KL.op (R.move rfl rfl) rfl rfl rfl ?_
            refine KL.nil ?_
            refine KQ.again (k + 1) ?_ ?_ ?_
            · exact (Sub.cons rfl (Ext.sub (by repeat (first | exact Ext.refl _ _ | refine Ext.put rfl ?_ | refine Ext.drop rfl ?_))))
            · omega
            · exact ⟨by omega, o0, _, _, _, _, ts, rs, hda, by omega⟩
        · intro hc37
          try simp only [decide_eq_true_eq, decide_eq_false_iff_not, Bool.not_eq_true', Bool.not_eq_false', Bool.and_eq_true, Bool.or_eq_false_iff] at hc37
          refine KC.exit ?_
          refine KQ.exitThen ?_
          refine KQ.exitThen ?_
          refine KQ.hit ?_
          refine KQ.seq ?_
          refine KC.seq ?_
          refine KC.region ?_
          refine KL.op (R.assign rfl rfl) rfl rfl rfl ?_
          refine KL.nil ?_
          refine KQ.seq ?_
          refine KC.ret ?_
          refine KQ.ofRet ?_
          refine KQ.fin1 Try.results3 rfl ?_
          exact ⟨rfl, o0⟩

end Go.Proofs.Ytglopfbdnpbgeaa
