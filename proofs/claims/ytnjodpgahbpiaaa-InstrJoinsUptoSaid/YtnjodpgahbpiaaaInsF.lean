/- What is read, or why not. No condition but an expression's length. -/
import Derived.Test.YtnjodpgahbpiaaaInsE
namespace Go.Proofs.Ytnjodpgahbpiaaa
open Go Go.RowKit
set_option linter.unusedVariables false
set_option linter.unusedSimpArgs false
set_option linter.unnecessarySimpa false
theorem KeepX.upd0 {gs : List Nat} {A B C : Heap} {g : Nat} (h : KeepX gs A B) (u : Upd g B C) (hg : g ∈ gs) : KeepX gs A C :=
  ⟨by have := u.1; have := h.1; omega, fun k hk hn => (u.2 k (fun e => hn (e ▸ hg))).trans (h.2 k hk hn)⟩

set_option maxRecDepth 100000 in
set_option maxHeartbeats 4000000 in
theorem readE_any {H : Heap} {v : Value} {l : List Int} (hs0 : Sl 1 (EInt .u8) H v l) (hl : l.length ≤ 1000000) : Ct Try.prog 20 [v, .func (.func 21) #[] #[]] H (fun u H' => Old H H' ∧ match Isp.exprP (l.length + 1) [] l with | .error e => u = .tuple #[.slice none 0 0, .int .i64 0, .int .i64 e] | .ok (x, n) => ∃ c, u = .tuple #[c, .int .i64 (n : Nat), .int .i64 0] ∧ Sl 5 EIns H' c x) := by
  refine Ct.mkD Try.func20 rfl Try.ntmps20 rfl ?_
  intro W0 hW0
  have o0 : Old H H := Old.refl H
  have hs := hs0
  refine KC.seq ?_
  refine KC.region ?_
  refine KL.opM (M.alloc rfl zr22 rfl) rfl rfl rfl ?_
  rintro _ H1 ⟨rfl, n1⟩
  have z1 := n1.2.1
  have o0 := o0.trans n1.1
  have hs := hs.old n1.1
  have b1 := n1.2.2
  have ba := b1
  refine KL.opM (M.alloc rfl zr3 rfl) rfl rfl rfl ?_
  rintro _ H2 ⟨rfl, n2⟩
  have z2 := n2.2.1
  have o0 := o0.trans n2.1
  have hs := hs.old n2.1
  have ba := (n2.1).blk ba
  have b2 := n2.2.2
  have bb := b2
  refine KL.opM (M.alloc rfl zr26 rfl) rfl rfl rfl ?_
  rintro _ H3 ⟨rfl, n3⟩
  have z3 := n3.2.1
  have o0 := o0.trans n3.1
  have hs := hs.old n3.1
  have ba := (n3.1).blk ba
  have bb := (n3.1).blk bb
  have b3 := n3.2.2
  have bc := b3
  refine KL.nil ?_
  refine KQ.seq ?_
  refine KC.seq ?_
  refine KC.region ?_
  refine KL.op (R.makeFunc rfl rfl rfl) rfl rfl rfl ?_
  refine KL.defer rfl rfl rfl rfl ?_
  refine KQD.seq ?_
  refine KCD.seq ?_
  refine KCD.region ?_
  refine KL.op (R.move rfl rfl) rfl rfl rfl ?_
  refine KL.op (R.buildL rfl Try.underlying80 zr80 [(0, 1), (1, 1)] (fun w => by kernel_rfl) rfl ⟨⟨_, rfl, rfl⟩, trivial⟩ rfl rfl ⟨⟨_, rfl, by first | rfl | exact hs.cells1⟩, trivial⟩ rfl) rfl rfl rfl ?_
  refine KL.opM (M.box rfl rfl rfl) rfl rfl rfl ?_
  rintro _ H4 ⟨rfl, n4⟩
  have z4 := n4.2.1
  have o0 := o0.trans n4.1
  have hs := hs.old n4.1
  have ba := (n4.1).blk ba
  have bb := (n4.1).blk bb
  have bc := (n4.1).blk bc
  have b4 := n4.2.2
  have bx := b4
  have rd : RD H4 _ v l 0 := ⟨bx, fun H2 k => hs0.old (o0.then k (by omega)), Nat.zero_le _⟩
  have zrd := rd.lt
  refine KL.op (R.assign rfl rfl) rfl rfl rfl ?_
  refine KL.nil ?_
  refine KQD.seq ?_
  refine KCD.seq ?_
  refine KCD.region ?_
  refine KL.op (R.move rfl rfl) rfl rfl rfl ?_
  refine KL.op (R.move rfl rfl) rfl rfl rfl ?_
  refine KL.callX rfl rfl rfl rfl Try.call21 rfl rfl rfl (expr_any rd hl) ?_ ?_
  · rintro vx H5 ⟨ex, hx1, hx2, hx3⟩
    have ba := hx3.at_ ba (by omega)
    have bb := hx3.at_ bb (by omega)
    have bc := hx3.at_ bc (by omega)
    have o0 := o0.then (hx3.low (B0 := Array.size H) (by omega) (by omega)) (Nat.le_refl _)
    have zx3 := hx3.1
    subst hx2
    refine KQD.panThen ?_
    refine KQD.fin_pan (R1 := fun H' => OldB (Array.size H) _ H' ∧ _ ∧ _ ∧ _) Try.call33 (cloE_pan ba bb bc (by omega) (by omega)) ?_
    rintro HR ⟨f0, d4, d5, d6⟩
    refine ⟨_, fun ar wr har hwr => results_cells har Try.results20 rfl rfl rfl (loadVar_one Try.underlying22 rfl (by rw [hwr]; exact cell_of d4 rfl)) (loadVar_one Try.underlying3 rfl (by rw [hwr]; exact cell_of d5 rfl)) (loadVar_one Try.underlying26 rfl (by rw [hwr]; exact cell_of d6 rfl)), o0.then f0 (by omega), ?_⟩
    have hx1' : Isp.exprP (l.length + 1) [] l = .error ex := by simpa using hx1
    rw [hx1']
  rintro c H6 ⟨x, n, hp, hK, rd2, f1⟩
  have zf_H6 := f1.1
  have o0 := o0.then (f1.low (B0 := H.size) (by omega) (by omega)) (Nat.le_refl _)
  have ba := f1.at_ ba (by omega)
  have bb := f1.at_ bb (by omega)
  have bc := f1.at_ bc (by omega)
  have bx := rd2.b
  have zrd := rd2.lt
  have kx := KeepX.refl (List.range (Array.size H3 + 1)) H6
  have fs := hK _ kx
  refine KL.opS (S.store rfl sz22 rfl rfl (fs.cells1) (fs.one) ba (by simp)) rfl rfl ?_
  rintro H7 ⟨u7, b7⟩
  have o0 := o0.upd u7 (by omega)
  have zu7 := u7.1
  have bb := ((u7).2 _ (by omega)).trans bb
  have bc := ((u7).2 _ (by omega)).trans bc
  have bx := ((u7).2 _ (by omega)).trans bx
  have ba := b7
  have kx := kx.upd0 u7 (List.mem_range.2 (by omega))
  refine KL.nil ?_
  refine KQD.seq ?_
  refine KCD.seq ?_
  refine KCD.order [0, 1, 2, 3, 4, 5, 6, 7] (clOf [(5, 2), (6, 2), (7, 2)]) (fun i Hc => (i = 0 → Hc[(Array.size H)]? = some _) ∧ (i = 4 → Hc[_]? = some _)) (fun _ _ => False) (by kernel_rfl) (by kernel_rfl) (by kernel_rfl) rfl (fun _ => ⟨fun _ => ba, fun _ => bx⟩) (fun _ _ h => h.elim) ?_
  refine KO.op rfl rfl (fun Hg hg => R.load rfl Try.underlying22 rfl rfl (cell_of (hg.1 rfl) rfl)) rfl rfl rfl ?_
  refine KO.op rfl rfl (fun Hg hg => R.move rfl rfl) rfl rfl rfl ?_
  refine KO.op rfl rfl (fun Hg hg => R.nilCheck rfl rfl) rfl rfl rfl ?_
  refine KO.op rfl rfl (fun Hg hg => (by first | exact R.fieldAddr rfl Try.underlying80 rfl rfl sz3 rfl | exact R.fieldAddrP rfl Try.underlying80 rfl rfl sz3 rfl)) rfl rfl rfl ?_
  refine KO.op rfl rfl (fun Hg hg => R.load rfl Try.underlying3 rfl rfl (cell_of (hg.2 rfl) rfl)) rfl rfl rfl ?_
  refine KO.opS rfl rfl (S.store rfl sz22 rfl rfl (fs.cells1) (fs.one) ba (by simp)) rfl rfl (fun _ h j hj1 hj2 => ⟨fun hj => by subst hj; exact absurd (by decide +kernel) hj2, fun _ => (h.1.2 _ (by omega)).trans bx⟩) ?_
  rintro H8 ⟨u8, b8⟩
  have o0 := o0.upd u8 (by omega)
  have zu8 := u8.1
  have bb := ((u8).2 _ (by omega)).trans bb
  have bc := ((u8).2 _ (by omega)).trans bc
  have bx := ((u8).2 _ (by omega)).trans bx
  have ba := b8
  have kx := kx.upd0 u8 (List.mem_range.2 (by omega))
  refine KO.opS rfl rfl (S.store rfl sz3 rfl rfl rfl rfl bb (by simp)) rfl rfl (fun _ h _ _ _ => ⟨fun _ => (h.1.2 _ (by omega)).trans ba, fun _ => (h.1.2 _ (by omega)).trans bx⟩) ?_
  rintro H9 ⟨u9, b9⟩
  have o0 := o0.upd u9 (by omega)
  have zu9 := u9.1
  have ba := ((u9).2 _ (by omega)).trans ba
  have bc := ((u9).2 _ (by omega)).trans bc
  have bx := ((u9).2 _ (by omega)).trans bx
  have bb := b9
  have kx := kx.upd0 u9 (List.mem_range.2 (by omega))
  refine KO.opS rfl rfl (S.store rfl sz26 rfl rfl rfl rfl bc (by simp)) rfl rfl (fun _ h _ _ _ => ⟨fun _ => (h.1.2 _ (by omega)).trans ba, fun _ => (h.1.2 _ (by omega)).trans bx⟩) ?_
  rintro H10 ⟨u10, b10⟩
  have o0 := o0.upd u10 (by omega)
  have zu10 := u10.1
  have ba := ((u10).2 _ (by omega)).trans ba
  have bb := ((u10).2 _ (by omega)).trans bb
  have bx := ((u10).2 _ (by omega)).trans bx
  have bc := b10
  have kx := kx.upd0 u10 (List.mem_range.2 (by omega))
  refine KO.nil ?_
  refine KQD.seq ?_
  refine KCD.ret ?_
  have fin_e := hK _ kx
  refine KQD.fin_ret (R1 := fun H' => H' = H10) Try.call33 (cloE_ret) ?_
  rintro HR rfl
  refine ⟨_, fun ar wr har hwr => results_cells har Try.results20 rfl rfl rfl (loadVar_one Try.underlying22 rfl (by rw [hwr]; exact cell_of ba rfl)) (loadVar_one Try.underlying3 rfl (by rw [hwr]; exact cell_of bb rfl)) (loadVar_one Try.underlying26 rfl (by rw [hwr]; exact cell_of bc rfl)), o0, ?_⟩
  have hp' : Isp.exprP (l.length + 1) [] l = .ok (x, n) := by simpa using hp
  rw [hp']
  exact ⟨_, by rw [Nat.zero_add], fin_e⟩

set_option maxRecDepth 100000 in
set_option maxHeartbeats 4000000 in
theorem readI_any {H : Heap} {v : Value} {l : List Int} (hs0 : Sl 1 (EInt .u8) H v l) : Ct Try.prog 26 [v, .func (.func 27) #[] #[]] H (fun u H' => Old H H' ∧ match Isp.insP l with | .error e => u = .tuple #[.agg [.int .u8 0, .int .u32 0, .int .u32 0, .int .i64 0, .slice none 0 0].toArray, .int .i64 0, .int .i64 e] | .ok (x, n) => ∃ vl, u = .tuple #[insV x vl, .int .i64 (n : Nat), .int .i64 0] ∧ Own 1 (EInt .u32) 33 #[] H.size H' vl x.l ∧ InsR x) := by
  refine Ct.mkD Try.func26 rfl Try.ntmps26 rfl ?_
  intro W0 hW0
  have o0 : Old H H := Old.refl H
  have hs := hs0
  refine KC.seq ?_
  refine KC.region ?_
  refine KL.opM (M.alloc rfl zr36 rfl) rfl rfl rfl ?_
  rintro _ H1 ⟨rfl, n1⟩
  have z1 := n1.2.1
  have o0 := o0.trans n1.1
  have hs := hs.old n1.1
  have b1 := n1.2.2
  have ba := b1
  refine KL.opM (M.alloc rfl zr3 rfl) rfl rfl rfl ?_
  rintro _ H2 ⟨rfl, n2⟩
  have z2 := n2.2.1
  have o0 := o0.trans n2.1
  have hs := hs.old n2.1
  have ba := (n2.1).blk ba
  have b2 := n2.2.2
  have bb := b2
  refine KL.opM (M.alloc rfl zr26 rfl) rfl rfl rfl ?_
  rintro _ H3 ⟨rfl, n3⟩
  have z3 := n3.2.1
  have o0 := o0.trans n3.1
  have hs := hs.old n3.1
  have ba := (n3.1).blk ba
  have bb := (n3.1).blk bb
  have b3 := n3.2.2
  have bc := b3
  refine KL.nil ?_
  refine KQ.seq ?_
  refine KC.seq ?_
  refine KC.region ?_
  refine KL.op (R.makeFunc rfl rfl rfl) rfl rfl rfl ?_
  refine KL.defer rfl rfl rfl rfl ?_
  refine KQD.seq ?_
  refine KCD.seq ?_
  refine KCD.region ?_
  refine KL.op (R.move rfl rfl) rfl rfl rfl ?_
  refine KL.op (R.buildL rfl Try.underlying80 zr80 [(0, 1), (1, 1)] (fun w => by kernel_rfl) rfl ⟨⟨_, rfl, rfl⟩, trivial⟩ rfl rfl ⟨⟨_, rfl, by first | rfl | exact hs.cells1⟩, trivial⟩ rfl) rfl rfl rfl ?_
  refine KL.opM (M.box rfl rfl rfl) rfl rfl rfl ?_
  rintro _ H4 ⟨rfl, n4⟩
  have z4 := n4.2.1
  have o0 := o0.trans n4.1
  have hs := hs.old n4.1
  have ba := (n4.1).blk ba
  have bb := (n4.1).blk bb
  have bc := (n4.1).blk bc
  have b4 := n4.2.2
  have bx := b4
  have rd : RD H4 _ v l 0 := ⟨bx, fun H2 k => hs0.old (o0.then k (by omega)), Nat.zero_le _⟩
  have zrd := rd.lt
  refine KL.op (R.assign rfl rfl) rfl rfl rfl ?_
  refine KL.nil ?_
  refine KQD.seq ?_
  refine KCD.seq ?_
  refine KCD.region ?_
  refine KL.op (R.move rfl rfl) rfl rfl rfl ?_
  refine KL.op (R.move rfl rfl) rfl rfl rfl ?_
  refine KL.callX rfl rfl rfl rfl Try.call27 rfl rfl rfl (instr_any rd) ?_ ?_
  · rintro vx H5 ⟨ex, hx1, hx2, hx3⟩
    have ba := hx3.at_ ba (by omega)
    have bb := hx3.at_ bb (by omega)
    have bc := hx3.at_ bc (by omega)
    have o0 := o0.then (hx3.low (B0 := Array.size H) (by omega) (by omega)) (Nat.le_refl _)
    have zx3 := hx3.1
    subst hx2
    refine KQD.panThen ?_
    refine KQD.fin_pan (R1 := fun H' => OldB (Array.size H) _ H' ∧ _ ∧ _ ∧ _) Try.call39 (cloI_pan ba bb bc (by omega) (by omega) rfl) ?_
    rintro HR ⟨f0, d4, d5, d6⟩
    refine ⟨_, fun ar wr har hwr => results_cells har Try.results26 rfl rfl rfl (loadVar_agg Try.underlying36 rfl sz36 (by rw [hwr]; exact cells_of d4) rfl) (loadVar_one Try.underlying3 rfl (by rw [hwr]; exact cell_of d5 rfl)) (loadVar_one Try.underlying26 rfl (by rw [hwr]; exact cell_of d6 rfl)), o0.then f0 (by omega), ?_⟩
    have hx1' : Isp.insP l = .error ex := by simpa using hx1
    rw [hx1']
  rintro _ H6 ⟨x, n, hp, ⟨vl, rfl, wl⟩, hxr, rd2, f1⟩
  have zf_H6 := f1.1
  have o0 := o0.then (f1.low (B0 := H.size) (by omega) (by omega)) (Nat.le_refl _)
  have ba := f1.at_ ba (by omega)
  have bb := f1.at_ bb (by omega)
  have bc := f1.at_ bc (by omega)
  have bx := rd2.b
  have zrd := rd2.lt
  have hwl := wl.lt
  refine KL.opS (S.storeAgg rfl sz36 rfl rfl (rfl) (by intro u hu; simp only [List.mem_cons, List.not_mem_nil, or_false] at hu; rcases hu with rfl | rfl | rfl | rfl | rfl <;> first | rfl | exact wl.one) ba (by simp [insV])) rfl rfl ?_
  rintro H7 ⟨u7, b7⟩
  have o0 := o0.upd u7 (by omega)
  have zu7 := u7.1
  have bb := ((u7).2 _ (by omega)).trans bb
  have bc := ((u7).2 _ (by omega)).trans bc
  have bx := ((u7).2 _ (by omega)).trans bx
  have wl := wl.upd u7 (by first | exact .inl rfl | exact .inr (by omega) | exact wl.lt.imp id (fun h => by omega))
  have ba := b7
  rw [over_all (by rfl)] at ba
  refine KL.nil ?_
  refine KQD.seq ?_
  refine KCD.seq ?_
  refine KCD.order [0, 1, 2, 3, 4, 5, 6, 7] (clOf [(5, 2), (6, 2), (7, 2)]) (fun i Hc => (i = 0 → Hc[(Array.size H)]? = some _) ∧ (i = 4 → Hc[_]? = some _)) (fun _ _ => False) (by kernel_rfl) (by kernel_rfl) (by kernel_rfl) rfl (fun _ => ⟨fun _ => ba, fun _ => bx⟩) (fun _ _ h => h.elim) ?_
  refine KO.op rfl rfl (fun Hg hg => R.loadAgg rfl Try.underlying36 rfl sz36 rfl (cells_of (hg.1 rfl)) rfl) rfl rfl rfl ?_
  refine KO.op rfl rfl (fun Hg hg => R.move rfl rfl) rfl rfl rfl ?_
  refine KO.op rfl rfl (fun Hg hg => R.nilCheck rfl rfl) rfl rfl rfl ?_
  refine KO.op rfl rfl (fun Hg hg => (by first | exact R.fieldAddr rfl Try.underlying80 rfl rfl sz3 rfl | exact R.fieldAddrP rfl Try.underlying80 rfl rfl sz3 rfl)) rfl rfl rfl ?_
  refine KO.op rfl rfl (fun Hg hg => R.load rfl Try.underlying3 rfl rfl (cell_of (hg.2 rfl) rfl)) rfl rfl rfl ?_
  refine KO.opS rfl rfl (S.storeAgg rfl sz36 rfl rfl (rfl) (by intro u hu; simp only [List.mem_cons, List.not_mem_nil, or_false] at hu; rcases hu with rfl | rfl | rfl | rfl | rfl <;> first | rfl | exact wl.one) ba (by simp [insV])) rfl rfl (fun _ h j hj1 hj2 => ⟨fun hj => by subst hj; exact absurd (by decide +kernel) hj2, fun _ => (h.1.2 _ (by omega)).trans bx⟩) ?_
  rintro H8 ⟨u8, b8⟩
  have o0 := o0.upd u8 (by omega)
  have zu8 := u8.1
  have bb := ((u8).2 _ (by omega)).trans bb
  have bc := ((u8).2 _ (by omega)).trans bc
  have bx := ((u8).2 _ (by omega)).trans bx
  have wl := wl.upd u8 (by first | exact .inl rfl | exact .inr (by omega) | exact wl.lt.imp id (fun h => by omega))
  have ba := b8
  rw [over_all (by rfl)] at ba
  refine KO.opS rfl rfl (S.store rfl sz3 rfl rfl rfl rfl bb (by simp)) rfl rfl (fun _ h _ _ _ => ⟨fun _ => (h.1.2 _ (by omega)).trans ba, fun _ => (h.1.2 _ (by omega)).trans bx⟩) ?_
  rintro H9 ⟨u9, b9⟩
  have o0 := o0.upd u9 (by omega)
  have zu9 := u9.1
  have ba := ((u9).2 _ (by omega)).trans ba
  have bc := ((u9).2 _ (by omega)).trans bc
  have bx := ((u9).2 _ (by omega)).trans bx
  have wl := wl.upd u9 (by first | exact .inl rfl | exact .inr (by omega) | exact wl.lt.imp id (fun h => by omega))
  have bb := b9
  refine KO.opS rfl rfl (S.store rfl sz26 rfl rfl rfl rfl bc (by simp)) rfl rfl (fun _ h _ _ _ => ⟨fun _ => (h.1.2 _ (by omega)).trans ba, fun _ => (h.1.2 _ (by omega)).trans bx⟩) ?_
  rintro H10 ⟨u10, b10⟩
  have o0 := o0.upd u10 (by omega)
  have zu10 := u10.1
  have ba := ((u10).2 _ (by omega)).trans ba
  have bb := ((u10).2 _ (by omega)).trans bb
  have bx := ((u10).2 _ (by omega)).trans bx
  have wl := wl.upd u10 (by first | exact .inl rfl | exact .inr (by omega) | exact wl.lt.imp id (fun h => by omega))
  have bc := b10
  refine KO.nil ?_
  refine KQD.seq ?_
  refine KCD.ret ?_
  have fin_e := wl.weak (B' := Array.size H) (by omega)
  refine KQD.fin_ret (R1 := fun H' => H' = H10) Try.call39 (cloI_ret) ?_
  rintro HR rfl
  refine ⟨_, fun ar wr har hwr => results_cells har Try.results26 rfl rfl rfl (loadVar_agg Try.underlying36 rfl sz36 (by rw [hwr]; exact cells_of ba) rfl) (loadVar_one Try.underlying3 rfl (by rw [hwr]; exact cell_of bb rfl)) (loadVar_one Try.underlying26 rfl (by rw [hwr]; exact cell_of bc rfl)), o0, ?_⟩
  have hp' : Isp.insP l = .ok (x, n) := by simpa using hp
  rw [hp']
  exact ⟨vl, by rw [Nat.zero_add]; rfl, fin_e, hxr⟩

set_option maxRecDepth 100000 in
set_option maxHeartbeats 4000000 in
theorem TakeExpr_any {H : Heap} {v : Value} {l : List Int} (hs0 : Sl 1 (EInt .u8) H v l) (hl : l.length ≤ 1000000) : Ct Try.prog 9 [v] H (fun u H' => Old H H' ∧ match Isp.exprP (l.length + 1) [] l with | .error e => u = .tuple #[.slice none 0 0, .int .i64 0, .int .i64 e] | .ok (x, n) => ∃ c, u = .tuple #[c, .int .i64 (n : Nat), .int .i64 0] ∧ Sl 5 EIns H' c x) := by
  refine Ct.mk Try.func9 rfl Try.ntmps9 rfl ?_
  intro W0 hW0
  have o0 : Old H H := Old.refl H
  refine KC.seq ?_
  refine KC.region ?_
  refine KL.op (R.assign rfl rfl) rfl rfl rfl ?_
  refine KL.op (R.assign rfl rfl) rfl rfl rfl ?_
  refine KL.op (R.assign rfl rfl) rfl rfl rfl ?_
  refine KL.nil ?_
  refine KQ.seq ?_
  refine KC.seq ?_
  refine KC.region ?_
  refine KL.op (R.move rfl rfl) rfl rfl rfl ?_
  refine KL.call rfl rfl rfl rfl Try.call20 rfl rfl rfl (readE_any hs0 hl) ?_
  rintro u H1 ⟨g6, hm⟩
  have zc_H1 := (g6).1
  have o0 := o0.trans g6
  have hu : ∃ x1 x2 x3, u = .tuple #[x1, x2, x3] ∧ x1.cells = #[x1] := by
    split at hm
    · exact ⟨_, _, _, hm, rfl⟩
    · obtain ⟨c, hc, hs⟩ := hm; exact ⟨_, _, _, hc, hs.cells1⟩
  obtain ⟨x1, x2, x3, rfl, hx1⟩ := hu
  refine KL.op (R.extract rfl rfl rfl) rfl rfl rfl ?_
  refine KL.op (R.extract rfl rfl rfl) rfl rfl rfl ?_
  refine KL.op (R.extract rfl rfl rfl) rfl rfl rfl ?_
  refine KL.op (R.assign rfl rfl) rfl rfl rfl ?_
  refine KL.op (R.assign rfl rfl) rfl rfl rfl ?_
  refine KL.op (R.assign rfl rfl) rfl rfl rfl ?_
  refine KL.nil ?_
  refine KQ.seq ?_
  refine KC.ret ?_
  refine KQ.ofRet ?_
  refine KQ.fin3 Try.results9 rfl rfl rfl ?_
  exact ⟨o0, hm⟩

set_option maxRecDepth 100000 in
set_option maxHeartbeats 4000000 in
theorem TakeI_any {H : Heap} {v : Value} {l : List Int} (hs0 : Sl 1 (EInt .u8) H v l) : Ct Try.prog 16 [v] H (fun u H' => Old H H' ∧ match Isp.insP l with | .error e => u = .tuple #[.agg [.int .u8 0, .int .u32 0, .int .u32 0, .int .i64 0, .slice none 0 0].toArray, .int .i64 0, .int .i64 e] | .ok (x, n) => ∃ vl, u = .tuple #[insV x vl, .int .i64 (n : Nat), .int .i64 0] ∧ Own 1 (EInt .u32) 33 #[] H.size H' vl x.l ∧ InsR x) := by
  refine Ct.mk Try.func16 rfl Try.ntmps16 rfl ?_
  intro W0 hW0
  have o0 : Old H H := Old.refl H
  refine KC.seq ?_
  refine KC.region ?_
  refine KL.opM (M.alloc rfl zr36 rfl) rfl rfl rfl ?_
  rintro _ H1 ⟨rfl, n1⟩
  have z1 := n1.2.1
  have o0 := o0.trans n1.1
  have b1 := n1.2.2
  have bq := b1
  refine KL.op (R.assign rfl rfl) rfl rfl rfl ?_
  refine KL.op (R.assign rfl rfl) rfl rfl rfl ?_
  refine KL.nil ?_
  refine KQ.seq ?_
  refine KC.seq ?_
  refine KC.region ?_
  refine KL.op (R.move rfl rfl) rfl rfl rfl ?_
  refine KL.call rfl rfl rfl rfl Try.call26 rfl rfl rfl (readI_any (hs0.old o0)) ?_
  rintro u H2 ⟨g6, hm⟩
  have zc_H2 := (g6).1
  have o0 := o0.trans g6
  have bq := (g6).blk bq
  have hu : ∃ x1 a b c vl x2 x3, u = .tuple #[.agg [.int .u8 x1, .int .u32 a, .int .u32 b, .int .i64 c, vl].toArray, x2, x3] ∧ vl.oneCell' = true := by
    split at hm
    · exact ⟨_, _, _, _, _, _, _, hm, rfl⟩
    · obtain ⟨c, hc, hs, _⟩ := hm; exact ⟨_, _, _, _, _, _, _, hc, hs.one⟩
  obtain ⟨x1, a, b, c, vl, x2, x3, rfl, hx1⟩ := hu
  refine KL.op (R.extract rfl rfl rfl) rfl rfl rfl ?_
  refine KL.op (R.extract rfl rfl rfl) rfl rfl rfl ?_
  refine KL.op (R.extract rfl rfl rfl) rfl rfl rfl ?_
  refine KL.opS (S.storeAgg rfl sz36 rfl rfl (rfl) (by intro u hu; simp only [List.mem_cons, List.not_mem_nil, or_false] at hu; rcases hu with rfl | rfl | rfl | rfl | rfl <;> first | rfl | exact hx1) bq (by simp)) rfl rfl ?_
  rintro H3 ⟨u3, b3⟩
  have o0 := o0.upd u3 (by omega)
  have zu3 := u3.1
  have bq := b3
  rw [over_all (by rfl)] at bq
  have uq := u3
  refine KL.op (R.assign rfl rfl) rfl rfl rfl ?_
  refine KL.op (R.assign rfl rfl) rfl rfl rfl ?_
  refine KL.nil ?_
  refine KQ.seq ?_
  refine KC.ret ?_
  refine KQ.ofRet ?_
  refine KQ.finCell3 Try.results16 rfl Try.underlying36 rfl sz36 (cells_of bq) (rfl) rfl rfl ?_
  refine ⟨o0, ?_⟩
  cases hp : Isp.insP l with
  | error e => rw [hp] at hm; exact hm
  | ok y =>
    rw [hp] at hm
    obtain ⟨vl', h1, h2, h3⟩ := hm
    have hlt := h2.lt
    exact ⟨vl', h1, (h2.upd uq (hlt.imp id (fun h => by omega))).weak (by omega), h3⟩

end Go.Proofs.Ytnjodpgahbpiaaa
