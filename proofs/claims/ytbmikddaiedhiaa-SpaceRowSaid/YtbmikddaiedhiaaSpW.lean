/- A module as a parameter. No condition. -/
import Derived.Test.YtbmikddaiedhiaaKOpenS
import Derived.Test.YtbmikddaiedhiaaSpQ
namespace Go.Proofs.Ytbmikddaiedhiaa
open Go Go.RowKit Go.ChangeShapes Go.WideShapes Go.Deep
set_option linter.unusedVariables false
set_option linter.unusedSimpArgs false
def EFTyB : El FTy := fun H cs x => EFTy H cs x ∧ x.1.length ≤ 140737488351232 ∧ x.2.length ≤ 140737488351232
theorem opensW_fty : OpensW Try.prog 24 EFTyB := by
  intro H enc w base spare held fuel cs x h hwt
  obtain ⟨hl, n, hg⟩ := trod_structW (m := 2) Try.underlying24 (by kernel_rfl) h
  obtain ⟨y0, h0, k0⟩ := hg 0 _ 0 1 rfl rfl (by kernel_rfl)
  obtain ⟨y1, h1, k1⟩ := hg 1 _ 1 1 rfl rfl (by kernel_rfl)
  match cs, hl with
  | [c0, c1], _ =>
    obtain ⟨l, v, u0, s0, b0⟩ := opensW_slice (n := 1) (b := 1) Try.underlying22 (by kernel_rfl) (by kernel_rfl) (by decide) (opens_int Try.underlying5).w _ _ _ _ _ _ _ _ _ h0 (fun q hq => hwt q (k0 q hq))
    obtain ⟨l', v', u1, s1, b1⟩ := opensW_slice (n := 1) (b := 1) Try.underlying22 (by kernel_rfl) (by kernel_rfl) (by decide) (opens_int Try.underlying5).w _ _ _ _ _ _ _ _ _ h1 (fun q hq => hwt q (k1 q hq))
    cases u0; cases u1
    exact ⟨(l, l'), ⟨_, _, rfl, s0, s1⟩, by show l.length ≤ _; omega, by show l'.length ≤ _; omega⟩
theorem opensW_lim : OpensW Try.prog 51 ELim := by
  intro H enc w base spare held fuel cs x h hwt
  obtain ⟨hl, n, hg⟩ := trod_structW (m := 2) Try.underlying51 (by kernel_rfl) h
  obtain ⟨y0, h0, _⟩ := hg 0 _ 0 1 rfl rfl (by kernel_rfl)
  obtain ⟨y1, h1, _⟩ := hg 1 _ 1 1 rfl rfl (by kernel_rfl)
  match cs, hl with
  | [c0, c1], _ =>
    obtain ⟨a0, u0, r0⟩ := opens_int Try.underlying33 _ _ _ _ _ _ _ _ _ h0
    obtain ⟨a1, u1, r1⟩ := opens_int Try.underlying2 _ _ _ _ _ _ _ _ _ h1
    cases u0; cases u1
    exact ⟨(a0, a1), rfl, r0, r1⟩
theorem opensW_glb : OpensW Try.prog 46 EGlb := by
  intro H enc w base spare held fuel cs x h hwt
  obtain ⟨hl, n, hg⟩ := trod_structW (m := 2) Try.underlying46 (by kernel_rfl) h
  obtain ⟨y0, h0, _⟩ := hg 0 _ 0 1 rfl rfl (by kernel_rfl)
  obtain ⟨y1, h1, _⟩ := hg 1 _ 1 1 rfl rfl (by kernel_rfl)
  match cs, hl with
  | [c0, c1], _ =>
    obtain ⟨a0, u0, r0⟩ := opens_int Try.underlying5 _ _ _ _ _ _ _ _ _ h0
    obtain ⟨a1, u1⟩ := opens_bool Try.underlying4 _ _ _ _ _ _ _ _ _ h1
    cases u0; cases u1
    exact ⟨(a0, a1), rfl, r0⟩
theorem opensW_imp : OpensW Try.prog 63 EImp := by
  intro H enc w base spare held fuel cs x h hwt
  obtain ⟨hl, n, hg⟩ := trod_structW (m := 8) Try.underlying63 (by kernel_rfl) h
  obtain ⟨y0, h0, _⟩ := hg 0 _ 0 1 rfl rfl (by kernel_rfl)
  obtain ⟨y1, h1, _⟩ := hg 1 _ 1 1 rfl rfl (by kernel_rfl)
  obtain ⟨y2, h2, _⟩ := hg 2 _ 2 1 rfl rfl (by kernel_rfl)
  obtain ⟨y3, h3, _⟩ := hg 3 _ 3 1 rfl rfl (by kernel_rfl)
  obtain ⟨y4, h4, k4⟩ := hg 4 _ 4 2 rfl rfl (by kernel_rfl)
  obtain ⟨y5, h5, k5⟩ := hg 5 _ 6 2 rfl rfl (by kernel_rfl)
  match cs, hl with
  | [c0, c1, c2, c3, c4, c5, c6, c7], _ =>
    obtain ⟨a0, u0, r0⟩ := opens_str Try.underlying9 _ _ _ _ _ _ _ _ _ h0
    obtain ⟨a1, u1, r1⟩ := opens_str Try.underlying9 _ _ _ _ _ _ _ _ _ h1
    obtain ⟨a2, u2, r2⟩ := opens_int Try.underlying5 _ _ _ _ _ _ _ _ _ h2
    obtain ⟨a3, u3, r3⟩ := opens_int Try.underlying33 _ _ _ _ _ _ _ _ _ h3
    obtain ⟨a4, u4, r4⟩ := opensW_lim _ _ _ _ _ _ _ _ _ h4 (fun q hq => hwt q (k4 q hq))
    obtain ⟨a5, u5, r5⟩ := opensW_glb _ _ _ _ _ _ _ _ _ h5 (fun q hq => hwt q (k5 q hq))
    cases u0; cases u1; cases u2; cases u3; cases u4; cases u5
    exact ⟨⟨a0, a1, a2, a3, a4, a5⟩, rfl, r2, r3, r4, r5⟩
theorem opensW_exp : OpensW Try.prog 69 EExp := by
  intro H enc w base spare held fuel cs x h hwt
  obtain ⟨hl, n, hg⟩ := trod_structW (m := 3) Try.underlying69 (by kernel_rfl) h
  obtain ⟨y0, h0, _⟩ := hg 0 _ 0 1 rfl rfl (by kernel_rfl)
  obtain ⟨y1, h1, _⟩ := hg 1 _ 1 1 rfl rfl (by kernel_rfl)
  obtain ⟨y2, h2, _⟩ := hg 2 _ 2 1 rfl rfl (by kernel_rfl)
  match cs, hl with
  | [c0, c1, c2], _ =>
    obtain ⟨a0, u0, r0⟩ := opens_str Try.underlying9 _ _ _ _ _ _ _ _ _ h0
    obtain ⟨a1, u1, r1⟩ := opens_int Try.underlying5 _ _ _ _ _ _ _ _ _ h1
    obtain ⟨a2, u2, r2⟩ := opens_int Try.underlying33 _ _ _ _ _ _ _ _ _ h2
    cases u0; cases u1; cases u2
    exact ⟨⟨a0, a1, a2⟩, rfl, r1, r2⟩
theorem opensW_gl : OpensW Try.prog 84 EGl := by
  intro H enc w base spare held fuel cs x h hwt
  obtain ⟨hl, n, hg⟩ := trod_structW (m := 3) Try.underlying84 (by kernel_rfl) h
  obtain ⟨y0, h0, k0⟩ := hg 0 _ 0 2 rfl rfl (by kernel_rfl)
  obtain ⟨y1, h1, k1⟩ := hg 1 _ 2 1 rfl rfl (by kernel_rfl)
  match cs, hl with
  | [c0, c1, c2], _ =>
    obtain ⟨a0, u0, r0⟩ := opensW_glb _ _ _ _ _ _ _ _ _ h0 (fun q hq => hwt q (k0 q hq))
    obtain ⟨_, v, u1, r1⟩ := opensW_one Try.underlying82 _ _ _ _ _ _ _ _ _ h1 (fun q hq => hwt q (k1 q hq))
    cases u0; cases u1
    exact ⟨a0, _, rfl, r1, r0⟩
def EMoB : El Mo := fun H cs m => ∃ v0 v1 v2 v3 v4 v5 v6 v7 v8 v9 va vb, cs = [v0, v1, v2, v3, v4, v5, v6, v7, v8, v9, va, vb] ∧ MV H v0 v1 v2 v3 v4 v5 v6 v7 v8 v9 va vb m ∧ Small m
theorem Sl.unFTy {H : Heap} {v : Value} {l : List FTy} (h : Sl 2 EFTyB H v l) : Sl 2 EFTy H v l ∧ ∀ x ∈ l, x.1.length ≤ 140737488351232 ∧ x.2.length ≤ 140737488351232 := by
  refine ⟨h.mapE fun cs x hx => hx.1, fun s hs => ?_⟩
  obtain ⟨j, hj, rfl⟩ := List.getElem_of_mem hs
  obtain ⟨cs, _, _, hx⟩ := h.at j hj
  have := hx.2
  rwa [List.getD_eq_getElem?_getD, List.getElem?_eq_getElem hj] at this
theorem opensW_mod : OpensW Try.prog 38 EMoB := by
  intro H enc w base spare held fuel cs x h hwt
  obtain ⟨hl, n, hg⟩ := trod_structW (m := 12) Try.underlying38 (by kernel_rfl) h
  obtain ⟨y0, h0, k0⟩ := hg 0 _ 0 1 rfl rfl (by kernel_rfl)
  obtain ⟨y1, h1, k1⟩ := hg 1 _ 1 1 rfl rfl (by kernel_rfl)
  obtain ⟨y2, h2, k2⟩ := hg 2 _ 2 1 rfl rfl (by kernel_rfl)
  obtain ⟨y3, h3, k3⟩ := hg 3 _ 3 1 rfl rfl (by kernel_rfl)
  obtain ⟨y4, h4, k4⟩ := hg 4 _ 4 1 rfl rfl (by kernel_rfl)
  obtain ⟨y5, h5, k5⟩ := hg 5 _ 5 1 rfl rfl (by kernel_rfl)
  obtain ⟨y6, h6, k6⟩ := hg 6 _ 6 1 rfl rfl (by kernel_rfl)
  obtain ⟨y7, h7, k7⟩ := hg 7 _ 7 1 rfl rfl (by kernel_rfl)
  obtain ⟨y8, h8, k8⟩ := hg 8 _ 8 1 rfl rfl (by kernel_rfl)
  obtain ⟨y9, h9, k9⟩ := hg 9 _ 9 1 rfl rfl (by kernel_rfl)
  obtain ⟨ya, ha, ka⟩ := hg 10 _ 10 1 rfl rfl (by kernel_rfl)
  obtain ⟨yb, hb, kb⟩ := hg 11 _ 11 1 rfl rfl (by kernel_rfl)
  match cs, hl with
  | [c0, c1, c2, c3, c4, c5, c6, c7, c8, c9, ca, cb], _ =>
    obtain ⟨l0, v0, u0, s0, b0⟩ := opensW_slice (n := 2) (b := 48) Try.underlying27 (by kernel_rfl) (by kernel_rfl) (by decide) opensW_fty _ _ _ _ _ _ _ _ _ h0 (fun q hq => hwt q (k0 q hq))
    obtain ⟨l1, v1, u1, s1, b1⟩ := opensW_slice (n := 8) (b := Try.prog.bytesOf 63) Try.underlying28 (by kernel_rfl) rfl (by decide) opensW_imp _ _ _ _ _ _ _ _ _ h1 (fun q hq => hwt q (k1 q hq))
    obtain ⟨l2, v2, u2, s2, b2⟩ := opensW_slice (n := 1) (b := 4) Try.underlying29 (by kernel_rfl) (by kernel_rfl) (by decide) (opens_int Try.underlying33).w _ _ _ _ _ _ _ _ _ h2 (fun q hq => hwt q (k2 q hq))
    obtain ⟨l3, v3, u3, s3, b3⟩ := opensW_slice (n := 2) (b := 16) Try.underlying30 (by kernel_rfl) (by kernel_rfl) (by decide) opensW_lim _ _ _ _ _ _ _ _ _ h3 (fun q hq => hwt q (k3 q hq))
    obtain ⟨l4, v4, u4, s4, b4⟩ := opensW_slice (n := 2) (b := 16) Try.underlying30 (by kernel_rfl) (by kernel_rfl) (by decide) opensW_lim _ _ _ _ _ _ _ _ _ h4 (fun q hq => hwt q (k4 q hq))
    obtain ⟨l5, v5, u5, s5, b5⟩ := opensW_slice (n := 3) (b := 32) Try.underlying31 (by kernel_rfl) (by kernel_rfl) (by decide) opensW_gl _ _ _ _ _ _ _ _ _ h5 (fun q hq => hwt q (k5 q hq))
    obtain ⟨l6, v6, u6, s6, b6⟩ := opensW_slice (n := 3) (b := 24) Try.underlying32 (by kernel_rfl) (by kernel_rfl) (by decide) opensW_exp _ _ _ _ _ _ _ _ _ h6 (fun q hq => hwt q (k6 q hq))
    obtain ⟨q7, u7⟩ := opens_bool Try.underlying4 _ _ _ _ _ _ _ _ _ h7
    obtain ⟨q8, u8, _⟩ := opens_int Try.underlying33 _ _ _ _ _ _ _ _ _ h8
    obtain ⟨_, v9, u9, o9⟩ := opensW_one Try.underlying34 _ _ _ _ _ _ _ _ _ h9 (fun q hq => hwt q (k9 q hq))
    obtain ⟨_, va, ua, oa⟩ := opensW_one Try.underlying35 _ _ _ _ _ _ _ _ _ ha (fun q hq => hwt q (ka q hq))
    obtain ⟨_, vb, ub, ob⟩ := opensW_one Try.underlying36 _ _ _ _ _ _ _ _ _ hb (fun q hq => hwt q (kb q hq))
    cases u0; cases u1; cases u2; cases u3; cases u4; cases u5; cases u6; cases u7; cases u8; cases u9; cases ua; cases ub
    have hbi : (1 : Nat) ≤ Try.prog.bytesOf 63 := of_decide_eq_true (by kernel_rfl)
    have hb1 : l1.length ≤ 140737488351232 := Nat.le_trans (Nat.le_mul_of_pos_right _ hbi) b1
    exact ⟨⟨l0, l1, l2, l3, l4, l5, l6⟩, _, _, _, _, _, _, _, _, _, _, _, _, rfl, ⟨s0.unFTy.1, s1, s2, s3, s4, s5, s6, rfl, rfl, o9, oa, ob⟩, ⟨⟨hb1, by show l2.length ≤ _; omega, by show l3.length ≤ _; omega, by show l4.length ≤ _; omega, by show l5.length ≤ _; omega, by show l6.length ≤ _; omega, by show l0.length ≤ _; omega⟩, s0.unFTy.2⟩⟩
end Go.Proofs.Ytbmikddaiedhiaa
