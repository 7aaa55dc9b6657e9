/- A module as a parameter. No condition. -/
import Derived.Test.YticnkojpfmkjeaaKOpenS
import Derived.Test.YticnkojpfmkjeaaInsW
import Derived.Test.YticnkojpfmkjeaaIstK
namespace Go.Proofs.Yticnkojpfmkjeaa
open Go Go.RowKit Go.ChangeShapes Go.WideShapes Go.Deep
set_option linter.unusedVariables false
set_option linter.unusedSimpArgs false
theorem Sl.unIns {H : Heap} {v : Value} {l : List Ins} (h : Sl 5 EInsB H v l) : Sl 5 EIns H v l := h.mapE fun cs x hx => hx.1
theorem opensW_glb : OpensW Try.prog 63 (fun _ cs (_ : Unit) => ∃ t b, cs = [.int .u8 t, .bool b]) := by
  intro H enc w base spare held fuel cs x h hwt
  obtain ⟨hl, n, hg⟩ := trod_structW (m := 2) Try.underlying63 (by kernel_rfl) h
  obtain ⟨y0, h0, _⟩ := hg 0 _ 0 1 rfl rfl (by kernel_rfl)
  obtain ⟨y1, h1, _⟩ := hg 1 _ 1 1 rfl rfl (by kernel_rfl)
  match cs, hl with
  | [c0, c1], _ =>
    obtain ⟨a0, u0, r0⟩ := opens_int Try.underlying5 _ _ _ _ _ _ _ _ _ h0
    obtain ⟨a1, u1⟩ := opens_bool Try.underlying4 _ _ _ _ _ _ _ _ _ h1
    cases u0; cases u1
    exact ⟨(), a0, a1, rfl⟩
theorem opensW_gi : OpensW Try.prog 65 EGI := by
  intro H enc w base spare held fuel cs x h hwt
  obtain ⟨hl, n, hg⟩ := trod_structW (m := 3) Try.underlying65 (by kernel_rfl) h
  obtain ⟨y0, h0, k0⟩ := hg 0 _ 0 2 rfl rfl (by kernel_rfl)
  obtain ⟨y1, h1, k1⟩ := hg 1 _ 2 1 rfl rfl (by kernel_rfl)
  match cs, hl with
  | [c0, c1, c2], _ =>
    obtain ⟨_, t, b, u0⟩ := opensW_glb _ _ _ _ _ _ _ _ _ h0 (fun q hq => hwt q (k0 q hq))
    obtain ⟨l, v, u1, s1, _⟩ := opensW_slice (n := 5) (b := 48) Try.underlying43 (by kernel_rfl) (by kernel_rfl) (by decide) opensW_ins _ _ _ _ _ _ _ _ _ h1 (fun q hq => hwt q (k1 q hq))
    cases u0; cases u1
    exact ⟨l, t, b, _, rfl, s1.unIns⟩
theorem opensW_el : OpensW Try.prog 45 EEl := by
  intro H enc w base spare held fuel cs x h hwt
  obtain ⟨hl, n, hg⟩ := trod_structW (m := 3) Try.underlying45 (by kernel_rfl) h
  obtain ⟨y0, h0, k0⟩ := hg 0 _ 0 1 rfl rfl (by kernel_rfl)
  obtain ⟨y1, h1, k1⟩ := hg 1 _ 1 1 rfl rfl (by kernel_rfl)
  obtain ⟨y2, h2, k2⟩ := hg 2 _ 2 1 rfl rfl (by kernel_rfl)
  match cs, hl with
  | [c0, c1, c2], _ =>
    obtain ⟨a0, u0, r0⟩ := opens_int Try.underlying28 _ _ _ _ _ _ _ _ _ h0
    obtain ⟨l, v, u1, s1, _⟩ := opensW_slice (n := 5) (b := 48) Try.underlying43 (by kernel_rfl) (by kernel_rfl) (by decide) opensW_ins _ _ _ _ _ _ _ _ _ h1 (fun q hq => hwt q (k1 q hq))
    obtain ⟨l', v', u2, s2, b2⟩ := opensW_slice (n := 1) (b := 4) Try.underlying24 (by kernel_rfl) (by kernel_rfl) (by decide) (opens_int Try.underlying28).w _ _ _ _ _ _ _ _ _ h2 (fun q hq => hwt q (k2 q hq))
    cases u0; cases u1; cases u2
    exact ⟨(l, l'), _, _, _, rfl, s1.unIns, s2, by show l'.length ≤ _; omega⟩
theorem opensW_da : OpensW Try.prog 55 EDa := by
  intro H enc w base spare held fuel cs x h hwt
  obtain ⟨hl, n, hg⟩ := trod_structW (m := 3) Try.underlying55 (by kernel_rfl) h
  obtain ⟨y0, h0, k0⟩ := hg 0 _ 0 1 rfl rfl (by kernel_rfl)
  obtain ⟨y1, h1, k1⟩ := hg 1 _ 1 1 rfl rfl (by kernel_rfl)
  obtain ⟨y2, h2, k2⟩ := hg 2 _ 2 1 rfl rfl (by kernel_rfl)
  match cs, hl with
  | [c0, c1, c2], _ =>
    obtain ⟨a0, u0, r0⟩ := opens_int Try.underlying28 _ _ _ _ _ _ _ _ _ h0
    obtain ⟨l, v, u1, s1, _⟩ := opensW_slice (n := 5) (b := 48) Try.underlying43 (by kernel_rfl) (by kernel_rfl) (by decide) opensW_ins _ _ _ _ _ _ _ _ _ h1 (fun q hq => hwt q (k1 q hq))
    obtain ⟨l', v', u2, s2, b2⟩ := opensW_slice (n := 1) (b := 1) Try.underlying49 (by kernel_rfl) (by kernel_rfl) (by decide) (opens_int Try.underlying5).w _ _ _ _ _ _ _ _ _ h2 (fun q hq => hwt q (k2 q hq))
    cases u0; cases u1; cases u2
    exact ⟨(l, l'), _, _, _, rfl, s1.unIns, s2, by show l'.length ≤ _; omega⟩
def EMiB : El Md := fun H cs m => ∃ v0 v1 v2 v3 v4 v5 v6 v7 v8 v9 va vb, cs = [v0, v1, v2, v3, v4, v5, v6, v7, v8, v9, va, vb] ∧ MI H v0 v1 v2 v3 v4 v5 v6 v7 v8 v9 va vb m
theorem opensW_mi : OpensW Try.prog 33 EMiB := by
  intro H enc w base spare held fuel cs x h hwt
  obtain ⟨hl, n, hg⟩ := trod_structW (m := 12) Try.underlying33 (by kernel_rfl) h
  obtain ⟨y0, h0, k0⟩ := hg 0 _ 0 1 rfl rfl (by kernel_rfl)
  obtain ⟨y1, h1, k1⟩ := hg 1 _ 1 1 rfl rfl (by kernel_rfl)
  obtain ⟨y2, h2, k2⟩ := hg 2 _ 2 1 rfl rfl (by kernel_rfl)
  obtain ⟨y3, h3, k3⟩ := hg 3 _ 3 1 rfl rfl (by kernel_rfl)
  obtain ⟨y4, h4, k4⟩ := hg 4 _ 4 1 rfl rfl (by kernel_rfl)
  obtain ⟨y5, h5, k5⟩ := hg 5 _ 5 1 rfl rfl (by kernel_rfl)
  obtain ⟨y6, h6, k6⟩ := hg 6 _ 6 1 rfl rfl (by kernel_rfl)
  obtain ⟨y7, h7, k7⟩ := hg 7 _ 7 1 rfl rfl (by kernel_rfl)
  obtain ⟨y8, h8, k8⟩ := hg 8 _ 8 1 rfl rfl (by kernel_rfl)
  obtain ⟨y9, h9, k9⟩ := hg 9 _ 9 1 rfl rfl (by kernel_rfl)
  obtain ⟨ya, ha, ka⟩ := hg 10 _ 10 1 rfl rfl (by kernel_rfl)
  obtain ⟨yb, hb, kb⟩ := hg 11 _ 11 1 rfl rfl (by kernel_rfl)
  match cs, hl with
  | [c0, c1, c2, c3, c4, c5, c6, c7, c8, c9, ca, cb], _ =>
    obtain ⟨_, v0, u0, o0⟩ := opensW_one Try.underlying22 _ _ _ _ _ _ _ _ _ h0 (fun q hq => hwt q (k0 q hq))
    obtain ⟨_, v1, u1, o1⟩ := opensW_one Try.underlying23 _ _ _ _ _ _ _ _ _ h1 (fun q hq => hwt q (k1 q hq))
    obtain ⟨_, v2, u2, o2⟩ := opensW_one Try.underlying24 _ _ _ _ _ _ _ _ _ h2 (fun q hq => hwt q (k2 q hq))
    obtain ⟨l3, v3, u3, s3, b3⟩ := opensW_slice (n := 2) (b := 16) Try.underlying25 (by kernel_rfl) (by kernel_rfl) (by decide) opens_lim.w _ _ _ _ _ _ _ _ _ h3 (fun q hq => hwt q (k3 q hq))
    obtain ⟨l4, v4, u4, s4, b4⟩ := opensW_slice (n := 2) (b := 16) Try.underlying25 (by kernel_rfl) (by kernel_rfl) (by decide) opens_lim.w _ _ _ _ _ _ _ _ _ h4 (fun q hq => hwt q (k4 q hq))
    obtain ⟨l5, v5, u5, s5, b5⟩ := opensW_slice (n := 3) (b := 32) Try.underlying26 (by kernel_rfl) (by kernel_rfl) (by decide) opensW_gi _ _ _ _ _ _ _ _ _ h5 (fun q hq => hwt q (k5 q hq))
    obtain ⟨_, v6, u6, o6⟩ := opensW_one Try.underlying27 _ _ _ _ _ _ _ _ _ h6 (fun q hq => hwt q (k6 q hq))
    obtain ⟨q7, u7⟩ := opens_bool Try.underlying4 _ _ _ _ _ _ _ _ _ h7
    obtain ⟨q8, u8, _⟩ := opens_int Try.underlying28 _ _ _ _ _ _ _ _ _ h8
    obtain ⟨l9, v9, u9, s9, b9⟩ := opensW_slice (n := 3) (b := Try.prog.bytesOf 45) Try.underlying29 (by kernel_rfl) rfl (by decide) opensW_el _ _ _ _ _ _ _ _ _ h9 (fun q hq => hwt q (k9 q hq))
    obtain ⟨_, va, ua, oa⟩ := opensW_one Try.underlying30 _ _ _ _ _ _ _ _ _ ha (fun q hq => hwt q (ka q hq))
    obtain ⟨lb, vb, ub, sb, bb⟩ := opensW_slice (n := 3) (b := Try.prog.bytesOf 55) Try.underlying31 (by kernel_rfl) rfl (by decide) opensW_da _ _ _ _ _ _ _ _ _ hb (fun q hq => hwt q (kb q hq))
    cases u0; cases u1; cases u2; cases u3; cases u4; cases u5; cases u6; cases u7; cases u8; cases u9; cases ua; cases ub
    have he : (1 : Nat) ≤ Try.prog.bytesOf 45 := of_decide_eq_true (by kernel_rfl)
    have hd : (1 : Nat) ≤ Try.prog.bytesOf 55 := of_decide_eq_true (by kernel_rfl)
    have hb1 : l9.length ≤ 140737488351232 := Nat.le_trans (Nat.le_mul_of_pos_right _ he) b9
    have hb2 : lb.length ≤ 140737488351232 := Nat.le_trans (Nat.le_mul_of_pos_right _ hd) bb
    exact ⟨⟨l3, l4, l5, l9, lb⟩, _, _, _, _, _, _, _, _, _, _, _, _, rfl, s3, s4, s5, s9, sb, ⟨o0, o1, o2, o6, rfl, rfl, oa⟩, by show l5.length ≤ _; omega, hb1, hb2⟩
end Go.Proofs.Yticnkojpfmkjeaa
