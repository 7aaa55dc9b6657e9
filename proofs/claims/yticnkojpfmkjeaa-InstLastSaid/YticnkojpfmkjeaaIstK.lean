/- That things are laid in. No condition. -/
import Derived.Test.YticnkojpfmkjeaaIstI
namespace Go.Proofs.Yticnkojpfmkjeaa
open Go Go.RowKit
set_option linter.unusedVariables false
set_option linter.unusedSimpArgs false
set_option linter.unnecessarySimpa false

theorem Sl.blk1 {α : Type} {n : Nat} {E : El α} [Keeps E] {H : Heap} {e : TypeId} {cs : List Value} {x : α} {g : Nat} (hb : H[g]? = some (.cells cs.toArray e (0, 0))) (hc : cs.length = n) (hpos : 0 < n) (hE : E H cs x) : Sl n E H (.slice (some ⟨g, 0, none⟩) 1 1) [x] := by
  have w : Own n E e H 0 H (.slice (some ⟨g, 0, none⟩) 1 1) [x] := by
    refine ⟨cs, ⟨by simp [hc], .inr ⟨g, 1, cs.toArray, rfl, Nat.zero_le _, hb, Nat.le_refl _, by unfold maxLen; simp, by simp [hc], by simp [← hc]⟩⟩, ?_⟩
    intro j y hj
    match j, hj with
    | 0, hj =>
      cases hj
      have : (cs.drop (0 * n)).take n = cs := by rw [Nat.zero_mul, List.drop_zero, List.take_of_length_le (by omega)]
      rw [this]; exact hE
  exact w.sl (Old.refl _) hpos
/-- the instruction that tells a number -/
def atI (n : Int) : Ins := ⟨65, 0, 0, n, []⟩
def atC (n : Int) : List Value := [.int .u8 65, .int .u32 0, .int .u32 0, .int .i64 n, .slice none 0 0]
theorem atE {H : Heap} {n : Int} (h : InR .i64 n) : EIns H (atC n) (atI n) := ⟨_, rfl, Sl.nil _ _ _, by dsimp only [InR, atI]; omega, by dsimp only [InR, atI]; omega, by dsimp only [InR, atI]; omega, h⟩
theorem atS {H : Heap} {k : Nat} {n : Int} (h : InR .i64 n) (hb : H[k]? = some (.cells (atC n).toArray 70 (0, 0))) : Sl 5 EIns H (.slice (some ⟨k, 0, none⟩) 1 1) [atI n] := Sl.blk1 hb rfl (by decide) (atE h)
theorem limS {H : Heap} {k : Nat} {a b : Int} (h1 : InR .u32 a) (h2 : InR .i64 b) (hb : H[k]? = some (.cells [.int .u32 a, .int .i64 b].toArray 41 (0, 0))) : Sl 2 ELim H (.slice (some ⟨k, 0, none⟩) 1 1) [(a, b)] := Sl.blk1 hb rfl (by decide) ⟨rfl, h1, h2⟩

set_option maxRecDepth 100000 in
set_option maxHeartbeats 4000000 in
theorem at_any {H : Heap} (n : Int) : Ct Try.prog 13 [.int .i64 n] H (fun u H' => ∃ k, u = .slice (some ⟨k, 0, none⟩) 1 1 ∧ H.size ≤ k ∧ H'[k]? = some (.cells (atC n).toArray 70 (0, 0)) ∧ Old H H') := by
  refine Ct.mk Try.func13 rfl Try.ntmps13 rfl ?_
  intro W0 hW0
  have o0 : Old H H := Old.refl H
  refine KC.seq ?_
  refine KC.region ?_
  refine KL.op (R.assign rfl rfl) rfl rfl rfl ?_
  refine KL.nil ?_
  refine KQ.seq ?_
  refine KC.seq ?_
  refine KC.region ?_
  refine KL.op (R.move rfl rfl) rfl rfl rfl ?_
  refine KL.op (R.buildL rfl Try.underlying70 zr70 [(0, 1), (1, 1), (2, 1), (3, 1), (4, 1)] (fun w => by kernel_rfl) rfl ⟨⟨_, rfl, rfl⟩, ⟨_, rfl, rfl⟩, trivial⟩ rfl rfl ⟨⟨_, rfl, by first | rfl⟩, ⟨_, rfl, by first | rfl⟩, trivial⟩ rfl) rfl rfl rfl ?_
  refine KL.opM (M.lit rfl Try.underlying43 zs70 (by decide) rfl rfl rfl) rfl rfl rfl ?_
  rintro _ H1 ⟨rfl, n1⟩
  have z1 := n1.2.1
  have o0 := o0.trans n1.1
  have b1 := n1.2.2
  have q5 := b1
  refine KL.op (R.assign rfl rfl) rfl rfl rfl ?_
  refine KL.nil ?_
  refine KQ.seq ?_
  refine KC.ret ?_
  refine KQ.ofRet ?_
  refine KQ.fin1 Try.results13 rfl ?_
  exact ⟨_, rfl, by omega, q5, o0⟩

set_option maxRecDepth 100000 in
set_option maxHeartbeats 4000000 in
theorem page_any {H : Heap} : Ct Try.prog 12 [] H (fun u H' => ∃ k3 k4, u = .agg [.slice none 0 0, .slice none 0 0, .slice none 0 0, .slice (some ⟨k3, 0, none⟩) 1 1, .slice (some ⟨k4, 0, none⟩) 1 1, .slice none 0 0, .slice none 0 0, .bool false, .int .u32 0, .slice none 0 0, .slice none 0 0, .slice none 0 0].toArray ∧ H.size ≤ k3 ∧ H.size ≤ k4 ∧ k3 < H'.size ∧ k4 < H'.size ∧ k3 ≠ k4 ∧ H'[k3]? = some (.cells [.int .u32 3, .int .i64 (-1)].toArray 41 (0, 0)) ∧ H'[k4]? = some (.cells [.int .u32 1, .int .i64 (-1)].toArray 41 (0, 0)) ∧ Old H H') := by
  refine Ct.mk Try.func12 rfl Try.ntmps12 rfl ?_
  intro W0 hW0
  have o0 : Old H H := Old.refl H
  refine KC.seq ?_
  refine KC.region ?_
  refine KL.opM (M.alloc rfl zr33 rfl) rfl rfl rfl ?_
  rintro _ H1 ⟨rfl, n1⟩
  have z1 := n1.2.1
  have o0 := o0.trans n1.1
  have b1 := n1.2.2
  have q0 := b1
  refine KL.nil ?_
  refine KQ.seq ?_
  refine KC.seq ?_
  refine KC.region ?_
  refine KL.op (R.buildL rfl Try.underlying41 zr41 [(0, 1), (1, 1)] (fun w => by kernel_rfl) rfl ⟨⟨_, rfl, rfl⟩, ⟨_, rfl, rfl⟩, trivial⟩ rfl rfl ⟨⟨_, rfl, by first | rfl⟩, ⟨_, rfl, by first | rfl⟩, trivial⟩ rfl) rfl rfl rfl ?_
  refine KL.opM (M.lit rfl Try.underlying25 zs41 (by decide) rfl rfl rfl) rfl rfl rfl ?_
  rintro _ H2 ⟨rfl, n2⟩
  have z2 := n2.2.1
  have o0 := o0.trans n2.1
  have q0 := (n2.1).blk q0
  have b2 := n2.2.2
  have q2 := b2
  refine KL.op (R.buildL rfl Try.underlying41 zr41 [(0, 1), (1, 1)] (fun w => by kernel_rfl) rfl ⟨⟨_, rfl, rfl⟩, ⟨_, rfl, rfl⟩, trivial⟩ rfl rfl ⟨⟨_, rfl, by first | rfl⟩, ⟨_, rfl, by first | rfl⟩, trivial⟩ rfl) rfl rfl rfl ?_
  refine KL.opM (M.lit rfl Try.underlying25 zs41 (by decide) rfl rfl rfl) rfl rfl rfl ?_
  rintro _ H3 ⟨rfl, n3⟩
  have z3 := n3.2.1
  have o0 := o0.trans n3.1
  have q0 := (n3.1).blk q0
  have q2 := (n3.1).blk q2
  have b3 := n3.2.2
  have q4 := b3
  refine KL.op (R.buildL rfl Try.underlying33 zr33 [(0, 1), (1, 1), (2, 1), (3, 1), (4, 1), (5, 1), (6, 1), (7, 1), (8, 1), (9, 1), (10, 1), (11, 1)] (fun w => by kernel_rfl) rfl ⟨⟨_, rfl, rfl⟩, ⟨_, rfl, rfl⟩, trivial⟩ rfl rfl ⟨⟨_, rfl, by first | rfl⟩, ⟨_, rfl, by first | rfl⟩, trivial⟩ rfl) rfl rfl rfl ?_
  refine KL.opS (S.storeAgg rfl sz33 rfl rfl (rfl) (by intro z hz; simp only [List.mem_cons, List.not_mem_nil, or_false] at hz; rcases hz with rfl | rfl | rfl | rfl | rfl | rfl | rfl | rfl | rfl | rfl | rfl | rfl <;> rfl) q0 (by simp)) rfl rfl ?_
  rintro H4 ⟨u4, b4⟩
  have o0 := o0.upd u4 (by omega)
  have zu4 := u4.1
  have q2 := ((u4).2 _ (by omega)).trans q2
  have q4 := ((u4).2 _ (by omega)).trans q4
  have q0 := b4
  rw [over_all (by rfl)] at q0
  refine KL.nil ?_
  refine KQ.seq ?_
  refine KC.ret ?_
  refine KQ.ofRet ?_
  refine KQ.finCell Try.results12 rfl Try.underlying33 rfl sz33 (cells_of q0) (rfl) ?_
  have z2 := blk_lt q2
  have z4 := blk_lt q4
  exact ⟨_, _, rfl, by omega, by omega, z4, z2, by omega, q4, q2, o0⟩


def mW : Md := ⟨[(3, -1)], [(1, -1)], [[atI (-1)]], [([atI 1], [5, 6])], [([atI 65533], [97, 98, 99])]⟩
theorem Elem_at {H : Heap} {g : Nat} {mp tv gv : Value} {m : Md} {bs tl gl : List Int} (is : IS H g mp tv gv m bs tl gl) (i : Nat) (hi : i ≤ 4294967295) (hn : tl.length ≤ 1048576) {v : Value} (e : elV tl i = v) : Ct Try.prog 9 [.pointer (some ⟨g, 0, none⟩), .int .u32 (i : Nat)] H (fun u H' => u = v ∧ H = H') :=
  (Elem_any is i hi hn).mono (fun u H' h => ⟨h.1.trans e, h.2⟩)
theorem Global_at {H : Heap} {g : Nat} {mp tv gv : Value} {m : Md} {bs tl gl : List Int} (is : IS H g mp tv gv m bs tl gl) (i : Nat) (hi : i ≤ 4294967295) (hn : gl.length ≤ 1048576) {v : Value} (e : glV gl i = v) : Ct Try.prog 14 [.pointer (some ⟨g, 0, none⟩), .int .u32 (i : Nat)] H (fun u H' => u = v ∧ H = H') :=
  (Global_any is i hi hn).mono (fun u H' h => ⟨h.1.trans e, h.2⟩)
theorem fitW : Fit mW := by
  refine ⟨?_, ?_, by decide, ?_, ?_⟩
  · intro x r h; cases h; unfold newOk; decide
  · intro x r h; cases h; decide
  · intro x h; simp only [mW, List.mem_cons, List.not_mem_nil, or_false] at h; subst h; decide +kernel
  · intro x h; simp only [mW, List.mem_cons, List.not_mem_nil, or_false] at h; subst h; decide +kernel
theorem tabW : tabL mW = [-1, 5, 6] := by decide +kernel
theorem glW : mW.globs.map iv = [4294967295] := by decide +kernel
theorem elW0 : elV (tabL mW) 0 = .tuple #[.int .u32 0, .bool true, .bool false] := by rw [tabW]; rfl
theorem elW2 : elV (tabL mW) 2 = .tuple #[.int .u32 6, .bool true, .bool true] := by rw [tabW]; exact congrArg (fun z => Value.tuple #[.int .u32 z, .bool true, .bool true]) (by decide +kernel)
theorem elW3 : elV (tabL mW) 3 = .tuple #[.int .u32 0, .bool false, .bool false] := by rw [tabW]; rfl
theorem glW0 : glV (mW.globs.map iv) 0 = .tuple #[.int .u64 4294967295, .bool true] := by rw [glW]; rfl
theorem memW_len : (memL mW).length = 65536 := lay_length (n := 65536) _ _ (by rw [zeros_length]; decide) (fun e he => fitW.d e he)
theorem lay_one (l : List Int) (e : El2) : lay l [e] = putAt l (iv e.1).toNat e.2 := rfl
theorem memW_eq : memL mW = putAt (zeros (pages mW)) 65533 [97, 98, 99] := by
  unfold memL
  rw [show mW.datas = [([atI 65533], [97, 98, 99])] from rfl, lay_one]
  dsimp only
  rw [show (iv [atI 65533]).toNat = 65533 by decide +kernel]
theorem memW : prtP (memL mW) 65533 3 = [97, 98, 99] := by
  unfold prtP
  rw [if_pos (by rw [memW_len]; decide), memW_eq, show (65533 : Int).toNat = 65533 by decide, show (3 : Int).toNat = ([97, 98, 99] : List Int).length by decide]
  exact prt_putAt (by rw [zeros_length, show (pages mW * 65536).toNat = 65536 by decide +kernel]; decide)

set_option maxRecDepth 100000 in
set_option maxHeartbeats 4000000 in
theorem works_any {H : Heap} : Ct Try.prog 6 [] H (fun u H' => u = .bool true ∧ Old H H') := by
  refine Ct.mk Try.func6 rfl Try.ntmps6 rfl ?_
  intro W0 hW0
  have o0 : Old H H := Old.refl H
  refine KC.seq ?_
  refine KC.region ?_
  refine KL.op (R.assign rfl rfl) rfl rfl rfl ?_
  refine KL.nil ?_
  refine KQ.seq ?_
  refine KC.seq ?_
  refine KC.region ?_
  refine KL.call rfl rfl rfl rfl Try.call12 rfl rfl rfl (page_any) ?_
  rintro _ H1 ⟨k3, k4, rfl, h3, h4, z3, z4, h34, c3, c4, ox⟩
  have zc_H1 := (ox).1
  have o0 := o0.trans ox
  refine KL.opM (M.alloc rfl zr33 rfl) rfl rfl rfl ?_
  rintro _ H2 ⟨rfl, n2⟩
  have z2 := n2.2.1
  have o0 := o0.trans n2.1
  have c3 := (n2.1).blk c3
  have c4 := (n2.1).blk c4
  have b2 := n2.2.2
  have bm := b2
  refine KL.opS (S.storeAgg rfl sz33 rfl rfl (rfl) (by intro z hz; simp only [List.mem_cons, List.not_mem_nil, or_false] at hz; rcases hz with rfl | rfl | rfl | rfl | rfl | rfl | rfl | rfl | rfl | rfl | rfl | rfl <;> rfl) bm (by simp)) rfl rfl ?_
  rintro H3 ⟨u3, b3⟩
  have o0 := o0.upd u3 (by omega)
  have zu3 := u3.1
  have c3 := ((u3).2 _ (by omega)).trans c3
  have c4 := ((u3).2 _ (by omega)).trans c4
  have bm := b3
  rw [over_all (by rfl)] at bm
  refine KL.nil ?_
  refine KQ.seq ?_
  refine KC.seq ?_
  refine KC.region ?_
  refine KL.call rfl rfl rfl rfl Try.call13 rfl rfl rfl (at_any 1) ?_
  rintro _ H4 ⟨k5, rfl, h5, c5, ox⟩
  have zc_H4 := (ox).1
  have o0 := o0.trans ox
  have c3 := (ox).blk c3
  have c4 := (ox).blk c4
  have bm := (ox).blk bm
  have z5 := blk_lt c5
  refine KL.opM (M.lit rfl Try.underlying24 zs28 (by decide) rfl rfl rfl) rfl rfl rfl ?_
  rintro _ H5 ⟨rfl, n5⟩
  have z5 := n5.2.1
  have o0 := o0.trans n5.1
  have c3 := (n5.1).blk c3
  have c4 := (n5.1).blk c4
  have bm := (n5.1).blk bm
  have c5 := (n5.1).blk c5
  have b5 := n5.2.2
  have q19 := b5
  refine KL.op (R.buildL rfl Try.underlying45 zr45 [(0, 1), (1, 1), (2, 1)] (fun w => by kernel_rfl) rfl ⟨⟨_, rfl, rfl⟩, ⟨_, rfl, rfl⟩, trivial⟩ rfl rfl ⟨⟨_, rfl, by first | rfl⟩, ⟨_, rfl, by first | rfl⟩, trivial⟩ rfl) rfl rfl rfl ?_
  refine KL.opM (M.lit rfl Try.underlying29 zs45 (by decide) rfl rfl rfl) rfl rfl rfl ?_
  rintro _ H6 ⟨rfl, n6⟩
  have z6 := n6.2.1
  have o0 := o0.trans n6.1
  have c3 := (n6.1).blk c3
  have c4 := (n6.1).blk c4
  have bm := (n6.1).blk bm
  have c5 := (n6.1).blk c5
  have q19 := (n6.1).blk q19
  have b6 := n6.2.2
  have q21 := b6
  refine KL.op ((by first | exact R.fieldAddr rfl Try.underlying33 rfl rfl sz29 rfl | exact R.fieldAddrP rfl Try.underlying33 rfl rfl sz29 rfl)) rfl rfl rfl ?_
  refine KL.opS (S.store rfl sz29 rfl rfl rfl rfl bm (by simp)) rfl rfl ?_
  rintro H7 ⟨u7, b7⟩
  have o0 := o0.upd u7 (by omega)
  have zu7 := u7.1
  have c3 := ((u7).2 _ (by omega)).trans c3
  have c4 := ((u7).2 _ (by omega)).trans c4
  have c5 := ((u7).2 _ (by omega)).trans c5
  have q19 := ((u7).2 _ (by omega)).trans q19
  have q21 := ((u7).2 _ (by omega)).trans q21
  have bm := b7
  refine KL.nil ?_
  refine KQ.seq ?_
  refine KC.seq ?_
  refine KC.region ?_
  refine KL.call rfl rfl rfl rfl Try.call13 rfl rfl rfl (at_any 65533) ?_
  rintro _ H8 ⟨k6, rfl, h6, c6, ox⟩
  have zc_H8 := (ox).1
  have o0 := o0.trans ox
  have c3 := (ox).blk c3
  have c4 := (ox).blk c4
  have bm := (ox).blk bm
  have c5 := (ox).blk c5
  have q19 := (ox).blk q19
  have q21 := (ox).blk q21
  have z6 := blk_lt c6
  refine KL.opM (M.lit rfl Try.underlying49 zs5 (by decide) rfl rfl rfl) rfl rfl rfl ?_
  rintro _ H9 ⟨rfl, n9⟩
  have z9 := n9.2.1
  have o0 := o0.trans n9.1
  have c3 := (n9.1).blk c3
  have c4 := (n9.1).blk c4
  have bm := (n9.1).blk bm
  have c5 := (n9.1).blk c5
  have q19 := (n9.1).blk q19
  have q21 := (n9.1).blk q21
  have c6 := (n9.1).blk c6
  have b9 := n9.2.2
  have q24 := b9
  refine KL.opM (M.mark rfl Try.underlying49 Try.underlying5 rfl q24) rfl rfl rfl ?_
  rintro _ H10 ⟨rfl, um, q24⟩
  have zum := um.1
  have o0 := o0.upd um (by omega)
  have c3 := (um.2 _ (by omega)).trans c3
  have c4 := (um.2 _ (by omega)).trans c4
  have bm := (um.2 _ (by omega)).trans bm
  have c5 := (um.2 _ (by omega)).trans c5
  have q19 := (um.2 _ (by omega)).trans q19
  have q21 := (um.2 _ (by omega)).trans q21
  have c6 := (um.2 _ (by omega)).trans c6
  refine KL.op (R.buildL rfl Try.underlying55 zr55 [(0, 1), (1, 1), (2, 1)] (fun w => by kernel_rfl) rfl ⟨⟨_, rfl, rfl⟩, ⟨_, rfl, rfl⟩, trivial⟩ rfl rfl ⟨⟨_, rfl, by first | rfl⟩, ⟨_, rfl, by first | rfl⟩, trivial⟩ rfl) rfl rfl rfl ?_
  refine KL.opM (M.lit rfl Try.underlying31 zs55 (by decide) rfl rfl rfl) rfl rfl rfl ?_
  rintro _ H11 ⟨rfl, n11⟩
  have z11 := n11.2.1
  have o0 := o0.trans n11.1
  have c3 := (n11.1).blk c3
  have c4 := (n11.1).blk c4
  have bm := (n11.1).blk bm
  have c5 := (n11.1).blk c5
  have q19 := (n11.1).blk q19
  have q21 := (n11.1).blk q21
  have c6 := (n11.1).blk c6
  have q24 := (n11.1).blk q24
  have b11 := n11.2.2
  have q27 := b11
  refine KL.op ((by first | exact R.fieldAddr rfl Try.underlying33 rfl rfl sz31 rfl | exact R.fieldAddrP rfl Try.underlying33 rfl rfl sz31 rfl)) rfl rfl rfl ?_
  refine KL.opS (S.store rfl sz31 rfl rfl rfl rfl bm (by simp)) rfl rfl ?_
  rintro H12 ⟨u12, b12⟩
  have o0 := o0.upd u12 (by omega)
  have zu12 := u12.1
  have c3 := ((u12).2 _ (by omega)).trans c3
  have c4 := ((u12).2 _ (by omega)).trans c4
  have c5 := ((u12).2 _ (by omega)).trans c5
  have q19 := ((u12).2 _ (by omega)).trans q19
  have q21 := ((u12).2 _ (by omega)).trans q21
  have c6 := ((u12).2 _ (by omega)).trans c6
  have q24 := ((u12).2 _ (by omega)).trans q24
  have q27 := ((u12).2 _ (by omega)).trans q27
  have bm := b12
  refine KL.nil ?_
  refine KQ.seq ?_
  refine KC.seq ?_
  refine KC.region ?_
  refine KL.op (R.buildL rfl Try.underlying63 zr63 [(0, 1), (1, 1)] (fun w => by kernel_rfl) rfl ⟨⟨_, rfl, rfl⟩, trivial⟩ rfl rfl ⟨⟨_, rfl, by first | rfl⟩, trivial⟩ rfl) rfl rfl rfl ?_
  refine KL.call rfl rfl rfl rfl Try.call13 rfl rfl rfl (at_any (-1)) ?_
  rintro _ H13 ⟨k7, rfl, h7, c7, ox⟩
  have zc_H13 := (ox).1
  have o0 := o0.trans ox
  have c3 := (ox).blk c3
  have c4 := (ox).blk c4
  have bm := (ox).blk bm
  have c5 := (ox).blk c5
  have q19 := (ox).blk q19
  have q21 := (ox).blk q21
  have c6 := (ox).blk c6
  have q24 := (ox).blk q24
  have q27 := (ox).blk q27
  have z7 := blk_lt c7
  refine KL.op (R.build (places := #[(0, 2), (2, 1)]) (cs := #[.int .u8 127, .bool false, .slice (some ⟨k7, 0, none⟩) 1 1]) rfl Try.underlying65 zr65 (fun w => by kernel_rfl) rfl (by kernel_rfl)) rfl rfl rfl ?_
  refine KL.opM (M.lit rfl Try.underlying26 zs65 (by decide) rfl rfl rfl) rfl rfl rfl ?_
  rintro _ H14 ⟨rfl, n14⟩
  have z14 := n14.2.1
  have o0 := o0.trans n14.1
  have c3 := (n14.1).blk c3
  have c4 := (n14.1).blk c4
  have bm := (n14.1).blk bm
  have c5 := (n14.1).blk c5
  have q19 := (n14.1).blk q19
  have q21 := (n14.1).blk q21
  have c6 := (n14.1).blk c6
  have q24 := (n14.1).blk q24
  have q27 := (n14.1).blk q27
  have c7 := (n14.1).blk c7
  have b14 := n14.2.2
  have q32 := b14
  refine KL.op ((by first | exact R.fieldAddr rfl Try.underlying33 rfl rfl sz26 rfl | exact R.fieldAddrP rfl Try.underlying33 rfl rfl sz26 rfl)) rfl rfl rfl ?_
  refine KL.opS (S.store rfl sz26 rfl rfl rfl rfl bm (by simp)) rfl rfl ?_
  rintro H15 ⟨u15, b15⟩
  have o0 := o0.upd u15 (by omega)
  have zu15 := u15.1
  have c3 := ((u15).2 _ (by omega)).trans c3
  have c4 := ((u15).2 _ (by omega)).trans c4
  have c5 := ((u15).2 _ (by omega)).trans c5
  have q19 := ((u15).2 _ (by omega)).trans q19
  have q21 := ((u15).2 _ (by omega)).trans q21
  have c6 := ((u15).2 _ (by omega)).trans c6
  have q24 := ((u15).2 _ (by omega)).trans q24
  have q27 := ((u15).2 _ (by omega)).trans q27
  have c7 := ((u15).2 _ (by omega)).trans c7
  have q32 := ((u15).2 _ (by omega)).trans q32
  have bm := b15
  refine KL.nil ?_
  refine KQ.seq ?_
  refine KC.seq ?_
  refine KC.region ?_
  refine KL.op (R.loadAgg rfl Try.underlying33 rfl sz33 rfl (cells_of bm) rfl) rfl rfl rfl ?_
  have hi : ∀ x : Int, -9223372036854775808 ≤ x → x ≤ 9223372036854775807 → InR .i64 x := fun x h1 h2 => ⟨h1, h2⟩
  have mv : MI H15 (.slice none 0 0) (.slice none 0 0) (.slice none 0 0) _ _ _ (.slice none 0 0) (.bool false) (.int .u32 0) _ (.slice none 0 0) _ mW := ⟨limS (by dsimp only [InR]; omega) (hi _ (by decide) (by decide)) c3, limS (by dsimp only [InR]; omega) (hi _ (by decide) (by decide)) c4,
    Sl.blk1 q32 rfl (by decide) ⟨_, _, _, rfl, atS (hi _ (by decide) (by decide)) c7⟩,
    Sl.blk1 q21 rfl (by decide) ⟨_, _, _, rfl, atS (hi _ (by decide) (by decide)) c5, Sl.ofCells (l := [5, 6]) q19 (by decide) (by intro y hy; simp only [List.mem_cons, List.not_mem_nil, or_false] at hy; dsimp only [InR]; omega), by decide⟩,
    Sl.blk1 q27 rfl (by decide) ⟨_, _, _, rfl, atS (hi _ (by decide) (by decide)) c6, Sl.ofCells (l := [97, 98, 99]) q24 (by decide) (by intro y hy; simp only [List.mem_cons, List.not_mem_nil, or_false] at hy; dsimp only [InR]; omega), by decide⟩,
    ⟨rfl, rfl, rfl, rfl, rfl, rfl, rfl⟩, by decide⟩
  refine KL.call rfl rfl rfl rfl Try.call7 rfl rfl rfl (NewI_any mv) ?_
  rintro u H16 hR
  obtain ⟨-, g, mp, tv, gv, rfl, is, hgs, ox⟩ := hR.resolve_right (fun h => h.1 fitW)
  have zc_H16 := (ox).1
  have o0 := o0.trans ox
  have c3 := (ox).blk c3
  have c4 := (ox).blk c4
  have bm := (ox).blk bm
  have c5 := (ox).blk c5
  have q19 := (ox).blk q19
  have q21 := (ox).blk q21
  have c6 := (ox).blk c6
  have q24 := (ox).blk q24
  have q27 := (ox).blk q27
  have c7 := (ox).blk c7
  have q32 := (ox).blk q32
  have hT : (tabL mW).length ≤ 1048576 := by rw [tabW]; decide
  have hG : (mW.globs.map iv).length ≤ 1048576 := by decide
  refine KL.op (R.move rfl rfl) rfl rfl rfl ?_
  refine KL.op (R.extract rfl rfl rfl) rfl rfl rfl ?_
  refine KL.op (R.extract rfl rfl rfl) rfl rfl rfl ?_
  refine KL.op (R.assign rfl rfl) rfl rfl rfl ?_
  refine KL.op (R.assign rfl rfl) rfl rfl rfl ?_
  refine KL.nil ?_
  refine KQ.seq ?_
  refine KC.seq ?_
  refine KC.seq ?_
  refine KC.region ?_
  refine KL.op (R.move rfl rfl) rfl rfl rfl ?_
  refine KL.op ((R.neq rfl rfl rfl).val ((congrArg (fun b => Value.bool (!b)) (decide_eq_true (by rfl))))) rfl rfl rfl ?_
  refine KL.op (R.move rfl rfl) rfl rfl rfl ?_
  refine KL.op (R.move rfl rfl) rfl rfl rfl ?_
  refine KL.op (R.eqlP rfl Try.underlying36 rfl rfl) rfl rfl rfl ?_
  refine KL.op (R.pick rfl rfl rfl) rfl rfl rfl ?_
  refine KL.nil ?_
  refine KQ.seq ?_
  refine KC.condF rfl ?_
  refine KC.skip ?_
  refine KQ.seq ?_
  refine KC.seq ?_
  refine KC.region ?_
  refine KL.op (R.move rfl rfl) rfl rfl rfl ?_
  refine KL.call rfl rfl rfl rfl Try.call9 rfl rfl rfl (Elem_at is 0 (by decide) hT elW0) ?_
  rintro _ _ ⟨rfl, rfl⟩
  refine KL.op (R.move rfl rfl) rfl rfl rfl ?_
  refine KL.op (R.extract rfl rfl rfl) rfl rfl rfl ?_
  refine KL.op (R.extract rfl rfl rfl) rfl rfl rfl ?_
  refine KL.op (R.extract rfl rfl rfl) rfl rfl rfl ?_
  refine KL.op (R.assign rfl rfl) rfl rfl rfl ?_
  refine KL.op (R.assign rfl rfl) rfl rfl rfl ?_
  refine KL.op (R.assign rfl rfl) rfl rfl rfl ?_
  refine KL.nil ?_
  refine KQ.seq ?_
  refine KC.seq ?_
  refine KC.region ?_
  refine KL.op (R.move rfl rfl) rfl rfl rfl ?_
  refine KL.call rfl rfl rfl rfl Try.call9 rfl rfl rfl (Elem_at is 2 (by decide) hT elW2) ?_
  rintro _ _ ⟨rfl, rfl⟩
  refine KL.op (R.move rfl rfl) rfl rfl rfl ?_
  refine KL.op (R.extract rfl rfl rfl) rfl rfl rfl ?_
  refine KL.op (R.extract rfl rfl rfl) rfl rfl rfl ?_
  refine KL.op (R.extract rfl rfl rfl) rfl rfl rfl ?_
  refine KL.op (R.assign rfl rfl) rfl rfl rfl ?_
  refine KL.op (R.assign rfl rfl) rfl rfl rfl ?_
  refine KL.op (R.assign rfl rfl) rfl rfl rfl ?_
  refine KL.nil ?_
  refine KQ.seq ?_
  refine KC.seq ?_
  refine KC.region ?_
  refine KL.op (R.move rfl rfl) rfl rfl rfl ?_
  refine KL.call rfl rfl rfl rfl Try.call9 rfl rfl rfl (Elem_at is 3 (by decide) hT elW3) ?_
  rintro _ _ ⟨rfl, rfl⟩
  refine KL.op (R.move rfl rfl) rfl rfl rfl ?_
  refine KL.op (R.extract rfl rfl rfl) rfl rfl rfl ?_
  refine KL.op (R.extract rfl rfl rfl) rfl rfl rfl ?_
  refine KL.op (R.extract rfl rfl rfl) rfl rfl rfl ?_
  refine KL.op (R.assign rfl rfl) rfl rfl rfl ?_
  refine KL.op (R.assign rfl rfl) rfl rfl rfl ?_
  refine KL.op (R.assign rfl rfl) rfl rfl rfl ?_
  refine KL.nil ?_
  refine KQ.seq ?_
  refine KC.seq ?_
  refine KC.region ?_
  refine KL.op (R.move rfl rfl) rfl rfl rfl ?_
  refine KL.call rfl rfl rfl rfl Try.call10 rfl rfl rfl (Mem_any is) ?_
  rintro _ _ ⟨rfl, rfl⟩
  refine KL.call rfl rfl rfl rfl Try.call11 rfl rfl rfl (get_is is (by rw [memW_len]; rfl) 65533 3 (by dsimp only [InR]; omega) (by dsimp only [InR]; omega)) ?_
  rintro _ H17 ⟨x, b, rfl, wx, hb, ox⟩
  obtain rfl : b = true := (hb (by decide)).trans (decide_eq_true (by rw [memW_len]; decide))
  rw [memW] at wx
  have zc_H17 := (ox).1
  have o0 := o0.trans ox
  have c3 := (ox).blk c3
  have c4 := (ox).blk c4
  have bm := (ox).blk bm
  have c5 := (ox).blk c5
  have q19 := (ox).blk q19
  have q21 := (ox).blk q21
  have c6 := (ox).blk c6
  have q24 := (ox).blk q24
  have q27 := (ox).blk q27
  have c7 := (ox).blk c7
  have q32 := (ox).blk q32
  have is := is.old ox
  have sx := wx.sl (emptyOld _) (by decide)
  refine KL.op (R.move rfl rfl) rfl rfl rfl ?_
  refine KL.op (R.extract rfl rfl rfl) rfl rfl rfl ?_
  refine KL.op (R.extract rfl rfl rfl) rfl rfl rfl ?_
  refine KL.op (R.assign rfl rfl) rfl rfl rfl ?_
  refine KL.op (R.assign rfl rfl) rfl rfl rfl ?_
  refine KL.nil ?_
  refine KQ.seq ?_
  refine KC.seq ?_
  refine KC.region ?_
  refine KL.op (R.move rfl rfl) rfl rfl rfl ?_
  refine KL.call rfl rfl rfl rfl Try.call14 rfl rfl rfl (Global_at is 0 (by decide) hG glW0) ?_
  rintro _ _ ⟨rfl, rfl⟩
  refine KL.op (R.move rfl rfl) rfl rfl rfl ?_
  refine KL.op (R.extract rfl rfl rfl) rfl rfl rfl ?_
  refine KL.op (R.extract rfl rfl rfl) rfl rfl rfl ?_
  refine KL.op (R.assign rfl rfl) rfl rfl rfl ?_
  refine KL.op (R.assign rfl rfl) rfl rfl rfl ?_
  refine KL.nil ?_
  refine KQ.seq ?_
  refine KC.seq ?_
  refine KC.region ?_
  refine KL.op (R.move rfl rfl) rfl rfl rfl ?_
  refine KL.op (R.move rfl rfl) rfl rfl rfl ?_
  refine KL.op (R.move rfl rfl) rfl rfl rfl ?_
  refine KL.op ((R.not rfl rfl).val (show _ = Value.bool true from rfl)) rfl rfl rfl ?_
  refine KL.op (R.pick rfl rfl rfl) rfl rfl rfl ?_
  refine KL.op (R.move rfl rfl) rfl rfl rfl ?_
  refine KL.op (R.move rfl rfl) rfl rfl rfl ?_
  refine KL.op ((R.eql rfl rfl rfl).val (congrArg Value.bool (decide_eq_true (by rfl)))) rfl rfl rfl ?_
  refine KL.op (R.pick rfl rfl rfl) rfl rfl rfl ?_
  refine KL.op (R.move rfl rfl) rfl rfl rfl ?_
  refine KL.op (R.move rfl rfl) rfl rfl rfl ?_
  refine KL.op (R.pick rfl rfl rfl) rfl rfl rfl ?_
  refine KL.op (R.move rfl rfl) rfl rfl rfl ?_
  refine KL.op (R.move rfl rfl) rfl rfl rfl ?_
  refine KL.op ((R.not rfl rfl).val (show _ = Value.bool true from rfl)) rfl rfl rfl ?_
  refine KL.op (R.pick rfl rfl rfl) rfl rfl rfl ?_
  refine KL.op (R.move rfl rfl) rfl rfl rfl ?_
  refine KL.op (R.move rfl rfl) rfl rfl rfl ?_
  refine KL.op (R.pick rfl rfl rfl) rfl rfl rfl ?_
  refine KL.op (R.move rfl rfl) rfl rfl rfl ?_
  refine KL.op (R.move rfl rfl) rfl rfl rfl ?_
  refine KL.op (R.convBS rfl Try.underlying49 Try.underlying5 Try.underlying9 rfl sx) rfl rfl rfl ?_
  refine KL.op ((R.eqlStr rfl rfl rfl).val (show _ = Value.bool true from congrArg Value.bool (by decide +kernel))) rfl rfl rfl ?_
  refine KL.op (R.pick rfl rfl rfl) rfl rfl rfl ?_
  refine KL.op (R.move rfl rfl) rfl rfl rfl ?_
  refine KL.op (R.move rfl rfl) rfl rfl rfl ?_
  refine KL.op ((R.eql rfl rfl rfl).val (congrArg Value.bool (decide_eq_true (by rfl)))) rfl rfl rfl ?_
  refine KL.op (R.pick rfl rfl rfl) rfl rfl rfl ?_
  refine KL.op (R.move rfl rfl) rfl rfl rfl ?_
  refine KL.op (R.move rfl rfl) rfl rfl rfl ?_
  refine KL.op (R.pick rfl rfl rfl) rfl rfl rfl ?_
  refine KL.op (R.assign rfl rfl) rfl rfl rfl ?_
  refine KL.nil ?_
  refine KQ.seq ?_
  refine KC.ret ?_
  refine KQ.ofRet ?_
  refine KQ.fin1 Try.results6 rfl ?_
  exact ⟨rfl, o0⟩

end Go.Proofs.Yticnkojpfmkjeaa
