/- Functions of package sum: the sum of bytes, and of two sums. No condition. -/
import Derived.Test.YtgpbdimccbimnaaSumD
import Derived.Test.YtgpbdimccbimnaaKStr
namespace Go.Proofs.Ytgpbdimccbimnaa
open Go Go.RowKit
set_option linter.unusedVariables false
set_option linter.unusedSimpArgs false
set_option linter.unnecessarySimpa false

theorem Old.frN {H Hx H2 : Heap} {g : Nat} (o : Old H Hx) (f : Fr g (.slice none 0 0) Hx H2) (hg : H.size ≤ g) : Old H H2 := ⟨Nat.le_trans o.1 f.1, fun k hk => (f.2 k (by have := o.1; omega) (by omega) (.inl rfl)).trans (o.2 k hk)⟩

set_option maxRecDepth 100000 in
set_option maxHeartbeats 4000000 in
theorem Of_any {H : Heap} (vl : Value) (ls : List (List Int)) (hs : Sl 1 (ESl 1 (EInt .u8)) H vl ls) (hlen : (ls.flatten).length < 2147483648) : Ct Try.prog 14 [vl] H (fun u H' => u = .agg ((Sha.digest ls.flatten).map (Value.int .u8)).toArray ∧ Old H H') := by
  refine Ct.mk Try.func14 rfl Try.ntmps14 rfl ?_
  intro W0 hW0
  have o0 : Old H H := Old.refl H
  refine KC.seq ?_
  refine KC.region ?_
  refine KL.opM (M.alloc (cs := ((List.replicate 32 (0 : Int)).map (Value.int .u8))) rfl zr33 rfl) rfl rfl rfl ?_
  rintro _ H1 ⟨rfl, n1⟩
  have z1 := n1.2.1
  have o0 := o0.trans n1.1
  have b1 := n1.2.2
  have bo := b1
  refine KL.nil ?_
  refine KQ.seq ?_
  refine KC.seq ?_
  refine KC.region ?_
  refine KL.call rfl rfl rfl rfl Try.call8 rfl rfl rfl (New_any) ?_
  rintro _ H2 ⟨rfl, hm0, ox, zx⟩
  have zc_H2 := (ox).1
  have o0 := o0.trans ox
  have bo := (ox).blk bo
  have oN := o0
  refine KL.op (R.assign rfl rfl) rfl rfl rfl ?_
  refine KL.nil ?_
  refine KQ.seq ?_
  refine KC.seq ?_
  refine KC.region ?_
  refine KL.op (R.move rfl rfl) rfl rfl rfl ?_
  refine KL.op (R.move rfl rfl) rfl rfl rfl ?_
  refine KL.call rfl rfl rfl rfl Try.call9 rfl rfl rfl (Write_any _ _ [] _ _ hm0 (stab_old hs (fun H2 f2 => oN.frN f2 (by omega))) (by simpa using Nat.lt_trans hlen (by decide))) ?_
  rintro _ H3 ⟨rfl, vr2, hm2, f2, -⟩
  have ob2 := f2.oldB (B := H.size + 1) (by have := o0.1; omega) (by omega) (.inl rfl)
  simp only [List.nil_append] at hm2
  have z_ob2 := ob2.1
  have o0 := o0.then ob2 (by omega)
  have bo := (ob2.2 _ (by omega)).trans bo
  refine KL.nil ?_
  refine KQ.seq ?_
  refine KC.seq ?_
  refine KC.region ?_
  refine KL.op (R.move rfl rfl) rfl rfl rfl ?_
  refine KL.call rfl rfl rfl rfl Try.call11 rfl rfl rfl (Sum_any _ _ _ hm2 (by omega)) ?_
  rintro _ H4 ⟨rfl, ox⟩
  have zc_H4 := (ox).1
  have o0 := o0.trans ox
  have bo := (ox).blk bo
  have hdl := Sha.digest_length ls.flatten
  refine KL.opS (S.storeAgg (us := ((Sha.digest ls.flatten).map (Value.int .u8))) rfl sz33 rfl rfl (by simp [hdl]) (by intro u hu; exact ints_one u hu) bo (by simp [hdl])) rfl rfl ?_
  rintro H5 ⟨u5, b5⟩
  have o0 := o0.upd u5 (by omega)
  have zu5 := u5.1
  have bo := b5
  rw [Sha.put_all (by simp [hdl])] at bo
  refine KL.nil ?_
  refine KQ.seq ?_
  refine KC.ret ?_
  refine KQ.ofRet ?_
  refine KQ.finCell Try.results14 rfl Try.underlying33 rfl sz33 (cells_of bo) (by simp [hdl]) ?_
  exact ⟨rfl, o0⟩


theorem arr_sl {k : IntKind} {H : Heap} {g : Nat} {l : List Int} {m : Nat} {T : TypeId} (hb : H[g]? = some (.cells (l.map (Value.int k)).toArray T (0, 0))) (hl : l.length = m) (hm : m ≤ 1000000) (hr : ∀ x ∈ l, InR k x) : Sl 1 (EInt k) H (.slice (some ⟨g, 0, none⟩) m m) l := by
  subst hl
  exact Sl.ofCells hb (by omega) hr

set_option maxRecDepth 100000 in
set_option maxHeartbeats 4000000 in
theorem Pair_any {H : Heap} (x y : List Int) (hx : x.length = 32) (hy : y.length = 32) (rx : ∀ a ∈ x, InR .u8 a) (ry : ∀ a ∈ y, InR .u8 a) : Ct Try.prog 15 [.agg (x.map (Value.int .u8)).toArray, .agg (y.map (Value.int .u8)).toArray] H (fun u H' => u = .agg ((Sha.digest ([1] ++ x ++ y)).map (Value.int .u8)).toArray ∧ Old H H') := by
  refine Ct.mk Try.func15 rfl Try.ntmps15 rfl ?_
  intro W0 hW0
  have o0 : Old H H := Old.refl H
  refine KC.seq ?_
  refine KC.region ?_
  refine KL.opM (M.box (cs := (x.map (Value.int .u8))) rfl rfl rfl) rfl rfl rfl ?_
  rintro _ H1 ⟨rfl, n1⟩
  have z1 := n1.2.1
  have o0 := o0.trans n1.1
  have b1 := n1.2.2
  have bx := b1
  refine KL.opM (M.box (cs := (y.map (Value.int .u8))) rfl rfl rfl) rfl rfl rfl ?_
  rintro _ H2 ⟨rfl, n2⟩
  have z2 := n2.2.1
  have o0 := o0.trans n2.1
  have bx := (n2.1).blk bx
  have b2 := n2.2.2
  have by_ := b2
  refine KL.opM (M.alloc (cs := ((List.replicate 32 (0 : Int)).map (Value.int .u8))) rfl zr33 rfl) rfl rfl rfl ?_
  rintro _ H3 ⟨rfl, n3⟩
  have z3 := n3.2.1
  have o0 := o0.trans n3.1
  have bx := (n3.1).blk bx
  have by_ := (n3.1).blk by_
  have b3 := n3.2.2
  have bo := b3
  refine KL.nil ?_
  refine KQ.seq ?_
  refine KC.seq ?_
  refine KC.text (clOf [(0, 2), (3, 2), (4, 2), (5, 2)]) (fun _ _ => True) (by kernel_rfl) (by kernel_rfl) (fun _ => trivial) ?_
  refine KP.opM rfl (M.lit rfl Try.underlying24 zs5 (by decide) rfl rfl rfl) rfl rfl rfl (fun _ _ _ _ _ _ => trivial) ?_
  rintro _ H4 ⟨rfl, n4⟩
  have z4 := n4.2.1
  have o0 := o0.trans n4.1
  have bx := (n4.1).blk bx
  have by_ := (n4.1).blk by_
  have bo := (n4.1).blk bo
  have b4 := n4.2.2
  have s1 : Sl 1 (EInt .u8) H4 _ [1] := Sl.lits n4 rfl (by decide) (by decide)
  refine KP.op rfl (fun Hg hg => R.sliceArr rfl Try.underlying33 sz5 rfl) rfl rfl rfl ?_
  refine KP.op rfl (fun Hg hg => R.sliceArr rfl Try.underlying33 sz5 rfl) rfl rfl rfl ?_
  refine KP.opM rfl (M.lit rfl Try.underlying50 zs24 (by decide) rfl rfl rfl) rfl rfl rfl (fun _ _ _ _ _ _ => trivial) ?_
  rintro _ H5 ⟨rfl, n5⟩
  have z5 := n5.2.1
  have o0 := o0.trans n5.1
  have bx := (n5.1).blk bx
  have by_ := (n5.1).blk by_
  have bo := (n5.1).blk bo
  have s1 := s1.old n5.1
  have b5 := n5.2.2
  have hls : Sl 1 (ESl 1 (EInt .u8)) H5 _ [[1], x, y] := (Own.lit (E := ESl 1 (EInt .u8)) (H0 := H5) (B := 0) (l := [[1], x, y]) n5 (Nat.zero_le _) rfl (by simp [maxLen]) rfl (by intro j x2 u hj hu; match j, hj, hu with | 0, hj, hu => cases hj; cases hu; exact ⟨_, rfl, s1⟩ | 1, hj, hu => cases hj; cases hu; exact ⟨_, rfl, arr_sl bx hx (by decide) rx⟩ | 2, hj, hu => cases hj; cases hu; exact ⟨_, rfl, arr_sl by_ hy (by decide) ry⟩)).sl (Old.refl _) (by omega)
  refine KP.call rfl rfl rfl rfl rfl Try.call14 rfl rfl rfl (Of_any _ _ hls (by simp [hx, hy])) (fun _ _ _ _ _ _ => trivial) ?_
  rintro _ H6 ⟨rfl, ox⟩
  have zc_H6 := (ox).1
  have o0 := o0.trans ox
  have bx := (ox).blk bx
  have by_ := (ox).blk by_
  have bo := (ox).blk bo
  have s1 := s1.old ox
  have efl : [[1], x, y].flatten = [1] ++ x ++ y := by simp
  rw [efl]
  obtain ⟨pp, epp⟩ : ∃ p, p = [1] ++ x ++ y := ⟨_, rfl⟩
  rw [← epp]
  have hdl := Sha.digest_length pp
  refine KP.opS rfl (S.storeAgg (us := ((Sha.digest pp).map (Value.int .u8))) rfl sz33 rfl rfl (by simp [hdl]) (by intro u hu; exact ints_one u hu) bo (by simp [hdl])) rfl rfl (fun _ _ _ _ _ => trivial) ?_
  rintro H7 ⟨u7, b7⟩
  have o0 := o0.upd u7 (by omega)
  have zu7 := u7.1
  have bx := ((u7).2 _ (by omega)).trans bx
  have by_ := ((u7).2 _ (by omega)).trans by_
  have bo := b7
  rw [Sha.put_all (by simp [hdl])] at bo
  refine KP.nil ?_
  refine KQ.seq ?_
  refine KC.ret ?_
  refine KQ.ofRet ?_
  refine KQ.finCell Try.results15 rfl Try.underlying33 rfl sz33 (cells_of bo) (by simp [hdl]) ?_
  exact ⟨rfl, o0⟩

end Go.Proofs.Ytgpbdimccbimnaa
