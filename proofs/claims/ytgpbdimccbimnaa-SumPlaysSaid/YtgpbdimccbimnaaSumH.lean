/- Functions of package gabellelaw33: of, known. No condition. -/
import Derived.Test.YtgpbdimccbimnaaSumG
namespace Go.Proofs.Ytgpbdimccbimnaa
open Go Go.RowKit
set_option linter.unusedVariables false
set_option linter.unusedSimpArgs false
set_option linter.unnecessarySimpa false

namespace Sha
set_option maxRecDepth 100000 in
theorem dig0 : digest [] = [227, 176, 196, 66, 152, 252, 28, 20, 154, 251, 244, 200, 153, 111, 185, 36, 39, 174, 65, 228, 100, 155, 147, 76, 164, 149, 153, 27, 120, 82, 184, 85] := by decide +kernel
set_option maxRecDepth 100000 in
theorem dig1 : digest [97, 98, 99] = [186, 120, 22, 191, 143, 1, 207, 234, 65, 65, 64, 222, 93, 174, 34, 35, 176, 3, 97, 163, 150, 23, 122, 156, 180, 16, 255, 97, 242, 0, 21, 173] := by decide +kernel
theorem bs4_range (x : Int) : ∀ y ∈ bs4 x, InR .u8 y := by
  intro y hy
  simp only [bs4, List.mem_cons, List.not_mem_nil, or_false] at hy
  rcases hy with rfl | rfl | rfl | rfl <;> exact u8_range _
theorem digest_range (m : List Int) : ∀ y ∈ digest m, InR .u8 y := by
  intro y hy
  unfold digest at hy
  obtain ⟨x, _, hx⟩ := List.mem_flatMap.1 hy
  exact bs4_range x y hx
end Sha
theorem Own.cellsI {k : IntKind} {e : TypeId} {H0 H : Heap} {B : Nat} {v : Value} {l : List Int} (h : Own 1 (EInt k) e H0 B H v l) (hl : 0 < l.length) : ∃ g cap, v = .slice (some ⟨g, 0, none⟩) l.length cap ∧ CellsH H ⟨g, 0, none⟩ (l.map (Value.int k)) := by
  obtain ⟨g, cap, e1, e2, e3, e4⟩ := h.addr hl
  refine ⟨g, cap, e1, fun i v hv => ?_⟩
  rw [nth_eq, List.getElem?_map, Option.map_eq_some_iff] at hv
  obtain ⟨x, hx, rfl⟩ := hv
  have hi := (List.getElem?_eq_some_iff.1 hx).1
  have := (h.int i hi).1
  rw [e2] at this
  rw [this, List.getD_eq_getElem?_getD, hx]
  rfl

set_option maxRecDepth 100000 in
set_option maxHeartbeats 4000000 in
theorem lof_any {H : Heap} (v : Value) (m : List Int) (hs : Sl 1 (EInt .u8) H v m) (hlen : m.length < 4294967296) : Ct Try.prog 12 [v] H (fun u H' => u = .agg ((Sha.digest m).map (Value.int .u8)).toArray ∧ Old H H') := by
  refine Ct.mk Try.func12 rfl Try.ntmps12 rfl ?_
  intro W0 hW0
  have o0 : Old H H := Old.refl H
  refine KC.seq ?_
  refine KC.region ?_
  refine KL.opM (M.alloc (cs := ((List.replicate 32 (0 : Int)).map (Value.int .u8))) rfl zr33 rfl) rfl rfl rfl ?_
  rintro _ H1 ⟨rfl, n1⟩
  have z1 := n1.2.1
  have o0 := o0.trans n1.1
  have b1 := n1.2.2
  have bo := b1
  refine KL.nil ?_
  refine KQ.seq ?_
  refine KC.seq ?_
  refine KC.region ?_
  refine KL.op (R.move rfl rfl) rfl rfl rfl ?_
  refine KL.call rfl rfl rfl rfl Try.call17 rfl rfl rfl (rSum_any _ _ (hs.old o0) hlen) ?_
  rintro u H2 ⟨wu, ox⟩
  have zc_H2 := (ox).1
  have o0 := o0.trans ox
  have bo := (ox).blk bo
  have hdl := Sha.digest_length m
  obtain ⟨gu, cap, rfl, hcu⟩ := wu.cellsI (by omega)
  refine KL.op (R.toArr rfl Try.underlying33 rfl (by omega)) rfl rfl rfl ?_
  refine KL.op (R.loadAgg rfl Try.underlying33 rfl sz33 rfl hcu (by simp [hdl])) rfl rfl rfl ?_
  refine KL.opS (S.storeAgg (us := ((Sha.digest m).map (Value.int .u8))) rfl sz33 rfl rfl (by simp [hdl]) (by intro u hu; exact ints_one u hu) bo (by simp [hdl])) rfl rfl ?_
  rintro H3 ⟨u3, b3⟩
  have o0 := o0.upd u3 (by omega)
  have zu3 := u3.1
  have bo := b3
  rw [Sha.put_all (by simp [hdl])] at bo
  refine KL.nil ?_
  refine KQ.seq ?_
  refine KC.ret ?_
  refine KQ.ofRet ?_
  refine KQ.finCell Try.results12 rfl Try.underlying33 rfl sz33 (cells_of bo) (by simp [hdl]) ?_
  exact ⟨rfl, o0⟩

set_option maxRecDepth 100000 in
set_option maxHeartbeats 4000000 in
theorem known_any {H : Heap} : Ct Try.prog 7 [] H (fun u H' => u = .bool true ∧ Old H H') := by
  refine Ct.mk Try.func7 rfl Try.ntmps7 rfl ?_
  intro W0 hW0
  have o0 : Old H H := Old.refl H
  refine KC.seq ?_
  refine KC.region ?_
  refine KL.op (R.assign rfl rfl) rfl rfl rfl ?_
  refine KL.nil ?_
  refine KQ.seq ?_
  refine KC.seq ?_
  refine KC.region ?_
  refine KL.call rfl rfl rfl rfl Try.call14 rfl rfl rfl (Of_any _ [] (Sl.nil _ _ _) (by decide)) ?_
  rintro _ H1 ⟨rfl, ox⟩
  have zc_H1 := (ox).1
  have o0 := o0.trans ox
  have zoo_b5 := o0.1
  refine KL.opM (M.lit rfl Try.underlying24 zs5 (by decide) rfl rfl rfl) rfl rfl rfl ?_
  rintro _ H2 ⟨rfl, n2⟩
  have z2 := n2.2.1
  have o0 := o0.trans n2.1
  have b2 := n2.2.2
  have b5 := b2
  refine KL.opM (M.mark rfl Try.underlying24 Try.underlying5 rfl b5) rfl rfl rfl ?_
  rintro _ H3 ⟨rfl, um, bmk⟩
  have zum := um.1
  have o0 := o0.upd um (by omega)
  have sa : Sl 1 (EInt .u8) H3 (.slice (some ⟨_, 0, none⟩) 1 1) [97] := Sl.ofCells (l := [97]) bmk (by decide) (by decide)
  have zoo_b7 := o0.1
  refine KL.opM (M.lit rfl Try.underlying24 zs5 (by decide) rfl rfl rfl) rfl rfl rfl ?_
  rintro _ H4 ⟨rfl, n4⟩
  have z4 := n4.2.1
  have o0 := o0.trans n4.1
  have sa := sa.old n4.1
  have b4 := n4.2.2
  have b7 := b4
  refine KL.opM (M.mark rfl Try.underlying24 Try.underlying5 rfl b7) rfl rfl rfl ?_
  rintro _ H5 ⟨rfl, um, bmk⟩
  have zum := um.1
  have o0 := o0.upd um (by omega)
  have sa := sa.keepI (.inr (um.2 _ (by show Array.size _ ≠ Array.size _; omega)))
  have sbc : Sl 1 (EInt .u8) H5 (.slice (some ⟨_, 0, none⟩) 2 2) [98, 99] := Sl.ofCells (l := [98, 99]) bmk (by decide) (by decide)
  refine KL.opM (M.lit rfl Try.underlying50 zs24 (by decide) rfl rfl rfl) rfl rfl rfl ?_
  rintro _ H6 ⟨rfl, n6⟩
  have z6 := n6.2.1
  have o0 := o0.trans n6.1
  have sa := sa.old n6.1
  have sbc := sbc.old n6.1
  have b6 := n6.2.2
  have hls : Sl 1 (ESl 1 (EInt .u8)) H6 _ [[97], [], [98, 99]] := (Own.lit (E := ESl 1 (EInt .u8)) (H0 := H6) (B := 0) (l := [[97], [], [98, 99]]) n6 (Nat.zero_le _) rfl (by simp [maxLen]) rfl (by intro j x2 u hj hu; match j, hj, hu with | 0, hj, hu => cases hj; cases hu; exact ⟨_, rfl, sa⟩ | 1, hj, hu => cases hj; cases hu; exact ⟨_, rfl, Sl.nil _ _ _⟩ | 2, hj, hu => cases hj; cases hu; exact ⟨_, rfl, sbc⟩)).sl (Old.refl _) (by omega)
  refine KL.call rfl rfl rfl rfl Try.call14 rfl rfl rfl (Of_any _ _ hls (by decide)) ?_
  rintro _ H7 ⟨rfl, ox⟩
  rw [show [[97], [], [98, 99]].flatten = [97, 98, (99 : Int)] from rfl, Sha.dig1, show ([] : List (List Int)).flatten = [] from rfl, Sha.dig0]
  have zc_H7 := (ox).1
  have o0 := o0.trans ox
  have sa := sa.old ox
  have sbc := sbc.old ox
  refine KL.opM (M.alloc (cs := ((List.replicate 32 (0 : Int)).map (Value.int .u8))) rfl zr33 rfl) rfl rfl rfl ?_
  rintro _ H8 ⟨rfl, n8⟩
  have z8 := n8.2.1
  have o0 := o0.trans n8.1
  have sa := sa.old n8.1
  have sbc := sbc.old n8.1
  have b8 := n8.2.2
  have bA := b8
  refine KL.opM (M.alloc (cs := ((List.replicate 32 (0 : Int)).map (Value.int .u8))) rfl zr33 rfl) rfl rfl rfl ?_
  rintro _ H9 ⟨rfl, n9⟩
  have z9 := n9.2.1
  have o0 := o0.trans n9.1
  have sa := sa.old n9.1
  have sbc := sbc.old n9.1
  have bA := (n9.1).blk bA
  have b9 := n9.2.2
  have bB := b9
  refine KL.opS (S.storeAgg (us := (([227, 176, 196, 66, 152, 252, 28, 20, 154, 251, 244, 200, 153, 111, 185, 36, 39, 174, 65, 228, 100, 155, 147, 76, 164, 149, 153, 27, 120, 82, 184, 85] : List Int).map (Value.int .u8))) rfl sz33 rfl rfl (rfl) (by intro u hu; exact ints_one u hu) bA (by simp)) rfl rfl ?_
  rintro H10 ⟨u10, b10⟩
  have o0 := o0.upd u10 (by omega)
  have zu10 := u10.1
  have bB := ((u10).2 _ (by omega)).trans bB
  have bA := b10
  rw [Sha.put_all (by simp)] at bA
  refine KL.opS (S.storeAgg (us := (([186, 120, 22, 191, 143, 1, 207, 234, 65, 65, 64, 222, 93, 174, 34, 35, 176, 3, 97, 163, 150, 23, 122, 156, 180, 16, 255, 97, 242, 0, 21, 173] : List Int).map (Value.int .u8))) rfl sz33 rfl rfl (rfl) (by intro u hu; exact ints_one u hu) bB (by simp)) rfl rfl ?_
  rintro H11 ⟨u11, b11⟩
  have o0 := o0.upd u11 (by omega)
  have zu11 := u11.1
  have bA := ((u11).2 _ (by omega)).trans bA
  have bB := b11
  rw [Sha.put_all (by simp)] at bB
  refine KL.nil ?_
  refine KQ.seq ?_
  refine KC.seq ?_
  refine KC.region ?_
  refine KL.op (R.assign rfl rfl) rfl rfl rfl ?_
  refine KL.nil ?_
  refine KQ.seq ?_
  refine KC.seq ?_
  refine KC.region ?_
  refine KL.op (R.move rfl rfl) rfl rfl rfl ?_
  have zoo_b12 := o0.1
  refine KL.opM (M.lit rfl Try.underlying24 zs5 (by decide) rfl rfl rfl) rfl rfl rfl ?_
  rintro _ H12 ⟨rfl, n12⟩
  have z12 := n12.2.1
  have o0 := o0.trans n12.1
  have bA := (n12.1).blk bA
  have bB := (n12.1).blk bB
  have b12 := n12.2.2
  have b12 := b12
  have ltA := blk_lt bA
  have ltB := blk_lt bB
  refine KL.opM (M.mark rfl Try.underlying24 Try.underlying5 rfl b12) rfl rfl rfl ?_
  rintro _ H13 ⟨rfl, um, bmk⟩
  have zum := um.1
  have o0 := o0.upd um (by omega)
  have bA := (um.2 _ (by omega)).trans bA
  have bB := (um.2 _ (by omega)).trans bB
  refine KL.opM (M.lit rfl Try.underlying50 zs24 (by decide) rfl rfl rfl) rfl rfl rfl ?_
  rintro _ H14 ⟨rfl, n14⟩
  have z14 := n14.2.1
  have o0 := o0.trans n14.1
  have bA := (n14.1).blk bA
  have bB := (n14.1).blk bB
  have b14 := n14.2.2
  refine KL.call rfl rfl rfl rfl Try.call9 rfl rfl rfl (Write_nil _) ?_
  rintro _ _ ⟨rfl, rfl⟩
  refine KL.nil ?_
  refine KQ.seq ?_
  refine KC.seq ?_
  have lA : ([227, 176, 196, 66, 152, 252, 28, 20, 154, 251, 244, 200, 153, 111, 185, 36, 39, 174, 65, 228, 100, 155, 147, 76, 164, 149, 153, 27, 120, 82, 184, 85] : List Int).length = 32 := rfl
  have sA : Sl 1 (EInt .u8) H14 (.slice (some ⟨_, 0, none⟩) 32 32) [227, 176, 196, 66, 152, 252, 28, 20, 154, 251, 244, 200, 153, 111, 185, 36, 39, 174, 65, 228, 100, 155, 147, 76, 164, 149, 153, 27, 120, 82, 184, 85] := arr_sl bA rfl (by decide) (by decide)
  have sB : Sl 1 (EInt .u8) H14 (.slice (some ⟨_, 0, none⟩) 32 32) [186, 120, 22, 191, 143, 1, 207, 234, 65, 65, 64, 222, 93, 174, 34, 35, 176, 3, 97, 163, 150, 23, 122, 156, 180, 16, 255, 97, 242, 0, 21, 173] := arr_sl bB rfl (by decide) (by decide)
  have os : Old H14 H14 := Old.refl _
  have ob := o0
  have bAS := bA
  have bBS := bB
  have sAS := sA
  have sBS := sB
  refine KC.text (clOf [(10, 2), (16, 2), (21, 2)]) (fun _ Hc => Old H14 Hc) (by kernel_rfl) (by kernel_rfl) (fun _ => Old.refl _) ?_
  refine KP.op rfl (fun Hg og => by have bA := og.blk bAS; have bB := og.blk bBS; have sA := sAS.old og; have sB := sBS.old og; have o0 := ob.trans og; exact R.sliceArr rfl Try.underlying33 sz5 rfl) rfl rfl rfl ?_
  refine KP.op rfl (fun Hg og => by have bA := og.blk bAS; have bB := og.blk bBS; have sA := sAS.old og; have sB := sBS.old og; have o0 := ob.trans og; exact R.convBS rfl Try.underlying24 Try.underlying5 Try.underlying9 rfl sA) rfl rfl rfl ?_
  refine KP.op rfl (fun Hg og => by have bA := og.blk bAS; have bB := og.blk bBS; have sA := sAS.old og; have sB := sBS.old og; have o0 := ob.trans og; exact (R.eqlStr rfl rfl rfl).val (congrArg Value.bool (show _ = true from by decide +kernel))) rfl rfl rfl ?_
  refine KP.op rfl (fun Hg og => by have bA := og.blk bAS; have bB := og.blk bBS; have sA := sAS.old og; have sB := sBS.old og; have o0 := ob.trans og; exact R.move rfl rfl) rfl rfl rfl ?_
  refine KP.op rfl (fun Hg og => by have bA := og.blk bAS; have bB := og.blk bBS; have sA := sAS.old og; have sB := sBS.old og; have o0 := ob.trans og; exact R.sliceArr rfl Try.underlying33 sz5 rfl) rfl rfl rfl ?_
  refine KP.op rfl (fun Hg og => by have bA := og.blk bAS; have bB := og.blk bBS; have sA := sAS.old og; have sB := sBS.old og; have o0 := ob.trans og; exact R.convBS rfl Try.underlying24 Try.underlying5 Try.underlying9 rfl sB) rfl rfl rfl ?_
  refine KP.op rfl (fun Hg og => by have bA := og.blk bAS; have bB := og.blk bBS; have sA := sAS.old og; have sB := sBS.old og; have o0 := ob.trans og; exact (R.eqlStr rfl rfl rfl).val (congrArg Value.bool (show _ = true from by decide +kernel))) rfl rfl rfl ?_
  refine KP.op rfl (fun Hg og => by have bA := og.blk bAS; have bB := og.blk bBS; have sA := sAS.old og; have sB := sBS.old og; have o0 := ob.trans og; exact R.pick rfl rfl rfl) rfl rfl rfl ?_
  refine KP.op rfl (fun Hg og => by have bA := og.blk bAS; have bB := og.blk bBS; have sA := sAS.old og; have sB := sBS.old og; have o0 := ob.trans og; exact R.move rfl rfl) rfl rfl rfl ?_
  refine KP.op rfl (fun Hg og => by have bA := og.blk bAS; have bB := og.blk bBS; have sA := sAS.old og; have sB := sBS.old og; have o0 := ob.trans og; exact R.move rfl rfl) rfl rfl rfl ?_
  refine KP.call rfl rfl rfl rfl rfl Try.call11 rfl rfl rfl (Sum_nil0 [] rfl) (fun _ _ h _ _ _ => os.trans h.2) ?_
  rintro _ H15 ⟨rfl, ox⟩
  rw [Sha.dig0]
  have zc_H15 := (ox).1
  have o0 := o0.trans ox
  have os := os.trans ox
  have bA := (ox).blk bA
  have bB := (ox).blk bB
  have sA := sA.old ox
  have sB := sB.old ox
  refine KP.op rfl (fun Hg og => by have bA := og.blk bAS; have bB := og.blk bBS; have sA := sAS.old og; have sB := sBS.old og; have o0 := ob.trans og; exact R.loadAgg rfl Try.underlying33 rfl sz33 rfl (cells_of bA) rfl) rfl rfl rfl ?_
  refine KP.op rfl (fun Hg og => by have bA := og.blk bAS; have bB := og.blk bBS; have sA := sAS.old og; have sB := sBS.old og; have o0 := ob.trans og; exact (R.eqlA rfl Try.underlying33 Try.underlying5 sz5 (by kernel_rfl) rfl rfl rfl rfl).val (congrArg Value.bool (decide_eq_true rfl))) rfl rfl rfl ?_
  refine KP.op rfl (fun Hg og => by have bA := og.blk bAS; have bB := og.blk bBS; have sA := sAS.old og; have sB := sBS.old og; have o0 := ob.trans og; exact R.pick rfl rfl rfl) rfl rfl rfl ?_
  refine KP.op rfl (fun Hg og => by have bA := og.blk bAS; have bB := og.blk bBS; have sA := sAS.old og; have sB := sBS.old og; have o0 := ob.trans og; exact R.move rfl rfl) rfl rfl rfl ?_
  refine KP.op rfl (fun Hg og => by have bA := og.blk bAS; have bB := og.blk bBS; have sA := sAS.old og; have sB := sBS.old og; have o0 := ob.trans og; exact R.move rfl rfl) rfl rfl rfl ?_
  refine KP.call rfl rfl rfl rfl rfl Try.call13 rfl rfl rfl (Len_nil) (fun _ _ h _ _ _ => h.2 ▸ os) ?_
  rintro _ _ ⟨rfl, rfl⟩
  refine KP.op rfl (fun Hg og => by have bA := og.blk bAS; have bB := og.blk bBS; have sA := sAS.old og; have sB := sBS.old og; have o0 := ob.trans og; exact (R.eql rfl rfl rfl).val (congrArg Value.bool (decide_eq_true rfl))) rfl rfl rfl ?_
  refine KP.op rfl (fun Hg og => by have bA := og.blk bAS; have bB := og.blk bBS; have sA := sAS.old og; have sB := sBS.old og; have o0 := ob.trans og; exact R.pick rfl rfl rfl) rfl rfl rfl ?_
  refine KP.op rfl (fun Hg og => by have bA := og.blk bAS; have bB := og.blk bBS; have sA := sAS.old og; have sB := sBS.old og; have o0 := ob.trans og; exact R.move rfl rfl) rfl rfl rfl ?_
  refine KP.op rfl (fun Hg og => by have bA := og.blk bAS; have bB := og.blk bBS; have sA := sAS.old og; have sB := sBS.old og; have o0 := ob.trans og; exact R.move rfl rfl) rfl rfl rfl ?_
  refine KP.call rfl rfl rfl rfl rfl Try.call10 rfl rfl rfl (Copy_nil) (fun _ _ h _ _ _ => h.2 ▸ os) ?_
  rintro _ _ ⟨rfl, rfl⟩
  refine KP.op rfl (fun Hg og => by have bA := og.blk bAS; have bB := og.blk bBS; have sA := sAS.old og; have sB := sBS.old og; have o0 := ob.trans og; exact R.eqlP rfl Try.underlying27 rfl rfl) rfl rfl rfl ?_
  refine KP.op rfl (fun Hg og => by have bA := og.blk bAS; have bB := og.blk bBS; have sA := sAS.old og; have sB := sBS.old og; have o0 := ob.trans og; exact R.pick rfl rfl rfl) rfl rfl rfl ?_
  refine KP.op rfl (fun Hg og => by have bA := og.blk bAS; have bB := og.blk bBS; have sA := sAS.old og; have sB := sBS.old og; have o0 := ob.trans og; exact R.assign rfl rfl) rfl rfl rfl ?_
  refine KP.nil ?_
  refine KQ.seq ?_
  refine KC.ret ?_
  refine KQ.ofRet ?_
  refine KQ.fin1 Try.results7 rfl ?_
  exact ⟨rfl, o0⟩

theorem flat1 (l : List Int) : [l].flatten = l := by simp

end Go.Proofs.Ytgpbdimccbimnaa
