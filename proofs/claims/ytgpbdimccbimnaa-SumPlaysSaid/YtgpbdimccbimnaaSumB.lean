/- Functions of package sum: a round, a block. No condition. -/
import Derived.Test.YtgpbdimccbimnaaSumA
namespace Go.Proofs.Ytgpbdimccbimnaa
open Go Go.RowKit
set_option linter.unusedVariables false
set_option linter.unusedSimpArgs false
set_option linter.unnecessarySimpa false

namespace Sha
/-- a round as the program goes it -/
def rndp (v : List Int) (kw : Int) : List Int :=
  let one := W (W (W (g8 v 7 + sg (g8 v 4) 6 11 25) + ch (g8 v 4) (g8 v 5) (g8 v 6)) + kw)
  let two := W (sg (g8 v 0) 2 13 22 + mj (g8 v 0) (g8 v 1) (g8 v 2))
  [W (one + two), g8 v 0, g8 v 1, g8 v 2, W (g8 v 3 + one), g8 v 4, g8 v 5, g8 v 6]
theorem rndp_eq (v : List Int) (k w : Int) : rndp v (W (k + w)) = rnd v k w := by
  have h : W (W (W (g8 v 7 + sg (g8 v 4) 6 11 25) + ch (g8 v 4) (g8 v 5) (g8 v 6)) + W (k + w)) = W (g8 v 7 + sg (g8 v 4) 6 11 25 + ch (g8 v 4) (g8 v 5) (g8 v 6) + k + w) := by
    simp only [W_eq]; omega
  unfold rndp rnd
  simp only [h]
/-- so many of the eight summed up -/
def part (s r : List Int) (i : Nat) : List Int := (List.range 8).map fun j => if j < i then W (s.getD j default + r.getD j default) else s.getD j default
theorem part_length (s r : List Int) (i : Nat) : (part s r i).length = 8 := by simp [part]
theorem part_getD {s r : List Int} {i j : Nat} (h : j < 8) : (part s r i).getD j default = if j < i then W (s.getD j default + r.getD j default) else s.getD j default := by
  unfold part
  rw [List.getD_eq_getElem?_getD, List.getElem?_map, List.getElem?_range h]; rfl
theorem part_zero {s r : List Int} (h : s.length = 8) : part s r 0 = s := by
  apply List.ext_getElem
  · rw [part_length, h]
  · intro j h1 h2
    have := part_getD (s := s) (r := r) (i := 0) (j := j) (by omega)
    rw [List.getD_eq_getElem?_getD, List.getElem?_eq_getElem h1, if_neg (by omega), List.getD_eq_getElem?_getD, List.getElem?_eq_getElem h2] at this
    exact this
theorem part_set {s r : List Int} {i : Nat} (h : i < 8) : (part s r i).set i (W ((part s r i).getD i default + r.getD i default)) = part s r (i + 1) := by
  rw [part_getD h, if_neg (by omega)]
  apply List.ext_getElem
  · rw [List.length_set, part_length, part_length]
  · intro j h1 h2
    rw [List.length_set, part_length] at h1
    have e1 := part_getD (s := s) (r := r) (i := i) (j := j) h1
    have e2 := part_getD (s := s) (r := r) (i := i + 1) (j := j) h1
    rw [List.getD_eq_getElem?_getD, List.getElem?_eq_getElem (by rw [part_length]; exact h1)] at e1 e2
    rw [List.getElem_set]
    simp only [Option.getD_some] at e1 e2
    rw [e1, e2]
    by_cases hj : i = j
    · subst hj; rw [if_pos rfl, if_pos (by omega)]
    · rw [if_neg hj]
      by_cases h3 : j < i
      · rw [if_pos h3, if_pos (by omega)]
      · rw [if_neg h3, if_neg (by omega)]
theorem part_all (s b : List Int) : part s (rnds b s 64) 8 = comp s b := by
  unfold part comp
  refine List.map_congr_left fun j hj => ?_
  rw [List.mem_range] at hj
  rw [if_pos hj]
theorem getD_range {v : List Int} (hv : ∀ x ∈ v, R32 x) {i : Nat} (hi : i < v.length) : R32 (v.getD i default) := hv _ (by rw [List.getD_eq_getElem?_getD, List.getElem?_eq_getElem hi]; exact List.getElem_mem _)
end Sha
theorem fill8 {x0 x1 x2 x3 x4 x5 x6 x7 : Int} : Instr.fill (fun i => some (i * 1, 1)) (Value.cells (.agg #[.int .u32 0, .int .u32 0, .int .u32 0, .int .u32 0, .int .u32 0, .int .u32 0, .int .u32 0, .int .u32 0])) [(0, .int .u32 x0), (1, .int .u32 x1), (2, .int .u32 x2), (3, .int .u32 x3), (4, .int .u32 x4), (5, .int .u32 x5), (6, .int .u32 x6), (7, .int .u32 x7)] = some #[.int .u32 x0, .int .u32 x1, .int .u32 x2, .int .u32 x3, .int .u32 x4, .int .u32 x5, .int .u32 x6, .int .u32 x7] := by simp [Instr.fill, Value.cells]
theorem cells_ofA {H : Heap} {g : Nat} {cs us : List Value} {t : TypeId} {z : Nat × Nat} (hb : H[g]? = some (.cells (cs ++ us).toArray t z)) : CellsH H ⟨g, 0, none⟩ cs := by
  intro i v hv
  refine cells_of hb i v ?_
  rw [nth_eq] at hv ⊢
  obtain ⟨h1, h2⟩ := List.getElem?_eq_some_iff.1 hv
  rw [List.getElem?_append_left h1]; exact hv
theorem ints_one {k : IntKind} {l : List Int} : ∀ u ∈ l.map (Value.int k), u.oneCell' = true := by
  intro u hu; simp only [List.mem_map] at hu; obtain ⟨x, _, rfl⟩ := hu; rfl

set_option maxRecDepth 100000 in
set_option maxHeartbeats 4000000 in
theorem round_any {H : Heap} (g : Nat) (v : List Int) (kw : Int) (bl : H[g]? = some (.cells (v.map (Value.int .u32)).toArray 54 (0, 0))) (hl : v.length = 8) (hv : ∀ x ∈ v, Sha.R32 x) : Ct Try.prog 20 [.pointer (some ⟨g, 0, none⟩), .int .u32 kw] H (fun u H' => u = .tuple #[] ∧ Upd g H H' ∧ H'[g]? = some (.cells ((Sha.rndp v kw).map (Value.int .u32)).toArray 54 (0, 0))) := by
  refine Ct.mk Try.func20 rfl Try.ntmps20 rfl ?_
  intro W0 hW0
  have o0 : OldB 0 H H := OldB.refl _ H
  refine KC.seq ?_
  refine KC.quiet (by kernel_rfl) (by kernel_rfl) ?_
  refine KD.op (R.move rfl rfl) rfl rfl rfl ?_
  refine KD.op (R.nilCheck rfl rfl) rfl rfl rfl ?_
  refine KD.op (R.at1 (j := 0) rfl Try.underlying54 sz46 rfl rfl (by first | rfl | omega) (by omega)) rfl rfl rfl ?_
  refine KD.op (R.load rfl Try.underlying46 rfl rfl (by first | exact cell_of bl rfl | exact cell_ints bl (by omega) | assumption)) rfl rfl rfl ?_
  refine KD.op (R.move rfl rfl) rfl rfl rfl ?_
  refine KD.op (R.nilCheck rfl rfl) rfl rfl rfl ?_
  refine KD.op (R.at1 (j := 1) rfl Try.underlying54 sz46 rfl rfl (by first | rfl | omega) (by omega)) rfl rfl rfl ?_
  refine KD.op (R.load rfl Try.underlying46 rfl rfl (by first | exact cell_of bl rfl | exact cell_ints bl (by omega) | assumption)) rfl rfl rfl ?_
  refine KD.op (R.move rfl rfl) rfl rfl rfl ?_
  refine KD.op (R.nilCheck rfl rfl) rfl rfl rfl ?_
  refine KD.op (R.at1 (j := 2) rfl Try.underlying54 sz46 rfl rfl (by first | rfl | omega) (by omega)) rfl rfl rfl ?_
  refine KD.op (R.load rfl Try.underlying46 rfl rfl (by first | exact cell_of bl rfl | exact cell_ints bl (by omega) | assumption)) rfl rfl rfl ?_
  refine KD.op (R.move rfl rfl) rfl rfl rfl ?_
  refine KD.op (R.nilCheck rfl rfl) rfl rfl rfl ?_
  refine KD.op (R.at1 (j := 3) rfl Try.underlying54 sz46 rfl rfl (by first | rfl | omega) (by omega)) rfl rfl rfl ?_
  refine KD.op (R.load rfl Try.underlying46 rfl rfl (by first | exact cell_of bl rfl | exact cell_ints bl (by omega) | assumption)) rfl rfl rfl ?_
  refine KD.op (R.move rfl rfl) rfl rfl rfl ?_
  refine KD.op (R.nilCheck rfl rfl) rfl rfl rfl ?_
  refine KD.op (R.at1 (j := 4) rfl Try.underlying54 sz46 rfl rfl (by first | rfl | omega) (by omega)) rfl rfl rfl ?_
  refine KD.op (R.load rfl Try.underlying46 rfl rfl (by first | exact cell_of bl rfl | exact cell_ints bl (by omega) | assumption)) rfl rfl rfl ?_
  refine KD.op (R.move rfl rfl) rfl rfl rfl ?_
  refine KD.op (R.nilCheck rfl rfl) rfl rfl rfl ?_
  refine KD.op (R.at1 (j := 5) rfl Try.underlying54 sz46 rfl rfl (by first | rfl | omega) (by omega)) rfl rfl rfl ?_
  refine KD.op (R.load rfl Try.underlying46 rfl rfl (by first | exact cell_of bl rfl | exact cell_ints bl (by omega) | assumption)) rfl rfl rfl ?_
  refine KD.op (R.move rfl rfl) rfl rfl rfl ?_
  refine KD.op (R.nilCheck rfl rfl) rfl rfl rfl ?_
  refine KD.op (R.at1 (j := 6) rfl Try.underlying54 sz46 rfl rfl (by first | rfl | omega) (by omega)) rfl rfl rfl ?_
  refine KD.op (R.load rfl Try.underlying46 rfl rfl (by first | exact cell_of bl rfl | exact cell_ints bl (by omega) | assumption)) rfl rfl rfl ?_
  refine KD.op (R.move rfl rfl) rfl rfl rfl ?_
  refine KD.op (R.nilCheck rfl rfl) rfl rfl rfl ?_
  refine KD.op (R.at1 (j := 7) rfl Try.underlying54 sz46 rfl rfl (by first | rfl | omega) (by omega)) rfl rfl rfl ?_
  refine KD.op (R.load rfl Try.underlying46 rfl rfl (by first | exact cell_of bl rfl | exact cell_ints bl (by omega) | assumption)) rfl rfl rfl ?_
  refine KD.op (R.assign rfl rfl) rfl rfl rfl ?_
  refine KD.op (R.assign rfl rfl) rfl rfl rfl ?_
  refine KD.op (R.assign rfl rfl) rfl rfl rfl ?_
  refine KD.op (R.assign rfl rfl) rfl rfl rfl ?_
  refine KD.op (R.assign rfl rfl) rfl rfl rfl ?_
  refine KD.op (R.assign rfl rfl) rfl rfl rfl ?_
  refine KD.op (R.assign rfl rfl) rfl rfl rfl ?_
  refine KD.op (R.assign rfl rfl) rfl rfl rfl ?_
  refine KD.nil ?_
  refine KQ.seq ?_
  refine KC.seq ?_
  refine KC.region ?_
  refine KL.op (R.move rfl rfl) rfl rfl rfl ?_
  refine KL.op (R.move rfl rfl) rfl rfl rfl ?_
  refine KL.call rfl rfl rfl rfl Try.call24 rfl rfl rfl (turns_any _ 6 11 25 (by omega) (by omega) (by omega)) ?_
  rintro _ _ ⟨rfl, rfl⟩
  refine KL.op (R.addW rfl rfl rfl) rfl rfl rfl ?_
  refine KL.op (R.move rfl rfl) rfl rfl rfl ?_
  refine KL.op (R.move rfl rfl) rfl rfl rfl ?_
  refine KL.op (R.bits rfl rfl rfl rfl) rfl rfl rfl ?_
  refine KL.op (R.move rfl rfl) rfl rfl rfl ?_
  refine KL.op ((R.inv rfl rfl).val (congrArg (Value.int .u32) (Sha.inv32 (Sha.getD_range hv (by omega))))) rfl rfl rfl ?_
  refine KL.op (R.move rfl rfl) rfl rfl rfl ?_
  refine KL.op (R.bits rfl rfl rfl rfl) rfl rfl rfl ?_
  refine KL.op (R.bits rfl rfl rfl rfl) rfl rfl rfl ?_
  refine KL.op (R.addW rfl rfl rfl) rfl rfl rfl ?_
  refine KL.op (R.move rfl rfl) rfl rfl rfl ?_
  refine KL.op (R.addW rfl rfl rfl) rfl rfl rfl ?_
  refine KL.op (R.assign rfl rfl) rfl rfl rfl ?_
  refine KL.nil ?_
  refine KQ.seq ?_
  refine KC.seq ?_
  refine KC.region ?_
  refine KL.op (R.move rfl rfl) rfl rfl rfl ?_
  refine KL.call rfl rfl rfl rfl Try.call24 rfl rfl rfl (turns_any _ 2 13 22 (by omega) (by omega) (by omega)) ?_
  rintro _ _ ⟨rfl, rfl⟩
  refine KL.op (R.move rfl rfl) rfl rfl rfl ?_
  refine KL.op (R.move rfl rfl) rfl rfl rfl ?_
  refine KL.op (R.bits rfl rfl rfl rfl) rfl rfl rfl ?_
  refine KL.op (R.move rfl rfl) rfl rfl rfl ?_
  refine KL.op (R.move rfl rfl) rfl rfl rfl ?_
  refine KL.op (R.bits rfl rfl rfl rfl) rfl rfl rfl ?_
  refine KL.op (R.bits rfl rfl rfl rfl) rfl rfl rfl ?_
  refine KL.op (R.move rfl rfl) rfl rfl rfl ?_
  refine KL.op (R.move rfl rfl) rfl rfl rfl ?_
  refine KL.op (R.bits rfl rfl rfl rfl) rfl rfl rfl ?_
  refine KL.op (R.bits rfl rfl rfl rfl) rfl rfl rfl ?_
  refine KL.op (R.addW rfl rfl rfl) rfl rfl rfl ?_
  refine KL.op (R.assign rfl rfl) rfl rfl rfl ?_
  refine KL.nil ?_
  refine KQ.seq ?_
  refine KC.region ?_
  refine KL.op (R.move rfl rfl) rfl rfl rfl ?_
  refine KL.op (R.move rfl rfl) rfl rfl rfl ?_
  refine KL.op (R.move rfl rfl) rfl rfl rfl ?_
  refine KL.op (R.addW rfl rfl rfl) rfl rfl rfl ?_
  refine KL.op (R.move rfl rfl) rfl rfl rfl ?_
  refine KL.op (R.move rfl rfl) rfl rfl rfl ?_
  refine KL.op (R.move rfl rfl) rfl rfl rfl ?_
  refine KL.op (R.move rfl rfl) rfl rfl rfl ?_
  refine KL.op (R.move rfl rfl) rfl rfl rfl ?_
  refine KL.op (R.addW rfl rfl rfl) rfl rfl rfl ?_
  refine KL.op (R.move rfl rfl) rfl rfl rfl ?_
  refine KL.op (R.move rfl rfl) rfl rfl rfl ?_
  refine KL.op (R.move rfl rfl) rfl rfl rfl ?_
  refine KL.op (R.buildArr (cs := #[Value.int .u32 (Sha.W (Sha.W (Sha.W (Sha.W (v.getD 7 default + Sha.sg (v.getD 4 default) 6 11 25) + Sha.ch (v.getD 4 default) (v.getD 5 default) (v.getD 6 default)) + kw) + Sha.W (Sha.sg (v.getD 0 default) 2 13 22 + Sha.mj (v.getD 0 default) (v.getD 1 default) (v.getD 2 default)))), Value.int .u32 (v.getD 0 default), Value.int .u32 (v.getD 1 default), Value.int .u32 (v.getD 2 default), Value.int .u32 (Sha.W (v.getD 3 default + Sha.W (Sha.W (Sha.W (v.getD 7 default + Sha.sg (v.getD 4 default) 6 11 25) + Sha.ch (v.getD 4 default) (v.getD 5 default) (v.getD 6 default)) + kw))), Value.int .u32 (v.getD 4 default), Value.int .u32 (v.getD 5 default), Value.int .u32 (v.getD 6 default)]) rfl Try.underlying54 zr54 sz46 rfl (fill8)) rfl rfl rfl ?_
  refine KL.op (R.nilCheck rfl rfl) rfl rfl rfl ?_
  refine KL.opS (S.storeAgg (us := [Value.int .u32 (Sha.W (Sha.W (Sha.W (Sha.W (v.getD 7 default + Sha.sg (v.getD 4 default) 6 11 25) + Sha.ch (v.getD 4 default) (v.getD 5 default) (v.getD 6 default)) + kw) + Sha.W (Sha.sg (v.getD 0 default) 2 13 22 + Sha.mj (v.getD 0 default) (v.getD 1 default) (v.getD 2 default)))), Value.int .u32 (v.getD 0 default), Value.int .u32 (v.getD 1 default), Value.int .u32 (v.getD 2 default), Value.int .u32 (Sha.W (v.getD 3 default + Sha.W (Sha.W (Sha.W (v.getD 7 default + Sha.sg (v.getD 4 default) 6 11 25) + Sha.ch (v.getD 4 default) (v.getD 5 default) (v.getD 6 default)) + kw))), Value.int .u32 (v.getD 4 default), Value.int .u32 (v.getD 5 default), Value.int .u32 (v.getD 6 default)]) rfl sz54 rfl rfl (rfl) (by intro q hq; simp only [List.mem_cons, List.not_mem_nil, or_false] at hq; rcases hq with rfl | rfl | rfl | rfl | rfl | rfl | rfl | rfl <;> rfl) bl (by simp [hl])) rfl rfl ?_
  rintro H1 ⟨u1, b1⟩
  have o0 := o0.trans (OldB.upd u1 (by omega))
  have zu1 := u1.1
  have bl := b1
  have uu := u1
  rw [Sha.put_all (by simp [hl])] at bl
  refine KL.nil ?_
  refine KQ.fin0 Try.results20 ?_
  exact ⟨rfl, uu, bl⟩

set_option maxRecDepth 100000 in
set_option maxHeartbeats 4000000 in
theorem block_any {H : Heap} (g : Nat) (s : List Int) (us : List Value) (v : Value) (b : List Int) (bg : H[g]? = some (.cells (s.map (Value.int .u32) ++ us).toArray 49 (0, 0))) (h8 : s.length = 8) (hs : ∀ x ∈ s, Sha.R32 x) (hb : Sl 1 (EInt .u8) H v b) (hl : b.length = 64) : Ct Try.prog 16 [.pointer (some ⟨g, 0, none⟩), v] H (fun u H' => u = .tuple #[] ∧ H'[g]? = some (.cells ((Sha.comp s b).map (Value.int .u32) ++ us).toArray 49 (0, 0)) ∧ Fr g (.slice none 0 0) H H') := by
  refine Ct.mk Try.func16 rfl Try.ntmps16 rfl ?_
  intro W0 hW0
  have o0 : OldB 0 H H := OldB.refl _ H
  have fr : Fr g (.slice none 0 0) H H := Fr.refl _ _ _
  have zg := blk_lt bg
  refine KC.seq ?_
  refine KC.region ?_
  refine KL.op (R.move rfl rfl) rfl rfl rfl ?_
  refine KL.op (R.nilCheck rfl rfl) rfl rfl rfl ?_
  refine KL.op ((by first | exact R.fieldAddr rfl Try.underlying49 rfl rfl sz47 rfl | exact R.fieldAddrP rfl Try.underlying49 rfl rfl sz47 rfl)) rfl rfl rfl ?_
  refine KL.op (R.loadAgg rfl Try.underlying47 rfl sz47 rfl (cells_ofA bg) (by simp [h8])) rfl rfl rfl ?_
  refine KL.opM (M.alloc rfl zr54 rfl) rfl rfl rfl ?_
  rintro _ H1 ⟨rfl, n1⟩
  have z1 := n1.2.1
  have o0 := o0.trans ((n1.1).b (by omega))
  have bg := (n1.1).blk bg
  have fr := fr.old n1.1
  have b1 := n1.2.2
  have bl := b1
  refine KL.opS (S.storeAgg (us := (s.map (Value.int .u32))) rfl sz54 rfl rfl (by simp [h8]) (by intro u hu; exact ints_one u hu) bl (by simp [h8])) rfl rfl ?_
  rintro H2 ⟨u2, b2⟩
  have o0 := o0.trans (OldB.upd u2 (by omega))
  have zu2 := u2.1
  have bg := ((u2).2 _ (by omega)).trans bg
  have fr := (by first | exact fr.upd u2 | exact fr.updN u2 (by omega))
  have bl := b2
  rw [Sha.put_all (by simp [h8])] at bl
  have oA : Old H H2 := (Old.refl H).trans n1.1 |>.upd u2 (by omega)
  have zl := blk_lt bl
  refine KL.nil ?_
  refine KQ.seq ?_
  refine KC.seq ?_
  refine KC.region ?_
  refine KL.op (R.move rfl rfl) rfl rfl rfl ?_
  refine KL.call rfl rfl rfl rfl Try.call18 rfl rfl rfl (words_any _ _ (hb.old oA) hl) ?_
  rintro _ H3 ⟨rfl, ox⟩
  have zx16 := ox.1
  have zc_H3 := (ox).1
  have o0 := o0.trans ((ox).b (by omega))
  have bg := (ox).blk bg
  have fr := fr.old ox
  have bl := (ox).blk bl
  refine KL.call rfl rfl rfl rfl Try.call19 rfl rfl rfl (consts_any) ?_
  rintro _ H4 ⟨rfl, ox⟩
  have zx17 := ox.1
  have zc_H4 := (ox).1
  have o0 := o0.trans ((ox).b (by omega))
  have bg := (ox).blk bg
  have fr := fr.old ox
  have bl := (ox).blk bl
  refine KL.opM (M.alloc (cs := ((List.replicate 64 (0 : Int)).map (Value.int .u32))) rfl zr55 rfl) rfl rfl rfl ?_
  rintro _ H5 ⟨rfl, n5⟩
  have z5 := n5.2.1
  have o0 := o0.trans ((n5.1).b (by omega))
  have bg := (n5.1).blk bg
  have fr := fr.old n5.1
  have bl := (n5.1).blk bl
  have b5 := n5.2.2
  have bw := b5
  refine KL.opM (M.alloc (cs := ((List.replicate 64 (0 : Int)).map (Value.int .u32))) rfl zr55 rfl) rfl rfl rfl ?_
  rintro _ H6 ⟨rfl, n6⟩
  have z6 := n6.2.1
  have o0 := o0.trans ((n6.1).b (by omega))
  have bg := (n6.1).blk bg
  have fr := fr.old n6.1
  have bl := (n6.1).blk bl
  have bw := (n6.1).blk bw
  have b6 := n6.2.2
  have bk := b6
  refine KL.opS (S.storeAgg (us := ((Sha.ws b 64).map (Value.int .u32))) rfl sz55 rfl rfl (by simp [Sha.ws_length]) (by intro u hu; exact ints_one u hu) bw (by rw [Sha.z64_length, List.length_map, Sha.ws_length]; omega)) rfl rfl ?_
  rintro H7 ⟨u7, b7⟩
  have o0 := o0.trans (OldB.upd u7 (by omega))
  have zu7 := u7.1
  have bg := ((u7).2 _ (by omega)).trans bg
  have fr := (by first | exact fr.upd u7 | exact fr.updN u7 (by omega))
  have bl := ((u7).2 _ (by omega)).trans bl
  have bk := ((u7).2 _ (by omega)).trans bk
  have bw := b7
  rw [Sha.put_all (by rw [Sha.z64_length, List.length_map, Sha.ws_length])] at bw
  refine KL.opS (S.storeAgg (us := (Sha.K.map (Value.int .u32))) rfl sz55 rfl rfl (by simp [Sha.K_length]) (by intro u hu; exact ints_one u hu) bk (by rw [Sha.z64_length, List.length_map, Sha.K_length]; omega)) rfl rfl ?_
  rintro H8 ⟨u8, b8⟩
  have o0 := o0.trans (OldB.upd u8 (by omega))
  have zu8 := u8.1
  have bg := ((u8).2 _ (by omega)).trans bg
  have fr := (by first | exact fr.upd u8 | exact fr.updN u8 (by omega))
  have bl := ((u8).2 _ (by omega)).trans bl
  have bw := ((u8).2 _ (by omega)).trans bw
  have bk := b8
  rw [Sha.put_all (by rw [Sha.z64_length, List.length_map, Sha.K_length])] at bk
  refine KL.nil ?_
  refine KQ.seq ?_
  refine KC.seq ?_
  refine KC.region ?_
  refine KL.op (R.makeFunc rfl rfl rfl) rfl rfl rfl ?_
  refine KL.op (R.assign rfl rfl) rfl rfl rfl ?_
  refine KL.nil ?_
  refine KQ.seq ?_
  refine KC.seq ?_
  refine KC.seq ?_
  refine KC.region ?_
  refine KL.op (R.move rfl rfl) rfl rfl rfl ?_
  refine KL.nil ?_
  refine KQ.seq ?_
  refine KC.block ?_
  refine KC.loopD (κ := Nat) [20, 21, 8, 22, 23, 24, 25, 26, 27, 28, 29, 30, 31, 19] (fun k => [(19, .int .i64 (k : Nat))]) (fun k Hl => k ≤ 64 ∧ Fr g (.slice none 0 0) H Hl ∧ Hl[g]? = some (.cells ((s).map (Value.int .u32) ++ us).toArray 49 (0, 0)) ∧ Hl[Array.size H]? = some (.cells ((Sha.rnds b s k).map (Value.int .u32)).toArray 54 (0, 0)) ∧ Hl[Array.size H4]? = some (.cells ((Sha.ws b 64).map (Value.int .u32)).toArray 55 (0, 0)) ∧ Hl[Array.size H5]? = some (.cells ((Sha.K).map (Value.int .u32)).toArray 55 (0, 0))) (fun k => 64 - k) 0 ?_ ?_ ?_
  · exact (Sub.cons rfl (Ext.sub (Ext.refl _ _)))
  · exact ⟨by omega, fr, bg, bl, bw, bk⟩
  · rintro k H9 ⟨hk, fr, bg, bl, bw, bk⟩
    have zfr := fr.1
    have o0 : OldB 0 H H9 := ⟨fr.1, fun k hk => absurd hk (Nat.not_lt_zero _)⟩
    have hwl := Sha.ws_length b 64
    have hkl := Sha.K_length
    have hrl := Sha.rnds_length (b := b) h8 k
    have hrr := Sha.rnds_range (b := b) hs h8 k
    have zw := blk_lt bw
    have zk := blk_lt bk
    have zl := blk_lt bl
    refine KC.seq ?_
    refine KC.region ?_
    refine KL.op (R.lss rfl rfl rfl) rfl rfl rfl ?_
    refine KL.nil ?_
    refine KQ.seq ?_
    refine KC.seq ?_
    refine KC.iteL rfl ?_ ?_
    · intro hc20
      try simp only [decide_eq_true_eq, decide_eq_false_iff_not, Bool.not_eq_true', Bool.not_eq_false', Bool.and_eq_true, Bool.or_eq_false_iff] at hc20
      refine KC.skip ?_
      refine KQ.seq ?_
      refine KC.seq ?_
      refine KC.block ?_
      refine KC.seq ?_
      refine KC.region ?_
      refine KL.op (R.move rfl rfl) rfl rfl rfl ?_
      refine KL.op (R.assign rfl rfl) rfl rfl rfl ?_
      refine KL.nil ?_
      refine KQ.seq ?_
      refine KC.text (clOf [(3, 1), (6, 1), (8, 2)]) (fun _ _ => True) (by kernel_rfl) (by kernel_rfl) (fun _ => trivial) ?_
      refine KP.op rfl (fun Hg hg => R.move rfl rfl) rfl rfl rfl ?_
      refine KP.op rfl (fun Hg hg => R.move rfl rfl) rfl rfl rfl ?_
      refine KP.op rfl (fun Hg hg => R.at1 (j := k) rfl Try.underlying55 sz46 rfl rfl (by first | rfl | omega) (by omega)) rfl rfl rfl ?_
      refine KP.now rfl (R.load rfl Try.underlying46 rfl rfl (cell_ints bk (by omega))) rfl rfl rfl ?_
      refine KP.op rfl (fun Hg hg => R.move rfl rfl) rfl rfl rfl ?_
      refine KP.op rfl (fun Hg hg => R.at1 (j := k) rfl Try.underlying55 sz46 rfl rfl (by first | rfl | omega) (by omega)) rfl rfl rfl ?_
      refine KP.now rfl (R.load rfl Try.underlying46 rfl rfl (cell_ints bw (by omega))) rfl rfl rfl ?_
      refine KP.op rfl (fun Hg hg => R.addW rfl rfl rfl) rfl rfl rfl ?_
      refine KP.call rfl rfl rfl rfl rfl Try.call20 rfl rfl rfl (round_any _ _ _ bl hrl hrr) (fun _ _ _ _ _ _ => trivial) ?_
      rintro _ H10 ⟨rfl, uu, bl2⟩
      have o0 := o0.trans (OldB.upd uu (by omega))
      have zuu := uu.1
      have bg := ((uu).2 _ (by omega)).trans bg
      have bw := ((uu).2 _ (by omega)).trans bw
      have bk := ((uu).2 _ (by omega)).trans bk
      have fr := (by first | exact fr.upd uu | exact fr.updN uu (by omega))
      have bl := bl2
      refine KP.nil ?_
      refine KQ.normBlock ?_
      refine KQ.seq ?_
      refine KC.region ?_
      refine KL.op (R.add rfl rfl rfl (by dsimp only [InR]; omega)) rfl rfl rfl ?_
      refine KL.op (R.move rfl rfl) rfl rfl rfl ?_
      refine KL.nil ?_
      refine KQ.again (k + 1) ?_ ?_ ?_
      · exact (Sub.cons rfl (Ext.sub (by repeat (first | exact Ext.refl _ _ | refine Ext.put rfl ?_ | refine Ext.drop rfl ?_))))
      · omega
      · exact ⟨by omega, fr, bg, by rw [Sha.rnds, ← Sha.rndp_eq]; exact bl, bw, bk⟩
    · intro hc20
      try simp only [decide_eq_true_eq, decide_eq_false_iff_not, Bool.not_eq_true', Bool.not_eq_false', Bool.and_eq_true, Bool.or_eq_false_iff] at hc20
      have ek : k = 64 := (by omega)
      subst ek
      refine KC.exit ?_
      refine KQ.exitThen ?_
      refine KQ.exitThen ?_
      refine KQ.hit ?_
      refine KQ.seq ?_
      refine KC.seq ?_
      refine KC.region ?_
      refine KL.op (R.loadAgg rfl Try.underlying54 rfl sz54 rfl (cells_of bl) (by simp [Sha.rnds_length h8])) rfl rfl rfl ?_
      refine KL.op (R.move rfl rfl) rfl rfl rfl ?_
      refine KL.nil ?_
      refine KQ.seq ?_
      refine KC.block ?_
      refine KC.loopD (κ := Nat) [34, 35, 36, 9, 10, 37, 38, 39, 40, 41, 42, 43, 44, 45, 46, 47, 48, 33] (fun k => [(33, .int .i64 (k : Nat))]) (fun k Hl => k ≤ 8 ∧ Fr g (.slice none 0 0) H Hl ∧ Hl[g]? = some (.cells ((Sha.part s (Sha.rnds b s 64) k).map (Value.int .u32) ++ us).toArray 49 (0, 0))) (fun k => 8 - k) 0 ?_ ?_ ?_
      · exact (Sub.cons rfl (Ext.sub (Ext.refl _ _)))
      · exact ⟨by omega, fr, by rw [Sha.part_zero h8]; exact bg⟩
      · rintro k H11 ⟨hk, fr, bg⟩
        have zfr := fr.1
        have o0 : OldB 0 H H11 := ⟨fr.1, fun k hk => absurd hk (Nat.not_lt_zero _)⟩
        have hpl := Sha.part_length s (Sha.rnds b s 64) k
        refine KC.seq ?_
        refine KC.region ?_
        refine KL.op (R.lss rfl rfl rfl) rfl rfl rfl ?_
        refine KL.nil ?_
        refine KQ.seq ?_
        refine KC.seq ?_
        refine KC.iteL rfl ?_ ?_
        · intro hc34
          try simp only [decide_eq_true_eq, decide_eq_false_iff_not, Bool.not_eq_true', Bool.not_eq_false', Bool.and_eq_true, Bool.or_eq_false_iff] at hc34
          refine KC.skip ?_
          refine KQ.seq ?_
          refine KC.seq ?_
          refine KC.block ?_
          refine KC.seq ?_
          refine KC.region ?_
          refine KL.op (R.move rfl rfl) rfl rfl rfl ?_
          refine KL.op (R.indexInt (j := k) rfl Try.underlying54 sz46 Try.underlying46 rfl rfl (by omega) (by omega) (by rw [Sha.rnds_length h8]; omega)) rfl rfl rfl ?_
          refine KL.op (R.assign rfl rfl) rfl rfl rfl ?_
          refine KL.op (R.assign rfl rfl) rfl rfl rfl ?_
          refine KL.nil ?_
          refine KQ.seq ?_
          refine KC.text (clOf [(5, 1), (11, 2)]) (fun _ _ => True) (by kernel_rfl) (by kernel_rfl) (fun _ => trivial) ?_
          refine KP.op rfl (fun Hg hg => R.move rfl rfl) rfl rfl rfl ?_
          refine KP.op rfl (fun Hg hg => R.move rfl rfl) rfl rfl rfl ?_
          refine KP.op rfl (fun Hg hg => R.nilCheck rfl rfl) rfl rfl rfl ?_
          refine KP.op rfl (fun Hg hg => (by first | exact R.fieldAddr rfl Try.underlying49 rfl rfl sz47 rfl | exact R.fieldAddrP rfl Try.underlying49 rfl rfl sz47 rfl)) rfl rfl rfl ?_
          refine KP.op rfl (fun Hg hg => R.at1 (j := k) rfl Try.underlying47 sz46 rfl rfl (by first | rfl | omega) (by omega)) rfl rfl rfl ?_
          refine KP.now rfl (R.load rfl Try.underlying46 rfl rfl (cell_intsA bg (by omega))) rfl rfl rfl ?_
          refine KP.op rfl (fun Hg hg => R.move rfl rfl) rfl rfl rfl ?_
          refine KP.op rfl (fun Hg hg => R.addW rfl rfl rfl) rfl rfl rfl ?_
          refine KP.op rfl (fun Hg hg => R.nilCheck rfl rfl) rfl rfl rfl ?_
          refine KP.op rfl (fun Hg hg => (by first | exact R.fieldAddr rfl Try.underlying49 rfl rfl sz47 rfl | exact R.fieldAddrP rfl Try.underlying49 rfl rfl sz47 rfl)) rfl rfl rfl ?_
          refine KP.op rfl (fun Hg hg => R.at1 (j := k) rfl Try.underlying47 sz46 rfl rfl (by first | rfl | omega) (by omega)) rfl rfl rfl ?_
          refine KP.opS rfl (S.storeIntA rfl sz46 rfl rfl bg (by omega)) rfl rfl (fun _ _ _ _ _ => trivial) ?_
          rintro H12 ⟨u12, b12⟩
          have o0 := o0.trans (OldB.upd u12 (by omega))
          have zu12 := u12.1
          have fr := (by first | exact fr.upd u12 | exact fr.updN u12 (by omega))
          have bg := b12
          refine KP.nil ?_
          refine KQ.normBlock ?_
          refine KQ.seq ?_
          refine KC.region ?_
          refine KL.op (R.add rfl rfl rfl (by dsimp only [InR]; omega)) rfl rfl rfl ?_
          refine KL.op (R.move rfl rfl) rfl rfl rfl ?_
          refine KL.nil ?_
          refine KQ.again (k + 1) ?_ ?_ ?_
          · exact (Sub.cons rfl (Ext.sub (by repeat (first | exact Ext.refl _ _ | refine Ext.put rfl ?_ | refine Ext.drop rfl ?_))))
          · omega
          · exact ⟨by omega, fr, by rw [← Sha.part_set (by omega)]; exact bg⟩
        · intro hc34
          try simp only [decide_eq_true_eq, decide_eq_false_iff_not, Bool.not_eq_true', Bool.not_eq_false', Bool.and_eq_true, Bool.or_eq_false_iff] at hc34
          have ek : k = 8 := (by omega)
          subst ek
          rw [Sha.part_all] at bg
          refine KC.exit ?_
          refine KQ.exitThen ?_
          refine KQ.exitThen ?_
          refine KQ.hit ?_
          refine KQ.fin0 Try.results16 ?_
          exact ⟨rfl, bg, fr⟩

end Go.Proofs.Ytgpbdimccbimnaa
