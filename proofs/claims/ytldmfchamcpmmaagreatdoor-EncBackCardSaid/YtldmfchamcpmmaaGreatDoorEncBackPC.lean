/- What the proof of EncBack leans on, part 3. No condition but those that each law states. -/
import Derived.Test.YtldmfchamcpmmaaGreatDoorRows
import Derived.WalkKit
import Derived.Deep.Quiet
import Derived.Below
import Derived.WalkLawsBesides
import Derived.Lib.Hide
import Derived.Laws.AppendOwnNone
import Derived.Laws.CopyRow
import Derived.Laws.Tables
import Derived.Orders
import Derived.Deep.Slices
import Derived.Deep.Fields
import Derived.OpenShut
import Derived.ProofKit
import Derived.Lib.AppendZerosOnto
import Derived.Laws.BytesString
import Derived.Lib.SlBytesConst
import Derived.Laws.IdiomStrings
import Derived.Lib.AppendStr
import Derived.Lib.EndianZ
import Derived.Lib.DecodeN
import Derived.Lib.ValidLaws
import Derived.Lib.EndianBits
import Derived.Maps.AppendAt
import Derived.ChangeKeysEq
import Derived.Lib.LaidTab
import Derived.Lib.LaidU8
import Derived.LaidMore
import Derived.ChangeSame
import Derived.SizedLaws
import Derived.WalkSpells
import Derived.Lib.ItoaNum
import Derived.Defers
import Derived.Recover
import Derived.Scope
import Derived.Laws.StructEq
import Derived.ArgAppend
import Derived.Test.YtldmfchamcpmmaaGreatDoorEncBackPB
set_option maxHeartbeats 10000000
set_option maxRecDepth 100000
set_option linter.unusedVariables false
set_option linter.unusedSimpArgs false
set_option linter.unnecessarySimpa false
namespace Go.Proofs.YtldmfchamcpmmaaGreatDoor
open Go Go.RowKit
section
variable {H : Heap} {v : Value} {l : List Ins}
theorem Sl.insV (h : Sl 5 EIns H v l) (j : Nat) (hj : j < l.length) : ∃ vl, CellsH H ((vbase v).add (j * 5)) [.int .u8 (l.getD j default).op, .int .u32 (l.getD j default).a, .int .u32 (l.getD j default).b, .int .i64 (l.getD j default).c, vl] ∧ Sl 1 (EInt .u32) H vl (l.getD j default).l ∧ InsR (l.getD j default) := by
  obtain ⟨u, h1, h2, h3, h4, h5, h6⟩ := h.insAt j hj
  exact ⟨u, h1, h2, h3, h4, h5, h6⟩
theorem ins_mem {l : List Ins} {j : Nat} (hj : j < l.length) : l.getD j default ∈ l := by
  rw [List.getD_eq_getElem?_getD, List.getElem?_eq_getElem hj]; exact List.getElem_mem _
theorem Sl.insAll (h : Sl 5 EIns H v l) : ∀ x ∈ l, InsR x ∧ ∀ y ∈ x.l, InR .u32 y := by
  intro x hx
  obtain ⟨j, hj, rfl⟩ := List.getElem_of_mem hx
  obtain ⟨vl, _, h2, h3⟩ := h.insV j hj
  rw [List.getD_eq_getElem?_getD, List.getElem?_eq_getElem hj] at h2 h3
  exact ⟨h3, h2.rng⟩
theorem flatB {k : Nat} (h : Sl 5 EIns H v l) (hb : Isp.bulk l ≤ 2000000) : (Isp.flat (l.take k)).length ≤ 62000000 := by
  have h1 : (Isp.flat (l.take k)).length ≤ 31 * Isp.bulk (l.take k) := Isp.flat_le fun x hx => by
    have hm := List.mem_of_mem_take hx
    have := Isp.bulk_mem hm
    exact ⟨(h.insAll x hm).1, (h.insAll x hm).2, by omega⟩
  have := Isp.bulk_take (l := l) k
  omega
end
theorem Isp.walk_len {xs : List Ins} {m : List Int} (h : Isp.walkM [] xs = some m) : m.length ≤ xs.length := by
  have key : ∀ (xs : List Ins) (a m : List Int), Isp.walkM a xs = some m → m.length ≤ a.length + xs.length := by
    intro xs
    induction xs with
    | nil => intro a m h; simp only [Isp.walkM, Option.some.injEq] at h; subst h; simp
    | cons x xs ih =>
      intro a m h
      simp only [Isp.walkM] at h
      split at h
      · next a' e =>
        have := ih _ _ h
        have h2 : a'.length ≤ a.length + 1 := by
          unfold Isp.nx at e
          split at e
          · injection e with e; subst e; simp
          split at e
          · split at e
            · cases e
            injection e with e; subst e; simp <;> omega
          split at e
          · split at e
            · cases e
            injection e with e; subst e; simp <;> omega
          injection e with e; subst e; omega
        simp only [List.length_cons]; omega
      cases h
  have := key xs [] m h
  simpa using this
theorem Isp.may_no {xs : List Ins} {k : Nat} (hk : k < xs.length) (h : ¬ Isp.May (xs.getD k default)) : ¬ ∀ x ∈ xs, Isp.May x := fun hall => h (hall _ (ins_mem hk))
theorem wrap32 {c : Int} : IntKind.i32.wrap c = c ↔ (-2147483648 ≤ c ∧ c ≤ 2147483647) := by
  constructor
  · intro h; have := inR_wrap .i32 c; rw [h] at this; dsimp only [InR] at this; omega
  intro h; exact wrap_in (k := .i32) (by dsimp only [InR]; omega)
theorem may_no {H : Heap} {x : Ins} {vl : Value} (hx : InsR x) (hll : x.l.length < 4294967296) (hs : Sl 1 (EInt .u32) H vl x.l) (hk : Opc.known x.op = false) : Ct Tryz.prog 117 [insV x vl] H (fun u H' => (∃ b, u = .bool b ∧ (b = true ↔ Isp.May x)) ∧ Old H H') := by
  refine Ct.mk Tryz.func117 rfl Tryz.ntmps117 rfl ?_
  intro W0 hW0
  have o0 : Old H H := Old.refl H
  unfold insV
  refine KC.sr ?_
  refine KL.m (M.box rfl rfl rfl) rfl ?_
  rintro _ H1 ⟨rfl, n1⟩
  have z1 := n1.2.1
  have o0 := o0.trans n1.1
  have hs := hs.old n1.1
  have b1 := n1.2.2
  have bx := b1
  refine KL.fin 1 rfl (KQ.seq (KC.seq (KC.sr (KL.run 1 rfl (KL.ld rfl (cell_of bx rfl) ?_)))))
  refine KL.c rfl K121 (Known_k _) ?_
  rintro _ _ ⟨rfl, rfl⟩
  refine KL.fin 1 rfl (KQ.seq ?_)
  refine KC.condIs true rfl (by rw [hk]; rfl) ?_
  refine KC.sr (KL.fin 1 rfl (KQ.seq (KC.ret (KQ.retThen (KQ.ofRet (KQ.fin1 V117 rfl ?_))))))
  exact ⟨⟨false, rfl, fun h => absurd h (by decide), fun h => by have := h.1; rw [hk] at this; cases this⟩, o0⟩
theorem may0 {H : Heap} {x : Ins} {vl : Value} (hx : InsR x) (hll : x.l.length < 4294967296) (hs : Sl 1 (EInt .u32) H vl x.l) (hk : Opc.known x.op = true) (hf : Opc.form x.op = 0) : Ct Tryz.prog 117 [insV x vl] H (fun u H' => (∃ b, u = .bool b ∧ (b = true ↔ Isp.May x)) ∧ Old H H') := by
  refine Ct.mk Tryz.func117 rfl Tryz.ntmps117 rfl ?_
  intro W0 hW0
  have o0 : Old H H := Old.refl H
  have hs0 := hs
  unfold insV
  refine KC.sr ?_
  refine KL.m (M.box rfl rfl rfl) rfl ?_
  rintro _ H1 ⟨rfl, n1⟩
  have z1 := n1.2.1
  have o0 := o0.trans n1.1
  have hs := hs.old n1.1
  have b1 := n1.2.2
  have bx := b1
  refine KL.fin 1 rfl (KQ.seq (KC.seq (KC.sr (KL.run 1 rfl (KL.ld rfl (cell_of bx rfl) ?_)))))
  refine KL.c rfl K121 (Known_k _) ?_
  rintro _ _ ⟨rfl, rfl⟩
  refine KL.fin 1 rfl (KQ.seq ?_)
  refine KC.condIs false rfl (by rw [hk]; rfl) ?_
  refine KC.skip (KQ.sr (KL.q (R.buildArr (cs := #[(.bool false), (.bool false), (.bool false), (.bool false)]) rfl U211 zr211 sz4 rfl (by kernel_rfl)) rfl ?_))
  refine KL.m (M.alloc rfl zr211 rfl) rfl ?_
  rintro _ H2 ⟨rfl, n2⟩
  have z2 := n2.2.1
  have o0 := o0.trans n2.1
  have hs := hs.old n2.1
  have bx := (n2.1).blk bx
  have b2 := n2.2.2
  have bq := b2
  refine KL.opS (S.storeAgg rfl sz211 rfl rfl (rfl) (by intro u hu; simp only [List.mem_cons, List.not_mem_nil, or_false] at hu; rcases hu with rfl | rfl | rfl | rfl <;> rfl) bq (by simp)) rfl rfl ?_
  rintro H3 ⟨u3, b3⟩
  have o0 := o0.upd u3 (by omega)
  have zu3 := u3.1
  have bx := ((u3).2 _ (by omega)).trans bx
  have bq := b3
  rw [over_all (by rfl)] at bq
  refine KL.nil (KQ.seq (KC.seq (KC.sr (KL.run 1 rfl (KL.ld rfl (cell_of bx rfl) ?_)))))
  refine KL.c rfl K122 (Form_k _) ?_
  rintro _ _ ⟨rfl, rfl⟩
  rw [hf]
  refine KL.nil (KQ.seq (KC.block (KC.sr (KL.e0 rfl (by decide) (KL.fin 1 rfl (KQ.seq (KC.condF rfl (KC.seq (KC.sr (KL.e0 rfl (by decide) (KL.fin 1 rfl ?_)))))))))))
  refine KQ.seq (KC.condF rfl (KC.sr (KL.e0 rfl (by decide) (KL.fin 1 rfl (KQ.seq (KC.condF rfl (KC.region (KL.e0 rfl (by decide) (KL.fin 1 rfl (KQ.seq (KC.condF rfl (KC.seq ?_))))))))))))
  refine KC.region (KL.e0 rfl (by decide) (KL.fin 1 rfl (KQ.seq (KC.condF rfl (KC.sr (KL.e0 rfl (by decide) (KL.fin 1 rfl (KQ.seq (KC.condF rfl (KC.sr (KL.e0 rfl (by decide) ?_)))))))))))
  refine KL.fin 1 rfl (KQ.seq (KC.condF rfl (KC.sr (KL.e0 rfl (by decide) (KL.fin 1 rfl (KQ.seq (KC.condF rfl (KC.skip (KQ.normBlock (KQ.sr ?_))))))))))
  refine KL.q (R.indexAddrArr (j := 0) rfl U211 sz4 rfl rfl rfl (by omega)) rfl ?_
  refine KL.ld rfl (cell_of bq rfl) (KL.run 2 rfl (KL.ld rfl (cell_of bx rfl) (KL.run 3 rfl ?_)))
  refine KL.cq 61 rfl ?_ ?_
  · intro hg61
    refine KL.q (R.indexAddrArr (j := 1) rfl U211 sz4 rfl rfl rfl (by omega)) rfl ?_
    refine KL.ld rfl (cell_of bq rfl) (KL.run 2 rfl (KL.ld rfl (cell_of bx rfl) (KL.run 4 rfl ?_)))
    refine KL.cq 70 rfl ?_ ?_
    · intro hg70
      refine KL.q (R.indexAddrArr (j := 2) rfl U211 sz4 rfl rfl rfl (by omega)) rfl ?_
      refine KL.ld rfl (cell_of bq rfl) (KL.run 2 rfl (KL.ld rfl (cell_of bx rfl) (KL.run 4 rfl ?_)))
      refine KL.cq 79 rfl ?_ ?_
      · intro hg79
        refine KL.q (R.indexAddrArr (j := 3) rfl U211 sz4 rfl rfl rfl (by omega)) rfl ?_
        refine KL.ld rfl (cell_of bq rfl) (KL.run 2 rfl (KL.ld rfl (cell_of bx rfl) (KL.q (R.lenS rfl U24 rfl hs) rfl (KL.fin 4 rfl (KQ.seq (KC.ret (KQ.ofRet (KQ.fin1 V117 rfl ?_))))))))
        (exact ⟨⟨_, rfl, fun h => (Isp.may_iff hx hll (fun y hy => hs0.rng y hy)).2 ⟨hk, by rw [hf]; unfold Isp.mayC; have := of_decide_eq_true h; omega⟩, fun h => by have k2 := ((Isp.may_iff hx hll (fun y hy => hs0.rng y hy)).1 h).2; rw [hf] at k2; unfold Isp.mayC at k2; exact decide_eq_true (by omega)⟩, o0⟩)
      intro hg79
      refine KL.fin 10 rfl (KQ.seq (KC.ret (KQ.ofRet (KQ.fin1 V117 rfl ?_))))
      (exact ⟨⟨false, rfl, fun h => absurd h (by decide), fun h => absurd ((Isp.may_iff hx hll (fun y hy => hs0.rng y hy)).1 h) (fun ⟨k1, k2⟩ => by rw [hf] at k2; unfold Isp.mayC at k2; omega)⟩, o0⟩)
    intro hg70
    refine KL.fin 19 rfl (KQ.seq (KC.ret (KQ.ofRet (KQ.fin1 V117 rfl ?_))))
    (exact ⟨⟨false, rfl, fun h => absurd h (by decide), fun h => absurd ((Isp.may_iff hx hll (fun y hy => hs0.rng y hy)).1 h) (fun ⟨k1, k2⟩ => by rw [hf] at k2; unfold Isp.mayC at k2; omega)⟩, o0⟩)
  intro hg61
  refine KL.fin 28 rfl (KQ.seq (KC.ret (KQ.ofRet (KQ.fin1 V117 rfl ?_))))
  (exact ⟨⟨false, rfl, fun h => absurd h (by decide), fun h => absurd ((Isp.may_iff hx hll (fun y hy => hs0.rng y hy)).1 h) (fun ⟨k1, k2⟩ => by rw [hf] at k2; unfold Isp.mayC at k2; omega)⟩, o0⟩)
theorem may1 {H : Heap} {x : Ins} {vl : Value} (hx : InsR x) (hll : x.l.length < 4294967296) (hs : Sl 1 (EInt .u32) H vl x.l) (hk : Opc.known x.op = true) (hf : Opc.form x.op = 1) : Ct Tryz.prog 117 [insV x vl] H (fun u H' => (∃ b, u = .bool b ∧ (b = true ↔ Isp.May x)) ∧ Old H H') := by
  refine Ct.mk Tryz.func117 rfl Tryz.ntmps117 rfl ?_
  intro W0 hW0
  have o0 : Old H H := Old.refl H
  have hs0 := hs
  unfold insV
  refine KC.sr ?_
  refine KL.m (M.box rfl rfl rfl) rfl ?_
  rintro _ H1 ⟨rfl, n1⟩
  have z1 := n1.2.1
  have o0 := o0.trans n1.1
  have hs := hs.old n1.1
  have b1 := n1.2.2
  have bx := b1
  refine KL.fin 1 rfl (KQ.seq (KC.seq (KC.sr (KL.run 1 rfl (KL.ld rfl (cell_of bx rfl) ?_)))))
  refine KL.c rfl K121 (Known_k _) ?_
  rintro _ _ ⟨rfl, rfl⟩
  refine KL.fin 1 rfl (KQ.seq ?_)
  refine KC.condIs false rfl (by rw [hk]; rfl) ?_
  refine KC.skip (KQ.sr (KL.q (R.buildArr (cs := #[(.bool false), (.bool false), (.bool false), (.bool false)]) rfl U211 zr211 sz4 rfl (by kernel_rfl)) rfl ?_))
  refine KL.m (M.alloc rfl zr211 rfl) rfl ?_
  rintro _ H2 ⟨rfl, n2⟩
  have z2 := n2.2.1
  have o0 := o0.trans n2.1
  have hs := hs.old n2.1
  have bx := (n2.1).blk bx
  have b2 := n2.2.2
  have bq := b2
  refine KL.opS (S.storeAgg rfl sz211 rfl rfl (rfl) (by intro u hu; simp only [List.mem_cons, List.not_mem_nil, or_false] at hu; rcases hu with rfl | rfl | rfl | rfl <;> rfl) bq (by simp)) rfl rfl ?_
  rintro H3 ⟨u3, b3⟩
  have o0 := o0.upd u3 (by omega)
  have zu3 := u3.1
  have bx := ((u3).2 _ (by omega)).trans bx
  have bq := b3
  rw [over_all (by rfl)] at bq
  refine KL.nil (KQ.seq (KC.seq (KC.sr (KL.run 1 rfl (KL.ld rfl (cell_of bx rfl) ?_)))))
  refine KL.c rfl K122 (Form_k _) ?_
  rintro _ _ ⟨rfl, rfl⟩
  rw [hf]
  refine KL.nil (KQ.seq (KC.block (KC.sr (KL.e1 rfl (by decide) (KL.fin 1 rfl (KQ.seq (KC.condT rfl (KC.seq (KC.sr (KL.run 1 rfl (KL.ld rfl (cell_of bx rfl) ?_)))))))))))
  refine KL.fin 1 rfl (KQ.sr (KL.run 3 rfl ?_))
  refine KL.cq 19 rfl ?_ ?_
  · intro hg19
    refine KL.run 4 rfl ?_
    refine KL.cq 23 rfl ?_ ?_
    · intro hg23
      refine KL.fin 3 rfl (KQ.seq ?_)
      refine KC.iq rfl ?_ ?_
      · intro hc26
        refine KC.sr (KL.fin 1 rfl (KQ.seq (KC.ret (KQ.retThen (KQ.retBlock (KQ.retThen (KQ.ofRet (KQ.fin1 V117 rfl ?_))))))))
        (exact ⟨⟨false, rfl, fun h => absurd h (by decide), fun h => absurd ((Isp.may_iff hx hll (fun y hy => hs0.rng y hy)).1 h) (fun ⟨k1, k2⟩ => by rw [hf] at k2; unfold Isp.mayC at k2; omega)⟩, o0⟩)
      intro hc26
      refine KC.skip (KQ.r ?_)
      refine KL.q (R.indexAddrArr (j := 0) rfl U211 sz4 rfl rfl rfl (by omega)) rfl ?_
      refine KL.opS (S.store rfl sz4 rfl rfl rfl rfl bq (by simp)) rfl rfl ?_
      rintro H4 ⟨u4, b4⟩
      have o0 := o0.upd u4 (by omega)
      have zu4 := u4.1
      have bx := ((u4).2 _ (by omega)).trans bx
      have bq := b4
      refine KL.nil (KQ.normBlock (KQ.sr ?_))
      refine KL.q (R.indexAddrArr (j := 0) rfl U211 sz4 rfl rfl rfl (by omega)) rfl ?_
      refine KL.ld rfl (cell_of bq rfl) (KL.run 6 rfl ?_)
      refine KL.q (R.indexAddrArr (j := 1) rfl U211 sz4 rfl rfl rfl (by omega)) rfl ?_
      refine KL.ld rfl (cell_of bq rfl) (KL.run 2 rfl (KL.ld rfl (cell_of bx rfl) (KL.run 4 rfl ?_)))
      refine KL.cq 70 rfl ?_ ?_
      · intro hg70
        refine KL.q (R.indexAddrArr (j := 2) rfl U211 sz4 rfl rfl rfl (by omega)) rfl ?_
        refine KL.ld rfl (cell_of bq rfl) (KL.run 2 rfl (KL.ld rfl (cell_of bx rfl) (KL.run 4 rfl ?_)))
        refine KL.cq 79 rfl ?_ ?_
        · intro hg79
          refine KL.q (R.indexAddrArr (j := 3) rfl U211 sz4 rfl rfl rfl (by omega)) rfl ?_
          refine KL.ld rfl (cell_of bq rfl) (KL.run 2 rfl (KL.ld rfl (cell_of bx rfl) (KL.q (R.lenS rfl U24 rfl hs) rfl (KL.fin 4 rfl (KQ.seq (KC.ret (KQ.ofRet (KQ.fin1 V117 rfl ?_))))))))
          (exact ⟨⟨_, rfl, fun h => (Isp.may_iff hx hll (fun y hy => hs0.rng y hy)).2 ⟨hk, by rw [hf]; unfold Isp.mayC; have := of_decide_eq_true h; omega⟩, fun h => by have k2 := ((Isp.may_iff hx hll (fun y hy => hs0.rng y hy)).1 h).2; rw [hf] at k2; unfold Isp.mayC at k2; exact decide_eq_true (by omega)⟩, o0⟩)
        intro hg79
        refine KL.fin 10 rfl (KQ.seq (KC.ret (KQ.ofRet (KQ.fin1 V117 rfl ?_))))
        (exact ⟨⟨false, rfl, fun h => absurd h (by decide), fun h => absurd ((Isp.may_iff hx hll (fun y hy => hs0.rng y hy)).1 h) (fun ⟨k1, k2⟩ => by rw [hf] at k2; unfold Isp.mayC at k2; omega)⟩, o0⟩)
      intro hg70
      refine KL.fin 19 rfl (KQ.seq (KC.ret (KQ.ofRet (KQ.fin1 V117 rfl ?_))))
      (exact ⟨⟨false, rfl, fun h => absurd h (by decide), fun h => absurd ((Isp.may_iff hx hll (fun y hy => hs0.rng y hy)).1 h) (fun ⟨k1, k2⟩ => by rw [hf] at k2; unfold Isp.mayC at k2; omega)⟩, o0⟩)
    intro hg23
    refine KL.fin 3 rfl (KQ.seq (KC.condF rfl (KC.skip (KQ.r ?_))))
    refine KL.q (R.indexAddrArr (j := 0) rfl U211 sz4 rfl rfl rfl (by omega)) rfl ?_
    refine KL.opS (S.store rfl sz4 rfl rfl rfl rfl bq (by simp)) rfl rfl ?_
    rintro H5 ⟨u5, b5⟩
    have o0 := o0.upd u5 (by omega)
    have zu5 := u5.1
    have bx := ((u5).2 _ (by omega)).trans bx
    have bq := b5
    refine KL.nil (KQ.normBlock (KQ.sr ?_))
    refine KL.q (R.indexAddrArr (j := 0) rfl U211 sz4 rfl rfl rfl (by omega)) rfl ?_
    refine KL.ld rfl (cell_of bq rfl) (KL.run 6 rfl ?_)
    refine KL.q (R.indexAddrArr (j := 1) rfl U211 sz4 rfl rfl rfl (by omega)) rfl ?_
    refine KL.ld rfl (cell_of bq rfl) (KL.run 2 rfl (KL.ld rfl (cell_of bx rfl) (KL.run 4 rfl ?_)))
    refine KL.cq 70 rfl ?_ ?_
    · intro hg70
      refine KL.q (R.indexAddrArr (j := 2) rfl U211 sz4 rfl rfl rfl (by omega)) rfl ?_
      refine KL.ld rfl (cell_of bq rfl) (KL.run 2 rfl (KL.ld rfl (cell_of bx rfl) (KL.run 4 rfl ?_)))
      refine KL.cq 79 rfl ?_ ?_
      · intro hg79
        refine KL.q (R.indexAddrArr (j := 3) rfl U211 sz4 rfl rfl rfl (by omega)) rfl ?_
        refine KL.ld rfl (cell_of bq rfl) (KL.run 2 rfl (KL.ld rfl (cell_of bx rfl) (KL.q (R.lenS rfl U24 rfl hs) rfl (KL.fin 4 rfl (KQ.seq (KC.ret (KQ.ofRet (KQ.fin1 V117 rfl ?_))))))))
        (exact ⟨⟨_, rfl, fun h => (Isp.may_iff hx hll (fun y hy => hs0.rng y hy)).2 ⟨hk, by rw [hf]; unfold Isp.mayC; have := of_decide_eq_true h; omega⟩, fun h => by have k2 := ((Isp.may_iff hx hll (fun y hy => hs0.rng y hy)).1 h).2; rw [hf] at k2; unfold Isp.mayC at k2; exact decide_eq_true (by omega)⟩, o0⟩)
      intro hg79
      refine KL.fin 10 rfl (KQ.seq (KC.ret (KQ.ofRet (KQ.fin1 V117 rfl ?_))))
      (exact ⟨⟨false, rfl, fun h => absurd h (by decide), fun h => absurd ((Isp.may_iff hx hll (fun y hy => hs0.rng y hy)).1 h) (fun ⟨k1, k2⟩ => by rw [hf] at k2; unfold Isp.mayC at k2; omega)⟩, o0⟩)
    intro hg70
    refine KL.fin 19 rfl (KQ.seq (KC.ret (KQ.ofRet (KQ.fin1 V117 rfl ?_))))
    (exact ⟨⟨false, rfl, fun h => absurd h (by decide), fun h => absurd ((Isp.may_iff hx hll (fun y hy => hs0.rng y hy)).1 h) (fun ⟨k1, k2⟩ => by rw [hf] at k2; unfold Isp.mayC at k2; omega)⟩, o0⟩)
  intro hg19
  refine KL.fin 7 rfl (KQ.seq (KC.condF rfl (KC.skip (KQ.r ?_))))
  refine KL.q (R.indexAddrArr (j := 0) rfl U211 sz4 rfl rfl rfl (by omega)) rfl ?_
  refine KL.opS (S.store rfl sz4 rfl rfl rfl rfl bq (by simp)) rfl rfl ?_
  rintro H6 ⟨u6, b6⟩
  have o0 := o0.upd u6 (by omega)
  have zu6 := u6.1
  have bx := ((u6).2 _ (by omega)).trans bx
  have bq := b6
  refine KL.nil (KQ.normBlock (KQ.sr ?_))
  refine KL.q (R.indexAddrArr (j := 0) rfl U211 sz4 rfl rfl rfl (by omega)) rfl ?_
  refine KL.ld rfl (cell_of bq rfl) (KL.run 6 rfl ?_)
  refine KL.q (R.indexAddrArr (j := 1) rfl U211 sz4 rfl rfl rfl (by omega)) rfl ?_
  refine KL.ld rfl (cell_of bq rfl) (KL.run 2 rfl (KL.ld rfl (cell_of bx rfl) (KL.run 4 rfl ?_)))
  refine KL.cq 70 rfl ?_ ?_
  · intro hg70
    refine KL.q (R.indexAddrArr (j := 2) rfl U211 sz4 rfl rfl rfl (by omega)) rfl ?_
    refine KL.ld rfl (cell_of bq rfl) (KL.run 2 rfl (KL.ld rfl (cell_of bx rfl) (KL.run 4 rfl ?_)))
    refine KL.cq 79 rfl ?_ ?_
    · intro hg79
      refine KL.q (R.indexAddrArr (j := 3) rfl U211 sz4 rfl rfl rfl (by omega)) rfl ?_
      refine KL.ld rfl (cell_of bq rfl) (KL.run 2 rfl (KL.ld rfl (cell_of bx rfl) (KL.q (R.lenS rfl U24 rfl hs) rfl (KL.fin 4 rfl (KQ.seq (KC.ret (KQ.ofRet (KQ.fin1 V117 rfl ?_))))))))
      (exact ⟨⟨_, rfl, fun h => (Isp.may_iff hx hll (fun y hy => hs0.rng y hy)).2 ⟨hk, by rw [hf]; unfold Isp.mayC; have := of_decide_eq_true h; omega⟩, fun h => by have k2 := ((Isp.may_iff hx hll (fun y hy => hs0.rng y hy)).1 h).2; rw [hf] at k2; unfold Isp.mayC at k2; exact decide_eq_true (by omega)⟩, o0⟩)
    intro hg79
    refine KL.fin 10 rfl (KQ.seq (KC.ret (KQ.ofRet (KQ.fin1 V117 rfl ?_))))
    (exact ⟨⟨false, rfl, fun h => absurd h (by decide), fun h => absurd ((Isp.may_iff hx hll (fun y hy => hs0.rng y hy)).1 h) (fun ⟨k1, k2⟩ => by rw [hf] at k2; unfold Isp.mayC at k2; omega)⟩, o0⟩)
  intro hg70
  refine KL.fin 19 rfl (KQ.seq (KC.ret (KQ.ofRet (KQ.fin1 V117 rfl ?_))))
  (exact ⟨⟨false, rfl, fun h => absurd h (by decide), fun h => absurd ((Isp.may_iff hx hll (fun y hy => hs0.rng y hy)).1 h) (fun ⟨k1, k2⟩ => by rw [hf] at k2; unfold Isp.mayC at k2; omega)⟩, o0⟩)
theorem may2 {H : Heap} {x : Ins} {vl : Value} (hx : InsR x) (hll : x.l.length < 4294967296) (hs : Sl 1 (EInt .u32) H vl x.l) (hk : Opc.known x.op = true) (hf : Opc.form x.op = 2) : Ct Tryz.prog 117 [insV x vl] H (fun u H' => (∃ b, u = .bool b ∧ (b = true ↔ Isp.May x)) ∧ Old H H') := by
  refine Ct.mk Tryz.func117 rfl Tryz.ntmps117 rfl ?_
  intro W0 hW0
  have o0 : Old H H := Old.refl H
  have hs0 := hs
  unfold insV
  refine KC.sr ?_
  refine KL.m (M.box rfl rfl rfl) rfl ?_
  rintro _ H1 ⟨rfl, n1⟩
  have z1 := n1.2.1
  have o0 := o0.trans n1.1
  have hs := hs.old n1.1
  have b1 := n1.2.2
  have bx := b1
  refine KL.fin 1 rfl (KQ.seq (KC.seq (KC.sr (KL.run 1 rfl (KL.ld rfl (cell_of bx rfl) ?_)))))
  refine KL.c rfl K121 (Known_k _) ?_
  rintro _ _ ⟨rfl, rfl⟩
  refine KL.fin 1 rfl (KQ.seq ?_)
  refine KC.condIs false rfl (by rw [hk]; rfl) ?_
  refine KC.skip (KQ.sr (KL.q (R.buildArr (cs := #[(.bool false), (.bool false), (.bool false), (.bool false)]) rfl U211 zr211 sz4 rfl (by kernel_rfl)) rfl ?_))
  refine KL.m (M.alloc rfl zr211 rfl) rfl ?_
  rintro _ H2 ⟨rfl, n2⟩
  have z2 := n2.2.1
  have o0 := o0.trans n2.1
  have hs := hs.old n2.1
  have bx := (n2.1).blk bx
  have b2 := n2.2.2
  have bq := b2
  refine KL.opS (S.storeAgg rfl sz211 rfl rfl (rfl) (by intro u hu; simp only [List.mem_cons, List.not_mem_nil, or_false] at hu; rcases hu with rfl | rfl | rfl | rfl <;> rfl) bq (by simp)) rfl rfl ?_
  rintro H3 ⟨u3, b3⟩
  have o0 := o0.upd u3 (by omega)
  have zu3 := u3.1
  have bx := ((u3).2 _ (by omega)).trans bx
  have bq := b3
  rw [over_all (by rfl)] at bq
  refine KL.nil (KQ.seq (KC.seq (KC.sr (KL.run 1 rfl (KL.ld rfl (cell_of bx rfl) ?_)))))
  refine KL.c rfl K122 (Form_k _) ?_
  rintro _ _ ⟨rfl, rfl⟩
  rw [hf]
  refine KL.nil (KQ.seq (KC.block (KC.sr (KL.e0 rfl (by decide) (KL.fin 1 rfl (KQ.seq (KC.condF rfl (KC.seq (KC.sr (KL.e1 rfl (by decide) (KL.fin 1 rfl ?_)))))))))))
  refine KQ.seq (KC.condT rfl (KC.skip (KQ.seq (KC.condT rfl (KC.region ?_)))))
  refine KL.q (R.indexAddrArr (j := 0) rfl U211 sz4 rfl rfl rfl (by omega)) rfl ?_
  refine KL.opS (S.store rfl sz4 rfl rfl rfl rfl bq (by simp)) rfl rfl ?_
  rintro H4 ⟨u4, b4⟩
  have o0 := o0.upd u4 (by omega)
  have zu4 := u4.1
  have bx := ((u4).2 _ (by omega)).trans bx
  have bq := b4
  refine KL.nil (KQ.normBlock (KQ.sr ?_))
  refine KL.q (R.indexAddrArr (j := 0) rfl U211 sz4 rfl rfl rfl (by omega)) rfl ?_
  refine KL.ld rfl (cell_of bq rfl) (KL.run 6 rfl ?_)
  refine KL.q (R.indexAddrArr (j := 1) rfl U211 sz4 rfl rfl rfl (by omega)) rfl ?_
  refine KL.ld rfl (cell_of bq rfl) (KL.run 2 rfl (KL.ld rfl (cell_of bx rfl) (KL.run 4 rfl ?_)))
  refine KL.cq 70 rfl ?_ ?_
  · intro hg70
    refine KL.q (R.indexAddrArr (j := 2) rfl U211 sz4 rfl rfl rfl (by omega)) rfl ?_
    refine KL.ld rfl (cell_of bq rfl) (KL.run 2 rfl (KL.ld rfl (cell_of bx rfl) (KL.run 4 rfl ?_)))
    refine KL.cq 79 rfl ?_ ?_
    · intro hg79
      refine KL.q (R.indexAddrArr (j := 3) rfl U211 sz4 rfl rfl rfl (by omega)) rfl ?_
      refine KL.ld rfl (cell_of bq rfl) (KL.run 2 rfl (KL.ld rfl (cell_of bx rfl) (KL.q (R.lenS rfl U24 rfl hs) rfl (KL.fin 4 rfl (KQ.seq (KC.ret (KQ.ofRet (KQ.fin1 V117 rfl ?_))))))))
      (exact ⟨⟨_, rfl, fun h => (Isp.may_iff hx hll (fun y hy => hs0.rng y hy)).2 ⟨hk, by rw [hf]; unfold Isp.mayC; have := of_decide_eq_true h; omega⟩, fun h => by have k2 := ((Isp.may_iff hx hll (fun y hy => hs0.rng y hy)).1 h).2; rw [hf] at k2; unfold Isp.mayC at k2; exact decide_eq_true (by omega)⟩, o0⟩)
    intro hg79
    refine KL.fin 10 rfl (KQ.seq (KC.ret (KQ.ofRet (KQ.fin1 V117 rfl ?_))))
    (exact ⟨⟨false, rfl, fun h => absurd h (by decide), fun h => absurd ((Isp.may_iff hx hll (fun y hy => hs0.rng y hy)).1 h) (fun ⟨k1, k2⟩ => by rw [hf] at k2; unfold Isp.mayC at k2; omega)⟩, o0⟩)
  intro hg70
  refine KL.fin 19 rfl (KQ.seq (KC.ret (KQ.ofRet (KQ.fin1 V117 rfl ?_))))
  (exact ⟨⟨false, rfl, fun h => absurd h (by decide), fun h => absurd ((Isp.may_iff hx hll (fun y hy => hs0.rng y hy)).1 h) (fun ⟨k1, k2⟩ => by rw [hf] at k2; unfold Isp.mayC at k2; omega)⟩, o0⟩)
theorem may3 {H : Heap} {x : Ins} {vl : Value} (hx : InsR x) (hll : x.l.length < 4294967296) (hs : Sl 1 (EInt .u32) H vl x.l) (hk : Opc.known x.op = true) (hf : Opc.form x.op = 3) : Ct Tryz.prog 117 [insV x vl] H (fun u H' => (∃ b, u = .bool b ∧ (b = true ↔ Isp.May x)) ∧ Old H H') := by
  refine Ct.mk Tryz.func117 rfl Tryz.ntmps117 rfl ?_
  intro W0 hW0
  have o0 : Old H H := Old.refl H
  have hs0 := hs
  unfold insV
  refine KC.sr ?_
  refine KL.m (M.box rfl rfl rfl) rfl ?_
  rintro _ H1 ⟨rfl, n1⟩
  have z1 := n1.2.1
  have o0 := o0.trans n1.1
  have hs := hs.old n1.1
  have b1 := n1.2.2
  have bx := b1
  refine KL.fin 1 rfl (KQ.seq (KC.seq (KC.sr (KL.run 1 rfl (KL.ld rfl (cell_of bx rfl) ?_)))))
  refine KL.c rfl K121 (Known_k _) ?_
  rintro _ _ ⟨rfl, rfl⟩
  refine KL.fin 1 rfl (KQ.seq ?_)
  refine KC.condIs false rfl (by rw [hk]; rfl) ?_
  refine KC.skip (KQ.sr (KL.q (R.buildArr (cs := #[(.bool false), (.bool false), (.bool false), (.bool false)]) rfl U211 zr211 sz4 rfl (by kernel_rfl)) rfl ?_))
  refine KL.m (M.alloc rfl zr211 rfl) rfl ?_
  rintro _ H2 ⟨rfl, n2⟩
  have z2 := n2.2.1
  have o0 := o0.trans n2.1
  have hs := hs.old n2.1
  have bx := (n2.1).blk bx
  have b2 := n2.2.2
  have bq := b2
  refine KL.opS (S.storeAgg rfl sz211 rfl rfl (rfl) (by intro u hu; simp only [List.mem_cons, List.not_mem_nil, or_false] at hu; rcases hu with rfl | rfl | rfl | rfl <;> rfl) bq (by simp)) rfl rfl ?_
  rintro H3 ⟨u3, b3⟩
  have o0 := o0.upd u3 (by omega)
  have zu3 := u3.1
  have bx := ((u3).2 _ (by omega)).trans bx
  have bq := b3
  rw [over_all (by rfl)] at bq
  refine KL.nil (KQ.seq (KC.seq (KC.sr (KL.run 1 rfl (KL.ld rfl (cell_of bx rfl) ?_)))))
  refine KL.c rfl K122 (Form_k _) ?_
  rintro _ _ ⟨rfl, rfl⟩
  rw [hf]
  refine KL.nil (KQ.seq (KC.block (KC.sr (KL.e0 rfl (by decide) (KL.fin 1 rfl (KQ.seq (KC.condF rfl (KC.seq (KC.sr (KL.e0 rfl (by decide) (KL.fin 1 rfl ?_)))))))))))
  refine KQ.seq (KC.condF rfl (KC.sr (KL.e0 rfl (by decide) (KL.fin 1 rfl (KQ.seq (KC.condF rfl (KC.region (KL.e0 rfl (by decide) (KL.fin 1 rfl (KQ.seq (KC.condF rfl (KC.seq ?_))))))))))))
  refine KC.region (KL.e1 rfl (by decide) (KL.fin 1 rfl (KQ.seq (KC.condT rfl (KC.region ?_)))))
  refine KL.q (R.indexAddrArr (j := 0) rfl U211 sz4 rfl rfl rfl (by omega)) rfl ?_
  refine KL.opS (S.store rfl sz4 rfl rfl rfl rfl bq (by simp)) rfl rfl ?_
  rintro H4 ⟨u4, b4⟩
  have o0 := o0.upd u4 (by omega)
  have zu4 := u4.1
  have bx := ((u4).2 _ (by omega)).trans bx
  have bq := b4
  refine KL.q (R.indexAddrArr (j := 3) rfl U211 sz4 rfl rfl rfl (by omega)) rfl ?_
  refine KL.opS (S.store rfl sz4 rfl rfl rfl rfl bq (by simp)) rfl rfl ?_
  rintro H5 ⟨u5, b5⟩
  try dsimp only at u5
  try dsimp only at b5
  have o0 := o0.upd u5 (by omega)
  have zu5 := u5.1
  have bx := ((u5).2 _ (by omega)).trans bx
  have bq := b5
  refine KL.nil (KQ.normBlock (KQ.sr ?_))
  refine KL.q (R.indexAddrArr (j := 0) rfl U211 sz4 rfl rfl rfl (by omega)) rfl ?_
  refine KL.ld rfl (cell_of bq rfl) (KL.run 6 rfl ?_)
  refine KL.q (R.indexAddrArr (j := 1) rfl U211 sz4 rfl rfl rfl (by omega)) rfl ?_
  refine KL.ld rfl (cell_of bq rfl) (KL.run 2 rfl (KL.ld rfl (cell_of bx rfl) (KL.run 4 rfl ?_)))
  refine KL.cq 70 rfl ?_ ?_
  · intro hg70
    refine KL.q (R.indexAddrArr (j := 2) rfl U211 sz4 rfl rfl rfl (by omega)) rfl ?_
    refine KL.ld rfl (cell_of bq rfl) (KL.run 2 rfl (KL.ld rfl (cell_of bx rfl) (KL.run 4 rfl ?_)))
    refine KL.cq 79 rfl ?_ ?_
    · intro hg79
      refine KL.q (R.indexAddrArr (j := 3) rfl U211 sz4 rfl rfl rfl (by omega)) rfl ?_
      refine KL.ld rfl (cell_of bq rfl) (KL.fin 8 rfl (KQ.seq (KC.ret (KQ.ofRet (KQ.fin1 V117 rfl ?_)))))
      (exact ⟨⟨true, rfl, fun _ => (Isp.may_iff hx hll (fun y hy => hs0.rng y hy)).2 ⟨hk, by rw [hf]; unfold Isp.mayC; omega⟩, fun _ => rfl⟩, o0⟩)
    intro hg79
    refine KL.fin 10 rfl (KQ.seq (KC.ret (KQ.ofRet (KQ.fin1 V117 rfl ?_))))
    (exact ⟨⟨false, rfl, fun h => absurd h (by decide), fun h => absurd ((Isp.may_iff hx hll (fun y hy => hs0.rng y hy)).1 h) (fun ⟨k1, k2⟩ => by rw [hf] at k2; unfold Isp.mayC at k2; omega)⟩, o0⟩)
  intro hg70
  refine KL.fin 19 rfl (KQ.seq (KC.ret (KQ.ofRet (KQ.fin1 V117 rfl ?_))))
  (exact ⟨⟨false, rfl, fun h => absurd h (by decide), fun h => absurd ((Isp.may_iff hx hll (fun y hy => hs0.rng y hy)).1 h) (fun ⟨k1, k2⟩ => by rw [hf] at k2; unfold Isp.mayC at k2; omega)⟩, o0⟩)
theorem may4 {H : Heap} {x : Ins} {vl : Value} (hx : InsR x) (hll : x.l.length < 4294967296) (hs : Sl 1 (EInt .u32) H vl x.l) (hk : Opc.known x.op = true) (hf : Opc.form x.op = 4) : Ct Tryz.prog 117 [insV x vl] H (fun u H' => (∃ b, u = .bool b ∧ (b = true ↔ Isp.May x)) ∧ Old H H') := by
  refine Ct.mk Tryz.func117 rfl Tryz.ntmps117 rfl ?_
  intro W0 hW0
  have o0 : Old H H := Old.refl H
  have hs0 := hs
  unfold insV
  refine KC.sr ?_
  refine KL.m (M.box rfl rfl rfl) rfl ?_
  rintro _ H1 ⟨rfl, n1⟩
  have z1 := n1.2.1
  have o0 := o0.trans n1.1
  have hs := hs.old n1.1
  have b1 := n1.2.2
  have bx := b1
  refine KL.fin 1 rfl (KQ.seq (KC.seq (KC.sr (KL.run 1 rfl (KL.ld rfl (cell_of bx rfl) ?_)))))
  refine KL.c rfl K121 (Known_k _) ?_
  rintro _ _ ⟨rfl, rfl⟩
  refine KL.fin 1 rfl (KQ.seq ?_)
  refine KC.condIs false rfl (by rw [hk]; rfl) ?_
  refine KC.skip (KQ.sr (KL.q (R.buildArr (cs := #[(.bool false), (.bool false), (.bool false), (.bool false)]) rfl U211 zr211 sz4 rfl (by kernel_rfl)) rfl ?_))
  refine KL.m (M.alloc rfl zr211 rfl) rfl ?_
  rintro _ H2 ⟨rfl, n2⟩
  have z2 := n2.2.1
  have o0 := o0.trans n2.1
  have hs := hs.old n2.1
  have bx := (n2.1).blk bx
  have b2 := n2.2.2
  have bq := b2
  refine KL.opS (S.storeAgg rfl sz211 rfl rfl (rfl) (by intro u hu; simp only [List.mem_cons, List.not_mem_nil, or_false] at hu; rcases hu with rfl | rfl | rfl | rfl <;> rfl) bq (by simp)) rfl rfl ?_
  rintro H3 ⟨u3, b3⟩
  have o0 := o0.upd u3 (by omega)
  have zu3 := u3.1
  have bx := ((u3).2 _ (by omega)).trans bx
  have bq := b3
  rw [over_all (by rfl)] at bq
  refine KL.nil (KQ.seq (KC.seq (KC.sr (KL.run 1 rfl (KL.ld rfl (cell_of bx rfl) ?_)))))
  refine KL.c rfl K122 (Form_k _) ?_
  rintro _ _ ⟨rfl, rfl⟩
  rw [hf]
  refine KL.nil (KQ.seq (KC.block (KC.sr (KL.e0 rfl (by decide) (KL.fin 1 rfl (KQ.seq (KC.condF rfl (KC.seq (KC.sr (KL.e0 rfl (by decide) (KL.fin 1 rfl ?_)))))))))))
  refine KQ.seq (KC.condF rfl (KC.sr (KL.e1 rfl (by decide) (KL.fin 1 rfl (KQ.seq (KC.condT rfl (KC.skip (KQ.seq (KC.condT rfl (KC.region ?_))))))))))
  refine KL.q (R.indexAddrArr (j := 0) rfl U211 sz4 rfl rfl rfl (by omega)) rfl ?_
  refine KL.opS (S.store rfl sz4 rfl rfl rfl rfl bq (by simp)) rfl rfl ?_
  rintro H4 ⟨u4, b4⟩
  have o0 := o0.upd u4 (by omega)
  have zu4 := u4.1
  have bx := ((u4).2 _ (by omega)).trans bx
  have bq := b4
  refine KL.nil (KQ.normBlock (KQ.sr ?_))
  refine KL.q (R.indexAddrArr (j := 0) rfl U211 sz4 rfl rfl rfl (by omega)) rfl ?_
  refine KL.ld rfl (cell_of bq rfl) (KL.run 6 rfl ?_)
  refine KL.q (R.indexAddrArr (j := 1) rfl U211 sz4 rfl rfl rfl (by omega)) rfl ?_
  refine KL.ld rfl (cell_of bq rfl) (KL.run 2 rfl (KL.ld rfl (cell_of bx rfl) (KL.run 4 rfl ?_)))
  refine KL.cq 70 rfl ?_ ?_
  · intro hg70
    refine KL.q (R.indexAddrArr (j := 2) rfl U211 sz4 rfl rfl rfl (by omega)) rfl ?_
    refine KL.ld rfl (cell_of bq rfl) (KL.run 2 rfl (KL.ld rfl (cell_of bx rfl) (KL.run 4 rfl ?_)))
    refine KL.cq 79 rfl ?_ ?_
    · intro hg79
      refine KL.q (R.indexAddrArr (j := 3) rfl U211 sz4 rfl rfl rfl (by omega)) rfl ?_
      refine KL.ld rfl (cell_of bq rfl) (KL.run 2 rfl (KL.ld rfl (cell_of bx rfl) (KL.q (R.lenS rfl U24 rfl hs) rfl (KL.fin 4 rfl (KQ.seq (KC.ret (KQ.ofRet (KQ.fin1 V117 rfl ?_))))))))
      (exact ⟨⟨_, rfl, fun h => (Isp.may_iff hx hll (fun y hy => hs0.rng y hy)).2 ⟨hk, by rw [hf]; unfold Isp.mayC; have := of_decide_eq_true h; omega⟩, fun h => by have k2 := ((Isp.may_iff hx hll (fun y hy => hs0.rng y hy)).1 h).2; rw [hf] at k2; unfold Isp.mayC at k2; exact decide_eq_true (by omega)⟩, o0⟩)
    intro hg79
    refine KL.fin 10 rfl (KQ.seq (KC.ret (KQ.ofRet (KQ.fin1 V117 rfl ?_))))
    (exact ⟨⟨false, rfl, fun h => absurd h (by decide), fun h => absurd ((Isp.may_iff hx hll (fun y hy => hs0.rng y hy)).1 h) (fun ⟨k1, k2⟩ => by rw [hf] at k2; unfold Isp.mayC at k2; omega)⟩, o0⟩)
  intro hg70
  refine KL.fin 19 rfl (KQ.seq (KC.ret (KQ.ofRet (KQ.fin1 V117 rfl ?_))))
  (exact ⟨⟨false, rfl, fun h => absurd h (by decide), fun h => absurd ((Isp.may_iff hx hll (fun y hy => hs0.rng y hy)).1 h) (fun ⟨k1, k2⟩ => by rw [hf] at k2; unfold Isp.mayC at k2; omega)⟩, o0⟩)
theorem may5 {H : Heap} {x : Ins} {vl : Value} (hx : InsR x) (hll : x.l.length < 4294967296) (hs : Sl 1 (EInt .u32) H vl x.l) (hk : Opc.known x.op = true) (hf : Opc.form x.op = 5) : Ct Tryz.prog 117 [insV x vl] H (fun u H' => (∃ b, u = .bool b ∧ (b = true ↔ Isp.May x)) ∧ Old H H') := by
  refine Ct.mk Tryz.func117 rfl Tryz.ntmps117 rfl ?_
  intro W0 hW0
  have o0 : Old H H := Old.refl H
  have hs0 := hs
  unfold insV
  refine KC.sr ?_
  refine KL.m (M.box rfl rfl rfl) rfl ?_
  rintro _ H1 ⟨rfl, n1⟩
  have z1 := n1.2.1
  have o0 := o0.trans n1.1
  have hs := hs.old n1.1
  have b1 := n1.2.2
  have bx := b1
  refine KL.fin 1 rfl (KQ.seq (KC.seq (KC.sr (KL.run 1 rfl (KL.ld rfl (cell_of bx rfl) ?_)))))
  refine KL.c rfl K121 (Known_k _) ?_
  rintro _ _ ⟨rfl, rfl⟩
  refine KL.fin 1 rfl (KQ.seq ?_)
  refine KC.condIs false rfl (by rw [hk]; rfl) ?_
  refine KC.skip (KQ.sr (KL.q (R.buildArr (cs := #[(.bool false), (.bool false), (.bool false), (.bool false)]) rfl U211 zr211 sz4 rfl (by kernel_rfl)) rfl ?_))
  refine KL.m (M.alloc rfl zr211 rfl) rfl ?_
  rintro _ H2 ⟨rfl, n2⟩
  have z2 := n2.2.1
  have o0 := o0.trans n2.1
  have hs := hs.old n2.1
  have bx := (n2.1).blk bx
  have b2 := n2.2.2
  have bq := b2
  refine KL.opS (S.storeAgg rfl sz211 rfl rfl (rfl) (by intro u hu; simp only [List.mem_cons, List.not_mem_nil, or_false] at hu; rcases hu with rfl | rfl | rfl | rfl <;> rfl) bq (by simp)) rfl rfl ?_
  rintro H3 ⟨u3, b3⟩
  have o0 := o0.upd u3 (by omega)
  have zu3 := u3.1
  have bx := ((u3).2 _ (by omega)).trans bx
  have bq := b3
  rw [over_all (by rfl)] at bq
  refine KL.nil (KQ.seq (KC.seq (KC.sr (KL.run 1 rfl (KL.ld rfl (cell_of bx rfl) ?_)))))
  refine KL.c rfl K122 (Form_k _) ?_
  rintro _ _ ⟨rfl, rfl⟩
  rw [hf]
  refine KL.nil (KQ.seq (KC.block (KC.sr (KL.e0 rfl (by decide) (KL.fin 1 rfl (KQ.seq (KC.condF rfl (KC.seq (KC.sr (KL.e0 rfl (by decide) (KL.fin 1 rfl ?_)))))))))))
  refine KQ.seq (KC.condF rfl (KC.sr (KL.e0 rfl (by decide) (KL.fin 1 rfl (KQ.seq (KC.condF rfl (KC.region (KL.e1 rfl (by decide) (KL.fin 1 rfl (KQ.seq (KC.condT rfl (KC.region ?_))))))))))))
  refine KL.q (R.indexAddrArr (j := 0) rfl U211 sz4 rfl rfl rfl (by omega)) rfl ?_
  refine KL.opS (S.store rfl sz4 rfl rfl rfl rfl bq (by simp)) rfl rfl ?_
  rintro H4 ⟨u4, b4⟩
  have o0 := o0.upd u4 (by omega)
  have zu4 := u4.1
  have bx := ((u4).2 _ (by omega)).trans bx
  have bq := b4
  refine KL.nil (KQ.normBlock (KQ.sr ?_))
  refine KL.q (R.indexAddrArr (j := 0) rfl U211 sz4 rfl rfl rfl (by omega)) rfl ?_
  refine KL.ld rfl (cell_of bq rfl) (KL.run 6 rfl ?_)
  refine KL.q (R.indexAddrArr (j := 1) rfl U211 sz4 rfl rfl rfl (by omega)) rfl ?_
  refine KL.ld rfl (cell_of bq rfl) (KL.run 2 rfl (KL.ld rfl (cell_of bx rfl) (KL.run 4 rfl ?_)))
  refine KL.cq 70 rfl ?_ ?_
  · intro hg70
    refine KL.q (R.indexAddrArr (j := 2) rfl U211 sz4 rfl rfl rfl (by omega)) rfl ?_
    refine KL.ld rfl (cell_of bq rfl) (KL.run 2 rfl (KL.ld rfl (cell_of bx rfl) (KL.run 4 rfl ?_)))
    refine KL.cq 79 rfl ?_ ?_
    · intro hg79
      refine KL.q (R.indexAddrArr (j := 3) rfl U211 sz4 rfl rfl rfl (by omega)) rfl ?_
      refine KL.ld rfl (cell_of bq rfl) (KL.run 2 rfl (KL.ld rfl (cell_of bx rfl) (KL.q (R.lenS rfl U24 rfl hs) rfl (KL.fin 4 rfl (KQ.seq (KC.ret (KQ.ofRet (KQ.fin1 V117 rfl ?_))))))))
      (exact ⟨⟨_, rfl, fun h => (Isp.may_iff hx hll (fun y hy => hs0.rng y hy)).2 ⟨hk, by rw [hf]; unfold Isp.mayC; have := of_decide_eq_true h; omega⟩, fun h => by have k2 := ((Isp.may_iff hx hll (fun y hy => hs0.rng y hy)).1 h).2; rw [hf] at k2; unfold Isp.mayC at k2; exact decide_eq_true (by omega)⟩, o0⟩)
    intro hg79
    refine KL.fin 10 rfl (KQ.seq (KC.ret (KQ.ofRet (KQ.fin1 V117 rfl ?_))))
    (exact ⟨⟨false, rfl, fun h => absurd h (by decide), fun h => absurd ((Isp.may_iff hx hll (fun y hy => hs0.rng y hy)).1 h) (fun ⟨k1, k2⟩ => by rw [hf] at k2; unfold Isp.mayC at k2; omega)⟩, o0⟩)
  intro hg70
  refine KL.fin 19 rfl (KQ.seq (KC.ret (KQ.ofRet (KQ.fin1 V117 rfl ?_))))
  (exact ⟨⟨false, rfl, fun h => absurd h (by decide), fun h => absurd ((Isp.may_iff hx hll (fun y hy => hs0.rng y hy)).1 h) (fun ⟨k1, k2⟩ => by rw [hf] at k2; unfold Isp.mayC at k2; omega)⟩, o0⟩)
theorem may6 {H : Heap} {x : Ins} {vl : Value} (hx : InsR x) (hll : x.l.length < 4294967296) (hs : Sl 1 (EInt .u32) H vl x.l) (hk : Opc.known x.op = true) (hf : Opc.form x.op = 6) : Ct Tryz.prog 117 [insV x vl] H (fun u H' => (∃ b, u = .bool b ∧ (b = true ↔ Isp.May x)) ∧ Old H H') := by
  refine Ct.mk Tryz.func117 rfl Tryz.ntmps117 rfl ?_
  intro W0 hW0
  have o0 : Old H H := Old.refl H
  have hs0 := hs
  unfold insV
  refine KC.sr ?_
  refine KL.m (M.box rfl rfl rfl) rfl ?_
  rintro _ H1 ⟨rfl, n1⟩
  have z1 := n1.2.1
  have o0 := o0.trans n1.1
  have hs := hs.old n1.1
  have b1 := n1.2.2
  have bx := b1
  refine KL.fin 1 rfl (KQ.seq (KC.seq (KC.sr (KL.run 1 rfl (KL.ld rfl (cell_of bx rfl) ?_)))))
  refine KL.c rfl K121 (Known_k _) ?_
  rintro _ _ ⟨rfl, rfl⟩
  refine KL.fin 1 rfl (KQ.seq ?_)
  refine KC.condIs false rfl (by rw [hk]; rfl) ?_
  refine KC.skip (KQ.sr (KL.q (R.buildArr (cs := #[(.bool false), (.bool false), (.bool false), (.bool false)]) rfl U211 zr211 sz4 rfl (by kernel_rfl)) rfl ?_))
  refine KL.m (M.alloc rfl zr211 rfl) rfl ?_
  rintro _ H2 ⟨rfl, n2⟩
  have z2 := n2.2.1
  have o0 := o0.trans n2.1
  have hs := hs.old n2.1
  have bx := (n2.1).blk bx
  have b2 := n2.2.2
  have bq := b2
  refine KL.opS (S.storeAgg rfl sz211 rfl rfl (rfl) (by intro u hu; simp only [List.mem_cons, List.not_mem_nil, or_false] at hu; rcases hu with rfl | rfl | rfl | rfl <;> rfl) bq (by simp)) rfl rfl ?_
  rintro H3 ⟨u3, b3⟩
  have o0 := o0.upd u3 (by omega)
  have zu3 := u3.1
  have bx := ((u3).2 _ (by omega)).trans bx
  have bq := b3
  rw [over_all (by rfl)] at bq
  refine KL.nil (KQ.seq (KC.seq (KC.sr (KL.run 1 rfl (KL.ld rfl (cell_of bx rfl) ?_)))))
  refine KL.c rfl K122 (Form_k _) ?_
  rintro _ _ ⟨rfl, rfl⟩
  rw [hf]
  refine KL.nil (KQ.seq (KC.block (KC.sr (KL.e0 rfl (by decide) (KL.fin 1 rfl (KQ.seq (KC.condF rfl (KC.seq (KC.sr (KL.e0 rfl (by decide) (KL.fin 1 rfl ?_)))))))))))
  refine KQ.seq (KC.condF rfl (KC.sr (KL.e0 rfl (by decide) (KL.fin 1 rfl (KQ.seq (KC.condF rfl (KC.region (KL.e0 rfl (by decide) (KL.fin 1 rfl (KQ.seq (KC.condF rfl (KC.seq ?_))))))))))))
  refine KC.region (KL.e0 rfl (by decide) (KL.fin 1 rfl (KQ.seq (KC.condF rfl (KC.sr (KL.e1 rfl (by decide) (KL.fin 1 rfl (KQ.seq (KC.condT rfl (KC.region ?_))))))))))
  refine KL.q (R.indexAddrArr (j := 0) rfl U211 sz4 rfl rfl rfl (by omega)) rfl ?_
  refine KL.opS (S.store rfl sz4 rfl rfl rfl rfl bq (by simp)) rfl rfl ?_
  rintro H4 ⟨u4, b4⟩
  have o0 := o0.upd u4 (by omega)
  have zu4 := u4.1
  have bx := ((u4).2 _ (by omega)).trans bx
  have bq := b4
  refine KL.q (R.indexAddrArr (j := 1) rfl U211 sz4 rfl rfl rfl (by omega)) rfl ?_
  refine KL.opS (S.store rfl sz4 rfl rfl rfl rfl bq (by simp)) rfl rfl ?_
  rintro H5 ⟨u5, b5⟩
  try dsimp only at u5
  try dsimp only at b5
  have o0 := o0.upd u5 (by omega)
  have zu5 := u5.1
  have bx := ((u5).2 _ (by omega)).trans bx
  have bq := b5
  refine KL.nil (KQ.normBlock (KQ.sr ?_))
  refine KL.q (R.indexAddrArr (j := 0) rfl U211 sz4 rfl rfl rfl (by omega)) rfl ?_
  refine KL.ld rfl (cell_of bq rfl) (KL.run 6 rfl ?_)
  refine KL.q (R.indexAddrArr (j := 1) rfl U211 sz4 rfl rfl rfl (by omega)) rfl ?_
  refine KL.ld rfl (cell_of bq rfl) (KL.run 7 rfl ?_)
  refine KL.q (R.indexAddrArr (j := 2) rfl U211 sz4 rfl rfl rfl (by omega)) rfl ?_
  refine KL.ld rfl (cell_of bq rfl) (KL.run 2 rfl (KL.ld rfl (cell_of bx rfl) (KL.run 4 rfl ?_)))
  refine KL.cq 79 rfl ?_ ?_
  · intro hg79
    refine KL.q (R.indexAddrArr (j := 3) rfl U211 sz4 rfl rfl rfl (by omega)) rfl ?_
    refine KL.ld rfl (cell_of bq rfl) (KL.run 2 rfl (KL.ld rfl (cell_of bx rfl) (KL.q (R.lenS rfl U24 rfl hs) rfl (KL.fin 4 rfl (KQ.seq (KC.ret (KQ.ofRet (KQ.fin1 V117 rfl ?_))))))))
    (exact ⟨⟨_, rfl, fun h => (Isp.may_iff hx hll (fun y hy => hs0.rng y hy)).2 ⟨hk, by rw [hf]; unfold Isp.mayC; have := of_decide_eq_true h; omega⟩, fun h => by have k2 := ((Isp.may_iff hx hll (fun y hy => hs0.rng y hy)).1 h).2; rw [hf] at k2; unfold Isp.mayC at k2; exact decide_eq_true (by omega)⟩, o0⟩)
  intro hg79
  refine KL.fin 10 rfl (KQ.seq (KC.ret (KQ.ofRet (KQ.fin1 V117 rfl ?_))))
  (exact ⟨⟨false, rfl, fun h => absurd h (by decide), fun h => absurd ((Isp.may_iff hx hll (fun y hy => hs0.rng y hy)).1 h) (fun ⟨k1, k2⟩ => by rw [hf] at k2; unfold Isp.mayC at k2; omega)⟩, o0⟩)
theorem may7 {H : Heap} {x : Ins} {vl : Value} (hx : InsR x) (hll : x.l.length < 4294967296) (hs : Sl 1 (EInt .u32) H vl x.l) (hk : Opc.known x.op = true) (hf : Opc.form x.op = 7) : Ct Tryz.prog 117 [insV x vl] H (fun u H' => (∃ b, u = .bool b ∧ (b = true ↔ Isp.May x)) ∧ Old H H') := by
  refine Ct.mk Tryz.func117 rfl Tryz.ntmps117 rfl ?_
  intro W0 hW0
  have o0 : Old H H := Old.refl H
  have hs0 := hs
  unfold insV
  refine KC.sr ?_
  refine KL.m (M.box rfl rfl rfl) rfl ?_
  rintro _ H1 ⟨rfl, n1⟩
  have z1 := n1.2.1
  have o0 := o0.trans n1.1
  have hs := hs.old n1.1
  have b1 := n1.2.2
  have bx := b1
  refine KL.fin 1 rfl (KQ.seq (KC.seq (KC.sr (KL.run 1 rfl (KL.ld rfl (cell_of bx rfl) ?_)))))
  refine KL.c rfl K121 (Known_k _) ?_
  rintro _ _ ⟨rfl, rfl⟩
  refine KL.fin 1 rfl (KQ.seq ?_)
  refine KC.condIs false rfl (by rw [hk]; rfl) ?_
  refine KC.skip (KQ.sr (KL.q (R.buildArr (cs := #[(.bool false), (.bool false), (.bool false), (.bool false)]) rfl U211 zr211 sz4 rfl (by kernel_rfl)) rfl ?_))
  refine KL.m (M.alloc rfl zr211 rfl) rfl ?_
  rintro _ H2 ⟨rfl, n2⟩
  have z2 := n2.2.1
  have o0 := o0.trans n2.1
  have hs := hs.old n2.1
  have bx := (n2.1).blk bx
  have b2 := n2.2.2
  have bq := b2
  refine KL.opS (S.storeAgg rfl sz211 rfl rfl (rfl) (by intro u hu; simp only [List.mem_cons, List.not_mem_nil, or_false] at hu; rcases hu with rfl | rfl | rfl | rfl <;> rfl) bq (by simp)) rfl rfl ?_
  rintro H3 ⟨u3, b3⟩
  have o0 := o0.upd u3 (by omega)
  have zu3 := u3.1
  have bx := ((u3).2 _ (by omega)).trans bx
  have bq := b3
  rw [over_all (by rfl)] at bq
  refine KL.nil (KQ.seq (KC.seq (KC.sr (KL.run 1 rfl (KL.ld rfl (cell_of bx rfl) ?_)))))
  refine KL.c rfl K122 (Form_k _) ?_
  rintro _ _ ⟨rfl, rfl⟩
  rw [hf]
  refine KL.nil (KQ.seq (KC.block (KC.sr (KL.e0 rfl (by decide) (KL.fin 1 rfl (KQ.seq (KC.condF rfl (KC.seq (KC.sr (KL.e0 rfl (by decide) (KL.fin 1 rfl ?_)))))))))))
  refine KQ.seq (KC.condF rfl (KC.sr (KL.e0 rfl (by decide) (KL.fin 1 rfl (KQ.seq (KC.condF rfl (KC.region (KL.e0 rfl (by decide) (KL.fin 1 rfl (KQ.seq (KC.condF rfl (KC.seq ?_))))))))))))
  refine KC.region (KL.e0 rfl (by decide) (KL.fin 1 rfl (KQ.seq (KC.condF rfl (KC.sr (KL.e0 rfl (by decide) (KL.fin 1 rfl (KQ.seq (KC.condF rfl (KC.sr (KL.e0 rfl (by decide) ?_)))))))))))
  refine KL.fin 1 rfl (KQ.seq (KC.condF rfl (KC.sr (KL.e0 rfl (by decide) (KL.fin 1 rfl (KQ.seq (KC.condF rfl (KC.skip (KQ.normBlock (KQ.sr ?_))))))))))
  refine KL.q (R.indexAddrArr (j := 0) rfl U211 sz4 rfl rfl rfl (by omega)) rfl ?_
  refine KL.ld rfl (cell_of bq rfl) (KL.run 2 rfl (KL.ld rfl (cell_of bx rfl) (KL.run 3 rfl ?_)))
  refine KL.cq 61 rfl ?_ ?_
  · intro hg61
    refine KL.q (R.indexAddrArr (j := 1) rfl U211 sz4 rfl rfl rfl (by omega)) rfl ?_
    refine KL.ld rfl (cell_of bq rfl) (KL.run 2 rfl (KL.ld rfl (cell_of bx rfl) (KL.run 4 rfl ?_)))
    refine KL.cq 70 rfl ?_ ?_
    · intro hg70
      refine KL.q (R.indexAddrArr (j := 2) rfl U211 sz4 rfl rfl rfl (by omega)) rfl ?_
      refine KL.ld rfl (cell_of bq rfl) (KL.run 2 rfl (KL.ld rfl (cell_of bx rfl) (KL.run 4 rfl ?_)))
      refine KL.cq 79 rfl ?_ ?_
      · intro hg79
        refine KL.q (R.indexAddrArr (j := 3) rfl U211 sz4 rfl rfl rfl (by omega)) rfl ?_
        refine KL.ld rfl (cell_of bq rfl) (KL.run 2 rfl (KL.ld rfl (cell_of bx rfl) (KL.q (R.lenS rfl U24 rfl hs) rfl (KL.fin 4 rfl (KQ.seq (KC.ret (KQ.ofRet (KQ.fin1 V117 rfl ?_))))))))
        (exact ⟨⟨_, rfl, fun h => (Isp.may_iff hx hll (fun y hy => hs0.rng y hy)).2 ⟨hk, by rw [hf]; unfold Isp.mayC; have := of_decide_eq_true h; omega⟩, fun h => by have k2 := ((Isp.may_iff hx hll (fun y hy => hs0.rng y hy)).1 h).2; rw [hf] at k2; unfold Isp.mayC at k2; exact decide_eq_true (by omega)⟩, o0⟩)
      intro hg79
      refine KL.fin 10 rfl (KQ.seq (KC.ret (KQ.ofRet (KQ.fin1 V117 rfl ?_))))
      (exact ⟨⟨false, rfl, fun h => absurd h (by decide), fun h => absurd ((Isp.may_iff hx hll (fun y hy => hs0.rng y hy)).1 h) (fun ⟨k1, k2⟩ => by rw [hf] at k2; unfold Isp.mayC at k2; omega)⟩, o0⟩)
    intro hg70
    refine KL.fin 19 rfl (KQ.seq (KC.ret (KQ.ofRet (KQ.fin1 V117 rfl ?_))))
    (exact ⟨⟨false, rfl, fun h => absurd h (by decide), fun h => absurd ((Isp.may_iff hx hll (fun y hy => hs0.rng y hy)).1 h) (fun ⟨k1, k2⟩ => by rw [hf] at k2; unfold Isp.mayC at k2; omega)⟩, o0⟩)
  intro hg61
  refine KL.fin 28 rfl (KQ.seq (KC.ret (KQ.ofRet (KQ.fin1 V117 rfl ?_))))
  (exact ⟨⟨false, rfl, fun h => absurd h (by decide), fun h => absurd ((Isp.may_iff hx hll (fun y hy => hs0.rng y hy)).1 h) (fun ⟨k1, k2⟩ => by rw [hf] at k2; unfold Isp.mayC at k2; omega)⟩, o0⟩)
theorem may8 {H : Heap} {x : Ins} {vl : Value} (hx : InsR x) (hll : x.l.length < 4294967296) (hs : Sl 1 (EInt .u32) H vl x.l) (hk : Opc.known x.op = true) (hf : Opc.form x.op = 8) : Ct Tryz.prog 117 [insV x vl] H (fun u H' => (∃ b, u = .bool b ∧ (b = true ↔ Isp.May x)) ∧ Old H H') := by
  refine Ct.mk Tryz.func117 rfl Tryz.ntmps117 rfl ?_
  intro W0 hW0
  have o0 : Old H H := Old.refl H
  have hs0 := hs
  unfold insV
  refine KC.sr ?_
  refine KL.m (M.box rfl rfl rfl) rfl ?_
  rintro _ H1 ⟨rfl, n1⟩
  have z1 := n1.2.1
  have o0 := o0.trans n1.1
  have hs := hs.old n1.1
  have b1 := n1.2.2
  have bx := b1
  refine KL.fin 1 rfl (KQ.seq (KC.seq (KC.sr (KL.run 1 rfl (KL.ld rfl (cell_of bx rfl) ?_)))))
  refine KL.c rfl K121 (Known_k _) ?_
  rintro _ _ ⟨rfl, rfl⟩
  refine KL.fin 1 rfl (KQ.seq ?_)
  refine KC.condIs false rfl (by rw [hk]; rfl) ?_
  refine KC.skip (KQ.sr (KL.q (R.buildArr (cs := #[(.bool false), (.bool false), (.bool false), (.bool false)]) rfl U211 zr211 sz4 rfl (by kernel_rfl)) rfl ?_))
  refine KL.m (M.alloc rfl zr211 rfl) rfl ?_
  rintro _ H2 ⟨rfl, n2⟩
  have z2 := n2.2.1
  have o0 := o0.trans n2.1
  have hs := hs.old n2.1
  have bx := (n2.1).blk bx
  have b2 := n2.2.2
  have bq := b2
  refine KL.opS (S.storeAgg rfl sz211 rfl rfl (rfl) (by intro u hu; simp only [List.mem_cons, List.not_mem_nil, or_false] at hu; rcases hu with rfl | rfl | rfl | rfl <;> rfl) bq (by simp)) rfl rfl ?_
  rintro H3 ⟨u3, b3⟩
  have o0 := o0.upd u3 (by omega)
  have zu3 := u3.1
  have bx := ((u3).2 _ (by omega)).trans bx
  have bq := b3
  rw [over_all (by rfl)] at bq
  refine KL.nil (KQ.seq (KC.seq (KC.sr (KL.run 1 rfl (KL.ld rfl (cell_of bx rfl) ?_)))))
  refine KL.c rfl K122 (Form_k _) ?_
  rintro _ _ ⟨rfl, rfl⟩
  rw [hf]
  refine KL.nil (KQ.seq (KC.block (KC.sr (KL.e0 rfl (by decide) (KL.fin 1 rfl (KQ.seq (KC.condF rfl (KC.seq (KC.sr (KL.e0 rfl (by decide) (KL.fin 1 rfl ?_)))))))))))
  refine KQ.seq (KC.condF rfl (KC.sr (KL.e0 rfl (by decide) (KL.fin 1 rfl (KQ.seq (KC.condF rfl (KC.region (KL.e0 rfl (by decide) (KL.fin 1 rfl (KQ.seq (KC.condF rfl (KC.seq ?_))))))))))))
  refine KC.region (KL.e0 rfl (by decide) (KL.fin 1 rfl (KQ.seq (KC.condF rfl (KC.sr (KL.e0 rfl (by decide) (KL.fin 1 rfl (KQ.seq (KC.condF rfl (KC.sr (KL.e1 rfl (by decide) ?_)))))))))))
  refine KL.fin 1 rfl (KQ.seq (KC.condT rfl (KC.seq (KC.sr (KL.run 1 rfl (KL.ld rfl (cell_of bx rfl) (KL.run 1 rfl (KL.ld rfl (cell_of bx rfl) (KL.q (R.convW rfl U2 Tryz.underlying21 rfl) rfl ?_)))))))))
  refine KL.q (R.convI rfl Tryz.underlying21 U2 rfl (by have := inR_wrap .i32 x.c; dsimp only [InR] at this ⊢; omega)) rfl ?_
  refine KL.fin 1 rfl (KQ.seq ?_)
  refine KC.iq rfl ?_ ?_
  · intro hc49
    have h32 : ¬ (-2147483648 ≤ x.c ∧ x.c ≤ 2147483647) := fun h => absurd (wrap32.2 h) (by omega)
    refine KC.sr (KL.fin 1 rfl (KQ.seq (KC.ret (KQ.retThen (KQ.retBlock (KQ.retThen (KQ.ofRet (KQ.fin1 V117 rfl ?_))))))))
    (exact ⟨⟨false, rfl, fun h => absurd h (by decide), fun h => absurd ((Isp.may_iff hx hll (fun y hy => hs0.rng y hy)).1 h) (fun ⟨k1, k2⟩ => by rw [hf] at k2; unfold Isp.mayC at k2; omega)⟩, o0⟩)
  intro hc49
  have h32 : (-2147483648 ≤ x.c ∧ x.c ≤ 2147483647) := wrap32.1 (by omega)
  refine KC.skip (KQ.r ?_)
  refine KL.q (R.indexAddrArr (j := 2) rfl U211 sz4 rfl rfl rfl (by omega)) rfl ?_
  refine KL.opS (S.store rfl sz4 rfl rfl rfl rfl bq (by simp)) rfl rfl ?_
  rintro H4 ⟨u4, b4⟩
  try dsimp only at u4
  try dsimp only at b4
  have o0 := o0.upd u4 (by omega)
  have zu4 := u4.1
  have bx := ((u4).2 _ (by omega)).trans bx
  have bq := b4
  refine KL.nil (KQ.normBlock (KQ.sr ?_))
  refine KL.q (R.indexAddrArr (j := 0) rfl U211 sz4 rfl rfl rfl (by omega)) rfl ?_
  refine KL.ld rfl (cell_of bq rfl) (KL.run 2 rfl (KL.ld rfl (cell_of bx rfl) (KL.run 3 rfl ?_)))
  refine KL.cq 61 rfl ?_ ?_
  · intro hg61
    refine KL.q (R.indexAddrArr (j := 1) rfl U211 sz4 rfl rfl rfl (by omega)) rfl ?_
    refine KL.ld rfl (cell_of bq rfl) (KL.run 2 rfl (KL.ld rfl (cell_of bx rfl) (KL.run 4 rfl ?_)))
    refine KL.cq 70 rfl ?_ ?_
    · intro hg70
      refine KL.q (R.indexAddrArr (j := 2) rfl U211 sz4 rfl rfl rfl (by omega)) rfl ?_
      refine KL.ld rfl (cell_of bq rfl) (KL.run 7 rfl ?_)
      refine KL.q (R.indexAddrArr (j := 3) rfl U211 sz4 rfl rfl rfl (by omega)) rfl ?_
      refine KL.ld rfl (cell_of bq rfl) (KL.run 2 rfl (KL.ld rfl (cell_of bx rfl) (KL.q (R.lenS rfl U24 rfl hs) rfl (KL.fin 4 rfl (KQ.seq (KC.ret (KQ.ofRet (KQ.fin1 V117 rfl ?_))))))))
      (exact ⟨⟨_, rfl, fun h => (Isp.may_iff hx hll (fun y hy => hs0.rng y hy)).2 ⟨hk, by rw [hf]; unfold Isp.mayC; have := of_decide_eq_true h; omega⟩, fun h => by have k2 := ((Isp.may_iff hx hll (fun y hy => hs0.rng y hy)).1 h).2; rw [hf] at k2; unfold Isp.mayC at k2; exact decide_eq_true (by omega)⟩, o0⟩)
    intro hg70
    refine KL.fin 19 rfl (KQ.seq (KC.ret (KQ.ofRet (KQ.fin1 V117 rfl ?_))))
    (exact ⟨⟨false, rfl, fun h => absurd h (by decide), fun h => absurd ((Isp.may_iff hx hll (fun y hy => hs0.rng y hy)).1 h) (fun ⟨k1, k2⟩ => by rw [hf] at k2; unfold Isp.mayC at k2; omega)⟩, o0⟩)
  intro hg61
  refine KL.fin 28 rfl (KQ.seq (KC.ret (KQ.ofRet (KQ.fin1 V117 rfl ?_))))
  (exact ⟨⟨false, rfl, fun h => absurd h (by decide), fun h => absurd ((Isp.may_iff hx hll (fun y hy => hs0.rng y hy)).1 h) (fun ⟨k1, k2⟩ => by rw [hf] at k2; unfold Isp.mayC at k2; omega)⟩, o0⟩)
theorem may9 {H : Heap} {x : Ins} {vl : Value} (hx : InsR x) (hll : x.l.length < 4294967296) (hs : Sl 1 (EInt .u32) H vl x.l) (hk : Opc.known x.op = true) (hf : Opc.form x.op = 9) : Ct Tryz.prog 117 [insV x vl] H (fun u H' => (∃ b, u = .bool b ∧ (b = true ↔ Isp.May x)) ∧ Old H H') := by
  refine Ct.mk Tryz.func117 rfl Tryz.ntmps117 rfl ?_
  intro W0 hW0
  have o0 : Old H H := Old.refl H
  have hs0 := hs
  unfold insV
  refine KC.sr ?_
  refine KL.m (M.box rfl rfl rfl) rfl ?_
  rintro _ H1 ⟨rfl, n1⟩
  have z1 := n1.2.1
  have o0 := o0.trans n1.1
  have hs := hs.old n1.1
  have b1 := n1.2.2
  have bx := b1
  refine KL.fin 1 rfl (KQ.seq (KC.seq (KC.sr (KL.run 1 rfl (KL.ld rfl (cell_of bx rfl) ?_)))))
  refine KL.c rfl K121 (Known_k _) ?_
  rintro _ _ ⟨rfl, rfl⟩
  refine KL.fin 1 rfl (KQ.seq ?_)
  refine KC.condIs false rfl (by rw [hk]; rfl) ?_
  refine KC.skip (KQ.sr (KL.q (R.buildArr (cs := #[(.bool false), (.bool false), (.bool false), (.bool false)]) rfl U211 zr211 sz4 rfl (by kernel_rfl)) rfl ?_))
  refine KL.m (M.alloc rfl zr211 rfl) rfl ?_
  rintro _ H2 ⟨rfl, n2⟩
  have z2 := n2.2.1
  have o0 := o0.trans n2.1
  have hs := hs.old n2.1
  have bx := (n2.1).blk bx
  have b2 := n2.2.2
  have bq := b2
  refine KL.opS (S.storeAgg rfl sz211 rfl rfl (rfl) (by intro u hu; simp only [List.mem_cons, List.not_mem_nil, or_false] at hu; rcases hu with rfl | rfl | rfl | rfl <;> rfl) bq (by simp)) rfl rfl ?_
  rintro H3 ⟨u3, b3⟩
  have o0 := o0.upd u3 (by omega)
  have zu3 := u3.1
  have bx := ((u3).2 _ (by omega)).trans bx
  have bq := b3
  rw [over_all (by rfl)] at bq
  refine KL.nil (KQ.seq (KC.seq (KC.sr (KL.run 1 rfl (KL.ld rfl (cell_of bx rfl) ?_)))))
  refine KL.c rfl K122 (Form_k _) ?_
  rintro _ _ ⟨rfl, rfl⟩
  rw [hf]
  refine KL.nil (KQ.seq (KC.block (KC.sr (KL.e0 rfl (by decide) (KL.fin 1 rfl (KQ.seq (KC.condF rfl (KC.seq (KC.sr (KL.e0 rfl (by decide) (KL.fin 1 rfl ?_)))))))))))
  refine KQ.seq (KC.condF rfl (KC.sr (KL.e0 rfl (by decide) (KL.fin 1 rfl (KQ.seq (KC.condF rfl (KC.region (KL.e0 rfl (by decide) (KL.fin 1 rfl (KQ.seq (KC.condF rfl (KC.seq ?_))))))))))))
  refine KC.region (KL.e0 rfl (by decide) (KL.fin 1 rfl (KQ.seq (KC.condF rfl (KC.sr (KL.e0 rfl (by decide) (KL.fin 1 rfl (KQ.seq (KC.condF rfl (KC.sr (KL.e0 rfl (by decide) ?_)))))))))))
  refine KL.fin 1 rfl (KQ.seq (KC.condF rfl (KC.sr (KL.e1 rfl (by decide) (KL.fin 1 rfl (KQ.seq (KC.condT rfl (KC.region ?_))))))))
  refine KL.q (R.indexAddrArr (j := 2) rfl U211 sz4 rfl rfl rfl (by omega)) rfl ?_
  refine KL.opS (S.store rfl sz4 rfl rfl rfl rfl bq (by simp)) rfl rfl ?_
  rintro H4 ⟨u4, b4⟩
  try dsimp only at u4
  try dsimp only at b4
  have o0 := o0.upd u4 (by omega)
  have zu4 := u4.1
  have bx := ((u4).2 _ (by omega)).trans bx
  have bq := b4
  refine KL.nil (KQ.normBlock (KQ.sr ?_))
  refine KL.q (R.indexAddrArr (j := 0) rfl U211 sz4 rfl rfl rfl (by omega)) rfl ?_
  refine KL.ld rfl (cell_of bq rfl) (KL.run 2 rfl (KL.ld rfl (cell_of bx rfl) (KL.run 3 rfl ?_)))
  refine KL.cq 61 rfl ?_ ?_
  · intro hg61
    refine KL.q (R.indexAddrArr (j := 1) rfl U211 sz4 rfl rfl rfl (by omega)) rfl ?_
    refine KL.ld rfl (cell_of bq rfl) (KL.run 2 rfl (KL.ld rfl (cell_of bx rfl) (KL.run 4 rfl ?_)))
    refine KL.cq 70 rfl ?_ ?_
    · intro hg70
      refine KL.q (R.indexAddrArr (j := 2) rfl U211 sz4 rfl rfl rfl (by omega)) rfl ?_
      refine KL.ld rfl (cell_of bq rfl) (KL.run 7 rfl ?_)
      refine KL.q (R.indexAddrArr (j := 3) rfl U211 sz4 rfl rfl rfl (by omega)) rfl ?_
      refine KL.ld rfl (cell_of bq rfl) (KL.run 2 rfl (KL.ld rfl (cell_of bx rfl) (KL.q (R.lenS rfl U24 rfl hs) rfl (KL.fin 4 rfl (KQ.seq (KC.ret (KQ.ofRet (KQ.fin1 V117 rfl ?_))))))))
      (exact ⟨⟨_, rfl, fun h => (Isp.may_iff hx hll (fun y hy => hs0.rng y hy)).2 ⟨hk, by rw [hf]; unfold Isp.mayC; have := of_decide_eq_true h; omega⟩, fun h => by have k2 := ((Isp.may_iff hx hll (fun y hy => hs0.rng y hy)).1 h).2; rw [hf] at k2; unfold Isp.mayC at k2; exact decide_eq_true (by omega)⟩, o0⟩)
    intro hg70
    refine KL.fin 19 rfl (KQ.seq (KC.ret (KQ.ofRet (KQ.fin1 V117 rfl ?_))))
    (exact ⟨⟨false, rfl, fun h => absurd h (by decide), fun h => absurd ((Isp.may_iff hx hll (fun y hy => hs0.rng y hy)).1 h) (fun ⟨k1, k2⟩ => by rw [hf] at k2; unfold Isp.mayC at k2; omega)⟩, o0⟩)
  intro hg61
  refine KL.fin 28 rfl (KQ.seq (KC.ret (KQ.ofRet (KQ.fin1 V117 rfl ?_))))
  (exact ⟨⟨false, rfl, fun h => absurd h (by decide), fun h => absurd ((Isp.may_iff hx hll (fun y hy => hs0.rng y hy)).1 h) (fun ⟨k1, k2⟩ => by rw [hf] at k2; unfold Isp.mayC at k2; omega)⟩, o0⟩)
theorem may_any {H : Heap} {x : Ins} {vl : Value} (hx : InsR x) (hll : x.l.length < 4294967296) (hs : Sl 1 (EInt .u32) H vl x.l) : Ct Tryz.prog 117 [insV x vl] H (fun u H' => (∃ b, u = .bool b ∧ (b = true ↔ Isp.May x)) ∧ Old H H') := by
  cases hk : Opc.known x.op with
  | false => exact may_no hx hll hs hk
  | true =>
    have hfr := Isp.form_range hx.1
    have hc : Opc.form x.op = 0 ∨ Opc.form x.op = 1 ∨ Opc.form x.op = 2 ∨ Opc.form x.op = 3 ∨ Opc.form x.op = 4 ∨ Opc.form x.op = 5 ∨ Opc.form x.op = 6 ∨ Opc.form x.op = 7 ∨ Opc.form x.op = 8 ∨ Opc.form x.op = 9 := by omega
    rcases hc with h | h | h | h | h | h | h | h | h | h
    · exact may0 hx hll hs hk h
    · exact may1 hx hll hs hk h
    · exact may2 hx hll hs hk h
    · exact may3 hx hll hs hk h
    · exact may4 hx hll hs hk h
    · exact may5 hx hll hs hk h
    · exact may6 hx hll hs hk h
    · exact may7 hx hll hs hk h
    · exact may8 hx hll hs hk h
    exact may9 hx hll hs hk h
theorem AppU_k {H : Heap} (z : Int) (h : InR .u32 z) : Ct Tryz.prog 33 [.slice none 0 0, .int .u64 z] H (fun u H' => Own 1 (EInt .u8) 5 #[] H.size H' u (Isp.apN false z) ∧ Old H H') :=
  (AppendU_k (.slice none 0 0) [] z (Sl.nil _ _ _) (by simp) (by dsimp only [InR] at h; omega) (by dsimp only [InR] at h; omega)).mono fun v H' h => by rw [List.nil_append] at h; exact h
theorem AppS_k {H : Heap} (z : Int) (h : InR .i64 z) : Ct Tryz.prog 124 [.slice none 0 0, .int .i64 z] H (fun u H' => Own 1 (EInt .u8) 5 #[] H.size H' u (Isp.apN true z) ∧ Old H H') :=
  Ct.fresh (l := [] ++ Leb.ap true 10 z) rfl fun w hw => AppendS_any (.slice none 0 0) [] z w (isBs (l := []) (Sl.nil _ _ _)) (by simp) (by dsimp only [InR] at h; omega) (by dsimp only [InR] at h; omega)
theorem put1_any {H : Heap} {g B : Nat} {v : Value} {l : List Int} (bb : H[g]? = some (.cells [v].toArray 34 (0, 0))) (wo : Own 1 (EInt .u8) 5 #[] B H v l) (hne : v = .slice none 0 0 ∨ vblock v ≠ g) (hB : B ≤ H.size) (hll : l.length ≤ 100000000000) (a : Int) (ha : InR .u32 a) : Ct Tryz.prog 123 [.int .u32 a, .pointer (some ⟨g, 0, none⟩)] H (fun u H' => u = .tuple #[] ∧ ∃ v', H'[g]? = some (.cells [v'].toArray 34 (0, 0)) ∧ Own 1 (EInt .u8) 5 #[] B H' v' (l ++ Isp.apN false a) ∧ (v' = .slice none 0 0 ∨ vblock v' ≠ g) ∧ Fr g v H H' ∧ Nx H v v') := by
  refine Ct.mk Tryz.func123 rfl Tryz.ntmps123 rfl ?_
  intro W0 hW0
  have o0 : OldB 0 H H := OldB.refl _ H
  have wo0 := wo
  have hgl := blk_lt bb
  have hlw := wo.lt
  refine KC.order [0, 1, 2, 3, 4, 5] (clOf [(3, 2), (4, 2), (5, 2)]) (fun j Hc => j = 0 → Hc[g]? = some (.cells [v].toArray 34 (0, 0))) (fun _ _ => False) (by kernel_rfl) (by kernel_rfl) (by kernel_rfl) rfl (fun _ _ => bb) (fun _ _ h => h.elim) ?_
  refine KO.op rfl rfl (fun Hg hg => R.load rfl U34 rfl rfl (cell_of (hg rfl) rfl)) rfl rfl rfl ?_
  refine KO.op rfl rfl (fun Hg hg => R.move rfl rfl) rfl rfl rfl ?_
  refine KO.op rfl rfl (fun Hg hg => R.convI rfl U28 U95 rfl (by dsimp only [InR] at ha ⊢; omega)) rfl rfl rfl ?_
  refine KO.call rfl rfl rfl rfl rfl rfl Tryz.call33 rfl rfl rfl (AppU_k a ha) (fun _ _ hR j _ _ _ => hR.2.blk bb) ?_
  rintro va H1 ⟨wa, ox⟩
  have zc_H1 := (ox).1
  have o0 := o0.trans ((ox).b (by omega))
  have bb := (ox).blk bb
  have wo := wo.old ox
  have hap := wa.sl (emptyOld _) (by omega)
  have hal := apL ha
  have oH : Old H H1 := ox
  have lt2 := wo.lt
  refine KO.opM rfl rfl (M.appendN rfl U34 inf5 rfl (by decide) rfl rfl wo hap (fun _ _ h _ => h) (by omega) (by omega) (by unfold maxLen; omega)) rfl rfl rfl (fun _ _ hR j _ hj2 hj => by subst hj; exact absurd (by decide +kernel) hj2) ?_
  rintro vn H2 ⟨w2, g2, nx2⟩
  try dsimp only at g2 nx2
  have ob2 := g2.oldB wo (by omega)
  have o0 := o0.trans (ob2.mono (by omega))
  have z2 := ob2.1
  have bb := (g2.2 _ (blk_lt bb) (by exact hne.imp id (fun h e => h e.symm))).trans bb
  have wo := w2
  have nxA : Nx H v vn := nx_old oH wo0 nx2
  have hne2 : vn = .slice none 0 0 ∨ vblock vn ≠ g := by
    rcases nxA with e | ⟨e1, e2⟩ | e
    · exact .inl e
    · rw [e2]; exact .inr (hne.resolve_left e1)
    exact .inr (by omega)
  have frA : Fr g v H H2 := ((Fr.ofOld oH).trans (Nx.refl _ _) ((Fr.refl g v _).grown (Nx.refl _ _) g2))
  refine KO.opS rfl rfl (S.store rfl sz34 rfl rfl wo.cells1 wo.one bb (by simp)) rfl rfl (fun _ h j hj1 hj2 hj => by subst hj; exact absurd (by decide +kernel) hj2) ?_
  rintro H3 ⟨u3, b3⟩
  have o0 := o0.trans (OldB.upd u3 (by omega))
  have zu3 := u3.1
  have wo := wo.upd u3 hne2
  have bb := b3
  have fr := frA.upd u3
  refine KO.nil ?_
  refine KQ.fin0 Tryz.results123 ?_
  exact ⟨rfl, vn, bb, wo, hne2, fr, nxA⟩
/-- bytes that are being written: row v, in a box g that holds c; the instruction, in a box gx -/
structure PT (Hb H : Heap) (g gx B : Nat) (vb c v : Value) (x : Ins) (vl : Value) (l : List Int) : Prop where
  bb : H[g]? = some (.cells [c].toArray 34 (0, 0))
  bx : H[gx]? = some (.cells [.int .u8 x.op, .int .u32 x.a, .int .u32 x.b, .int .i64 x.c, vl].toArray 126 (0, 0))
  wo : Own 1 (EInt .u8) 5 #[] B H v l
  hne : v = .slice none 0 0 ∨ vblock v ≠ g
  hnx : v = .slice none 0 0 ∨ vblock v ≠ gx
  nx : Nx Hb vb v
  fr : Fr g vb Hb H
  hs : ∀ H2, OldB B Hb H2 → Sl 1 (EInt .u32) H2 vl x.l
  hB : B ≤ Hb.size
  hg : B ≤ g ∧ B ≤ gx ∧ gx < Hb.size ∧ g < Hb.size ∧ g ≠ gx
  hv : vb = .slice none 0 0 ∨ B ≤ vblock vb
section
variable {Hb H H' : Heap} {g gx B : Nat} {vb c v v' : Value} {x : Ins} {vl : Value} {l l' : List Int}
theorem PT.sz (h : PT Hb H g gx B vb c v x vl l) : B ≤ H.size ∧ g < H.size ∧ gx < H.size ∧ (v = .slice none 0 0 ∨ vblock v < H.size) := ⟨by have := h.fr.1; have := h.hB; omega, blk_lt h.bb, blk_lt h.bx, h.wo.lt.imp id (fun k => k.2)⟩
theorem PT.sl (h : PT Hb H g gx B vb c v x vl l) : Sl 1 (EInt .u32) H vl x.l := h.hs _ ⟨h.fr.1, fun k hk => h.fr.2 k (by have := h.hB; omega) (by have := h.hg.1; omega) (h.hv.imp id (fun e => by omega))⟩
theorem PT.old (h : PT Hb H g gx B vb c v x vl l) (o : Old H H') : PT Hb H' g gx B vb c v x vl l := ⟨o.blk h.bb, o.blk h.bx, h.wo.old o, h.hne, h.hnx, h.nx, h.fr.old o, h.hs, h.hB, h.hg, h.hv⟩
theorem PT.app (h : PT Hb H g gx B vb c v x vl l) (w : Own 1 (EInt .u8) 5 #[] B H' v' l') (gr : Grown v H H') (nx : Nx H v v') : PT Hb H' g gx B vb c v' x vl l' := by
  have s := h.sz
  have f := h.fr.1
  have key : ∀ y, y < H.size → (v = .slice none 0 0 ∨ vblock v ≠ y) → (v' = .slice none 0 0 ∨ vblock v' ≠ y) := fun y hy hn => by
    rcases nx with e | ⟨e1, e2⟩ | e
    · exact .inl e
    · rw [e2]; exact .inr (hn.resolve_left e1)
    exact .inr (by omega)
  exact ⟨(gr.2 _ s.2.1 (h.hne.imp id (fun e k => e k.symm))).trans h.bb, (gr.2 _ s.2.2.1 (h.hnx.imp id (fun e k => e k.symm))).trans h.bx, w, key _ s.2.1 h.hne, key _ s.2.2.1 h.hnx, h.nx.trans f nx, h.fr.grown h.nx gr, h.hs, h.hB, h.hg, h.hv⟩
theorem PT.sto (h : PT Hb H g gx B vb c v x vl l) (u : Upd g H H') (b : H'[g]? = some (.cells [v].toArray 34 (0, 0))) : PT Hb H' g gx B vb v v x vl l :=
  ⟨b, (u.2 _ (fun e => h.hg.2.2.2.2 e.symm)).trans h.bx, h.wo.upd u (h.hne.imp id (fun e => e)), h.hne, h.hnx, h.nx, h.fr.upd u, h.hs, h.hB, h.hg, h.hv⟩
theorem PT.num (h : PT Hb H g gx B vb v v x vl l) (b : H'[g]? = some (.cells [v'].toArray 34 (0, 0))) (w : Own 1 (EInt .u8) 5 #[] B H' v' l') (hne : v' = .slice none 0 0 ∨ vblock v' ≠ g) (f : Fr g v H H') (nx : Nx H v v') : PT Hb H' g gx B vb v' v' x vl l' := by
  have s := h.sz
  have k : v' = .slice none 0 0 ∨ vblock v' ≠ gx := by
    rcases nx with e | ⟨e1, e2⟩ | e
    · exact .inl e
    · rw [e2]; exact .inr (h.hnx.resolve_left e1)
    exact .inr (by omega)
  exact ⟨b, (f.2 _ s.2.2.1 (fun e => h.hg.2.2.2.2 e.symm) (h.hnx.imp id (fun e k => e k.symm))).trans h.bx, w, hne, k, h.nx.trans h.fr.1 nx, h.fr.trans h.nx f, h.hs, h.hB, h.hg, h.hv⟩
theorem PT.ends (h : PT Hb H g gx B vb v v x vl l) {H0 : Heap} {l0 : List Int} (o : Old H0 Hb) (hg : H0.size ≤ g) (w0 : Own 1 (EInt .u8) 5 #[] B H0 vb l0) : Own 1 (EInt .u8) 5 #[] B H v l ∧ Grown vb H0 H ∧ Nx H0 vb v :=
  ⟨h.wo, ⟨Nat.le_trans o.1 h.fr.1, fun k hk hn => (h.fr.2 k (by have := o.1; omega) (by omega) hn).trans (o.2 k hk)⟩, nx_old o w0 h.nx⟩
end
theorem put0 {H : Heap} {B : Nat} {vb : Value} {lb : List Int} {x : Ins} {vl : Value} (w0 : Own 1 (EInt .u8) 5 #[] B H vb lb) (hB : B ≤ H.size) (hx : InsR x) (hll : x.l.length ≤ 100000000) (hlb : lb.length ≤ 1000000000) (hs0 : ∀ H2, OldB B H H2 → Sl 1 (EInt .u32) H2 vl x.l) (hf : Opc.form x.op = 0) : Ct Tryz.prog 118 [vb, insV x vl] H (fun u H' => Own 1 (EInt .u8) 5 #[] B H' u (lb ++ Isp.bytes x) ∧ Grown vb H H' ∧ Nx H vb u) := by
  refine Ct.mk Tryz.func118 rfl Tryz.ntmps118 rfl ?_
  intro W0 hW0
  have o0 : OldB 0 H H := OldB.refl _ H
  have hlx1 := apL hx.2.1
  have hlx2 := apL hx.2.2.1
  have hv0 := w0.lt.imp (fun h => h) (fun h => h.2)
  have oZ : Old H H := Old.refl _
  unfold insV
  refine KC.sr ?_
  refine KL.m (M.box (cs := [vb]) rfl rfl w0.cells1) rfl ?_
  rintro _ H1 ⟨rfl, n1⟩
  have z1 := n1.2.1
  have o0 := o0.trans ((n1.1).b (by omega))
  have oZ := oZ.trans n1.1
  have b1 := n1.2.2
  have bb := b1
  refine KL.m (M.box rfl rfl rfl) rfl ?_
  rintro _ H2 ⟨rfl, n2⟩
  have z2 := n2.2.1
  have o0 := o0.trans ((n2.1).b (by omega))
  have oZ := oZ.trans n2.1
  have bb := (n2.1).blk bb
  have b2 := n2.2.2
  have bx := b2
  have pt : PT H2 H2 (Array.size H) (Array.size H1) B vb vb vb x vl lb := ⟨bb, bx, w0.old oZ, hv0.imp id (fun e => by omega), hv0.imp id (fun e => by omega), Nx.refl _ _, Fr.refl _ _ _, fun H2 k => hs0 H2 ((oZ.b hB).trans k), by omega, ⟨by omega, by omega, by omega, by omega, by omega⟩, w0.lt.imp id (fun e => e.1)⟩
  have zpt := pt.sz
  have oHb : Old H H2 := oZ
  refine KL.fin 1 rfl (KQ.sr ?_)
  refine KL.ld rfl (by exact cell_of pt.bb rfl) ?_
  refine KL.run 1 rfl ?_
  refine KL.ld rfl (by exact cell_of pt.bx rfl) ?_
  refine KL.m (M.lit rfl U34 zs5 (by decide) rfl rfl rfl) rfl ?_
  rintro _ H3 ⟨rfl, n3⟩
  have z3 := n3.2.1
  have o0 := o0.trans ((n3.1).b (by omega))
  have pt := pt.old n3.1
  have b3 := n3.2.2
  have ptA := pt
  have hap : Sl 1 (EInt .u8) H3 _ [x.op] := Sl.lits (l := [x.op]) n3 rfl (by simp) (by intro y hy; simp only [List.mem_cons, List.not_mem_nil, or_false] at hy; subst hy; exact hx.1)
  have wo := ptA.wo
  have zpA := ptA.sz
  have lt4 := wo.lt
  refine KL.m (M.appendN rfl U34 inf5 rfl (by decide) rfl rfl wo hap (fun _ _ h _ => h) (by omega) (by simp only [List.length_append, List.length_cons, List.length_nil]; omega) (by unfold maxLen; simp only [List.length_append, List.length_cons, List.length_nil]; omega)) rfl ?_
  rintro v1 H4 ⟨w4, g4, nx4⟩
  try dsimp only at g4 nx4
  have ob4 := g4.oldB wo (by omega)
  have o0 := o0.trans (ob4.mono (by omega))
  have z4 := ob4.1
  have wo := w4
  have ptB := ptA.app w4 g4 nx4
  have bb := ptB.bb
  have zpB := ptB.sz
  refine KL.opS (S.store rfl sz34 rfl rfl ptB.wo.cells1 ptB.wo.one bb (by simp)) rfl rfl ?_
  rintro H5 ⟨u5, b5⟩
  have o0 := o0.trans (OldB.upd u5 (by omega))
  have zu5 := u5.1
  have bb := b5
  have pt := ptB.sto u5 bb
  have zpt := pt.sz
  refine KL.nil (KQ.sr (KL.fin 2 rfl (KQ.seq (KC.seq (KC.sr (KL.run 1 rfl ?_))))))
  refine KL.ld rfl (by exact cell_of pt.bx rfl) ?_
  refine KL.c rfl K122 (Form_k _) ?_
  rintro _ _ ⟨rfl, rfl⟩
  rw [hf]
  refine KL.nil (KQ.seq (KC.block (KC.sr (KL.e0 rfl (by decide) (KL.fin 1 rfl (KQ.seq (KC.condF rfl (KC.seq (KC.sr (KL.e0 rfl (by decide) (KL.fin 1 rfl ?_)))))))))))
  refine KQ.seq (KC.condF rfl (KC.region (KL.e0 rfl (by decide) (KL.fin 1 rfl (KQ.seq (KC.condF rfl (KC.sr (KL.e0 rfl (by decide) (KL.fin 1 rfl (KQ.seq (KC.condF rfl (KC.seq ?_))))))))))))
  refine KC.region (KL.e0 rfl (by decide) (KL.fin 1 rfl (KQ.seq (KC.condF rfl (KC.sr (KL.e0 rfl (by decide) (KL.fin 1 rfl (KQ.seq (KC.condF rfl (KC.sr (KL.e0 rfl (by decide) ?_)))))))))))
  refine KL.fin 1 rfl (KQ.seq (KC.condF rfl (KC.seq (KC.sr (KL.e0 rfl (by decide) (KL.fin 1 rfl (KQ.seq (KC.condF rfl (KC.region (KL.e0 rfl (by decide) (KL.fin 1 rfl (KQ.seq ?_))))))))))))
  refine KC.condF rfl (KC.skip (KQ.normBlock (KQ.sr ?_)))
  refine KL.ld rfl (by exact cell_of pt.bb rfl) ?_
  refine KL.fin 1 rfl (KQ.seq (KC.ret (KQ.ofRet (KQ.fin1 V118 rfl ?_))))
  have e : Isp.bytes x = x.op :: [] := by unfold Isp.bytes Isp.bodyE Isp.rest Isp.labsE; rw [hf]; simp
  rw [e]
  obtain ⟨r1, r2, r3⟩ := pt.ends oHb (by omega) w0
  exact ⟨by simpa [List.append_assoc] using r1, r2, r3⟩
theorem put1 {H : Heap} {B : Nat} {vb : Value} {lb : List Int} {x : Ins} {vl : Value} (w0 : Own 1 (EInt .u8) 5 #[] B H vb lb) (hB : B ≤ H.size) (hx : InsR x) (hll : x.l.length ≤ 100000000) (hlb : lb.length ≤ 1000000000) (hs0 : ∀ H2, OldB B H H2 → Sl 1 (EInt .u32) H2 vl x.l) (hf : Opc.form x.op = 1) (ha : x.a = 64 ∨ x.a = 127 ∨ x.a = 126) : Ct Tryz.prog 118 [vb, insV x vl] H (fun u H' => Own 1 (EInt .u8) 5 #[] B H' u (lb ++ Isp.bytes x) ∧ Grown vb H H' ∧ Nx H vb u) := by
  refine Ct.mk Tryz.func118 rfl Tryz.ntmps118 rfl ?_
  intro W0 hW0
  have o0 : OldB 0 H H := OldB.refl _ H
  have hlx1 := apL hx.2.1
  have hlx2 := apL hx.2.2.1
  have hv0 := w0.lt.imp (fun h => h) (fun h => h.2)
  have oZ : Old H H := Old.refl _
  unfold insV
  refine KC.sr ?_
  refine KL.m (M.box (cs := [vb]) rfl rfl w0.cells1) rfl ?_
  rintro _ H1 ⟨rfl, n1⟩
  have z1 := n1.2.1
  have o0 := o0.trans ((n1.1).b (by omega))
  have oZ := oZ.trans n1.1
  have b1 := n1.2.2
  have bb := b1
  refine KL.m (M.box rfl rfl rfl) rfl ?_
  rintro _ H2 ⟨rfl, n2⟩
  have z2 := n2.2.1
  have o0 := o0.trans ((n2.1).b (by omega))
  have oZ := oZ.trans n2.1
  have bb := (n2.1).blk bb
  have b2 := n2.2.2
  have bx := b2
  have pt : PT H2 H2 (Array.size H) (Array.size H1) B vb vb vb x vl lb := ⟨bb, bx, w0.old oZ, hv0.imp id (fun e => by omega), hv0.imp id (fun e => by omega), Nx.refl _ _, Fr.refl _ _ _, fun H2 k => hs0 H2 ((oZ.b hB).trans k), by omega, ⟨by omega, by omega, by omega, by omega, by omega⟩, w0.lt.imp id (fun e => e.1)⟩
  have zpt := pt.sz
  have oHb : Old H H2 := oZ
  refine KL.fin 1 rfl (KQ.sr ?_)
  refine KL.ld rfl (by exact cell_of pt.bb rfl) ?_
  refine KL.run 1 rfl ?_
  refine KL.ld rfl (by exact cell_of pt.bx rfl) ?_
  refine KL.m (M.lit rfl U34 zs5 (by decide) rfl rfl rfl) rfl ?_
  rintro _ H3 ⟨rfl, n3⟩
  have z3 := n3.2.1
  have o0 := o0.trans ((n3.1).b (by omega))
  have pt := pt.old n3.1
  have b3 := n3.2.2
  have ptA := pt
  have hap : Sl 1 (EInt .u8) H3 _ [x.op] := Sl.lits (l := [x.op]) n3 rfl (by simp) (by intro y hy; simp only [List.mem_cons, List.not_mem_nil, or_false] at hy; subst hy; exact hx.1)
  have wo := ptA.wo
  have zpA := ptA.sz
  have lt4 := wo.lt
  refine KL.m (M.appendN rfl U34 inf5 rfl (by decide) rfl rfl wo hap (fun _ _ h _ => h) (by omega) (by simp only [List.length_append, List.length_cons, List.length_nil]; omega) (by unfold maxLen; simp only [List.length_append, List.length_cons, List.length_nil]; omega)) rfl ?_
  rintro v1 H4 ⟨w4, g4, nx4⟩
  try dsimp only at g4 nx4
  have ob4 := g4.oldB wo (by omega)
  have o0 := o0.trans (ob4.mono (by omega))
  have z4 := ob4.1
  have wo := w4
  have ptB := ptA.app w4 g4 nx4
  have bb := ptB.bb
  have zpB := ptB.sz
  refine KL.opS (S.store rfl sz34 rfl rfl ptB.wo.cells1 ptB.wo.one bb (by simp)) rfl rfl ?_
  rintro H5 ⟨u5, b5⟩
  have o0 := o0.trans (OldB.upd u5 (by omega))
  have zu5 := u5.1
  have bb := b5
  have pt := ptB.sto u5 bb
  have zpt := pt.sz
  refine KL.nil (KQ.sr (KL.fin 2 rfl (KQ.seq (KC.seq (KC.sr (KL.run 1 rfl ?_))))))
  refine KL.ld rfl (by exact cell_of pt.bx rfl) ?_
  refine KL.c rfl K122 (Form_k _) ?_
  rintro _ _ ⟨rfl, rfl⟩
  rw [hf]
  refine KL.nil (KQ.seq (KC.block (KC.sr (KL.e1 rfl (by decide) (KL.fin 1 rfl (KQ.seq (KC.condT rfl (KC.region ?_))))))))
  refine KL.ld rfl (by exact cell_of pt.bb rfl) ?_
  refine KL.run 1 rfl ?_
  refine KL.ld rfl (by exact cell_of pt.bx rfl) ?_
  refine KL.q (R.convI rfl U28 U5 rfl (by dsimp only [InR]; omega)) rfl ?_
  refine KL.m (M.lit rfl U34 zs5 (by decide) rfl rfl rfl) rfl ?_
  rintro _ H6 ⟨rfl, n6⟩
  have z6 := n6.2.1
  have o0 := o0.trans ((n6.1).b (by omega))
  have pt := pt.old n6.1
  have b6 := n6.2.2
  have ptA := pt
  have hap : Sl 1 (EInt .u8) H6 _ [x.a] := Sl.lits (l := [x.a]) n6 rfl (by simp) (by intro y hy; simp only [List.mem_cons, List.not_mem_nil, or_false] at hy; subst hy; dsimp only [InR]; omega)
  have wo := ptA.wo
  have zpA := ptA.sz
  have lt7 := wo.lt
  refine KL.m (M.appendN rfl U34 inf5 rfl (by decide) rfl rfl wo hap (fun _ _ h _ => h) (by omega) (by simp only [List.length_append, List.length_cons, List.length_nil]; omega) (by unfold maxLen; simp only [List.length_append, List.length_cons, List.length_nil]; omega)) rfl ?_
  rintro v2 H7 ⟨w7, g7, nx7⟩
  try dsimp only at g7 nx7
  have ob7 := g7.oldB wo (by omega)
  have o0 := o0.trans (ob7.mono (by omega))
  have z7 := ob7.1
  have wo := w7
  have ptB := ptA.app w7 g7 nx7
  have bb := ptB.bb
  have zpB := ptB.sz
  refine KL.opS (S.store rfl sz34 rfl rfl ptB.wo.cells1 ptB.wo.one bb (by simp)) rfl rfl ?_
  rintro H8 ⟨u8, b8⟩
  have o0 := o0.trans (OldB.upd u8 (by omega))
  have zu8 := u8.1
  have bb := b8
  have pt := ptB.sto u8 bb
  have zpt := pt.sz
  refine KL.nil (KQ.normBlock (KQ.sr ?_))
  refine KL.ld rfl (by exact cell_of pt.bb rfl) ?_
  refine KL.fin 1 rfl (KQ.seq (KC.ret (KQ.ofRet (KQ.fin1 V118 rfl ?_))))
  have e : Isp.bytes x = x.op :: [x.a] := by unfold Isp.bytes Isp.bodyE Isp.rest Isp.labsE; rw [hf]; simp
  rw [e]
  obtain ⟨r1, r2, r3⟩ := pt.ends oHb (by omega) w0
  exact ⟨by simpa [List.append_assoc] using r1, r2, r3⟩
theorem put2 {H : Heap} {B : Nat} {vb : Value} {lb : List Int} {x : Ins} {vl : Value} (w0 : Own 1 (EInt .u8) 5 #[] B H vb lb) (hB : B ≤ H.size) (hx : InsR x) (hll : x.l.length ≤ 100000000) (hlb : lb.length ≤ 1000000000) (hs0 : ∀ H2, OldB B H H2 → Sl 1 (EInt .u32) H2 vl x.l) (hf : Opc.form x.op = 2) : Ct Tryz.prog 118 [vb, insV x vl] H (fun u H' => Own 1 (EInt .u8) 5 #[] B H' u (lb ++ Isp.bytes x) ∧ Grown vb H H' ∧ Nx H vb u) := by
  refine Ct.mk Tryz.func118 rfl Tryz.ntmps118 rfl ?_
  intro W0 hW0
  have o0 : OldB 0 H H := OldB.refl _ H
  have hlx1 := apL hx.2.1
  have hlx2 := apL hx.2.2.1
  have hv0 := w0.lt.imp (fun h => h) (fun h => h.2)
  have oZ : Old H H := Old.refl _
  unfold insV
  refine KC.sr ?_
  refine KL.m (M.box (cs := [vb]) rfl rfl w0.cells1) rfl ?_
  rintro _ H1 ⟨rfl, n1⟩
  have z1 := n1.2.1
  have o0 := o0.trans ((n1.1).b (by omega))
  have oZ := oZ.trans n1.1
  have b1 := n1.2.2
  have bb := b1
  refine KL.m (M.box rfl rfl rfl) rfl ?_
  rintro _ H2 ⟨rfl, n2⟩
  have z2 := n2.2.1
  have o0 := o0.trans ((n2.1).b (by omega))
  have oZ := oZ.trans n2.1
  have bb := (n2.1).blk bb
  have b2 := n2.2.2
  have bx := b2
  have pt : PT H2 H2 (Array.size H) (Array.size H1) B vb vb vb x vl lb := ⟨bb, bx, w0.old oZ, hv0.imp id (fun e => by omega), hv0.imp id (fun e => by omega), Nx.refl _ _, Fr.refl _ _ _, fun H2 k => hs0 H2 ((oZ.b hB).trans k), by omega, ⟨by omega, by omega, by omega, by omega, by omega⟩, w0.lt.imp id (fun e => e.1)⟩
  have zpt := pt.sz
  have oHb : Old H H2 := oZ
  refine KL.fin 1 rfl (KQ.sr ?_)
  refine KL.ld rfl (by exact cell_of pt.bb rfl) ?_
  refine KL.run 1 rfl ?_
  refine KL.ld rfl (by exact cell_of pt.bx rfl) ?_
  refine KL.m (M.lit rfl U34 zs5 (by decide) rfl rfl rfl) rfl ?_
  rintro _ H3 ⟨rfl, n3⟩
  have z3 := n3.2.1
  have o0 := o0.trans ((n3.1).b (by omega))
  have pt := pt.old n3.1
  have b3 := n3.2.2
  have ptA := pt
  have hap : Sl 1 (EInt .u8) H3 _ [x.op] := Sl.lits (l := [x.op]) n3 rfl (by simp) (by intro y hy; simp only [List.mem_cons, List.not_mem_nil, or_false] at hy; subst hy; exact hx.1)
  have wo := ptA.wo
  have zpA := ptA.sz
  have lt4 := wo.lt
  refine KL.m (M.appendN rfl U34 inf5 rfl (by decide) rfl rfl wo hap (fun _ _ h _ => h) (by omega) (by simp only [List.length_append, List.length_cons, List.length_nil]; omega) (by unfold maxLen; simp only [List.length_append, List.length_cons, List.length_nil]; omega)) rfl ?_
  rintro v1 H4 ⟨w4, g4, nx4⟩
  try dsimp only at g4 nx4
  have ob4 := g4.oldB wo (by omega)
  have o0 := o0.trans (ob4.mono (by omega))
  have z4 := ob4.1
  have wo := w4
  have ptB := ptA.app w4 g4 nx4
  have bb := ptB.bb
  have zpB := ptB.sz
  refine KL.opS (S.store rfl sz34 rfl rfl ptB.wo.cells1 ptB.wo.one bb (by simp)) rfl rfl ?_
  rintro H5 ⟨u5, b5⟩
  have o0 := o0.trans (OldB.upd u5 (by omega))
  have zu5 := u5.1
  have bb := b5
  have pt := ptB.sto u5 bb
  have zpt := pt.sz
  refine KL.nil (KQ.sr (KL.fin 2 rfl (KQ.seq (KC.seq (KC.sr (KL.run 1 rfl ?_))))))
  refine KL.ld rfl (by exact cell_of pt.bx rfl) ?_
  refine KL.c rfl K122 (Form_k _) ?_
  rintro _ _ ⟨rfl, rfl⟩
  rw [hf]
  refine KL.nil (KQ.seq (KC.block (KC.sr (KL.e0 rfl (by decide) (KL.fin 1 rfl (KQ.seq (KC.condF rfl (KC.seq (KC.sr (KL.e1 rfl (by decide) (KL.fin 1 rfl ?_)))))))))))
  refine KQ.seq (KC.condT rfl (KC.skip (KQ.seq (KC.condT rfl (KC.region (KL.run 2 rfl ?_))))))
  refine KL.ld rfl (by exact cell_of pt.bx rfl) ?_
  have hbz := pt.sz
  have hlz : True := by trivial
  refine KL.c rfl K123 (put1_any pt.bb pt.wo pt.hne hbz.1 (by simp only [List.length_append, List.length_cons, List.length_nil]; omega) _ (hx.2.1)) ?_
  rintro _ H6 ⟨rfl, v3, bq, wq, hq, fq, nq⟩
  have pt := pt.num bq wq hq fq nq
  have zpt := pt.sz
  have zfq := fq.1
  have o0 : OldB 0 H H6 := ⟨by omega, fun k hk => by omega⟩
  refine KL.nil (KQ.normBlock (KQ.sr ?_))
  refine KL.ld rfl (by exact cell_of pt.bb rfl) ?_
  refine KL.fin 1 rfl (KQ.seq (KC.ret (KQ.ofRet (KQ.fin1 V118 rfl ?_))))
  have e : Isp.bytes x = x.op :: Isp.apN false x.a := by unfold Isp.bytes Isp.bodyE Isp.rest Isp.labsE; rw [hf]; simp
  rw [e]
  obtain ⟨r1, r2, r3⟩ := pt.ends oHb (by omega) w0
  exact ⟨by simpa [List.append_assoc] using r1, r2, r3⟩
theorem put3 {H : Heap} {B : Nat} {vb : Value} {lb : List Int} {x : Ins} {vl : Value} (w0 : Own 1 (EInt .u8) 5 #[] B H vb lb) (hB : B ≤ H.size) (hx : InsR x) (hll : x.l.length ≤ 100000000) (hlb : lb.length ≤ 1000000000) (hs0 : ∀ H2, OldB B H H2 → Sl 1 (EInt .u32) H2 vl x.l) (hf : Opc.form x.op = 3) : Ct Tryz.prog 118 [vb, insV x vl] H (fun u H' => Own 1 (EInt .u8) 5 #[] B H' u (lb ++ Isp.bytes x) ∧ Grown vb H H' ∧ Nx H vb u) := by
  refine Ct.mk Tryz.func118 rfl Tryz.ntmps118 rfl ?_
  intro W0 hW0
  have o0 : OldB 0 H H := OldB.refl _ H
  have hlx1 := apL hx.2.1
  have hlx2 := apL hx.2.2.1
  have hv0 := w0.lt.imp (fun h => h) (fun h => h.2)
  have oZ : Old H H := Old.refl _
  unfold insV
  refine KC.sr ?_
  refine KL.m (M.box (cs := [vb]) rfl rfl w0.cells1) rfl ?_
  rintro _ H1 ⟨rfl, n1⟩
  have z1 := n1.2.1
  have o0 := o0.trans ((n1.1).b (by omega))
  have oZ := oZ.trans n1.1
  have b1 := n1.2.2
  have bb := b1
  refine KL.m (M.box rfl rfl rfl) rfl ?_
  rintro _ H2 ⟨rfl, n2⟩
  have z2 := n2.2.1
  have o0 := o0.trans ((n2.1).b (by omega))
  have oZ := oZ.trans n2.1
  have bb := (n2.1).blk bb
  have b2 := n2.2.2
  have bx := b2
  have pt : PT H2 H2 (Array.size H) (Array.size H1) B vb vb vb x vl lb := ⟨bb, bx, w0.old oZ, hv0.imp id (fun e => by omega), hv0.imp id (fun e => by omega), Nx.refl _ _, Fr.refl _ _ _, fun H2 k => hs0 H2 ((oZ.b hB).trans k), by omega, ⟨by omega, by omega, by omega, by omega, by omega⟩, w0.lt.imp id (fun e => e.1)⟩
  have zpt := pt.sz
  have oHb : Old H H2 := oZ
  refine KL.fin 1 rfl (KQ.sr ?_)
  refine KL.ld rfl (by exact cell_of pt.bb rfl) ?_
  refine KL.run 1 rfl ?_
  refine KL.ld rfl (by exact cell_of pt.bx rfl) ?_
  refine KL.m (M.lit rfl U34 zs5 (by decide) rfl rfl rfl) rfl ?_
  rintro _ H3 ⟨rfl, n3⟩
  have z3 := n3.2.1
  have o0 := o0.trans ((n3.1).b (by omega))
  have pt := pt.old n3.1
  have b3 := n3.2.2
  have ptA := pt
  have hap : Sl 1 (EInt .u8) H3 _ [x.op] := Sl.lits (l := [x.op]) n3 rfl (by simp) (by intro y hy; simp only [List.mem_cons, List.not_mem_nil, or_false] at hy; subst hy; exact hx.1)
  have wo := ptA.wo
  have zpA := ptA.sz
  have lt4 := wo.lt
  refine KL.m (M.appendN rfl U34 inf5 rfl (by decide) rfl rfl wo hap (fun _ _ h _ => h) (by omega) (by simp only [List.length_append, List.length_cons, List.length_nil]; omega) (by unfold maxLen; simp only [List.length_append, List.length_cons, List.length_nil]; omega)) rfl ?_
  rintro v1 H4 ⟨w4, g4, nx4⟩
  try dsimp only at g4 nx4
  have ob4 := g4.oldB wo (by omega)
  have o0 := o0.trans (ob4.mono (by omega))
  have z4 := ob4.1
  have wo := w4
  have ptB := ptA.app w4 g4 nx4
  have bb := ptB.bb
  have zpB := ptB.sz
  refine KL.opS (S.store rfl sz34 rfl rfl ptB.wo.cells1 ptB.wo.one bb (by simp)) rfl rfl ?_
  rintro H5 ⟨u5, b5⟩
  have o0 := o0.trans (OldB.upd u5 (by omega))
  have zu5 := u5.1
  have bb := b5
  have pt := ptB.sto u5 bb
  have zpt := pt.sz
  refine KL.nil (KQ.sr (KL.fin 2 rfl (KQ.seq (KC.seq (KC.sr (KL.run 1 rfl ?_))))))
  refine KL.ld rfl (by exact cell_of pt.bx rfl) ?_
  refine KL.c rfl K122 (Form_k _) ?_
  rintro _ _ ⟨rfl, rfl⟩
  rw [hf]
  refine KL.nil (KQ.seq (KC.block (KC.sr (KL.e0 rfl (by decide) (KL.fin 1 rfl (KQ.seq (KC.condF rfl (KC.seq (KC.sr (KL.e0 rfl (by decide) (KL.fin 1 rfl ?_)))))))))))
  refine KQ.seq (KC.condF rfl (KC.region (KL.e0 rfl (by decide) (KL.fin 1 rfl (KQ.seq (KC.condF rfl (KC.sr (KL.e1 rfl (by decide) (KL.fin 1 rfl (KQ.seq (KC.condT rfl (KC.seq ?_))))))))))))
  refine KC.region (KL.run 2 rfl ?_)
  refine KL.ld rfl (by exact cell_of pt.bx rfl) ?_
  refine KL.q (R.lenS rfl U24 rfl pt.sl) rfl ?_
  refine KL.q (R.convI rfl U3 U28 rfl (by dsimp only [InR]; omega)) rfl ?_
  have hbz := pt.sz
  have hlz : True := by trivial
  refine KL.c rfl K123 (put1_any pt.bb pt.wo pt.hne hbz.1 (by simp only [List.length_append, List.length_cons, List.length_nil]; omega) _ (by dsimp only [InR]; omega)) ?_
  rintro _ H6 ⟨rfl, v4, bq, wq, hq, fq, nq⟩
  have pt := pt.num bq wq hq fq nq
  have zpt := pt.sz
  have zfq := fq.1
  have o0 : OldB 0 H H6 := ⟨by omega, fun k hk => by omega⟩
  refine KL.nil (KQ.seq (KC.seq (KC.sr (KL.run 1 rfl ?_))))
  refine KL.ld rfl (by exact cell_of pt.bx rfl) ?_
  refine KL.q (R.lenS rfl U24 rfl pt.sl) rfl (KL.fin 1 rfl (KQ.seq (KC.block ?_)))
  refine KC.loopD (κ := Nat × Value) [44, 45, 46, 7, 47, 48, 49, 50, 43] (fun k => [(43, .int .i64 (k.1 : Nat))]) (fun k Hl => k.1 ≤ x.l.length ∧ PT H2 Hl (Array.size H) (Array.size H1) B vb k.2 k.2 x vl (lb ++ [x.op] ++ Isp.apN false (x.l.length : Nat) ++ (x.l.take k.1).flatMap (Isp.apN false)) ∧ OldB 0 H Hl) (fun k => x.l.length - k.1) (0, v4) ?_ ?_ ?_
  · exact Sub.all rfl
  · exact ⟨Nat.zero_le _, by simpa using pt, o0⟩
  rintro ⟨k, vk⟩ H7 ⟨hk, pt, o0⟩
  have zl_H7 := o0.1
  dsimp only at hk pt
  have zl := o0.1
  have zpt := pt.sz
  have hlen1 := apL (z := ((x.l.length : Nat) : Int)) (by dsimp only [InR]; omega)
  have hlen2 := apF (xs := x.l.take k) (fun y hy => pt.sl.rng y (List.mem_of_mem_take hy))
  rw [List.length_take] at hlen2
  refine KC.sr (KL.fin 1 rfl (KQ.seq (KC.seq ?_)))
  refine KC.iq rfl ?_ ?_
  · intro hc44
    try dsimp only at hc44
    refine KC.skip (KQ.seq (KC.seq (KC.block (KC.sr ?_))))
    refine KL.q (R.index1 (j := k) rfl U24 sz28 rfl rfl pt.sl rfl (by omega)) rfl ?_
    refine KL.ld rfl (pt.sl.int k (by omega)).1 ?_
    refine KL.fin 1 rfl (KQ.r (KL.run 2 rfl ?_))
    have hbz := pt.sz
    have hlz : True := by trivial
    refine KL.c rfl K123 (put1_any pt.bb pt.wo pt.hne hbz.1 (by simp only [List.length_append, List.length_cons, List.length_nil]; omega) _ ((pt.sl.int k (by omega)).2)) ?_
    rintro _ H8 ⟨rfl, vn, bq, wq, hq, fq, nq⟩
    have pt := pt.num bq wq hq fq nq
    have zpt := pt.sz
    have zfq := fq.1
    have o0 : OldB 0 H H8 := ⟨by omega, fun k hk => by omega⟩
    refine KL.nil (KQ.normBlock (KQ.r ?_))
    refine KL.q ((R.add rfl rfl rfl (by dsimp only [InR]; omega)).val (congrArg (Value.int .i64) (show (k : Int) + 1 = ((k + 1 : Nat) : Int) by omega))) rfl ?_
    refine KL.fin 1 rfl ?_
    refine KQ.again ((k + 1, vn)) ?_ ?_ ?_
    · exact Sub.all rfl
    · show x.l.length - (k + 1) < x.l.length - k; omega
    exact ⟨by show k + 1 ≤ _; omega, by dsimp only; rw [fm_take (by omega), ← List.append_assoc]; exact pt, o0⟩
  intro hc44
  try dsimp only at hc44
  refine KC.exit (KQ.exitThen (KQ.exitThen (KQ.hit (KQ.r (KL.run 2 rfl ?_)))))
  refine KL.ld rfl (by exact cell_of pt.bx rfl) ?_
  have hbz := pt.sz
  have hlz : True := by trivial
  refine KL.c rfl K123 (put1_any pt.bb pt.wo pt.hne hbz.1 (by simp only [List.length_append, List.length_cons, List.length_nil]; omega) _ (hx.2.1)) ?_
  rintro _ H9 ⟨rfl, v5, bq, wq, hq, fq, nq⟩
  have pt := pt.num bq wq hq fq nq
  have zpt := pt.sz
  have zfq := fq.1
  have o0 : OldB 0 H H9 := ⟨by omega, fun k hk => by omega⟩
  refine KL.nil (KQ.normBlock (KQ.sr ?_))
  refine KL.ld rfl (by exact cell_of pt.bb rfl) ?_
  refine KL.fin 1 rfl (KQ.seq (KC.ret (KQ.ofRet (KQ.fin1 V118 rfl ?_))))
  have e : Isp.bytes x = x.op :: (Isp.apN false (x.l.length : Nat) ++ x.l.flatMap (Isp.apN false) ++ Isp.apN false x.a) := by unfold Isp.bytes Isp.bodyE Isp.rest Isp.labsE; rw [hf]; simp
  rw [e]
  have hkl : k = x.l.length := by omega
  rw [hkl, List.take_length] at pt
  obtain ⟨r1, r2, r3⟩ := pt.ends oHb (by omega) w0
  exact ⟨by simpa [List.append_assoc] using r1, r2, r3⟩
theorem put4 {H : Heap} {B : Nat} {vb : Value} {lb : List Int} {x : Ins} {vl : Value} (w0 : Own 1 (EInt .u8) 5 #[] B H vb lb) (hB : B ≤ H.size) (hx : InsR x) (hll : x.l.length ≤ 100000000) (hlb : lb.length ≤ 1000000000) (hs0 : ∀ H2, OldB B H H2 → Sl 1 (EInt .u32) H2 vl x.l) (hf : Opc.form x.op = 4) : Ct Tryz.prog 118 [vb, insV x vl] H (fun u H' => Own 1 (EInt .u8) 5 #[] B H' u (lb ++ Isp.bytes x) ∧ Grown vb H H' ∧ Nx H vb u) := by
  refine Ct.mk Tryz.func118 rfl Tryz.ntmps118 rfl ?_
  intro W0 hW0
  have o0 : OldB 0 H H := OldB.refl _ H
  have hlx1 := apL hx.2.1
  have hlx2 := apL hx.2.2.1
  have hv0 := w0.lt.imp (fun h => h) (fun h => h.2)
  have oZ : Old H H := Old.refl _
  unfold insV
  refine KC.sr ?_
  refine KL.m (M.box (cs := [vb]) rfl rfl w0.cells1) rfl ?_
  rintro _ H1 ⟨rfl, n1⟩
  have z1 := n1.2.1
  have o0 := o0.trans ((n1.1).b (by omega))
  have oZ := oZ.trans n1.1
  have b1 := n1.2.2
  have bb := b1
  refine KL.m (M.box rfl rfl rfl) rfl ?_
  rintro _ H2 ⟨rfl, n2⟩
  have z2 := n2.2.1
  have o0 := o0.trans ((n2.1).b (by omega))
  have oZ := oZ.trans n2.1
  have bb := (n2.1).blk bb
  have b2 := n2.2.2
  have bx := b2
  have pt : PT H2 H2 (Array.size H) (Array.size H1) B vb vb vb x vl lb := ⟨bb, bx, w0.old oZ, hv0.imp id (fun e => by omega), hv0.imp id (fun e => by omega), Nx.refl _ _, Fr.refl _ _ _, fun H2 k => hs0 H2 ((oZ.b hB).trans k), by omega, ⟨by omega, by omega, by omega, by omega, by omega⟩, w0.lt.imp id (fun e => e.1)⟩
  have zpt := pt.sz
  have oHb : Old H H2 := oZ
  refine KL.fin 1 rfl (KQ.sr ?_)
  refine KL.ld rfl (by exact cell_of pt.bb rfl) ?_
  refine KL.run 1 rfl ?_
  refine KL.ld rfl (by exact cell_of pt.bx rfl) ?_
  refine KL.m (M.lit rfl U34 zs5 (by decide) rfl rfl rfl) rfl ?_
  rintro _ H3 ⟨rfl, n3⟩
  have z3 := n3.2.1
  have o0 := o0.trans ((n3.1).b (by omega))
  have pt := pt.old n3.1
  have b3 := n3.2.2
  have ptA := pt
  have hap : Sl 1 (EInt .u8) H3 _ [x.op] := Sl.lits (l := [x.op]) n3 rfl (by simp) (by intro y hy; simp only [List.mem_cons, List.not_mem_nil, or_false] at hy; subst hy; exact hx.1)
  have wo := ptA.wo
  have zpA := ptA.sz
  have lt4 := wo.lt
  refine KL.m (M.appendN rfl U34 inf5 rfl (by decide) rfl rfl wo hap (fun _ _ h _ => h) (by omega) (by simp only [List.length_append, List.length_cons, List.length_nil]; omega) (by unfold maxLen; simp only [List.length_append, List.length_cons, List.length_nil]; omega)) rfl ?_
  rintro v1 H4 ⟨w4, g4, nx4⟩
  try dsimp only at g4 nx4
  have ob4 := g4.oldB wo (by omega)
  have o0 := o0.trans (ob4.mono (by omega))
  have z4 := ob4.1
  have wo := w4
  have ptB := ptA.app w4 g4 nx4
  have bb := ptB.bb
  have zpB := ptB.sz
  refine KL.opS (S.store rfl sz34 rfl rfl ptB.wo.cells1 ptB.wo.one bb (by simp)) rfl rfl ?_
  rintro H5 ⟨u5, b5⟩
  have o0 := o0.trans (OldB.upd u5 (by omega))
  have zu5 := u5.1
  have bb := b5
  have pt := ptB.sto u5 bb
  have zpt := pt.sz
  refine KL.nil (KQ.sr (KL.fin 2 rfl (KQ.seq (KC.seq (KC.sr (KL.run 1 rfl ?_))))))
  refine KL.ld rfl (by exact cell_of pt.bx rfl) ?_
  refine KL.c rfl K122 (Form_k _) ?_
  rintro _ _ ⟨rfl, rfl⟩
  rw [hf]
  refine KL.nil (KQ.seq (KC.block (KC.sr (KL.e0 rfl (by decide) (KL.fin 1 rfl (KQ.seq (KC.condF rfl (KC.seq (KC.sr (KL.e0 rfl (by decide) (KL.fin 1 rfl ?_)))))))))))
  refine KQ.seq (KC.condF rfl (KC.region (KL.e1 rfl (by decide) (KL.fin 1 rfl (KQ.seq (KC.condT rfl (KC.region (KL.run 2 rfl ?_))))))))
  refine KL.ld rfl (by exact cell_of pt.bx rfl) ?_
  have hbz := pt.sz
  have hlz : True := by trivial
  refine KL.c rfl K123 (put1_any pt.bb pt.wo pt.hne hbz.1 (by simp only [List.length_append, List.length_cons, List.length_nil]; omega) _ (hx.2.1)) ?_
  rintro _ H6 ⟨rfl, v3, bq, wq, hq, fq, nq⟩
  have pt := pt.num bq wq hq fq nq
  have zpt := pt.sz
  have zfq := fq.1
  have o0 : OldB 0 H H6 := ⟨by omega, fun k hk => by omega⟩
  refine KL.nil (KQ.normBlock (KQ.sr ?_))
  refine KL.ld rfl (by exact cell_of pt.bb rfl) ?_
  refine KL.fin 1 rfl (KQ.seq (KC.ret (KQ.ofRet (KQ.fin1 V118 rfl ?_))))
  have e : Isp.bytes x = x.op :: Isp.apN false x.a := by unfold Isp.bytes Isp.bodyE Isp.rest Isp.labsE; rw [hf]; simp
  rw [e]
  obtain ⟨r1, r2, r3⟩ := pt.ends oHb (by omega) w0
  exact ⟨by simpa [List.append_assoc] using r1, r2, r3⟩
theorem put5 {H : Heap} {B : Nat} {vb : Value} {lb : List Int} {x : Ins} {vl : Value} (w0 : Own 1 (EInt .u8) 5 #[] B H vb lb) (hB : B ≤ H.size) (hx : InsR x) (hll : x.l.length ≤ 100000000) (hlb : lb.length ≤ 1000000000) (hs0 : ∀ H2, OldB B H H2 → Sl 1 (EInt .u32) H2 vl x.l) (hf : Opc.form x.op = 5) : Ct Tryz.prog 118 [vb, insV x vl] H (fun u H' => Own 1 (EInt .u8) 5 #[] B H' u (lb ++ Isp.bytes x) ∧ Grown vb H H' ∧ Nx H vb u) := by
  refine Ct.mk Tryz.func118 rfl Tryz.ntmps118 rfl ?_
  intro W0 hW0
  have o0 : OldB 0 H H := OldB.refl _ H
  have hlx1 := apL hx.2.1
  have hlx2 := apL hx.2.2.1
  have hv0 := w0.lt.imp (fun h => h) (fun h => h.2)
  have oZ : Old H H := Old.refl _
  unfold insV
  refine KC.sr ?_
  refine KL.m (M.box (cs := [vb]) rfl rfl w0.cells1) rfl ?_
  rintro _ H1 ⟨rfl, n1⟩
  have z1 := n1.2.1
  have o0 := o0.trans ((n1.1).b (by omega))
  have oZ := oZ.trans n1.1
  have b1 := n1.2.2
  have bb := b1
  refine KL.m (M.box rfl rfl rfl) rfl ?_
  rintro _ H2 ⟨rfl, n2⟩
  have z2 := n2.2.1
  have o0 := o0.trans ((n2.1).b (by omega))
  have oZ := oZ.trans n2.1
  have bb := (n2.1).blk bb
  have b2 := n2.2.2
  have bx := b2
  have pt : PT H2 H2 (Array.size H) (Array.size H1) B vb vb vb x vl lb := ⟨bb, bx, w0.old oZ, hv0.imp id (fun e => by omega), hv0.imp id (fun e => by omega), Nx.refl _ _, Fr.refl _ _ _, fun H2 k => hs0 H2 ((oZ.b hB).trans k), by omega, ⟨by omega, by omega, by omega, by omega, by omega⟩, w0.lt.imp id (fun e => e.1)⟩
  have zpt := pt.sz
  have oHb : Old H H2 := oZ
  refine KL.fin 1 rfl (KQ.sr ?_)
  refine KL.ld rfl (by exact cell_of pt.bb rfl) ?_
  refine KL.run 1 rfl ?_
  refine KL.ld rfl (by exact cell_of pt.bx rfl) ?_
  refine KL.m (M.lit rfl U34 zs5 (by decide) rfl rfl rfl) rfl ?_
  rintro _ H3 ⟨rfl, n3⟩
  have z3 := n3.2.1
  have o0 := o0.trans ((n3.1).b (by omega))
  have pt := pt.old n3.1
  have b3 := n3.2.2
  have ptA := pt
  have hap : Sl 1 (EInt .u8) H3 _ [x.op] := Sl.lits (l := [x.op]) n3 rfl (by simp) (by intro y hy; simp only [List.mem_cons, List.not_mem_nil, or_false] at hy; subst hy; exact hx.1)
  have wo := ptA.wo
  have zpA := ptA.sz
  have lt4 := wo.lt
  refine KL.m (M.appendN rfl U34 inf5 rfl (by decide) rfl rfl wo hap (fun _ _ h _ => h) (by omega) (by simp only [List.length_append, List.length_cons, List.length_nil]; omega) (by unfold maxLen; simp only [List.length_append, List.length_cons, List.length_nil]; omega)) rfl ?_
  rintro v1 H4 ⟨w4, g4, nx4⟩
  try dsimp only at g4 nx4
  have ob4 := g4.oldB wo (by omega)
  have o0 := o0.trans (ob4.mono (by omega))
  have z4 := ob4.1
  have wo := w4
  have ptB := ptA.app w4 g4 nx4
  have bb := ptB.bb
  have zpB := ptB.sz
  refine KL.opS (S.store rfl sz34 rfl rfl ptB.wo.cells1 ptB.wo.one bb (by simp)) rfl rfl ?_
  rintro H5 ⟨u5, b5⟩
  have o0 := o0.trans (OldB.upd u5 (by omega))
  have zu5 := u5.1
  have bb := b5
  have pt := ptB.sto u5 bb
  have zpt := pt.sz
  refine KL.nil (KQ.sr (KL.fin 2 rfl (KQ.seq (KC.seq (KC.sr (KL.run 1 rfl ?_))))))
  refine KL.ld rfl (by exact cell_of pt.bx rfl) ?_
  refine KL.c rfl K122 (Form_k _) ?_
  rintro _ _ ⟨rfl, rfl⟩
  rw [hf]
  refine KL.nil (KQ.seq (KC.block (KC.sr (KL.e0 rfl (by decide) (KL.fin 1 rfl (KQ.seq (KC.condF rfl (KC.seq (KC.sr (KL.e0 rfl (by decide) (KL.fin 1 rfl ?_)))))))))))
  refine KQ.seq (KC.condF rfl (KC.region (KL.e0 rfl (by decide) (KL.fin 1 rfl (KQ.seq (KC.condF rfl (KC.sr (KL.e0 rfl (by decide) (KL.fin 1 rfl (KQ.seq (KC.condF rfl (KC.seq ?_))))))))))))
  refine KC.region (KL.e1 rfl (by decide) (KL.fin 1 rfl (KQ.seq (KC.condT rfl (KC.sr (KL.run 2 rfl ?_))))))
  refine KL.ld rfl (by exact cell_of pt.bx rfl) ?_
  have hbz := pt.sz
  have hlz : True := by trivial
  refine KL.c rfl K123 (put1_any pt.bb pt.wo pt.hne hbz.1 (by simp only [List.length_append, List.length_cons, List.length_nil]; omega) _ (hx.2.1)) ?_
  rintro _ H6 ⟨rfl, v6, bq, wq, hq, fq, nq⟩
  have pt := pt.num bq wq hq fq nq
  have zpt := pt.sz
  have zfq := fq.1
  have o0 : OldB 0 H H6 := ⟨by omega, fun k hk => by omega⟩
  refine KL.nil (KQ.r ?_)
  refine KL.ld rfl (by exact cell_of pt.bb rfl) ?_
  refine KL.m (M.lit rfl U34 zs5 (by decide) rfl rfl rfl) rfl ?_
  rintro _ H7 ⟨rfl, n7⟩
  have z7 := n7.2.1
  have o0 := o0.trans ((n7.1).b (by omega))
  have pt := pt.old n7.1
  have b7 := n7.2.2
  have ptA := pt
  have hap : Sl 1 (EInt .u8) H7 _ [0] := Sl.lits (l := [0]) n7 rfl (by simp) (by decide)
  have wo := ptA.wo
  have zpA := ptA.sz
  have lt8 := wo.lt
  refine KL.m (M.appendN rfl U34 inf5 rfl (by decide) rfl rfl wo hap (fun _ _ h _ => h) (by omega) (by simp only [List.length_append, List.length_cons, List.length_nil]; omega) (by unfold maxLen; simp only [List.length_append, List.length_cons, List.length_nil]; omega)) rfl ?_
  rintro v7 H8 ⟨w8, g8, nx8⟩
  try dsimp only at g8 nx8
  have ob8 := g8.oldB wo (by omega)
  have o0 := o0.trans (ob8.mono (by omega))
  have z8 := ob8.1
  have wo := w8
  have ptB := ptA.app w8 g8 nx8
  have bb := ptB.bb
  have zpB := ptB.sz
  refine KL.opS (S.store rfl sz34 rfl rfl ptB.wo.cells1 ptB.wo.one bb (by simp)) rfl rfl ?_
  rintro H9 ⟨u9, b9⟩
  have o0 := o0.trans (OldB.upd u9 (by omega))
  have zu9 := u9.1
  have bb := b9
  have pt := ptB.sto u9 bb
  have zpt := pt.sz
  refine KL.nil (KQ.normBlock (KQ.sr ?_))
  refine KL.ld rfl (by exact cell_of pt.bb rfl) ?_
  refine KL.fin 1 rfl (KQ.seq (KC.ret (KQ.ofRet (KQ.fin1 V118 rfl ?_))))
  have e : Isp.bytes x = x.op :: (Isp.apN false x.a ++ [0]) := by unfold Isp.bytes Isp.bodyE Isp.rest Isp.labsE; rw [hf]; simp
  rw [e]
  obtain ⟨r1, r2, r3⟩ := pt.ends oHb (by omega) w0
  exact ⟨by simpa [List.append_assoc] using r1, r2, r3⟩
theorem put6 {H : Heap} {B : Nat} {vb : Value} {lb : List Int} {x : Ins} {vl : Value} (w0 : Own 1 (EInt .u8) 5 #[] B H vb lb) (hB : B ≤ H.size) (hx : InsR x) (hll : x.l.length ≤ 100000000) (hlb : lb.length ≤ 1000000000) (hs0 : ∀ H2, OldB B H H2 → Sl 1 (EInt .u32) H2 vl x.l) (hf : Opc.form x.op = 6) : Ct Tryz.prog 118 [vb, insV x vl] H (fun u H' => Own 1 (EInt .u8) 5 #[] B H' u (lb ++ Isp.bytes x) ∧ Grown vb H H' ∧ Nx H vb u) := by
  refine Ct.mk Tryz.func118 rfl Tryz.ntmps118 rfl ?_
  intro W0 hW0
  have o0 : OldB 0 H H := OldB.refl _ H
  have hlx1 := apL hx.2.1
  have hlx2 := apL hx.2.2.1
  have hv0 := w0.lt.imp (fun h => h) (fun h => h.2)
  have oZ : Old H H := Old.refl _
  unfold insV
  refine KC.sr ?_
  refine KL.m (M.box (cs := [vb]) rfl rfl w0.cells1) rfl ?_
  rintro _ H1 ⟨rfl, n1⟩
  have z1 := n1.2.1
  have o0 := o0.trans ((n1.1).b (by omega))
  have oZ := oZ.trans n1.1
  have b1 := n1.2.2
  have bb := b1
  refine KL.m (M.box rfl rfl rfl) rfl ?_
  rintro _ H2 ⟨rfl, n2⟩
  have z2 := n2.2.1
  have o0 := o0.trans ((n2.1).b (by omega))
  have oZ := oZ.trans n2.1
  have bb := (n2.1).blk bb
  have b2 := n2.2.2
  have bx := b2
  have pt : PT H2 H2 (Array.size H) (Array.size H1) B vb vb vb x vl lb := ⟨bb, bx, w0.old oZ, hv0.imp id (fun e => by omega), hv0.imp id (fun e => by omega), Nx.refl _ _, Fr.refl _ _ _, fun H2 k => hs0 H2 ((oZ.b hB).trans k), by omega, ⟨by omega, by omega, by omega, by omega, by omega⟩, w0.lt.imp id (fun e => e.1)⟩
  have zpt := pt.sz
  have oHb : Old H H2 := oZ
  refine KL.fin 1 rfl (KQ.sr ?_)
  refine KL.ld rfl (by exact cell_of pt.bb rfl) ?_
  refine KL.run 1 rfl ?_
  refine KL.ld rfl (by exact cell_of pt.bx rfl) ?_
  refine KL.m (M.lit rfl U34 zs5 (by decide) rfl rfl rfl) rfl ?_
  rintro _ H3 ⟨rfl, n3⟩
  have z3 := n3.2.1
  have o0 := o0.trans ((n3.1).b (by omega))
  have pt := pt.old n3.1
  have b3 := n3.2.2
  have ptA := pt
  have hap : Sl 1 (EInt .u8) H3 _ [x.op] := Sl.lits (l := [x.op]) n3 rfl (by simp) (by intro y hy; simp only [List.mem_cons, List.not_mem_nil, or_false] at hy; subst hy; exact hx.1)
  have wo := ptA.wo
  have zpA := ptA.sz
  have lt4 := wo.lt
  refine KL.m (M.appendN rfl U34 inf5 rfl (by decide) rfl rfl wo hap (fun _ _ h _ => h) (by omega) (by simp only [List.length_append, List.length_cons, List.length_nil]; omega) (by unfold maxLen; simp only [List.length_append, List.length_cons, List.length_nil]; omega)) rfl ?_
  rintro v1 H4 ⟨w4, g4, nx4⟩
  try dsimp only at g4 nx4
  have ob4 := g4.oldB wo (by omega)
  have o0 := o0.trans (ob4.mono (by omega))
  have z4 := ob4.1
  have wo := w4
  have ptB := ptA.app w4 g4 nx4
  have bb := ptB.bb
  have zpB := ptB.sz
  refine KL.opS (S.store rfl sz34 rfl rfl ptB.wo.cells1 ptB.wo.one bb (by simp)) rfl rfl ?_
  rintro H5 ⟨u5, b5⟩
  have o0 := o0.trans (OldB.upd u5 (by omega))
  have zu5 := u5.1
  have bb := b5
  have pt := ptB.sto u5 bb
  have zpt := pt.sz
  refine KL.nil (KQ.sr (KL.fin 2 rfl (KQ.seq (KC.seq (KC.sr (KL.run 1 rfl ?_))))))
  refine KL.ld rfl (by exact cell_of pt.bx rfl) ?_
  refine KL.c rfl K122 (Form_k _) ?_
  rintro _ _ ⟨rfl, rfl⟩
  rw [hf]
  refine KL.nil (KQ.seq (KC.block (KC.sr (KL.e0 rfl (by decide) (KL.fin 1 rfl (KQ.seq (KC.condF rfl (KC.seq (KC.sr (KL.e0 rfl (by decide) (KL.fin 1 rfl ?_)))))))))))
  refine KQ.seq (KC.condF rfl (KC.region (KL.e0 rfl (by decide) (KL.fin 1 rfl (KQ.seq (KC.condF rfl (KC.sr (KL.e0 rfl (by decide) (KL.fin 1 rfl (KQ.seq (KC.condF rfl (KC.seq ?_))))))))))))
  refine KC.region (KL.e0 rfl (by decide) (KL.fin 1 rfl (KQ.seq (KC.condF rfl (KC.sr (KL.e1 rfl (by decide) (KL.fin 1 rfl (KQ.seq (KC.condT rfl (KC.sr (KL.run 2 rfl ?_)))))))))))
  refine KL.ld rfl (by exact cell_of pt.bx rfl) ?_
  have hbz := pt.sz
  have hlz : True := by trivial
  refine KL.c rfl K123 (put1_any pt.bb pt.wo pt.hne hbz.1 (by simp only [List.length_append, List.length_cons, List.length_nil]; omega) _ (hx.2.1)) ?_
  rintro _ H6 ⟨rfl, v8, bq, wq, hq, fq, nq⟩
  have pt := pt.num bq wq hq fq nq
  have zpt := pt.sz
  have zfq := fq.1
  have o0 : OldB 0 H H6 := ⟨by omega, fun k hk => by omega⟩
  refine KL.nil (KQ.r (KL.run 2 rfl ?_))
  refine KL.ld rfl (by exact cell_of pt.bx rfl) ?_
  have hbz := pt.sz
  have hlz : True := by trivial
  refine KL.c rfl K123 (put1_any pt.bb pt.wo pt.hne hbz.1 (by simp only [List.length_append, List.length_cons, List.length_nil]; omega) _ (hx.2.2.1)) ?_
  rintro _ H7 ⟨rfl, v9, bq, wq, hq, fq, nq⟩
  have pt := pt.num bq wq hq fq nq
  have zpt := pt.sz
  have zfq := fq.1
  have o0 : OldB 0 H H7 := ⟨by omega, fun k hk => by omega⟩
  refine KL.nil (KQ.normBlock (KQ.sr ?_))
  refine KL.ld rfl (by exact cell_of pt.bb rfl) ?_
  refine KL.fin 1 rfl (KQ.seq (KC.ret (KQ.ofRet (KQ.fin1 V118 rfl ?_))))
  have e : Isp.bytes x = x.op :: (Isp.apN false x.a ++ Isp.apN false x.b) := by unfold Isp.bytes Isp.bodyE Isp.rest Isp.labsE; rw [hf]; simp
  rw [e]
  obtain ⟨r1, r2, r3⟩ := pt.ends oHb (by omega) w0
  exact ⟨by simpa [List.append_assoc] using r1, r2, r3⟩
theorem put7 {H : Heap} {B : Nat} {vb : Value} {lb : List Int} {x : Ins} {vl : Value} (w0 : Own 1 (EInt .u8) 5 #[] B H vb lb) (hB : B ≤ H.size) (hx : InsR x) (hll : x.l.length ≤ 100000000) (hlb : lb.length ≤ 1000000000) (hs0 : ∀ H2, OldB B H H2 → Sl 1 (EInt .u32) H2 vl x.l) (hf : Opc.form x.op = 7) : Ct Tryz.prog 118 [vb, insV x vl] H (fun u H' => Own 1 (EInt .u8) 5 #[] B H' u (lb ++ Isp.bytes x) ∧ Grown vb H H' ∧ Nx H vb u) := by
  refine Ct.mk Tryz.func118 rfl Tryz.ntmps118 rfl ?_
  intro W0 hW0
  have o0 : OldB 0 H H := OldB.refl _ H
  have hlx1 := apL hx.2.1
  have hlx2 := apL hx.2.2.1
  have hv0 := w0.lt.imp (fun h => h) (fun h => h.2)
  have oZ : Old H H := Old.refl _
  unfold insV
  refine KC.sr ?_
  refine KL.m (M.box (cs := [vb]) rfl rfl w0.cells1) rfl ?_
  rintro _ H1 ⟨rfl, n1⟩
  have z1 := n1.2.1
  have o0 := o0.trans ((n1.1).b (by omega))
  have oZ := oZ.trans n1.1
  have b1 := n1.2.2
  have bb := b1
  refine KL.m (M.box rfl rfl rfl) rfl ?_
  rintro _ H2 ⟨rfl, n2⟩
  have z2 := n2.2.1
  have o0 := o0.trans ((n2.1).b (by omega))
  have oZ := oZ.trans n2.1
  have bb := (n2.1).blk bb
  have b2 := n2.2.2
  have bx := b2
  have pt : PT H2 H2 (Array.size H) (Array.size H1) B vb vb vb x vl lb := ⟨bb, bx, w0.old oZ, hv0.imp id (fun e => by omega), hv0.imp id (fun e => by omega), Nx.refl _ _, Fr.refl _ _ _, fun H2 k => hs0 H2 ((oZ.b hB).trans k), by omega, ⟨by omega, by omega, by omega, by omega, by omega⟩, w0.lt.imp id (fun e => e.1)⟩
  have zpt := pt.sz
  have oHb : Old H H2 := oZ
  refine KL.fin 1 rfl (KQ.sr ?_)
  refine KL.ld rfl (by exact cell_of pt.bb rfl) ?_
  refine KL.run 1 rfl ?_
  refine KL.ld rfl (by exact cell_of pt.bx rfl) ?_
  refine KL.m (M.lit rfl U34 zs5 (by decide) rfl rfl rfl) rfl ?_
  rintro _ H3 ⟨rfl, n3⟩
  have z3 := n3.2.1
  have o0 := o0.trans ((n3.1).b (by omega))
  have pt := pt.old n3.1
  have b3 := n3.2.2
  have ptA := pt
  have hap : Sl 1 (EInt .u8) H3 _ [x.op] := Sl.lits (l := [x.op]) n3 rfl (by simp) (by intro y hy; simp only [List.mem_cons, List.not_mem_nil, or_false] at hy; subst hy; exact hx.1)
  have wo := ptA.wo
  have zpA := ptA.sz
  have lt4 := wo.lt
  refine KL.m (M.appendN rfl U34 inf5 rfl (by decide) rfl rfl wo hap (fun _ _ h _ => h) (by omega) (by simp only [List.length_append, List.length_cons, List.length_nil]; omega) (by unfold maxLen; simp only [List.length_append, List.length_cons, List.length_nil]; omega)) rfl ?_
  rintro v1 H4 ⟨w4, g4, nx4⟩
  try dsimp only at g4 nx4
  have ob4 := g4.oldB wo (by omega)
  have o0 := o0.trans (ob4.mono (by omega))
  have z4 := ob4.1
  have wo := w4
  have ptB := ptA.app w4 g4 nx4
  have bb := ptB.bb
  have zpB := ptB.sz
  refine KL.opS (S.store rfl sz34 rfl rfl ptB.wo.cells1 ptB.wo.one bb (by simp)) rfl rfl ?_
  rintro H5 ⟨u5, b5⟩
  have o0 := o0.trans (OldB.upd u5 (by omega))
  have zu5 := u5.1
  have bb := b5
  have pt := ptB.sto u5 bb
  have zpt := pt.sz
  refine KL.nil (KQ.sr (KL.fin 2 rfl (KQ.seq (KC.seq (KC.sr (KL.run 1 rfl ?_))))))
  refine KL.ld rfl (by exact cell_of pt.bx rfl) ?_
  refine KL.c rfl K122 (Form_k _) ?_
  rintro _ _ ⟨rfl, rfl⟩
  rw [hf]
  refine KL.nil (KQ.seq (KC.block (KC.sr (KL.e0 rfl (by decide) (KL.fin 1 rfl (KQ.seq (KC.condF rfl (KC.seq (KC.sr (KL.e0 rfl (by decide) (KL.fin 1 rfl ?_)))))))))))
  refine KQ.seq (KC.condF rfl (KC.region (KL.e0 rfl (by decide) (KL.fin 1 rfl (KQ.seq (KC.condF rfl (KC.sr (KL.e0 rfl (by decide) (KL.fin 1 rfl (KQ.seq (KC.condF rfl (KC.seq ?_))))))))))))
  refine KC.region (KL.e0 rfl (by decide) (KL.fin 1 rfl (KQ.seq (KC.condF rfl (KC.sr (KL.e0 rfl (by decide) (KL.fin 1 rfl (KQ.seq (KC.condF rfl (KC.sr (KL.e1 rfl (by decide) ?_)))))))))))
  refine KL.fin 1 rfl (KQ.seq (KC.condT rfl (KC.region ?_)))
  refine KL.ld rfl (by exact cell_of pt.bb rfl) ?_
  refine KL.m (M.lit rfl U34 zs5 (by decide) rfl rfl rfl) rfl ?_
  rintro _ H6 ⟨rfl, n6⟩
  have z6 := n6.2.1
  have o0 := o0.trans ((n6.1).b (by omega))
  have pt := pt.old n6.1
  have b6 := n6.2.2
  have ptA := pt
  have hap : Sl 1 (EInt .u8) H6 _ [0] := Sl.lits (l := [0]) n6 rfl (by simp) (by decide)
  have wo := ptA.wo
  have zpA := ptA.sz
  have lt7 := wo.lt
  refine KL.m (M.appendN rfl U34 inf5 rfl (by decide) rfl rfl wo hap (fun _ _ h _ => h) (by omega) (by simp only [List.length_append, List.length_cons, List.length_nil]; omega) (by unfold maxLen; simp only [List.length_append, List.length_cons, List.length_nil]; omega)) rfl ?_
  rintro va H7 ⟨w7, g7, nx7⟩
  try dsimp only at g7 nx7
  have ob7 := g7.oldB wo (by omega)
  have o0 := o0.trans (ob7.mono (by omega))
  have z7 := ob7.1
  have wo := w7
  have ptB := ptA.app w7 g7 nx7
  have bb := ptB.bb
  have zpB := ptB.sz
  refine KL.opS (S.store rfl sz34 rfl rfl ptB.wo.cells1 ptB.wo.one bb (by simp)) rfl rfl ?_
  rintro H8 ⟨u8, b8⟩
  have o0 := o0.trans (OldB.upd u8 (by omega))
  have zu8 := u8.1
  have bb := b8
  have pt := ptB.sto u8 bb
  have zpt := pt.sz
  refine KL.nil (KQ.normBlock (KQ.sr ?_))
  refine KL.ld rfl (by exact cell_of pt.bb rfl) ?_
  refine KL.fin 1 rfl (KQ.seq (KC.ret (KQ.ofRet (KQ.fin1 V118 rfl ?_))))
  have e : Isp.bytes x = x.op :: [0] := by unfold Isp.bytes Isp.bodyE Isp.rest Isp.labsE; rw [hf]; simp
  rw [e]
  obtain ⟨r1, r2, r3⟩ := pt.ends oHb (by omega) w0
  exact ⟨by simpa [List.append_assoc] using r1, r2, r3⟩
theorem put8 {H : Heap} {B : Nat} {vb : Value} {lb : List Int} {x : Ins} {vl : Value} (w0 : Own 1 (EInt .u8) 5 #[] B H vb lb) (hB : B ≤ H.size) (hx : InsR x) (hll : x.l.length ≤ 100000000) (hlb : lb.length ≤ 1000000000) (hs0 : ∀ H2, OldB B H H2 → Sl 1 (EInt .u32) H2 vl x.l) (hf : Opc.form x.op = 8) : Ct Tryz.prog 118 [vb, insV x vl] H (fun u H' => Own 1 (EInt .u8) 5 #[] B H' u (lb ++ Isp.bytes x) ∧ Grown vb H H' ∧ Nx H vb u) := by
  refine Ct.mk Tryz.func118 rfl Tryz.ntmps118 rfl ?_
  intro W0 hW0
  have o0 : OldB 0 H H := OldB.refl _ H
  have hlx1 := apL hx.2.1
  have hlx2 := apL hx.2.2.1
  have hv0 := w0.lt.imp (fun h => h) (fun h => h.2)
  have oZ : Old H H := Old.refl _
  unfold insV
  refine KC.sr ?_
  refine KL.m (M.box (cs := [vb]) rfl rfl w0.cells1) rfl ?_
  rintro _ H1 ⟨rfl, n1⟩
  have z1 := n1.2.1
  have o0 := o0.trans ((n1.1).b (by omega))
  have oZ := oZ.trans n1.1
  have b1 := n1.2.2
  have bb := b1
  refine KL.m (M.box rfl rfl rfl) rfl ?_
  rintro _ H2 ⟨rfl, n2⟩
  have z2 := n2.2.1
  have o0 := o0.trans ((n2.1).b (by omega))
  have oZ := oZ.trans n2.1
  have bb := (n2.1).blk bb
  have b2 := n2.2.2
  have bx := b2
  have pt : PT H2 H2 (Array.size H) (Array.size H1) B vb vb vb x vl lb := ⟨bb, bx, w0.old oZ, hv0.imp id (fun e => by omega), hv0.imp id (fun e => by omega), Nx.refl _ _, Fr.refl _ _ _, fun H2 k => hs0 H2 ((oZ.b hB).trans k), by omega, ⟨by omega, by omega, by omega, by omega, by omega⟩, w0.lt.imp id (fun e => e.1)⟩
  have zpt := pt.sz
  have oHb : Old H H2 := oZ
  refine KL.fin 1 rfl (KQ.sr ?_)
  refine KL.ld rfl (by exact cell_of pt.bb rfl) ?_
  refine KL.run 1 rfl ?_
  refine KL.ld rfl (by exact cell_of pt.bx rfl) ?_
  refine KL.m (M.lit rfl U34 zs5 (by decide) rfl rfl rfl) rfl ?_
  rintro _ H3 ⟨rfl, n3⟩
  have z3 := n3.2.1
  have o0 := o0.trans ((n3.1).b (by omega))
  have pt := pt.old n3.1
  have b3 := n3.2.2
  have ptA := pt
  have hap : Sl 1 (EInt .u8) H3 _ [x.op] := Sl.lits (l := [x.op]) n3 rfl (by simp) (by intro y hy; simp only [List.mem_cons, List.not_mem_nil, or_false] at hy; subst hy; exact hx.1)
  have wo := ptA.wo
  have zpA := ptA.sz
  have lt4 := wo.lt
  refine KL.m (M.appendN rfl U34 inf5 rfl (by decide) rfl rfl wo hap (fun _ _ h _ => h) (by omega) (by simp only [List.length_append, List.length_cons, List.length_nil]; omega) (by unfold maxLen; simp only [List.length_append, List.length_cons, List.length_nil]; omega)) rfl ?_
  rintro v1 H4 ⟨w4, g4, nx4⟩
  try dsimp only at g4 nx4
  have ob4 := g4.oldB wo (by omega)
  have o0 := o0.trans (ob4.mono (by omega))
  have z4 := ob4.1
  have wo := w4
  have ptB := ptA.app w4 g4 nx4
  have bb := ptB.bb
  have zpB := ptB.sz
  refine KL.opS (S.store rfl sz34 rfl rfl ptB.wo.cells1 ptB.wo.one bb (by simp)) rfl rfl ?_
  rintro H5 ⟨u5, b5⟩
  have o0 := o0.trans (OldB.upd u5 (by omega))
  have zu5 := u5.1
  have bb := b5
  have pt := ptB.sto u5 bb
  have zpt := pt.sz
  refine KL.nil (KQ.sr (KL.fin 2 rfl (KQ.seq (KC.seq (KC.sr (KL.run 1 rfl ?_))))))
  refine KL.ld rfl (by exact cell_of pt.bx rfl) ?_
  refine KL.c rfl K122 (Form_k _) ?_
  rintro _ _ ⟨rfl, rfl⟩
  rw [hf]
  refine KL.nil (KQ.seq (KC.block (KC.sr (KL.e0 rfl (by decide) (KL.fin 1 rfl (KQ.seq (KC.condF rfl (KC.seq (KC.sr (KL.e0 rfl (by decide) (KL.fin 1 rfl ?_)))))))))))
  refine KQ.seq (KC.condF rfl (KC.region (KL.e0 rfl (by decide) (KL.fin 1 rfl (KQ.seq (KC.condF rfl (KC.sr (KL.e0 rfl (by decide) (KL.fin 1 rfl (KQ.seq (KC.condF rfl (KC.seq ?_))))))))))))
  refine KC.region (KL.e0 rfl (by decide) (KL.fin 1 rfl (KQ.seq (KC.condF rfl (KC.sr (KL.e0 rfl (by decide) (KL.fin 1 rfl (KQ.seq (KC.condF rfl (KC.sr (KL.e0 rfl (by decide) ?_)))))))))))
  refine KL.fin 1 rfl (KQ.seq (KC.condF rfl (KC.seq (KC.sr (KL.e1 rfl (by decide) (KL.fin 1 rfl (KQ.seq (KC.condT rfl (KC.skip (KQ.seq (KC.condT rfl ?_)))))))))))
  refine KC.order [0, 1, 2, 3, 4, 5] (clOf [(3, 2), (4, 2), (5, 2)]) (fun j Hc => (j = 0 → Hc[(Array.size H)]? = some (.cells [v1].toArray 34 (0, 0))) ∧ (j = 2 → Hc[(Array.size H1)]? = some (.cells [.int .u8 x.op, .int .u32 x.a, .int .u32 x.b, .int .i64 x.c, vl].toArray 126 (0, 0)))) (fun _ _ => False) (by kernel_rfl) (by kernel_rfl) (by kernel_rfl) rfl (fun _ => ⟨fun _ => pt.bb, fun _ => pt.bx⟩) (fun _ _ h => h.elim) ?_
  refine KO.op rfl rfl (fun Hg hg => R.load rfl U34 rfl rfl (cell_of (hg.1 rfl) rfl)) rfl rfl rfl ?_
  refine KO.op rfl rfl (fun Hg hg => (R.fieldAddr rfl U126 rfl rfl sz2 rfl)) rfl rfl rfl ?_
  refine KO.op rfl rfl (fun Hg hg => R.load rfl U2 rfl rfl (cell_of (hg.2 rfl) rfl)) rfl rfl rfl ?_
  refine KO.call rfl rfl rfl rfl rfl rfl Tryz.call124 rfl rfl rfl (AppS_k x.c hx.2.2.2) (fun _ _ hR _ _ _ => ⟨fun _ => hR.2.blk pt.bb, fun _ => hR.2.blk pt.bx⟩) ?_
  rintro va H6 ⟨wa, ox⟩
  have zc_H6 := (ox).1
  have o0 := o0.trans ((ox).b (by omega))
  have pt := pt.old ox
  have ptA := pt
  have hap := wa.sl (emptyOld _) (by omega)
  have hal := apS hx.2.2.2
  have wo := ptA.wo
  have zpA := ptA.sz
  have lt7 := wo.lt
  refine KO.opM rfl rfl (M.appendN rfl U34 inf5 rfl (by decide) rfl rfl wo hap (fun _ _ h _ => h) (by omega) (by simp only [List.length_append, List.length_cons, List.length_nil]; omega) (by unfold maxLen; simp only [List.length_append, List.length_cons, List.length_nil]; omega)) rfl rfl rfl (fun _ _ hR j _ hj2 => ⟨fun hj => by subst hj; exact absurd (by decide +kernel) hj2, fun hj => by subst hj; exact absurd (by decide +kernel) hj2⟩) ?_
  rintro vs H7 ⟨w7, g7, nx7⟩
  try dsimp only at g7 nx7
  have ob7 := g7.oldB wo (by omega)
  have o0 := o0.trans (ob7.mono (by omega))
  have z7 := ob7.1
  have wo := w7
  have ptB := ptA.app w7 g7 nx7
  have bb := ptB.bb
  have zpB := ptB.sz
  refine KO.opS rfl rfl (S.store rfl sz34 rfl rfl ptB.wo.cells1 ptB.wo.one bb (by simp)) rfl rfl (fun _ h j hj1 hj2 => ⟨fun hj => by subst hj; exact absurd (by decide +kernel) hj2, fun hj => by subst hj; exact absurd (by decide +kernel) hj2⟩) ?_
  rintro H8 ⟨u8, b8⟩
  have o0 := o0.trans (OldB.upd u8 (by omega))
  have zu8 := u8.1
  have bb := b8
  have pt := ptB.sto u8 bb
  have zpt := pt.sz
  refine KO.nil ?_
  refine KQ.normBlock (KQ.sr ?_)
  refine KL.ld rfl (by exact cell_of pt.bb rfl) ?_
  refine KL.fin 1 rfl (KQ.seq (KC.ret (KQ.ofRet (KQ.fin1 V118 rfl ?_))))
  have e : Isp.bytes x = x.op :: Isp.apN true x.c := by unfold Isp.bytes Isp.bodyE Isp.rest Isp.labsE; rw [hf]; simp
  rw [e]
  obtain ⟨r1, r2, r3⟩ := pt.ends oHb (by omega) w0
  exact ⟨by simpa [List.append_assoc] using r1, r2, r3⟩
theorem put9 {H : Heap} {B : Nat} {vb : Value} {lb : List Int} {x : Ins} {vl : Value} (w0 : Own 1 (EInt .u8) 5 #[] B H vb lb) (hB : B ≤ H.size) (hx : InsR x) (hll : x.l.length ≤ 100000000) (hlb : lb.length ≤ 1000000000) (hs0 : ∀ H2, OldB B H H2 → Sl 1 (EInt .u32) H2 vl x.l) (hf : Opc.form x.op = 9) : Ct Tryz.prog 118 [vb, insV x vl] H (fun u H' => Own 1 (EInt .u8) 5 #[] B H' u (lb ++ Isp.bytes x) ∧ Grown vb H H' ∧ Nx H vb u) := by
  refine Ct.mk Tryz.func118 rfl Tryz.ntmps118 rfl ?_
  intro W0 hW0
  have o0 : OldB 0 H H := OldB.refl _ H
  have hlx1 := apL hx.2.1
  have hlx2 := apL hx.2.2.1
  have hv0 := w0.lt.imp (fun h => h) (fun h => h.2)
  have oZ : Old H H := Old.refl _
  unfold insV
  refine KC.sr ?_
  refine KL.m (M.box (cs := [vb]) rfl rfl w0.cells1) rfl ?_
  rintro _ H1 ⟨rfl, n1⟩
  have z1 := n1.2.1
  have o0 := o0.trans ((n1.1).b (by omega))
  have oZ := oZ.trans n1.1
  have b1 := n1.2.2
  have bb := b1
  refine KL.m (M.box rfl rfl rfl) rfl ?_
  rintro _ H2 ⟨rfl, n2⟩
  have z2 := n2.2.1
  have o0 := o0.trans ((n2.1).b (by omega))
  have oZ := oZ.trans n2.1
  have bb := (n2.1).blk bb
  have b2 := n2.2.2
  have bx := b2
  have pt : PT H2 H2 (Array.size H) (Array.size H1) B vb vb vb x vl lb := ⟨bb, bx, w0.old oZ, hv0.imp id (fun e => by omega), hv0.imp id (fun e => by omega), Nx.refl _ _, Fr.refl _ _ _, fun H2 k => hs0 H2 ((oZ.b hB).trans k), by omega, ⟨by omega, by omega, by omega, by omega, by omega⟩, w0.lt.imp id (fun e => e.1)⟩
  have zpt := pt.sz
  have oHb : Old H H2 := oZ
  refine KL.fin 1 rfl (KQ.sr ?_)
  refine KL.ld rfl (by exact cell_of pt.bb rfl) ?_
  refine KL.run 1 rfl ?_
  refine KL.ld rfl (by exact cell_of pt.bx rfl) ?_
  refine KL.m (M.lit rfl U34 zs5 (by decide) rfl rfl rfl) rfl ?_
  rintro _ H3 ⟨rfl, n3⟩
  have z3 := n3.2.1
  have o0 := o0.trans ((n3.1).b (by omega))
  have pt := pt.old n3.1
  have b3 := n3.2.2
  have ptA := pt
  have hap : Sl 1 (EInt .u8) H3 _ [x.op] := Sl.lits (l := [x.op]) n3 rfl (by simp) (by intro y hy; simp only [List.mem_cons, List.not_mem_nil, or_false] at hy; subst hy; exact hx.1)
  have wo := ptA.wo
  have zpA := ptA.sz
  have lt4 := wo.lt
  refine KL.m (M.appendN rfl U34 inf5 rfl (by decide) rfl rfl wo hap (fun _ _ h _ => h) (by omega) (by simp only [List.length_append, List.length_cons, List.length_nil]; omega) (by unfold maxLen; simp only [List.length_append, List.length_cons, List.length_nil]; omega)) rfl ?_
  rintro v1 H4 ⟨w4, g4, nx4⟩
  try dsimp only at g4 nx4
  have ob4 := g4.oldB wo (by omega)
  have o0 := o0.trans (ob4.mono (by omega))
  have z4 := ob4.1
  have wo := w4
  have ptB := ptA.app w4 g4 nx4
  have bb := ptB.bb
  have zpB := ptB.sz
  refine KL.opS (S.store rfl sz34 rfl rfl ptB.wo.cells1 ptB.wo.one bb (by simp)) rfl rfl ?_
  rintro H5 ⟨u5, b5⟩
  have o0 := o0.trans (OldB.upd u5 (by omega))
  have zu5 := u5.1
  have bb := b5
  have pt := ptB.sto u5 bb
  have zpt := pt.sz
  refine KL.nil (KQ.sr (KL.fin 2 rfl (KQ.seq (KC.seq (KC.sr (KL.run 1 rfl ?_))))))
  refine KL.ld rfl (by exact cell_of pt.bx rfl) ?_
  refine KL.c rfl K122 (Form_k _) ?_
  rintro _ _ ⟨rfl, rfl⟩
  rw [hf]
  refine KL.nil (KQ.seq (KC.block (KC.sr (KL.e0 rfl (by decide) (KL.fin 1 rfl (KQ.seq (KC.condF rfl (KC.seq (KC.sr (KL.e0 rfl (by decide) (KL.fin 1 rfl ?_)))))))))))
  refine KQ.seq (KC.condF rfl (KC.region (KL.e0 rfl (by decide) (KL.fin 1 rfl (KQ.seq (KC.condF rfl (KC.sr (KL.e0 rfl (by decide) (KL.fin 1 rfl (KQ.seq (KC.condF rfl (KC.seq ?_))))))))))))
  refine KC.region (KL.e0 rfl (by decide) (KL.fin 1 rfl (KQ.seq (KC.condF rfl (KC.sr (KL.e0 rfl (by decide) (KL.fin 1 rfl (KQ.seq (KC.condF rfl (KC.sr (KL.e0 rfl (by decide) ?_)))))))))))
  refine KL.fin 1 rfl (KQ.seq (KC.condF rfl (KC.seq (KC.sr (KL.e0 rfl (by decide) (KL.fin 1 rfl (KQ.seq (KC.condF rfl (KC.region (KL.e1 rfl (by decide) (KL.fin 1 rfl (KQ.seq ?_))))))))))))
  refine KC.condT rfl ?_
  refine KC.order [0, 1, 2, 3, 4, 5] (clOf [(3, 2), (4, 2), (5, 2)]) (fun j Hc => (j = 0 → Hc[(Array.size H)]? = some (.cells [v1].toArray 34 (0, 0))) ∧ (j = 2 → Hc[(Array.size H1)]? = some (.cells [.int .u8 x.op, .int .u32 x.a, .int .u32 x.b, .int .i64 x.c, vl].toArray 126 (0, 0)))) (fun _ _ => False) (by kernel_rfl) (by kernel_rfl) (by kernel_rfl) rfl (fun _ => ⟨fun _ => pt.bb, fun _ => pt.bx⟩) (fun _ _ h => h.elim) ?_
  refine KO.op rfl rfl (fun Hg hg => R.load rfl U34 rfl rfl (cell_of (hg.1 rfl) rfl)) rfl rfl rfl ?_
  refine KO.op rfl rfl (fun Hg hg => (R.fieldAddr rfl U126 rfl rfl sz2 rfl)) rfl rfl rfl ?_
  refine KO.op rfl rfl (fun Hg hg => R.load rfl U2 rfl rfl (cell_of (hg.2 rfl) rfl)) rfl rfl rfl ?_
  refine KO.call rfl rfl rfl rfl rfl rfl Tryz.call124 rfl rfl rfl (AppS_k x.c hx.2.2.2) (fun _ _ hR _ _ _ => ⟨fun _ => hR.2.blk pt.bb, fun _ => hR.2.blk pt.bx⟩) ?_
  rintro va H6 ⟨wa, ox⟩
  have zc_H6 := (ox).1
  have o0 := o0.trans ((ox).b (by omega))
  have pt := pt.old ox
  have ptA := pt
  have hap := wa.sl (emptyOld _) (by omega)
  have hal := apS hx.2.2.2
  have wo := ptA.wo
  have zpA := ptA.sz
  have lt7 := wo.lt
  refine KO.opM rfl rfl (M.appendN rfl U34 inf5 rfl (by decide) rfl rfl wo hap (fun _ _ h _ => h) (by omega) (by simp only [List.length_append, List.length_cons, List.length_nil]; omega) (by unfold maxLen; simp only [List.length_append, List.length_cons, List.length_nil]; omega)) rfl rfl rfl (fun _ _ hR j _ hj2 => ⟨fun hj => by subst hj; exact absurd (by decide +kernel) hj2, fun hj => by subst hj; exact absurd (by decide +kernel) hj2⟩) ?_
  rintro vs H7 ⟨w7, g7, nx7⟩
  try dsimp only at g7 nx7
  have ob7 := g7.oldB wo (by omega)
  have o0 := o0.trans (ob7.mono (by omega))
  have z7 := ob7.1
  have wo := w7
  have ptB := ptA.app w7 g7 nx7
  have bb := ptB.bb
  have zpB := ptB.sz
  refine KO.opS rfl rfl (S.store rfl sz34 rfl rfl ptB.wo.cells1 ptB.wo.one bb (by simp)) rfl rfl (fun _ h j hj1 hj2 => ⟨fun hj => by subst hj; exact absurd (by decide +kernel) hj2, fun hj => by subst hj; exact absurd (by decide +kernel) hj2⟩) ?_
  rintro H8 ⟨u8, b8⟩
  have o0 := o0.trans (OldB.upd u8 (by omega))
  have zu8 := u8.1
  have bb := b8
  have pt := ptB.sto u8 bb
  have zpt := pt.sz
  refine KO.nil ?_
  refine KQ.normBlock (KQ.sr ?_)
  refine KL.ld rfl (by exact cell_of pt.bb rfl) ?_
  refine KL.fin 1 rfl (KQ.seq (KC.ret (KQ.ofRet (KQ.fin1 V118 rfl ?_))))
  have e : Isp.bytes x = x.op :: Isp.apN true x.c := by unfold Isp.bytes Isp.bodyE Isp.rest Isp.labsE; rw [hf]; simp
  rw [e]
  obtain ⟨r1, r2, r3⟩ := pt.ends oHb (by omega) w0
  exact ⟨by simpa [List.append_assoc] using r1, r2, r3⟩
theorem put_any {H : Heap} {B : Nat} {vb : Value} {lb : List Int} {x : Ins} {vl : Value} (w0 : Own 1 (EInt .u8) 5 #[] B H vb lb) (hB : B ≤ H.size) (hx : InsR x) (hll : x.l.length ≤ 100000000) (hlb : lb.length ≤ 1000000000) (hs0 : ∀ H2, OldB B H H2 → Sl 1 (EInt .u32) H2 vl x.l) (hM : Isp.May x) : Ct Tryz.prog 118 [vb, insV x vl] H (fun u H' => Own 1 (EInt .u8) 5 #[] B H' u (lb ++ Isp.bytes x) ∧ Grown vb H H' ∧ Nx H vb u) := by
  have hfr := Isp.form_range hx.1
  have hrg : ∀ y ∈ x.l, InR .u32 y := (hs0 H (OldB.refl _ _)).rng
  have hc : Opc.form x.op = 0 ∨ Opc.form x.op = 1 ∨ Opc.form x.op = 2 ∨ Opc.form x.op = 3 ∨ Opc.form x.op = 4 ∨ Opc.form x.op = 5 ∨ Opc.form x.op = 6 ∨ Opc.form x.op = 7 ∨ Opc.form x.op = 8 ∨ Opc.form x.op = 9 := by omega
  rcases hc with h | h | h | h | h | h | h | h | h | h
  · exact put0 w0 hB hx hll hlb hs0 h
  · exact put1 w0 hB hx hll hlb hs0 h (by have := ((Isp.may_iff hx (by omega) hrg).1 hM).2.1; omega)
  · exact put2 w0 hB hx hll hlb hs0 h
  · exact put3 w0 hB hx hll hlb hs0 h
  · exact put4 w0 hB hx hll hlb hs0 h
  · exact put5 w0 hB hx hll hlb hs0 h
  · exact put6 w0 hB hx hll hlb hs0 h
  · exact put7 w0 hB hx hll hlb hs0 h
  · exact put8 w0 hB hx hll hlb hs0 h
  exact put9 w0 hB hx hll hlb hs0 h
theorem CellsH.old {H H' : Heap} {p : Addr} {cs : List Value} (h : CellsH H p cs) (o : Old H H') : CellsH H' p cs := fun i v hv => o.cell (h i v hv)
/-- an expression has bytes -/
def Isp.Has (xs : List Ins) : Prop := Isp.walkM [] xs = some [] ∧ ∀ x ∈ xs, Isp.May x
/-- bytes and marks that are being written -/
structure AS (H : Heap) (gm B0 B : Nat) (vm : Value) (m : List Int) (vb : Value) (lb : List Int) : Prop where
  bm : H[gm]? = some (.cells [vm].toArray 198 (0, 0))
  wm : Own 1 (EInt .u8) 5 #[] B H vm m
  wb : Own 1 (EInt .u8) 5 #[] B0 H vb lb
  sep : vb = .slice none 0 0 ∨ vm = .slice none 0 0 ∨ vblock vb ≠ vblock vm
  nb : vb = .slice none 0 0 ∨ vblock vb ≠ gm
  lo : B0 ≤ gm ∧ gm < B
section
variable {H H' : Heap} {gm B0 B : Nat} {vm vm' vb vb' : Value} {m m' lb lb' : List Int}
theorem AS.sz (h : AS H gm B0 B vm m vb lb) : gm < H.size ∧ B0 ≤ gm ∧ gm < B ∧ (vb = .slice none 0 0 ∨ (B0 ≤ vblock vb ∧ vblock vb < H.size)) ∧ (vm = .slice none 0 0 ∨ (B ≤ vblock vm ∧ vblock vm < H.size)) := ⟨blk_lt h.bm, h.lo.1, h.lo.2, h.wb.lt, h.wm.lt⟩
theorem AS.old (h : AS H gm B0 B vm m vb lb) (o : Old H H') : AS H' gm B0 B vm m vb lb := ⟨o.blk h.bm, h.wm.old o, h.wb.old o, h.sep, h.nb, h.lo⟩
theorem AS.updT {g : Nat} (h : AS H gm B0 B vm m vb lb) (u : Upd g H H') (h1 : g ≠ gm ∧ (vb = .slice none 0 0 ∨ vblock vb ≠ g) ∧ (vm = .slice none 0 0 ∨ vblock vm ≠ g)) : AS H' gm B0 B vm m vb lb :=
  ⟨(u.2 _ (fun e => h1.1 e.symm)).trans h.bm, h.wm.upd u h1.2.2, h.wb.upd u h1.2.1, h.sep, h.nb, h.lo⟩
theorem nx_ne {v v' : Value} {y : Nat} (nx : Nx H v v') (hy : y < H.size) (hn : v = .slice none 0 0 ∨ vblock v ≠ y) : v' = .slice none 0 0 ∨ vblock v' ≠ y := by
  rcases nx with e | ⟨e1, e2⟩ | e
  · exact .inl e
  · rw [e2]; exact .inr (hn.resolve_left e1)
  exact .inr (by omega)
theorem AS.next (h : AS H gm B0 B vm m vb lb) (bm : H'[gm]? = some (.cells [vm'].toArray 198 (0, 0))) (wm : Own 1 (EInt .u8) 5 #[] B H' vm' m') (f : Fr gm vm H H') (nx : Nx H vm vm') : AS H' gm B0 B vm' m' vb lb := by
  have s := h.sz
  refine ⟨bm, wm, ?_, ?_, h.nb, h.lo⟩
  · refine h.wb.keepN ?_
    rcases s.2.2.2.1 with e | e
    · exact .inl e
    by_cases hn : vb = .slice none 0 0
    · exact .inl hn
    exact .inr (f.2 _ e.2 (h.nb.resolve_left hn) ((h.sep.resolve_left hn).imp id (fun k => k)))
  rcases s.2.2.2.1 with e | e
  · exact .inl e
  by_cases hn : vb = .slice none 0 0
  · exact .inl hn
  rcases nx_ne nx e.2 ((h.sep.resolve_left hn).imp id (fun k e => k e.symm)) with k | k
  · exact .inr (.inl k)
  exact .inr (.inr (fun e => k e.symm))
theorem AS.put (h : AS H gm B0 B vm m vb lb) (w : Own 1 (EInt .u8) 5 #[] B0 H' vb' lb') (g : Grown vb H H') (nx : Nx H vb vb') : AS H' gm B0 B vm m vb' lb' := by
  have s := h.sz
  refine ⟨(g.2 _ s.1 (h.nb.imp id (fun k e => k e.symm))).trans h.bm, ?_, w, ?_, nx_ne nx s.1 h.nb, h.lo⟩
  · refine h.wm.keepN ?_
    rcases s.2.2.2.2 with e | e
    · exact .inl e
    by_cases hn : vm = .slice none 0 0
    · exact .inl hn
    refine .inr (g.2 _ e.2 ?_)
    rcases h.sep with k | k | k
    · exact .inl k
    · exact absurd k hn
    exact .inr (fun e => k e.symm)
  rcases s.2.2.2.2 with e | e
  · exact .inr (.inl e)
  by_cases hn : vm = .slice none 0 0
  · exact .inr (.inl hn)
  rcases nx_ne nx e.2 (h.sep.imp id (fun k => k.resolve_left hn)) with k | k
  · exact .inl k
  exact .inr (.inr k)
end
theorem AppendExpr_any {H : Heap} {va v : Value} {la : List Int} {xs : List Ins} (hs : Sl 1 (EInt .u8) H va la) (hla : la.length ≤ 100000000) (hs0 : Sl 5 EIns H v xs) (hb : Isp.bulk xs ≤ 2000000) : Ct Tryz.prog 102 [va, v] H (fun u H' => ((¬ Isp.Has xs ∧ u = .tuple #[.slice none 0 0, .int .i64 2]) ∨ (Isp.Has xs ∧ ∃ c, u = .tuple #[c, .int .i64 0] ∧ Own 1 (EInt .u8) 5 #[] H.size H' c (la ++ (Isp.flat xs ++ [11])))) ∧ Old H H') := by
  refine Ct.mk Tryz.func102 rfl Tryz.ntmps102 rfl ?_
  intro W0 hW0
  have o0 : Old H H := Old.refl H
  have hlx := Isp.bulk_len xs
  refine KC.sr (KL.fin 2 rfl (KQ.seq (KC.seq ?_)))
  have wn : Own 1 (EInt .u8) 5 #[] (Array.size H) H (.slice none 0 0) [] := Own.nil _ _ _ _ _ _
  refine KC.region (KL.run 1 rfl ?_)
  have lt1 := wn.lt
  refine KL.m (M.append rfl U34 inf5 rfl (by decide) rfl rfl wn hs (fun _ _ h _ => h) (by omega) (by simp; omega) (by unfold maxLen; simp; omega)) rfl ?_
  rintro v0 H1 ⟨w1, g1⟩
  have ob1 := g1.oldB wn (by omega)
  have o0 := o0.then ob1 (by omega)
  have z1 := ob1.1
  have wn := w1
  rw [List.nil_append] at wn
  have hwn := wn.lt
  refine KL.fin 1 rfl (KQ.sr ?_)
  refine KL.m (M.alloc rfl zr198 rfl) rfl ?_
  rintro _ H2 ⟨rfl, n2⟩
  have z2 := n2.2.1
  have o0 := o0.trans n2.1
  have wn := wn.old n2.1
  have b2 := n2.2.2
  have bm := b2
  have aw : AS H2 (Array.size H1) (Array.size H) (Array.size H2) (.slice none 0 0) [] v0 la := ⟨bm, Own.nil _ _ _ _ _ _, wn, .inr (.inl rfl), hwn.imp id (fun e => by omega), by omega⟩
  have zas := aw.sz
  refine KL.nil (KQ.seq (KC.seq (KC.sr (KL.run 1 rfl (KL.q (R.lenS rfl U52 rfl (hs0.old o0)) rfl (KL.fin 1 rfl (KQ.seq (KC.block ?_))))))))
  refine KC.loopD (κ := Nat × Value × Value × List Int) [17, 18, 19, 9, 21, 22, 23, 20, 24, 25, 10, 11, 26, 27, 28, 29, 30, 31, 32, 33, 34, 4, 5, 35, 36, 37, 6, 38, 16] (fun k => [(16, .int .i64 (k.1 : Nat)), (6, k.2.1)]) (fun k Hl => k.1 ≤ xs.length ∧ AS Hl (Array.size H1) (Array.size H) (Array.size H2) k.2.2.1 k.2.2.2 k.2.1 (la ++ Isp.flat (xs.take k.1)) ∧ Isp.walkM [] (xs.take k.1) = some k.2.2.2 ∧ (∀ x ∈ xs.take k.1, Isp.May x) ∧ Array.size H2 ≤ Hl.size ∧ Old H Hl) (fun k => xs.length - k.1) (0, v0, .slice none 0 0, []) ?_ ?_ ?_
  · exact Sub.all rfl
  · exact ⟨Nat.zero_le _, by simpa [Isp.flat] using aw, by simp [Isp.walkM], by simp, Nat.le_refl _, o0⟩
  rintro ⟨k, vb, vm, m⟩ H3 ⟨hk, aw, hw, hMs, hBH, o0⟩
  have zl_H3 := o0.1
  dsimp only at hk aw hw hMs
  have zas := aw.sz
  have zo0 := o0.1
  have hs := hs0.old o0
  have hfl := flatB (k := k) hs0 hb
  have hml : m.length ≤ xs.length := by
    have := Isp.walk_len hw
    rw [List.length_take] at this; omega
  have hlx := Isp.bulk_len xs
  refine KC.sr (KL.fin 1 rfl (KQ.seq (KC.seq ?_)))
  refine KC.iq rfl ?_ ?_
  · intro hc17
    try dsimp only at hc17
    obtain ⟨vl, hcx0, hcl0, hxr⟩ := hs0.insV k (by omega)
    have hcx := hcx0.old o0
    have hcl := hcl0.old o0
    have hbm := Isp.bulk_mem (ins_mem (l := xs) (j := k) (by omega))
    refine KC.skip (KQ.seq (KC.seq (KC.block (KC.sr ?_))))
    refine KL.q (R.index (j := k) rfl U52 sz126 rfl rfl hs rfl (by omega)) rfl ?_
    refine KL.lda rfl hcx rfl ?_
    have zasP := aw.sz
    refine KL.m (M.alloc rfl zr126 rfl) rfl ?_
    rintro _ H4 ⟨rfl, n4⟩
    have z4 := n4.2.1
    have o0 := o0.trans n4.1
    have aw := aw.old n4.1
    have b4 := n4.2.2
    have b9x := b4
    have zas := aw.sz
    refine KL.opS (S.storeAgg rfl sz126 rfl rfl (rfl) (by intro u hu; simp only [List.mem_cons, List.not_mem_nil, or_false] at hu; rcases hu with rfl | rfl | rfl | rfl | rfl <;> first | rfl | exact hcl.one) b9x (by simp)) rfl rfl ?_
    rintro H5 ⟨u5, b5⟩
    have o0 := o0.upd u5 (by omega)
    have zu5 := u5.1
    have b9x := b5
    rw [over_all (by rfl)] at b9x
    have aw := aw.updT u5 ⟨by omega, zasP.2.2.2.1.imp id (fun e => by omega), zasP.2.2.2.2.imp id (fun e => by omega)⟩
    have zas := aw.sz
    refine KL.nil (KQ.sr (KL.run 1 rfl (KL.ld rfl (cell_of b9x rfl) ?_)))
    refine KL.c rfl Tryz.call116 (next_any aw.bm aw.wm aw.lo.2 (xs.getD k default).op hxr.1 (by omega) (by omega)) ?_
    rintro _ H6 hR
    rcases hR with ⟨hno, rfl, o2⟩ | ⟨hno, rfl, o2⟩ | ⟨m2, vm2, hnx, rfl, hbm2, hwm, f2, nx2, hv2⟩
    · skip
      have o0 := o0.trans o2
      have b9x := (o2).blk b9x
      have aw := aw.old o2
      have hst : ∀ m2, Isp.nx m (xs.getD k default).op ≠ .go m2 := fun _ => by rw [hno]; simp
      refine KL.fin 5 rfl (KQ.seq (KC.seq (KC.sr (KL.fin 9 rfl (KQ.seq (KC.condT rfl (KC.sr (KL.fin 2 rfl (KQ.seq (KC.ret (KQ.retThen ?_)))))))))))
      refine KQ.retBlock (KQ.retThen (KQ.retThen (KQ.retBlock (KQ.retThen (KQ.ofRet (KQ.fin2 Tryz.results102 rfl rfl ?_))))))
      exact ⟨.inl ⟨fun h => absurd (h.1.symm.trans (Isp.walk_stop (k := k) (by omega) hw hst)) (by simp), rfl⟩, o0⟩
    · skip
      have o0 := o0.trans o2
      have b9x := (o2).blk b9x
      have aw := aw.old o2
      have hst : ∀ m2, Isp.nx m (xs.getD k default).op ≠ .go m2 := fun _ => by rw [hno]; simp
      refine KL.fin 5 rfl (KQ.seq (KC.seq (KC.sr (KL.fin 9 rfl (KQ.seq (KC.condT rfl (KC.sr (KL.fin 2 rfl (KQ.seq (KC.ret (KQ.retThen ?_)))))))))))
      refine KQ.retBlock (KQ.retThen (KQ.retThen (KQ.retBlock (KQ.retThen (KQ.ofRet (KQ.fin2 Tryz.results102 rfl rfl ?_))))))
      exact ⟨.inl ⟨fun h => absurd (h.1.symm.trans (Isp.walk_stop (k := k) (by omega) hw hst)) (by simp), rfl⟩, o0⟩
    have zf2 := f2.1
    have b9x := (f2.2 _ (blk_lt b9x) (by omega) (zasP.2.2.2.2.imp id (fun e => by omega))).trans b9x
    have aw := aw.next hbm2 hwm f2 nx2
    have o0 := o0.then (f2.oldB (B := Array.size H) (by omega) (by omega) (zas.2.2.2.2.imp id (fun e => by omega))) (Nat.le_refl _)
    have zas := aw.sz
    refine KL.fin 5 rfl (KQ.seq (KC.seq (KC.sr (KL.run 5 rfl (KL.lda rfl (cells_of b9x) rfl ?_)))))
    refine KL.c rfl Tryz.call117 (may_any hxr (by omega) (hcl0.old o0)) ?_
    rintro _ H7 ⟨⟨bM, rfl, hbM⟩, ox⟩
    have zc_H7 := (ox).1
    have o0 := o0.trans ox
    have aw := aw.old ox
    have b9x := (ox).blk b9x
    have zas := aw.sz
    refine KL.fin 2 rfl (KQ.seq ?_)
    refine KC.iq rfl ?_ ?_
    · intro hc34
      try dsimp only at hc34
      have hnM : ¬ Isp.May (xs.getD k default) := fun h => by have hq := hbM.2 h; rw [hc34] at hq; cases hq
      refine KC.sr (KL.fin 2 rfl (KQ.seq (KC.ret (KQ.retThen (KQ.retBlock (KQ.retThen (KQ.retThen (KQ.retBlock (KQ.retThen (KQ.ofRet (KQ.fin2 Tryz.results102 rfl rfl ?_)))))))))))
      exact ⟨.inl ⟨fun h => absurd h.2 (Isp.may_no (k := k) (by omega) hnM), rfl⟩, o0⟩
    intro hc34
    try dsimp only at hc34
    have hM : Isp.May (xs.getD k default) := hbM.1 (by simpa using hc34)
    refine KC.skip (KQ.r (KL.run 1 rfl (KL.lda rfl (cells_of b9x) rfl ?_)))
    refine KL.c rfl Tryz.call118 (put_any aw.wb (by omega) hxr (by omega) (by rw [List.length_append]; omega) (fun H2 kk => hcl0.old (o0.then kk (Nat.le_refl _))) hM) ?_
    rintro vp H8 ⟨wp, gq, nq⟩
    have obq := gq.oldB aw.wb (by omega)
    have aw := aw.put wp gq nq
    have zas := aw.sz
    have z_obq := obq.1
    have o0 := o0.then obq (by omega)
    refine KL.fin 1 rfl (KQ.normBlock (KQ.r ?_))
    refine KL.q ((R.add rfl rfl rfl (by dsimp only [InR]; omega)).val (congrArg (Value.int .i64) (show (k : Int) + 1 = ((k + 1 : Nat) : Int) by omega))) rfl ?_
    refine KL.fin 1 rfl ?_
    refine KQ.again ((k + 1, vp, vm2, m2)) ?_ ?_ ?_
    · exact Sub.all rfl
    · show xs.length - (k + 1) < xs.length - k; omega
    exact ⟨by show k + 1 ≤ _; omega, by dsimp only; rw [Isp.flat_step (by omega), ← List.append_assoc]; exact aw, Isp.walk_step (by omega) hw hnx, by
      dsimp only
      intro x hx
      rw [List.take_add_one, List.getElem?_eq_getElem (by omega)] at hx
      rcases List.mem_append.1 hx with hx | hx
      · exact hMs x hx
      simp only [Option.toList_some, List.mem_cons, List.not_mem_nil, or_false] at hx; subst hx
      have : xs.getD k default = xs[k] := by rw [List.getD_eq_getElem?_getD, List.getElem?_eq_getElem (by omega)]; rfl
      rw [← this]; exact hM, by omega, o0⟩
  intro hc17
  try dsimp only at hc17
  refine KC.exit (KQ.exitThen (KQ.exitThen (KQ.hit (KQ.seq (KC.seq (KC.sr ?_))))))
  refine KL.ld rfl (by exact cell_of aw.bm rfl) ?_
  refine KL.q (R.lenO rfl U198 rfl aw.wm) rfl (KL.fin 1 rfl (KQ.seq ?_))
  refine KC.iq rfl ?_ ?_
  · intro hc41
    try dsimp only at hc41
    refine KC.sr (KL.fin 2 rfl (KQ.seq (KC.ret (KQ.retThen (KQ.ofRet (KQ.fin2 Tryz.results102 rfl rfl ?_))))))
    first
      | (have hkl : k = xs.length := by omega
         rw [hkl, List.take_length] at hw
         exact ⟨.inl ⟨fun h => by have e := h.1.symm.trans hw; injection e with e; subst e; simp at *, rfl⟩, o0⟩)
  intro hc41
  try dsimp only at hc41
  have wb := aw.wb
  refine KC.skip (KQ.sr (KL.run 1 rfl ?_))
  refine KL.m (M.lit rfl U34 zs5 (by decide) rfl rfl rfl) rfl ?_
  rintro _ H9 ⟨rfl, n9⟩
  have z9 := n9.2.1
  have o0 := o0.trans n9.1
  have aw := aw.old n9.1
  have b9 := n9.2.2
  have wb := aw.wb
  have h11 : Sl 1 (EInt .u8) H9 _ [11] := Sl.lits (l := [11]) n9 rfl (by simp) (by decide)
  have lt10 := wb.lt
  refine KL.m (M.append rfl U34 inf5 rfl (by decide) rfl rfl wb h11 (fun _ _ h _ => h) (by omega) (by simp only [List.length_append, List.length_cons, List.length_nil]; omega) (by unfold maxLen; simp only [List.length_append, List.length_cons, List.length_nil]; omega)) rfl ?_
  rintro vz H10 ⟨w10, g10⟩
  try dsimp only at g10
  have ob10 := g10.oldB wb (by omega)
  have o0 := o0.then ob10 (by omega)
  have z10 := ob10.1
  have wb := w10
  refine KL.fin 2 rfl (KQ.seq (KC.ret (KQ.ofRet (KQ.fin2 Tryz.results102 rfl rfl ?_))))
  first
    | (have hkl : k = xs.length := by omega
       rw [hkl, List.take_length] at hw hMs wb
       have hm0 : m = [] := List.eq_nil_of_length_eq_zero (by omega)
       subst hm0
       exact ⟨.inr ⟨⟨hw, hMs⟩, _, rfl, by rw [← List.append_assoc]; exact wb⟩, o0⟩)
namespace En
open Classical in
/-- has an expression bytes? -/
noncomputable def has (l : List Ins) : Bool := decide (Isp.Has l)
open Classical in
theorem has_yes {l : List Ins} (h : Isp.Has l) : has l = true := by unfold has; exact decide_eq_true h
open Classical in
theorem has_no {l : List Ins} (h : ¬ Isp.Has l) : has l = false := by unfold has; exact decide_eq_false h
noncomputable def exprB (l : List Ins) : List Int := if has l = true then Isp.flat l ++ [11] else []
noncomputable def gloB (g : Glo) : List Int := globB g.1 ++ exprB g.2
noncomputable def gloO (g : Glo) : Bool := globO g.1 && has g.2
noncomputable def elmB (x : Elm) : List Int := u x.1 ++ exprB x.2.1 ++ lst u x.2.2
noncomputable def elmO (x : Elm) : Bool := has x.2.1
noncomputable def codI (c : Cod) : List Int := lst locB c.1 ++ exprB c.2
noncomputable def codB (c : Cod) : List Int := u ((codI c).length : Nat) ++ codI c
noncomputable def codO (c : Cod) : Bool := c.1.all locO && has c.2 && decide (locS c.1 < 4294967296)
noncomputable def datB (x : Elm) : List Int := u x.1 ++ exprB x.2.1 ++ (u (x.2.2.length : Nat) ++ x.2.2)
noncomputable def datO (x : Elm) : Bool := has x.2.1
noncomputable def secs (m : Mo) : List Sec :=
  sec 1 typB m.types ++ sec 2 impB m.imports ++ sec 3 u m.funcs ++ sec 4 tabB m.tables ++ sec 5 limB m.mems ++ sec 6 gloB m.globs ++ sec 7 expB m.exports ++
  (if m.hasStart = true then [(8, u m.start)] else []) ++ sec 9 elmB m.elems ++ sec 10 codB m.codes ++ sec 11 datB m.datas
noncomputable def ok (m : Mo) : Bool :=
  decide (m.codes.length = m.funcs.length) && (m.hasStart || decide (m.start = 0)) && m.types.all typO && m.imports.all impO && m.tables.all limO && m.mems.all limO && m.globs.all gloO && m.exports.all expO && m.elems.all elmO && m.codes.all codO && m.datas.all datO
theorem n_le (sg : Bool) (z : Int) : (Isp.apN sg z).length ≤ 10 := by
  unfold Isp.apN uints
  rw [List.length_map]; exact apl sg 10 z
theorem bytes_le (x : Ins) : (Isp.bytes x).length ≤ 31 * (1 + x.l.length) := by
  have h1 := n_le false x.a
  have h2 := n_le false x.b
  have h3 := n_le true x.c
  have h4 := flatMap_le (f := Isp.apN false) (c := 10) (l := x.l) (fun y _ => n_le false y)
  have h5 := n_le false ((x.l.length : Nat) : Int)
  unfold Isp.bytes Isp.bodyE Isp.rest Isp.labsE
  dsimp only
  simp only [List.length_cons]
  repeat' split
  all_goals try simp only [List.length_append, List.length_cons, List.length_nil]
  all_goals omega
theorem flat_le (l : List Ins) : (Isp.flat l).length ≤ 31 * Isp.bulk l := by
  induction l with
  | nil => simp [Isp.flat, Isp.bulk]
  | cons x l ih =>
    have h1 := bytes_le x
    simp only [Isp.flat, Isp.bulk, List.flatMap_cons, List.map_cons, List.sum_cons, List.length_append] at *
    omega
theorem expr_le {l : List Ins} {c : Nat} (h : Isp.bulk l ≤ c) : (exprB l).length ≤ 31 * c + 1 := by
  have := flat_le l
  unfold exprB
  split
  · rw [List.length_append, List.length_singleton]; omega
  simp
/-- a module that is not great -/
structure Small (m : Mo) : Prop where
  n : m.types.length ≤ 4000 ∧ m.imports.length ≤ 4000 ∧ m.funcs.length ≤ 4000 ∧ m.tables.length ≤ 4000 ∧ m.mems.length ≤ 4000 ∧ m.globs.length ≤ 4000 ∧ m.exports.length ≤ 4000 ∧ m.elems.length ≤ 4000 ∧ m.codes.length ≤ 4000 ∧ m.datas.length ≤ 4000
  t : ∀ x ∈ m.types, x.1.length ≤ 4000 ∧ x.2.length ≤ 4000
  i : ∀ x ∈ m.imports, x.mod.size ≤ 4000 ∧ x.nam.size ≤ 4000
  e : ∀ x ∈ m.exports, x.nam.size ≤ 4000
  g : ∀ x ∈ m.globs, Isp.bulk x.2 ≤ 4000
  el : ∀ x ∈ m.elems, Isp.bulk x.2.1 ≤ 4000 ∧ x.2.2.length ≤ 4000
  c : ∀ x ∈ m.codes, Isp.bulk x.2 ≤ 4000 ∧ x.1.length ≤ 4000
  d : ∀ x ∈ m.datas, Isp.bulk x.2.1 ≤ 4000 ∧ x.2.2.length ≤ 200000
theorem glo_le {x : Glo} (h : Isp.bulk x.2 ≤ 4000) : (gloB x).length ≤ 1000000 := by
  have h1 := expr_le h
  have h2 := glob_le x.1
  unfold gloB; rw [List.length_append]; omega
theorem elm_le {x : Elm} (h : Isp.bulk x.2.1 ≤ 4000 ∧ x.2.2.length ≤ 4000) : (elmB x).length ≤ 1000000 := by
  have h1 := expr_le h.1
  have h2 := u_le x.1
  have h3 := lst_le (f := u) (c := 10) (l := x.2.2) (fun _ _ => u_le _)
  unfold elmB; simp only [List.length_append]; omega
theorem codI_le {x : Cod} (h : Isp.bulk x.2 ≤ 4000 ∧ x.1.length ≤ 4000) : (codI x).length ≤ 500000 := by
  have h1 := expr_le h.1
  have h3 := lst_le (f := locB) (c := 11) (l := x.1) (fun y _ => by have := u_le y.1; unfold locB; simp; omega)
  unfold codI; rw [List.length_append]; omega
theorem cod_le {x : Cod} (h : Isp.bulk x.2 ≤ 4000 ∧ x.1.length ≤ 4000) : (codB x).length ≤ 1000000 := by
  have h1 := codI_le h
  have h2 := u_le ((codI x).length : Nat)
  unfold codB; rw [List.length_append]; omega
theorem dat_le {x : Elm} (h : Isp.bulk x.2.1 ≤ 4000 ∧ x.2.2.length ≤ 200000) : (datB x).length ≤ 1000000 := by
  have h1 := expr_le h.1
  have h2 := u_le x.1
  have h3 := u_le (x.2.2.length : Nat)
  unfold datB; simp only [List.length_append]; omega
end En
theorem wname_any {H : Heap} {g : Nat} {v : Value} {l : List Int} {bad : Bool} (wa : WA H g v l bad) {Hb : Heap} (oB : Old Hb H) (hgB : Hb.size ≤ g) (hT : TabU Hb) (s : ByteArray) (hz : s.size ≤ 100000) (hN : l.length + s.size + 10 ≤ 1099511627776) : Ct Tryz.prog 61 [.pointer (some ⟨g, 0, none⟩), .string s] H (fun _ H' => ∃ v', WA H' g v' (l ++ En.txt s) (bad || !Utf.valid (ints s)) ∧ WS g v H v' H') := by
  refine Ct.mk Tryz.func61 rfl Tryz.ntmps61 rfl ?_
  intro W0 hW0
  have o0 : OldB 0 H H := OldB.refl _ H
  have ws := WS.refl g v H
  have zg := wa.lt
  refine KC.sr (KL.run 2 rfl ?_)
  refine KL.m (M.toBytes rfl U9 U34 U5 rfl (by omega)) rfl ?_
  rintro v1 H1 ⟨t1, e1, n1, z1⟩
  have o0 := o0.trans ((n1).b (by omega))
  have wa := wa.old n1
  have ws := ws.old n1
  have oB := oB.trans n1
  have s6 := t1
  refine KL.c rfl Tryz.call100 (nameValid_any _ _ s6 (hT.old oB)) ?_
  rintro _ H2 ⟨rfl, ox⟩
  have zc_H2 := (ox).1
  have o0 := o0.trans ((ox).b (by omega))
  have wa := wa.old ox
  have ws := ws.old ox
  have oB := oB.trans ox
  have s6 := s6.old ox
  refine KL.c rfl K62 (wmay_any wa _) ?_
  rintro _ H3 ⟨wa_1, s_1⟩
  have oB := s_1.om wa oB hgB
  have zs_1 := s_1.sz
  have ws := ws.trans s_1
  have wa := wa_1
  have o0 := o0.trans s_1.ob0
  refine KL.nil (KQ.seq ?_)
  have bb := wa.b
  have ww := wa.w
  have zw := ww.lt
  have wsP := ws
  have zgg := wa.lt
  refine KC.text (clOf [(6, 2), (7, 2), (10, 2)]) (fun j Hc => j = 4 → Hc[g]? = some (.cells [v, .bool (bad || !Utf.valid (ints s))].toArray 128 (0, 0))) (by kernel_rfl) (by kernel_rfl) (fun _ _ => bb) ?_
  refine KP.run 4 rfl rfl ?_
  refine KP.op rfl (fun Hg hg => R.load rfl U34 rfl rfl (cell_of (hg rfl) rfl)) rfl rfl rfl ?_
  refine KP.run 1 rfl rfl ?_
  refine KP.call rfl rfl rfl rfl rfl Tryz.call101 rfl rfl rfl (NAppend_any _ [] s (Sl.nil _ _ _) (by decide) (by omega)) (fun _ _ hR j _ _ _ => hR.2.blk bb) ?_
  rintro u H4 ⟨wu, ox⟩
  rw [List.nil_append] at wu
  have zc_H4 := (ox).1
  have o0 := o0.trans ((ox).b (by omega))
  have oB := oB.trans ox
  have bb := (ox).blk bb
  have ww := ww.old ox
  have su := wu.sl (emptyOld _) (by decide)
  have hu := En.u_le (s.size : Nat)
  unfold En.u at hu
  have oA := ox
  have hsz := ints_length s
  have lt5 := ww.lt
  refine KP.opM rfl (M.appendN rfl U34 inf5 rfl (by decide) rfl rfl ww su (fun _ _ h _ => h) (by omega) (by simp only [List.length_append]; omega) (by unfold maxLen; simp only [List.length_append]; omega)) rfl rfl rfl (fun _ _ _ j _ hj2 hj => by subst hj; exact absurd (by decide +kernel) hj2) ?_
  rintro vn H5 ⟨w5, g5, nx5⟩
  try dsimp only at g5 nx5
  have ob5 := g5.oldB ww (by omega)
  have o0 := o0.trans (ob5.mono (by omega))
  have z5 := ob5.1
  have oB := oB.then ob5 (by omega)
  have bb := (g5.2 _ (blk_lt bb) (by exact ww.lt.imp id (fun h => by omega))).trans bb
  have ww := w5
  have gA := g5
  have nxA := nx5
  refine KP.run 2 rfl rfl ?_
  refine KP.opS rfl (S.store rfl sz34 rfl rfl ww.cells1 ww.one bb (by simp)) rfl rfl (fun _ _ j _ hj2 hj => by subst hj; exact absurd (by decide +kernel) hj2) ?_
  rintro H6 ⟨u6, b6⟩
  have o0 := o0.trans (OldB.upd u6 (by omega))
  have zu6 := u6.1
  have oB := oB.upd u6 (by omega)
  have ww := ww.upd u6 (by exact ww.lt.imp id (fun h => by omega))
  have bb := b6
  have ws : WS g v H vn H6 := wsP.trans ⟨((Fr.ofOld oA).grown (Nx.refl _ _) gA).upd u6, nxA.le (by omega)⟩
  refine KP.nil (KQ.fin0 Tryz.results61 ?_)
  exact ⟨_, ⟨bb, ww⟩, ws⟩
theorem wexpr_any {H : Heap} {g : Nat} {v : Value} {l : List Int} {bad : Bool} (wa : WA H g v l bad) {Hb : Heap} (oB : Old Hb H) (hgB : Hb.size ≤ g) {u : Value} {xs : List Ins} (hs : Sl 5 EIns Hb u xs) (hb : Isp.bulk xs ≤ 4000) (hN : l.length + 200000 ≤ 1099511627776) : Ct Tryz.prog 67 [.pointer (some ⟨g, 0, none⟩), u] H (fun _ H' => ∃ v', WA H' g v' (l ++ En.exprB xs) (bad || !En.has xs) ∧ WS g v H v' H') := by
  refine Ct.mk Tryz.func67 rfl Tryz.ntmps67 rfl ?_
  intro W0 hW0
  have o0 : OldB 0 H H := OldB.refl _ H
  have ws := WS.refl g v H
  have zg := wa.lt
  refine KC.sr (KL.run 1 rfl ?_)
  have wvE := wa.w.lt
  have zgE := wa.lt
  refine KL.c rfl Tryz.call102 (AppendExpr_any (Sl.nil _ _ _) (by decide) (hs.old oB) (by omega)) ?_
  rintro _ H1 ⟨hR, ox⟩
  have zc_H1 := (ox).1
  have o0 := o0.trans ((ox).b (by omega))
  have wa := wa.old ox
  have ws := ws.old ox
  have oB := oB.trans ox
  rcases hR with ⟨hno, rfl⟩ | ⟨hyes, c, rfl, wc⟩
  · skip
    have hh := En.has_no hno
    refine KL.fin 5 rfl (KQ.sr (KL.run 2 rfl (KL.e0 rfl (by decide) ?_)))
    refine KL.c rfl K62 (wmay_any wa _) ?_
    rintro _ H2 ⟨wa_2, s_2⟩
    have oB := s_2.om wa oB hgB
    have zs_2 := s_2.sz
    have ws := ws.trans s_2
    have wa := wa_2
    have o0 := o0.trans s_2.ob0
    refine KL.nil (KQ.r (KL.run 2 rfl ?_))
    refine KL.c rfl K57 (wbyte_any wa (Sl.nil (α := Int) 1 (EInt .u8) H2) (by simp; omega)) ?_
    rintro _ H3 ⟨v_3, wa_3, s_3⟩
    have oB := s_3.om wa oB hgB
    have zs_3 := s_3.sz
    have ws := ws.trans s_3
    have wa := wa_3
    have o0 := o0.trans s_3.ob0
    refine KL.nil (KQ.fin0 Tryz.results67 ?_)
    exact ⟨_, wa.cast (by unfold En.exprB; rw [hh]; simp) (by rw [hh]), ws⟩
  have hh := En.has_yes hyes
  rw [List.nil_append] at wc
  have hlc := En.flat_le xs
  have wcE := wc.lt
  refine KL.fin 5 rfl (KQ.sr (KL.run 2 rfl (KL.q ((R.eql rfl rfl rfl).val (congrArg Value.bool (decide_eq_true rfl))) rfl ?_)))
  refine KL.c rfl K62 (wmay_any wa _) ?_
  rintro _ H4 ⟨wa_4, s_4⟩
  have wc := s_4.own wc (wcE.imp id (fun e => by omega)) (wcE.elim .inl (fun e => .inr (wvE.imp id (fun q => by omega))))
  have oB := s_4.om wa oB hgB
  have zs_4 := s_4.sz
  have ws := ws.trans s_4
  have wa := wa_4
  have o0 := o0.trans s_4.ob0
  have sc := wc.sl (emptyOld _) (by decide)
  refine KL.nil (KQ.r (KL.run 2 rfl ?_))
  refine KL.c rfl K57 (wbyte_any wa sc (by rw [List.length_append, List.length_singleton]; omega)) ?_
  rintro _ H5 ⟨v_5, wa_5, s_5⟩
  have oB := s_5.om wa oB hgB
  have zs_5 := s_5.sz
  have ws := ws.trans s_5
  have wa := wa_5
  have o0 := o0.trans s_5.ob0
  refine KL.nil (KQ.fin0 Tryz.results67 ?_)
  exact ⟨_, wa.cast (by unfold En.exprB; rw [hh]; simp) (by rw [hh]), ws⟩
theorem cells_mid {H : Heap} {g k n : Nat} {cs : List Value} {t : TypeId} {z : Nat × Nat} (hb : H[g]? = some (.cells cs.toArray t z)) : CellsH H ⟨g, k, none⟩ ((cs.drop k).take n) := by
  intro i v hv
  rw [nth_eq] at hv
  have hi := (List.getElem?_eq_some_iff.1 hv).1
  rw [List.length_take, List.length_drop] at hi
  rw [List.getElem?_take_of_lt (by omega), List.getElem?_drop] at hv
  have e : (⟨g, k, none⟩ : Addr).add i = ⟨g, k + i, none⟩ := by simp [Addr.add]
  rw [e]
  exact cell_of (g := g) (i := k + i) hb (by rw [nth_eq]; exact hv)
instance keepsLim : Keeps ELim := ⟨fun _ h => h⟩
instance oneLim : One ELim := ⟨fun h u hu => by
  obtain ⟨rfl, _⟩ := h
  simp only [List.mem_cons, List.not_mem_nil, or_false] at hu
  rcases hu with rfl | rfl <;> rfl⟩
theorem Sl.limAt {H : Heap} {v : Value} {l : List (Int × Int)} (h : Sl 2 ELim H v l) (j : Nat) (hj : j < l.length) : CellsH H ((vbase v).add (j * 2)) [.int .u32 (l.getD j default).1, .int .i64 (l.getD j default).2] ∧ InR .u32 (l.getD j default).1 ∧ InR .i64 (l.getD j default).2 := by
  obtain ⟨cs, hl, hc, rfl, h1, h2⟩ := h.at j hj
  exact ⟨hc, h1, h2⟩
def ELoc : El (Int × Int) := fun _ cs x => cs = [.int .u32 x.1, .int .u8 x.2] ∧ InR .u32 x.1 ∧ InR .u8 x.2
instance keepsLoc : Keeps ELoc := ⟨fun _ h => h⟩
instance oneLoc : One ELoc := ⟨fun h u hu => by
  obtain ⟨rfl, _⟩ := h
  simp only [List.mem_cons, List.not_mem_nil, or_false] at hu
  rcases hu with rfl | rfl <;> rfl⟩
theorem Sl.locAt {H : Heap} {v : Value} {l : List (Int × Int)} (h : Sl 2 ELoc H v l) (j : Nat) (hj : j < l.length) : CellsH H ((vbase v).add (j * 2)) [.int .u32 (l.getD j default).1, .int .u8 (l.getD j default).2] ∧ InR .u32 (l.getD j default).1 ∧ InR .u8 (l.getD j default).2 := by
  obtain ⟨cs, hl, hc, rfl, h1, h2⟩ := h.at j hj
  exact ⟨hc, h1, h2⟩
def En.tru (_ : Int) : Bool := true
theorem wu32_t {H : Heap} {g : Nat} {v : Value} {l : List Int} {bad : Bool} (wa : WA H g v l bad) (n : Int) (rn : InR .u32 n) (hN : l.length + 10 ≤ 1099511627776) : Ct Tryz.prog 21 [.pointer (some ⟨g, 0, none⟩), .int .u32 n] H (fun _ H' => ∃ v', WA H' g v' (l ++ En.u n) (bad || !En.tru n) ∧ WS g v H v' H') :=
  (wu32_any wa n rn hN).mono (fun _ _ ⟨v', a, b⟩ => ⟨v', a.cast rfl (by simp [En.tru]), b⟩)
theorem wlocal_any {H : Heap} {g : Nat} {v : Value} {l : List Int} {bad : Bool} (wa : WA H g v l bad) (a b : Int) (ra : InR .u32 a) (rb : InR .u8 b) (hN : l.length + 20 ≤ 1099511627776) : Ct Tryz.prog 72 [.pointer (some ⟨g, 0, none⟩), .agg [.int .u32 a, .int .u8 b].toArray] H (fun _ H' => ∃ v', WA H' g v' (l ++ En.locB (a, b)) (bad || !En.locO (a, b)) ∧ WS g v H v' H') := by
  refine Ct.mk Tryz.func72 rfl Tryz.ntmps72 rfl ?_
  intro W0 hW0
  have o0 : OldB 0 H H := OldB.refl _ H
  have ws := WS.refl g v H
  have zg := wa.lt
  refine KC.sr ?_
  have abx : v = .slice none 0 0 ∨ vblock v ≠ Array.size H := wa.w.lt.imp id (fun e => by omega)
  refine KL.m (M.box rfl rfl rfl) rfl ?_
  rintro _ H1 ⟨rfl, n1⟩
  have z1 := n1.2.1
  have o0 := o0.trans ((n1.1).b (by omega))
  have wa := wa.old n1.1
  have ws := ws.old n1.1
  have b1 := n1.2.2
  have bx := b1
  refine KL.nil (KQ.sr (KL.run 2 rfl (KL.ld rfl (cell_of bx rfl) ?_)))
  refine KL.c rfl K21 (wu32_any wa _ ra (by omega)) ?_
  rintro _ H2 ⟨v_1, wa_1, s_1⟩
  have abx2 := s_1.apart abx (blk_lt bx)
  have bx := s_1.blk bx (by omega) abx
  have abx := abx2
  have zs_1 := s_1.sz
  have ws := ws.trans s_1
  have wa := wa_1
  have o0 := o0.trans s_1.ob0
  have hua := En.u_le a
  refine KL.nil (KQ.r (KL.run 2 rfl (KL.ld rfl (cell_of bx rfl) ?_)))
  refine KL.c rfl Tryz.call59 (wvalue_any wa b rb (by simp only [List.length_append, List.length_cons, List.length_nil]; omega)) ?_
  rintro _ H3 ⟨v_2, wa_2, s_2⟩
  have abx2 := s_2.apart abx (blk_lt bx)
  have bx := s_2.blk bx (by omega) abx
  have abx := abx2
  have zs_2 := s_2.sz
  have ws := ws.trans s_2
  have wa := wa_2
  have o0 := o0.trans s_2.ob0
  refine KL.nil (KQ.fin0 Tryz.results72 ?_)
  exact ⟨_, wa.cast (by unfold En.locB; simp) (rfl), ws⟩
theorem wlist_value {H : Heap} {g : Nat} {v : Value} {l : List Int} {bad : Bool} (wa : WA H g v l bad) {Hb : Heap} (oB : Old Hb H) (hgB : Hb.size ≤ g) {u : Value} {xs : List Int} (hs : Sl 1 (EInt .u8) Hb u xs) (hm : xs.length ≤ 4294967295) (hN : l.length + (En.lst En.valB xs).length + 10000000 ≤ 1099511627776) : Ct Tryz.prog 58 [.pointer (some ⟨g, 0, none⟩), u, .func (.func 59) #[.pointer (some ⟨g, 0, none⟩)] #[]] H (fun _ H' => ∃ v', WA H' g v' (l ++ En.lst En.valB xs) (bad || !xs.all En.vOk) ∧ WS g v H v' H') := by
  refine Ct.mk Tryz.func58 rfl Tryz.ntmps58 rfl ?_
  intro W0 hW0
  have o0 : OldB 0 H H := OldB.refl _ H
  have ws := WS.refl g v H
  have zg := wa.lt
  have hlst : 0 ≤ (En.lst En.valB xs).length := Nat.zero_le _
  refine KC.sr (KL.run 2 rfl (KL.q (R.lenS rfl U34 rfl hs) rfl ?_))
  refine KL.q (R.convI rfl U3 U28 rfl (by dsimp only [InR]; omega)) rfl ?_
  refine KL.c rfl K21 (wu32_any wa _ (by dsimp only [InR]; omega) (by omega)) ?_
  rintro _ H1 ⟨v_3, wa_3, s_3⟩
  have oB := s_3.om wa oB hgB
  have zs_3 := s_3.sz
  have ws := ws.trans s_3
  have wa := wa_3
  have o0 := o0.trans s_3.ob0
  have hul := En.u_le (xs.length : Nat)
  refine KL.nil (KQ.sr (KL.run 1 rfl (KL.q (R.lenS rfl U34 rfl hs) rfl (KL.fin 1 rfl (KQ.seq (KC.block ?_))))))
  refine KC.loopD (κ := Nat × Value) [16, 17, 18, 7, 19, 20, 21, 22, 15] (fun k => [(15, .int .i64 (k.1 : Nat))]) (fun k Hl => k.1 ≤ xs.length ∧ WA Hl g k.2 (l ++ (En.u (xs.length : Nat) ++ (xs.take k.1).flatMap En.valB)) (bad || !(xs.take k.1).all En.vOk) ∧ WS g v H k.2 Hl ∧ Old Hb Hl) (fun k => xs.length - k.1) (0, v_3) ?_ ?_ ?_
  · exact Sub.all rfl
  · exact ⟨Nat.zero_le _, wa.cast (by simp) (by simp), ws, oB⟩
  rintro ⟨k, vk⟩ H2 ⟨hk, wa, ws, oB⟩
  dsimp only at hk wa ws
  have zg := wa.lt
  have o0 : OldB 0 H H2 := ws.ob0
  refine KC.sr (KL.fin 1 rfl (KQ.seq (KC.seq ?_)))
  refine KC.iq rfl ?_ ?_
  · intro hc16
    try dsimp only at hc16
    have hk2 : k < xs.length := by omega
    obtain ⟨hcx, hxr⟩ := hs.int k hk2
    have hroom := En.room (f := En.valB) (c := 1099501627776) (a := l) hk2 (by omega)
    refine KC.skip (KQ.seq (KC.seq (KC.block (KC.sr ?_))))
    refine KL.q (R.index1 (j := k) rfl U34 sz5 rfl rfl hs rfl (by omega)) rfl ?_
    refine KL.ld rfl (oB.cell hcx) (KL.fin 1 rfl (KQ.r (KL.run 2 rfl ?_)))
    refine KL.c rfl Tryz.call59 (wvalue_any wa _ hxr (by omega)) ?_
    rintro _ H3 ⟨v_4, wa_4, s_4⟩
    have oB := s_4.om wa oB hgB
    have zs_4 := s_4.sz
    have ws := ws.trans s_4
    have wa := wa_4
    have o0 := o0.trans s_4.ob0
    refine KL.nil (KQ.normBlock (KQ.r ?_))
    refine KL.q ((R.add rfl rfl rfl (by dsimp only [InR]; omega)).val (congrArg (Value.int .i64) (show (k : Int) + 1 = ((k + 1 : Nat) : Int) by omega))) rfl ?_
    refine KL.fin 1 rfl ?_
    refine KQ.again ((k + 1, v_4)) ?_ ?_ ?_
    · exact Sub.all rfl
    · show xs.length - (k + 1) < xs.length - k; omega
    exact ⟨by show k + 1 ≤ _; omega, by dsimp only; exact wa.cast (En.lst_step (by omega)) (En.all_step (by omega)), ws, oB⟩
  intro hc16
  try dsimp only at hc16
  have hkl : k = xs.length := by omega
  rw [hkl, List.take_length] at wa
  refine KC.exit (KQ.exitThen (KQ.exitThen (KQ.hit (KQ.fin0 Tryz.results58 ?_))))
  exact ⟨_, wa.cast (rfl) (rfl), ws⟩
theorem wlist_u32 {H : Heap} {g : Nat} {v : Value} {l : List Int} {bad : Bool} (wa : WA H g v l bad) {Hb : Heap} (oB : Old Hb H) (hgB : Hb.size ≤ g) {u : Value} {xs : List Int} (hs : Sl 1 (EInt .u32) Hb u xs) (hm : xs.length ≤ 4294967295) (hN : l.length + (En.lst En.u xs).length + 10000000 ≤ 1099511627776) : Ct Tryz.prog 64 [.pointer (some ⟨g, 0, none⟩), u, .func (.func 21) #[.pointer (some ⟨g, 0, none⟩)] #[]] H (fun _ H' => ∃ v', WA H' g v' (l ++ En.lst En.u xs) (bad || !xs.all En.tru) ∧ WS g v H v' H') := by
  refine Ct.mk Tryz.func64 rfl Tryz.ntmps64 rfl ?_
  intro W0 hW0
  have o0 : OldB 0 H H := OldB.refl _ H
  have ws := WS.refl g v H
  have zg := wa.lt
  have hlst : 0 ≤ (En.lst En.u xs).length := Nat.zero_le _
  refine KC.sr (KL.run 2 rfl (KL.q (R.lenS rfl U24 rfl hs) rfl ?_))
  refine KL.q (R.convI rfl U3 U28 rfl (by dsimp only [InR]; omega)) rfl ?_
  refine KL.c rfl K21 (wu32_any wa _ (by dsimp only [InR]; omega) (by omega)) ?_
  rintro _ H1 ⟨v_5, wa_5, s_5⟩
  have oB := s_5.om wa oB hgB
  have zs_5 := s_5.sz
  have ws := ws.trans s_5
  have wa := wa_5
  have o0 := o0.trans s_5.ob0
  have hul := En.u_le (xs.length : Nat)
  refine KL.nil (KQ.sr (KL.run 1 rfl (KL.q (R.lenS rfl U24 rfl hs) rfl (KL.fin 1 rfl (KQ.seq (KC.block ?_))))))
  refine KC.loopD (κ := Nat × Value) [16, 17, 18, 7, 19, 20, 21, 22, 15] (fun k => [(15, .int .i64 (k.1 : Nat))]) (fun k Hl => k.1 ≤ xs.length ∧ WA Hl g k.2 (l ++ (En.u (xs.length : Nat) ++ (xs.take k.1).flatMap En.u)) (bad || !(xs.take k.1).all En.tru) ∧ WS g v H k.2 Hl ∧ Old Hb Hl) (fun k => xs.length - k.1) (0, v_5) ?_ ?_ ?_
  · exact Sub.all rfl
  · exact ⟨Nat.zero_le _, wa.cast (by simp) (by simp), ws, oB⟩
  rintro ⟨k, vk⟩ H2 ⟨hk, wa, ws, oB⟩
  dsimp only at hk wa ws
  have zg := wa.lt
  have o0 : OldB 0 H H2 := ws.ob0
  refine KC.sr (KL.fin 1 rfl (KQ.seq (KC.seq ?_)))
  refine KC.iq rfl ?_ ?_
  · intro hc16
    try dsimp only at hc16
    have hk2 : k < xs.length := by omega
    obtain ⟨hcx, hxr⟩ := hs.int k hk2
    have hroom := En.room (f := En.u) (c := 1099501627776) (a := l) hk2 (by omega)
    refine KC.skip (KQ.seq (KC.seq (KC.block (KC.sr ?_))))
    refine KL.q (R.index1 (j := k) rfl U24 sz28 rfl rfl hs rfl (by omega)) rfl ?_
    refine KL.ld rfl (oB.cell hcx) (KL.fin 1 rfl (KQ.r (KL.run 2 rfl ?_)))
    refine KL.c rfl K21 (wu32_t wa _ hxr (by omega)) ?_
    rintro _ H3 ⟨v_6, wa_6, s_6⟩
    have oB := s_6.om wa oB hgB
    have zs_6 := s_6.sz
    have ws := ws.trans s_6
    have wa := wa_6
    have o0 := o0.trans s_6.ob0
    refine KL.nil (KQ.normBlock (KQ.r ?_))
    refine KL.q ((R.add rfl rfl rfl (by dsimp only [InR]; omega)).val (congrArg (Value.int .i64) (show (k : Int) + 1 = ((k + 1 : Nat) : Int) by omega))) rfl ?_
    refine KL.fin 1 rfl ?_
    refine KQ.again ((k + 1, v_6)) ?_ ?_ ?_
    · exact Sub.all rfl
    · show xs.length - (k + 1) < xs.length - k; omega
    exact ⟨by show k + 1 ≤ _; omega, by dsimp only; exact wa.cast (En.lst_step (by omega)) (En.all_step (by omega)), ws, oB⟩
  intro hc16
  try dsimp only at hc16
  have hkl : k = xs.length := by omega
  rw [hkl, List.take_length] at wa
  refine KC.exit (KQ.exitThen (KQ.exitThen (KQ.hit (KQ.fin0 Tryz.results64 ?_))))
  exact ⟨_, wa.cast (rfl) (rfl), ws⟩
theorem wlist_table {H : Heap} {g : Nat} {v : Value} {l : List Int} {bad : Bool} (wa : WA H g v l bad) {Hb : Heap} (oB : Old Hb H) (hgB : Hb.size ≤ g) {u : Value} {xs : List (Int × Int)} (hs : Sl 2 ELim Hb u xs) (hm : xs.length ≤ 4294967295) (hN : l.length + (En.lst En.tabB xs).length + 10000000 ≤ 1099511627776) : Ct Tryz.prog 65 [.pointer (some ⟨g, 0, none⟩), u, .func (.func 24) #[.pointer (some ⟨g, 0, none⟩)] #[]] H (fun _ H' => ∃ v', WA H' g v' (l ++ En.lst En.tabB xs) (bad || !xs.all En.limO) ∧ WS g v H v' H') := by
  refine Ct.mk Tryz.func65 rfl Tryz.ntmps65 rfl ?_
  intro W0 hW0
  have o0 : OldB 0 H H := OldB.refl _ H
  have ws := WS.refl g v H
  have zg := wa.lt
  have hlst : 0 ≤ (En.lst En.tabB xs).length := Nat.zero_le _
  refine KC.sr (KL.run 2 rfl (KL.q (R.lenS rfl U25 rfl hs) rfl ?_))
  refine KL.q (R.convI rfl U3 U28 rfl (by dsimp only [InR]; omega)) rfl ?_
  refine KL.c rfl K21 (wu32_any wa _ (by dsimp only [InR]; omega) (by omega)) ?_
  rintro _ H1 ⟨v_7, wa_7, s_7⟩
  have oB := s_7.om wa oB hgB
  have zs_7 := s_7.sz
  have ws := ws.trans s_7
  have wa := wa_7
  have o0 := o0.trans s_7.ob0
  have hul := En.u_le (xs.length : Nat)
  refine KL.nil (KQ.sr (KL.run 1 rfl (KL.q (R.lenS rfl U25 rfl hs) rfl (KL.fin 1 rfl (KQ.seq (KC.block ?_))))))
  refine KC.loopD (κ := Nat × Value) [16, 17, 18, 7, 19, 20, 21, 22, 15] (fun k => [(15, .int .i64 (k.1 : Nat))]) (fun k Hl => k.1 ≤ xs.length ∧ WA Hl g k.2 (l ++ (En.u (xs.length : Nat) ++ (xs.take k.1).flatMap En.tabB)) (bad || !(xs.take k.1).all En.limO) ∧ WS g v H k.2 Hl ∧ Old Hb Hl) (fun k => xs.length - k.1) (0, v_7) ?_ ?_ ?_
  · exact Sub.all rfl
  · exact ⟨Nat.zero_le _, wa.cast (by simp) (by simp), ws, oB⟩
  rintro ⟨k, vk⟩ H2 ⟨hk, wa, ws, oB⟩
  dsimp only at hk wa ws
  have zg := wa.lt
  have o0 : OldB 0 H H2 := ws.ob0
  refine KC.sr (KL.fin 1 rfl (KQ.seq (KC.seq ?_)))
  refine KC.iq rfl ?_ ?_
  · intro hc16
    try dsimp only at hc16
    have hk2 : k < xs.length := by omega
    obtain ⟨hcx, hx1, hx2⟩ := hs.limAt k hk2
    have hroom := En.room (f := En.tabB) (c := 1099501627776) (a := l) hk2 (by omega)
    refine KC.skip (KQ.seq (KC.seq (KC.block (KC.sr ?_))))
    refine KL.q (R.index (j := k) rfl U25 sz57 rfl rfl hs rfl (by omega)) rfl ?_
    refine KL.lda rfl (oB.cells hcx) rfl ?_
    have abv : vk = .slice none 0 0 ∨ vblock vk ≠ Array.size H2 := wa.w.lt.imp id (fun e => by omega)
    have oP : Old H2 H2 := Old.refl _
    have waT := wa
    have wsT := ws
    refine KL.m (M.alloc rfl zr57 rfl) rfl ?_
    rintro _ H3 ⟨rfl, n3⟩
    have z3 := n3.2.1
    have o0 := o0.trans ((n3.1).b (by omega))
    have oB := oB.trans n3.1
    have oP := oP.trans n3.1
    have b3 := n3.2.2
    have bv := b3
    refine KL.opS (S.storeAgg rfl sz57 rfl rfl (rfl) (by intro z hz; simp only [List.mem_cons, List.not_mem_nil, or_false] at hz; rcases hz with rfl | rfl <;> rfl) bv (by simp)) rfl rfl ?_
    rintro H4 ⟨u4, b4⟩
    have o0 := o0.trans (OldB.upd u4 (by omega))
    have zu4 := u4.1
    have oB := oB.upd u4 (by omega)
    have oP := oP.upd u4 (by omega)
    have bv := b4
    rw [over_all (by rfl)] at bv
    have wa := waT.old oP
    have ws := wsT.old oP
    have o0 := ws.ob0
    refine KL.nil (KQ.r (KL.run 1 rfl (KL.lda rfl (cells_of bv) rfl ?_)))
    refine KL.c rfl Tryz.call24 (wtable_any wa _ _ hx1 hx2 (by omega)) ?_
    rintro _ H5 ⟨v_8, wa_8, s_8⟩
    have oB := s_8.om wa oB hgB
    have abv2 := s_8.apart abv (blk_lt bv)
    have bv := s_8.blk bv (by omega) abv
    have abv := abv2
    have zs_8 := s_8.sz
    have ws := ws.trans s_8
    have wa := wa_8
    have o0 := o0.trans s_8.ob0
    refine KL.nil (KQ.normBlock (KQ.r ?_))
    refine KL.q ((R.add rfl rfl rfl (by dsimp only [InR]; omega)).val (congrArg (Value.int .i64) (show (k : Int) + 1 = ((k + 1 : Nat) : Int) by omega))) rfl ?_
    refine KL.fin 1 rfl ?_
    refine KQ.again ((k + 1, v_8)) ?_ ?_ ?_
    · exact Sub.all rfl
    · show xs.length - (k + 1) < xs.length - k; omega
    exact ⟨by show k + 1 ≤ _; omega, by dsimp only; exact wa.cast (En.lst_step (by omega)) (En.all_step (by omega)), ws, oB⟩
  intro hc16
  try dsimp only at hc16
  have hkl : k = xs.length := by omega
  rw [hkl, List.take_length] at wa
  refine KC.exit (KQ.exitThen (KQ.exitThen (KQ.hit (KQ.fin0 Tryz.results65 ?_))))
  exact ⟨_, wa.cast (rfl) (rfl), ws⟩
theorem wlist_limits {H : Heap} {g : Nat} {v : Value} {l : List Int} {bad : Bool} (wa : WA H g v l bad) {Hb : Heap} (oB : Old Hb H) (hgB : Hb.size ≤ g) {u : Value} {xs : List (Int × Int)} (hs : Sl 2 ELim Hb u xs) (hm : xs.length ≤ 4294967295) (hN : l.length + (En.lst En.limB xs).length + 10000000 ≤ 1099511627776) : Ct Tryz.prog 65 [.pointer (some ⟨g, 0, none⟩), u, .func (.func 26) #[.pointer (some ⟨g, 0, none⟩)] #[]] H (fun _ H' => ∃ v', WA H' g v' (l ++ En.lst En.limB xs) (bad || !xs.all En.limO) ∧ WS g v H v' H') := by
  refine Ct.mk Tryz.func65 rfl Tryz.ntmps65 rfl ?_
  intro W0 hW0
  have o0 : OldB 0 H H := OldB.refl _ H
  have ws := WS.refl g v H
  have zg := wa.lt
  have hlst : 0 ≤ (En.lst En.limB xs).length := Nat.zero_le _
  refine KC.sr (KL.run 2 rfl (KL.q (R.lenS rfl U25 rfl hs) rfl ?_))
  refine KL.q (R.convI rfl U3 U28 rfl (by dsimp only [InR]; omega)) rfl ?_
  refine KL.c rfl K21 (wu32_any wa _ (by dsimp only [InR]; omega) (by omega)) ?_
  rintro _ H1 ⟨v_9, wa_9, s_9⟩
  have oB := s_9.om wa oB hgB
  have zs_9 := s_9.sz
  have ws := ws.trans s_9
  have wa := wa_9
  have o0 := o0.trans s_9.ob0
  have hul := En.u_le (xs.length : Nat)
  refine KL.nil (KQ.sr (KL.run 1 rfl (KL.q (R.lenS rfl U25 rfl hs) rfl (KL.fin 1 rfl (KQ.seq (KC.block ?_))))))
  refine KC.loopD (κ := Nat × Value) [16, 17, 18, 7, 19, 20, 21, 22, 15] (fun k => [(15, .int .i64 (k.1 : Nat))]) (fun k Hl => k.1 ≤ xs.length ∧ WA Hl g k.2 (l ++ (En.u (xs.length : Nat) ++ (xs.take k.1).flatMap En.limB)) (bad || !(xs.take k.1).all En.limO) ∧ WS g v H k.2 Hl ∧ Old Hb Hl) (fun k => xs.length - k.1) (0, v_9) ?_ ?_ ?_
  · exact Sub.all rfl
  · exact ⟨Nat.zero_le _, wa.cast (by simp) (by simp), ws, oB⟩
  rintro ⟨k, vk⟩ H2 ⟨hk, wa, ws, oB⟩
  dsimp only at hk wa ws
  have zg := wa.lt
  have o0 : OldB 0 H H2 := ws.ob0
  refine KC.sr (KL.fin 1 rfl (KQ.seq (KC.seq ?_)))
  refine KC.iq rfl ?_ ?_
  · intro hc16
    try dsimp only at hc16
    have hk2 : k < xs.length := by omega
    obtain ⟨hcx, hx1, hx2⟩ := hs.limAt k hk2
    have hroom := En.room (f := En.limB) (c := 1099501627776) (a := l) hk2 (by omega)
    refine KC.skip (KQ.seq (KC.seq (KC.block (KC.sr ?_))))
    refine KL.q (R.index (j := k) rfl U25 sz57 rfl rfl hs rfl (by omega)) rfl ?_
    refine KL.lda rfl (oB.cells hcx) rfl ?_
    have abv : vk = .slice none 0 0 ∨ vblock vk ≠ Array.size H2 := wa.w.lt.imp id (fun e => by omega)
    have oP : Old H2 H2 := Old.refl _
    have waT := wa
    have wsT := ws
    refine KL.m (M.alloc rfl zr57 rfl) rfl ?_
    rintro _ H3 ⟨rfl, n3⟩
    have z3 := n3.2.1
    have o0 := o0.trans ((n3.1).b (by omega))
    have oB := oB.trans n3.1
    have oP := oP.trans n3.1
    have b3 := n3.2.2
    have bv := b3
    refine KL.opS (S.storeAgg rfl sz57 rfl rfl (rfl) (by intro z hz; simp only [List.mem_cons, List.not_mem_nil, or_false] at hz; rcases hz with rfl | rfl <;> rfl) bv (by simp)) rfl rfl ?_
    rintro H4 ⟨u4, b4⟩
    have o0 := o0.trans (OldB.upd u4 (by omega))
    have zu4 := u4.1
    have oB := oB.upd u4 (by omega)
    have oP := oP.upd u4 (by omega)
    have bv := b4
    rw [over_all (by rfl)] at bv
    have wa := waT.old oP
    have ws := wsT.old oP
    have o0 := ws.ob0
    refine KL.nil (KQ.r (KL.run 1 rfl (KL.lda rfl (cells_of bv) rfl ?_)))
    refine KL.c rfl Tryz.call26 (wlimits_any wa _ _ hx1 hx2 (by omega)) ?_
    rintro _ H5 ⟨v_10, wa_10, s_10⟩
    have oB := s_10.om wa oB hgB
    have abv2 := s_10.apart abv (blk_lt bv)
    have bv := s_10.blk bv (by omega) abv
    have abv := abv2
    have zs_10 := s_10.sz
    have ws := ws.trans s_10
    have wa := wa_10
    have o0 := o0.trans s_10.ob0
    refine KL.nil (KQ.normBlock (KQ.r ?_))
    refine KL.q ((R.add rfl rfl rfl (by dsimp only [InR]; omega)).val (congrArg (Value.int .i64) (show (k : Int) + 1 = ((k + 1 : Nat) : Int) by omega))) rfl ?_
    refine KL.fin 1 rfl ?_
    refine KQ.again ((k + 1, v_10)) ?_ ?_ ?_
    · exact Sub.all rfl
    · show xs.length - (k + 1) < xs.length - k; omega
    exact ⟨by show k + 1 ≤ _; omega, by dsimp only; exact wa.cast (En.lst_step (by omega)) (En.all_step (by omega)), ws, oB⟩
  intro hc16
  try dsimp only at hc16
  have hkl : k = xs.length := by omega
  rw [hkl, List.take_length] at wa
  refine KC.exit (KQ.exitThen (KQ.exitThen (KQ.hit (KQ.fin0 Tryz.results65 ?_))))
  exact ⟨_, wa.cast (rfl) (rfl), ws⟩
theorem wlist_local {H : Heap} {g : Nat} {v : Value} {l : List Int} {bad : Bool} (wa : WA H g v l bad) {Hb : Heap} (oB : Old Hb H) (hgB : Hb.size ≤ g) {u : Value} {xs : List (Int × Int)} (hs : Sl 2 ELoc Hb u xs) (hm : xs.length ≤ 4294967295) (hN : l.length + (En.lst En.locB xs).length + 10000000 ≤ 1099511627776) : Ct Tryz.prog 71 [.pointer (some ⟨g, 0, none⟩), u, .func (.func 72) #[.pointer (some ⟨g, 0, none⟩)] #[]] H (fun _ H' => ∃ v', WA H' g v' (l ++ En.lst En.locB xs) (bad || !xs.all En.locO) ∧ WS g v H v' H') := by
  refine Ct.mk Tryz.func71 rfl Tryz.ntmps71 rfl ?_
  intro W0 hW0
  have o0 : OldB 0 H H := OldB.refl _ H
  have ws := WS.refl g v H
  have zg := wa.lt
  have hlst : 0 ≤ (En.lst En.locB xs).length := Nat.zero_le _
  refine KC.sr (KL.run 2 rfl (KL.q (R.lenS rfl U51 rfl hs) rfl ?_))
  refine KL.q (R.convI rfl U3 U28 rfl (by dsimp only [InR]; omega)) rfl ?_
  refine KL.c rfl K21 (wu32_any wa _ (by dsimp only [InR]; omega) (by omega)) ?_
  rintro _ H1 ⟨v_11, wa_11, s_11⟩
  have oB := s_11.om wa oB hgB
  have zs_11 := s_11.sz
  have ws := ws.trans s_11
  have wa := wa_11
  have o0 := o0.trans s_11.ob0
  have hul := En.u_le (xs.length : Nat)
  refine KL.nil (KQ.sr (KL.run 1 rfl (KL.q (R.lenS rfl U51 rfl hs) rfl (KL.fin 1 rfl (KQ.seq (KC.block ?_))))))
  refine KC.loopD (κ := Nat × Value) [16, 17, 18, 7, 19, 20, 21, 22, 15] (fun k => [(15, .int .i64 (k.1 : Nat))]) (fun k Hl => k.1 ≤ xs.length ∧ WA Hl g k.2 (l ++ (En.u (xs.length : Nat) ++ (xs.take k.1).flatMap En.locB)) (bad || !(xs.take k.1).all En.locO) ∧ WS g v H k.2 Hl ∧ Old Hb Hl) (fun k => xs.length - k.1) (0, v_11) ?_ ?_ ?_
  · exact Sub.all rfl
  · exact ⟨Nat.zero_le _, wa.cast (by simp) (by simp), ws, oB⟩
  rintro ⟨k, vk⟩ H2 ⟨hk, wa, ws, oB⟩
  dsimp only at hk wa ws
  have zg := wa.lt
  have o0 : OldB 0 H H2 := ws.ob0
  refine KC.sr (KL.fin 1 rfl (KQ.seq (KC.seq ?_)))
  refine KC.iq rfl ?_ ?_
  · intro hc16
    try dsimp only at hc16
    have hk2 : k < xs.length := by omega
    obtain ⟨hcx, hx1, hx2⟩ := hs.locAt k hk2
    have hroom := En.room (f := En.locB) (c := 1099501627776) (a := l) hk2 (by omega)
    refine KC.skip (KQ.seq (KC.seq (KC.block (KC.sr ?_))))
    refine KL.q (R.index (j := k) rfl U51 sz146 rfl rfl hs rfl (by omega)) rfl ?_
    refine KL.lda rfl (oB.cells hcx) rfl ?_
    have abv : vk = .slice none 0 0 ∨ vblock vk ≠ Array.size H2 := wa.w.lt.imp id (fun e => by omega)
    have oP : Old H2 H2 := Old.refl _
    have waT := wa
    have wsT := ws
    refine KL.m (M.alloc rfl zr146 rfl) rfl ?_
    rintro _ H3 ⟨rfl, n3⟩
    have z3 := n3.2.1
    have o0 := o0.trans ((n3.1).b (by omega))
    have oB := oB.trans n3.1
    have oP := oP.trans n3.1
    have b3 := n3.2.2
    have bv := b3
    refine KL.opS (S.storeAgg rfl sz146 rfl rfl (rfl) (by intro z hz; simp only [List.mem_cons, List.not_mem_nil, or_false] at hz; rcases hz with rfl | rfl <;> rfl) bv (by simp)) rfl rfl ?_
    rintro H4 ⟨u4, b4⟩
    have o0 := o0.trans (OldB.upd u4 (by omega))
    have zu4 := u4.1
    have oB := oB.upd u4 (by omega)
    have oP := oP.upd u4 (by omega)
    have bv := b4
    rw [over_all (by rfl)] at bv
    have wa := waT.old oP
    have ws := wsT.old oP
    have o0 := ws.ob0
    refine KL.nil (KQ.r (KL.run 1 rfl (KL.lda rfl (cells_of bv) rfl ?_)))
    refine KL.c rfl Tryz.call72 (wlocal_any wa _ _ hx1 hx2 (by omega)) ?_
    rintro _ H5 ⟨v_12, wa_12, s_12⟩
    have oB := s_12.om wa oB hgB
    have abv2 := s_12.apart abv (blk_lt bv)
    have bv := s_12.blk bv (by omega) abv
    have abv := abv2
    have zs_12 := s_12.sz
    have ws := ws.trans s_12
    have wa := wa_12
    have o0 := o0.trans s_12.ob0
    refine KL.nil (KQ.normBlock (KQ.r ?_))
    refine KL.q ((R.add rfl rfl rfl (by dsimp only [InR]; omega)).val (congrArg (Value.int .i64) (show (k : Int) + 1 = ((k + 1 : Nat) : Int) by omega))) rfl ?_
    refine KL.fin 1 rfl ?_
    refine KQ.again ((k + 1, v_12)) ?_ ?_ ?_
    · exact Sub.all rfl
    · show xs.length - (k + 1) < xs.length - k; omega
    exact ⟨by show k + 1 ≤ _; omega, by dsimp only; exact wa.cast (En.lst_step (by omega)) (En.all_step (by omega)), ws, oB⟩
  intro hc16
  try dsimp only at hc16
  have hkl : k = xs.length := by omega
  rw [hkl, List.take_length] at wa
  refine KC.exit (KQ.exitThen (KQ.exitThen (KQ.hit (KQ.fin0 Tryz.results71 ?_))))
  exact ⟨_, wa.cast (rfl) (rfl), ws⟩
theorem wtyped_any {H : Heap} {g : Nat} {v : Value} {l : List Int} {bad : Bool} (wa : WA H g v l bad) {Hb : Heap} (oB : Old Hb H) (hgB : Hb.size ≤ g) {a b : Value} {x : FTy} (ha : Sl 1 (EInt .u8) Hb a x.1) (hb : Sl 1 (EInt .u8) Hb b x.2) (h1 : x.1.length ≤ 4000) (h2 : x.2.length ≤ 4000) (hN : l.length + 20000 + 20000000 ≤ 1099511627776) : Ct Tryz.prog 15 [.pointer (some ⟨g, 0, none⟩), .agg [a, b].toArray] H (fun _ H' => ∃ v', WA H' g v' (l ++ En.typB x) (bad || !En.typO x) ∧ WS g v H v' H') := by
  refine Ct.mk Tryz.func15 rfl Tryz.ntmps15 rfl ?_
  intro W0 hW0
  have o0 : OldB 0 H H := OldB.refl _ H
  have ws := WS.refl g v H
  have zg := wa.lt
  have q1 := En.lst_le (f := En.valB) (c := 1) (l := x.1) (fun _ _ => by simp [En.valB])
  have q2 := En.lst_le (f := En.valB) (c := 1) (l := x.2) (fun _ _ => by simp [En.valB])
  refine KC.sr ?_
  have abx : v = .slice none 0 0 ∨ vblock v ≠ Array.size H := wa.w.lt.imp id (fun e => by omega)
  refine KL.m (M.box rfl rfl rfl) rfl ?_
  rintro _ H1 ⟨rfl, n1⟩
  have z1 := n1.2.1
  have o0 := o0.trans ((n1.1).b (by omega))
  have wa := wa.old n1.1
  have ws := ws.old n1.1
  have oB := oB.trans n1.1
  have b1 := n1.2.2
  have bx := b1
  refine KL.nil (KQ.sr (KL.run 1 rfl ?_))
  refine KL.m (M.lit rfl U34 zs5 (by decide) rfl rfl rfl) rfl ?_
  rintro _ H2 ⟨rfl, n2⟩
  have z2 := n2.2.1
  have o0 := o0.trans ((n2.1).b (by omega))
  have wa := wa.old n2.1
  have ws := ws.old n2.1
  have oB := oB.trans n2.1
  have bx := (n2.1).blk bx
  have b2 := n2.2.2
  have s0 : Sl 1 (EInt .u8) H2 _ [96] := Sl.lits (l := [96]) n2 rfl (by simp) (by intro y hy; simp only [List.mem_cons, List.not_mem_nil, or_false] at hy; subst hy; dsimp only [InR] at *; omega)
  refine KL.c rfl K57 (wbyte_any wa s0 (by simp only [List.length_singleton]; omega)) ?_
  rintro _ H3 ⟨v_1, wa_1, s_1⟩
  have oB := s_1.om wa oB hgB
  have abx2 := s_1.apart abx (blk_lt bx)
  have bx := s_1.blk bx (by omega) abx
  have abx := abx2
  have zs_1 := s_1.sz
  have ws := ws.trans s_1
  have wa := wa_1
  have o0 := o0.trans s_1.ob0
  refine KL.nil (KQ.sr (KL.run 2 rfl (KL.ld rfl (cell_of bx rfl) (KL.run 2 rfl ?_))))
  refine KL.c rfl Tryz.call58 (wlist_value wa oB hgB ha (by omega) (by simp only [List.length_append, List.length_cons, List.length_nil]; omega)) ?_
  rintro _ H4 ⟨v_2, wa_2, s_2⟩
  have oB := s_2.om wa oB hgB
  have abx2 := s_2.apart abx (blk_lt bx)
  have bx := s_2.blk bx (by omega) abx
  have abx := abx2
  have zs_2 := s_2.sz
  have ws := ws.trans s_2
  have wa := wa_2
  have o0 := o0.trans s_2.ob0
  refine KL.nil (KQ.r (KL.run 2 rfl (KL.ld rfl (cell_of bx rfl) (KL.run 2 rfl ?_))))
  refine KL.c rfl Tryz.call58 (wlist_value wa oB hgB hb (by omega) (by simp only [List.length_append, List.length_cons, List.length_nil]; omega)) ?_
  rintro _ H5 ⟨v_3, wa_3, s_3⟩
  have oB := s_3.om wa oB hgB
  have abx2 := s_3.apart abx (blk_lt bx)
  have bx := s_3.blk bx (by omega) abx
  have abx := abx2
  have zs_3 := s_3.sz
  have ws := ws.trans s_3
  have wa := wa_3
  have o0 := o0.trans s_3.ob0
  refine KL.nil (KQ.fin0 Tryz.results15 ?_)
  exact ⟨_, wa.cast (by unfold En.typB; simp) (by unfold En.typO; simp [Bool.or_assoc]), ws⟩
theorem wglobal_any {H : Heap} {g : Nat} {v : Value} {l : List Int} {bad : Bool} (wa : WA H g v l bad) {Hb : Heap} (oB : Old Hb H) (hgB : Hb.size ≤ g) (t : Int) (mu : Bool) (rt : InR .u8 t) {u : Value} {xs : List Ins} (hs : Sl 5 EIns Hb u xs) (hb : Isp.bulk xs ≤ 4000) (hN : l.length + 20000000 ≤ 1099511627776) : Ct Tryz.prog 29 [.pointer (some ⟨g, 0, none⟩), .agg [.int .u8 t, .bool mu, u].toArray] H (fun _ H' => ∃ v', WA H' g v' (l ++ En.gloB ((t, mu), xs)) (bad || !En.gloO ((t, mu), xs)) ∧ WS g v H v' H') := by
  refine Ct.mk Tryz.func29 rfl Tryz.ntmps29 rfl ?_
  intro W0 hW0
  have o0 : OldB 0 H H := OldB.refl _ H
  have ws := WS.refl g v H
  have zg := wa.lt
  refine KC.sr ?_
  have abx : v = .slice none 0 0 ∨ vblock v ≠ Array.size H := wa.w.lt.imp id (fun e => by omega)
  refine KL.m (M.box rfl rfl rfl) rfl ?_
  rintro _ H1 ⟨rfl, n1⟩
  have z1 := n1.2.1
  have o0 := o0.trans ((n1.1).b (by omega))
  have wa := wa.old n1.1
  have ws := ws.old n1.1
  have oB := oB.trans n1.1
  have b1 := n1.2.2
  have bx := b1
  refine KL.nil (KQ.sr (KL.run 2 rfl (KL.lda rfl (cells_mid (k := 0) (n := 2) bx) rfl ?_)))
  refine KL.c rfl Tryz.call63 (wglob_any wa t mu rt (by omega)) ?_
  rintro _ H2 ⟨v_4, wa_4, s_4⟩
  have oB := s_4.om wa oB hgB
  have abx2 := s_4.apart abx (blk_lt bx)
  have bx := s_4.blk bx (by omega) abx
  have abx := abx2
  have zs_4 := s_4.sz
  have ws := ws.trans s_4
  have wa := wa_4
  have o0 := o0.trans s_4.ob0
  have hgl := En.glob_le (t, mu)
  refine KL.nil (KQ.r (KL.run 2 rfl (KL.ld rfl (cell_of bx rfl) ?_)))
  refine KL.c rfl Tryz.call67 (wexpr_any wa oB hgB hs hb (by rw [List.length_append]; omega)) ?_
  rintro _ H3 ⟨v_5, wa_5, s_5⟩
  have oB := s_5.om wa oB hgB
  have abx2 := s_5.apart abx (blk_lt bx)
  have bx := s_5.blk bx (by omega) abx
  have abx := abx2
  have zs_5 := s_5.sz
  have ws := ws.trans s_5
  have wa := wa_5
  have o0 := o0.trans s_5.ob0
  refine KL.nil (KQ.fin0 Tryz.results29 ?_)
  exact ⟨_, wa.cast (by unfold En.gloB; simp) (by unfold En.gloO; simp [Bool.or_assoc]), ws⟩
theorem wexport_any {H : Heap} {g : Nat} {v : Value} {l : List Int} {bad : Bool} (wa : WA H g v l bad) {Hb : Heap} (oB : Old Hb H) (hgB : Hb.size ≤ g) (hT : TabU Hb) (s : ByteArray) (kd ix : Int) (hz : s.size ≤ 4000) (rk : InR .u8 kd) (ri : InR .u32 ix) (hN : l.length + 20000000 ≤ 1099511627776) : Ct Tryz.prog 32 [.pointer (some ⟨g, 0, none⟩), .agg [.string s, .int .u8 kd, .int .u32 ix].toArray] H (fun _ H' => ∃ v', WA H' g v' (l ++ En.expB ⟨s, kd, ix⟩) (bad || !En.expO ⟨s, kd, ix⟩) ∧ WS g v H v' H') := by
  refine Ct.mk Tryz.func32 rfl Tryz.ntmps32 rfl ?_
  intro W0 hW0
  have o0 : OldB 0 H H := OldB.refl _ H
  have ws := WS.refl g v H
  have zg := wa.lt
  dsimp only [InR] at rk
  refine KC.sr ?_
  have abx : v = .slice none 0 0 ∨ vblock v ≠ Array.size H := wa.w.lt.imp id (fun e => by omega)
  refine KL.m (M.box rfl rfl rfl) rfl ?_
  rintro _ H1 ⟨rfl, n1⟩
  have z1 := n1.2.1
  have o0 := o0.trans ((n1.1).b (by omega))
  have wa := wa.old n1.1
  have ws := ws.old n1.1
  have oB := oB.trans n1.1
  have b1 := n1.2.2
  have bx := b1
  refine KL.nil (KQ.sr (KL.run 2 rfl (KL.ld rfl (cell_of bx rfl) ?_)))
  refine KL.c rfl K61 (wname_any wa oB hgB hT s (by omega) (by omega)) ?_
  rintro _ H2 ⟨v_6, wa_6, s_6⟩
  have oB := s_6.om wa oB hgB
  have abx2 := s_6.apart abx (blk_lt bx)
  have bx := s_6.blk bx (by omega) abx
  have abx := abx2
  have zs_6 := s_6.sz
  have ws := ws.trans s_6
  have wa := wa_6
  have o0 := o0.trans s_6.ob0
  have htx := En.txt_le hz
  refine KL.nil (KQ.sr (KL.run 2 rfl (KL.ld rfl (cell_of bx rfl) (KL.run 1 rfl ?_))))
  refine KL.c rfl K62 (wmay_any wa _) ?_
  rintro _ H3 ⟨wa_7, s_7⟩
  have oB := s_7.om wa oB hgB
  have abx2 := s_7.apart abx (blk_lt bx)
  have bx := s_7.blk bx (by omega) abx
  have abx := abx2
  have zs_7 := s_7.sz
  have ws := ws.trans s_7
  have wa := wa_7
  have o0 := o0.trans s_7.ob0
  refine KL.nil (KQ.sr (KL.run 2 rfl (KL.ld rfl (cell_of bx rfl) ?_)))
  refine KL.m (M.lit rfl U34 zs5 (by decide) rfl rfl rfl) rfl ?_
  rintro _ H4 ⟨rfl, n4⟩
  have z4 := n4.2.1
  have o0 := o0.trans ((n4.1).b (by omega))
  have wa := wa.old n4.1
  have ws := ws.old n4.1
  have oB := oB.trans n4.1
  have bx := (n4.1).blk bx
  have b4 := n4.2.2
  have s0 : Sl 1 (EInt .u8) H4 _ [kd] := Sl.lits (l := [kd]) n4 rfl (by simp) (by intro y hy; simp only [List.mem_cons, List.not_mem_nil, or_false] at hy; subst hy; dsimp only [InR] at *; omega)
  refine KL.c rfl K57 (wbyte_any wa s0 (by simp only [List.length_append, List.length_cons, List.length_nil]; omega)) ?_
  rintro _ H5 ⟨v_8, wa_8, s_8⟩
  have oB := s_8.om wa oB hgB
  have abx2 := s_8.apart abx (blk_lt bx)
  have bx := s_8.blk bx (by omega) abx
  have abx := abx2
  have zs_8 := s_8.sz
  have ws := ws.trans s_8
  have wa := wa_8
  have o0 := o0.trans s_8.ob0
  refine KL.nil (KQ.r (KL.run 2 rfl (KL.ld rfl (cell_of bx rfl) ?_)))
  refine KL.c rfl K21 (wu32_any wa _ ri (by simp only [List.length_append, List.length_cons, List.length_nil]; omega)) ?_
  rintro _ H6 ⟨v_9, wa_9, s_9⟩
  have oB := s_9.om wa oB hgB
  have abx2 := s_9.apart abx (blk_lt bx)
  have bx := s_9.blk bx (by omega) abx
  have abx := abx2
  have zs_9 := s_9.sz
  have ws := ws.trans s_9
  have wa := wa_9
  have o0 := o0.trans s_9.ob0
  refine KL.nil (KQ.fin0 Tryz.results32 ?_)
  exact ⟨_, wa.cast (by unfold En.expB; simp) (by unfold En.expO; simp [Bool.or_assoc]), ws⟩
theorem welem_any {H : Heap} {g : Nat} {v : Value} {l : List Int} {bad : Bool} (wa : WA H g v l bad) {Hb : Heap} (oB : Old Hb H) (hgB : Hb.size ≤ g) (tb : Int) (rt : InR .u32 tb) {u w : Value} {xs : List Ins} {fs : List Int} (hs : Sl 5 EIns Hb u xs) (hf : Sl 1 (EInt .u32) Hb w fs) (hb : Isp.bulk xs ≤ 4000) (hl : fs.length ≤ 4000) (hN : l.length + 1000000 + 20000000 ≤ 1099511627776) : Ct Tryz.prog 36 [.pointer (some ⟨g, 0, none⟩), .agg [.int .u32 tb, u, w].toArray] H (fun _ H' => ∃ v', WA H' g v' (l ++ En.elmB (tb, xs, fs)) (bad || !En.elmO (tb, xs, fs)) ∧ WS g v H v' H') := by
  refine Ct.mk Tryz.func36 rfl Tryz.ntmps36 rfl ?_
  intro W0 hW0
  have o0 : OldB 0 H H := OldB.refl _ H
  have ws := WS.refl g v H
  have zg := wa.lt
  have q1 := En.lst_le (f := En.u) (c := 10) (l := fs) (fun _ _ => En.u_le _)
  refine KC.sr ?_
  have abx : v = .slice none 0 0 ∨ vblock v ≠ Array.size H := wa.w.lt.imp id (fun e => by omega)
  refine KL.m (M.box rfl rfl rfl) rfl ?_
  rintro _ H1 ⟨rfl, n1⟩
  have z1 := n1.2.1
  have o0 := o0.trans ((n1.1).b (by omega))
  have wa := wa.old n1.1
  have ws := ws.old n1.1
  have oB := oB.trans n1.1
  have b1 := n1.2.2
  have bx := b1
  refine KL.nil (KQ.sr (KL.run 2 rfl (KL.ld rfl (cell_of bx rfl) ?_)))
  refine KL.c rfl K21 (wu32_any wa _ rt (by omega)) ?_
  rintro _ H2 ⟨v_10, wa_10, s_10⟩
  have oB := s_10.om wa oB hgB
  have abx2 := s_10.apart abx (blk_lt bx)
  have bx := s_10.blk bx (by omega) abx
  have abx := abx2
  have zs_10 := s_10.sz
  have ws := ws.trans s_10
  have wa := wa_10
  have o0 := o0.trans s_10.ob0
  have hut := En.u_le tb
  refine KL.nil (KQ.sr (KL.run 2 rfl (KL.ld rfl (cell_of bx rfl) ?_)))
  refine KL.c rfl Tryz.call67 (wexpr_any wa oB hgB hs hb (by rw [List.length_append]; omega)) ?_
  rintro _ H3 ⟨v_11, wa_11, s_11⟩
  have oB := s_11.om wa oB hgB
  have abx2 := s_11.apart abx (blk_lt bx)
  have bx := s_11.blk bx (by omega) abx
  have abx := abx2
  have zs_11 := s_11.sz
  have ws := ws.trans s_11
  have wa := wa_11
  have o0 := o0.trans s_11.ob0
  have hxl := En.expr_le hb
  refine KL.nil (KQ.r (KL.run 2 rfl (KL.ld rfl (cell_of bx rfl) (KL.run 2 rfl ?_))))
  refine KL.c rfl Tryz.call64 (wlist_u32 wa oB hgB hf (by omega) (by simp only [List.length_append, List.length_cons, List.length_nil]; omega)) ?_
  rintro _ H4 ⟨v_12, wa_12, s_12⟩
  have oB := s_12.om wa oB hgB
  have abx2 := s_12.apart abx (blk_lt bx)
  have bx := s_12.blk bx (by omega) abx
  have abx := abx2
  have zs_12 := s_12.sz
  have ws := ws.trans s_12
  have wa := wa_12
  have o0 := o0.trans s_12.ob0
  refine KL.nil (KQ.fin0 Tryz.results36 ?_)
  exact ⟨_, wa.cast (by unfold En.elmB; simp) (by unfold En.elmO; rw [show fs.all En.tru = true from List.all_eq_true.2 (fun _ _ => rfl)]; simp), ws⟩
theorem wdata_any {H : Heap} {g : Nat} {v : Value} {l : List Int} {bad : Bool} (wa : WA H g v l bad) {Hb : Heap} (oB : Old Hb H) (hgB : Hb.size ≤ g) (tb : Int) (rt : InR .u32 tb) {u w : Value} {xs : List Ins} {fs : List Int} (hs : Sl 5 EIns Hb u xs) (hf : Sl 1 (EInt .u8) Hb w fs) (hb : Isp.bulk xs ≤ 4000) (hl : fs.length ≤ 200000) (hN : l.length + 1000000 + 20000000 ≤ 1099511627776) : Ct Tryz.prog 42 [.pointer (some ⟨g, 0, none⟩), .agg [.int .u32 tb, u, w].toArray] H (fun _ H' => ∃ v', WA H' g v' (l ++ En.datB (tb, xs, fs)) (bad || !En.datO (tb, xs, fs)) ∧ WS g v H v' H') := by
  refine Ct.mk Tryz.func42 rfl Tryz.ntmps42 rfl ?_
  intro W0 hW0
  have o0 : OldB 0 H H := OldB.refl _ H
  have ws := WS.refl g v H
  have zg := wa.lt
  refine KC.sr ?_
  have abx : v = .slice none 0 0 ∨ vblock v ≠ Array.size H := wa.w.lt.imp id (fun e => by omega)
  refine KL.m (M.box rfl rfl rfl) rfl ?_
  rintro _ H1 ⟨rfl, n1⟩
  have z1 := n1.2.1
  have o0 := o0.trans ((n1.1).b (by omega))
  have wa := wa.old n1.1
  have ws := ws.old n1.1
  have oB := oB.trans n1.1
  have b1 := n1.2.2
  have bx := b1
  refine KL.nil (KQ.sr (KL.run 2 rfl (KL.ld rfl (cell_of bx rfl) ?_)))
  refine KL.c rfl K21 (wu32_any wa _ rt (by omega)) ?_
  rintro _ H2 ⟨v_13, wa_13, s_13⟩
  have oB := s_13.om wa oB hgB
  have abx2 := s_13.apart abx (blk_lt bx)
  have bx := s_13.blk bx (by omega) abx
  have abx := abx2
  have zs_13 := s_13.sz
  have ws := ws.trans s_13
  have wa := wa_13
  have o0 := o0.trans s_13.ob0
  have hut := En.u_le tb
  refine KL.nil (KQ.sr (KL.run 2 rfl (KL.ld rfl (cell_of bx rfl) ?_)))
  refine KL.c rfl Tryz.call67 (wexpr_any wa oB hgB hs hb (by rw [List.length_append]; omega)) ?_
  rintro _ H3 ⟨v_14, wa_14, s_14⟩
  have oB := s_14.om wa oB hgB
  have abx2 := s_14.apart abx (blk_lt bx)
  have bx := s_14.blk bx (by omega) abx
  have abx := abx2
  have zs_14 := s_14.sz
  have ws := ws.trans s_14
  have wa := wa_14
  have o0 := o0.trans s_14.ob0
  have hxl := En.expr_le hb
  refine KL.nil (KQ.r (KL.run 2 rfl (KL.ld rfl (cell_of bx rfl) ?_)))
  refine KL.c rfl Tryz.call73 (wbytes_any wa oB hgB hf (by omega) (by simp only [List.length_append, List.length_cons, List.length_nil]; omega)) ?_
  rintro _ H4 ⟨v_15, wa_15, s_15⟩
  have oB := s_15.om wa oB hgB
  have abx2 := s_15.apart abx (blk_lt bx)
  have bx := s_15.blk bx (by omega) abx
  have abx := abx2
  have zs_15 := s_15.sz
  have ws := ws.trans s_15
  have wa := wa_15
  have o0 := o0.trans s_15.ob0
  refine KL.nil (KQ.fin0 Tryz.results42 ?_)
  exact ⟨_, wa.cast (by unfold En.datB; simp) (by unfold En.datO; simp), ws⟩
theorem wcode_any {H : Heap} {g : Nat} {v : Value} {l : List Int} {bad : Bool} (wa : WA H g v l bad) {Hb : Heap} (oB : Old Hb H) (hgB : Hb.size ≤ g) {u w : Value} {ls : List (Int × Int)} {xs : List Ins} (hL : Sl 2 ELoc Hb u ls) (hs : Sl 5 EIns Hb w xs) (h1 : ls.length ≤ 4000) (hb : Isp.bulk xs ≤ 4000) (hN : l.length + 1000000 + 20000000 ≤ 1099511627776) : Ct Tryz.prog 39 [.pointer (some ⟨g, 0, none⟩), .agg [u, w].toArray] H (fun _ H' => ∃ v', WA H' g v' (l ++ En.codB (ls, xs)) (bad || !En.codO (ls, xs)) ∧ WS g v H v' H') := by
  refine Ct.mk Tryz.func39 rfl Tryz.ntmps39 rfl ?_
  intro W0 hW0
  have o0 : OldB 0 H H := OldB.refl _ H
  have ws := WS.refl g v H
  have zg := wa.lt
  have q1 := En.lst_le (f := En.locB) (c := 11) (l := ls) (fun y _ => by have := En.u_le y.1; unfold En.locB; simp; omega)
  have hlr : ∀ x ∈ ls, 0 ≤ x.1 ∧ x.1 ≤ 4294967295 := by
    intro x hx
    obtain ⟨j, hj, rfl⟩ := List.getElem_of_mem hx
    have h := (hL.locAt j hj).2.1
    rw [List.getD_eq_getElem?_getD, List.getElem?_eq_getElem hj] at h
    exact h
  refine KC.sr ?_
  have abx : v = .slice none 0 0 ∨ vblock v ≠ Array.size H := wa.w.lt.imp id (fun e => by omega)
  refine KL.m (M.box rfl rfl rfl) rfl ?_
  rintro _ H1 ⟨rfl, n1⟩
  have z1 := n1.2.1
  have o0 := o0.trans ((n1.1).b (by omega))
  have wa := wa.old n1.1
  have ws := ws.old n1.1
  have oB := oB.trans n1.1
  have b1 := n1.2.2
  have bx := b1
  refine KL.nil (KQ.sr (KL.b0 bt128 rfl rfl ?_))
  have hvg : v = .slice none 0 0 ∨ vblock v < Array.size H1 := wa.w.lt.imp id (fun e => by omega)
  have hgg : g < Array.size H1 := wa.lt
  have hzg : Array.size H ≤ Array.size H1 := ws.sz
  refine KL.m (M.box rfl rfl rfl) rfl ?_
  rintro _ H2 ⟨rfl, n2⟩
  have z2 := n2.2.1
  have o0 := o0.trans ((n2.1).b (by omega))
  have wa := wa.old n2.1
  have ws := ws.old n2.1
  have oB := oB.trans n2.1
  have bx := (n2.1).blk bx
  have b2 := n2.2.2
  have b9 := b2
  have wi : WA H2 (Array.size H1) (.slice none 0 0) [] false := ⟨b9, Own.nil _ _ _ _ _ _⟩
  refine KL.fin 1 rfl (KQ.sr (KL.run 2 rfl (KL.ld rfl (cell_of bx rfl) (KL.run 2 rfl ?_))))
  refine KL.c rfl Tryz.call71 (wlist_local wi oB (by omega) hL (by omega) (by simp only [List.length_nil]; omega)) ?_
  rintro _ H3 ⟨y_1, wi_1, t_1⟩
  have lo_1 := t_1.low wi
  have oB := t_1.om wi oB (by omega)
  have bx := (lo_1.2 _ (by omega)).trans bx
  have zt_1 := t_1.sz
  have wa := wa.keep lo_1 hgg hvg
  have ws := ws.behind lo_1 hzg
  have o0 := o0.trans t_1.ob0
  have wi := wi_1
  refine KL.nil (KQ.sr (KL.fin 1 rfl (KQ.seq (KC.seq (KC.sr (KL.run 1 rfl (KL.ld rfl (cell_of bx rfl) (KL.q (R.lenS rfl U51 rfl hL) rfl (KL.fin 1 rfl (KQ.seq ?_))))))))))
  refine KC.block ?_
  refine KC.loopD (κ := Nat) [20, 21, 22, 7, 23, 24, 25, 26, 27, 5, 28, 19] (fun k => [(5, .int .u64 (En.locS (ls.take k))), (19, .int .i64 (k : Nat))]) (fun k Hl => k ≤ ls.length ∧ WA Hl g v l bad ∧ WS g v H v Hl ∧ WA Hl (Array.size H1) y_1 (([] : List Int) ++ En.lst En.locB ls) (false || !ls.all En.locO) ∧ Old Hb Hl ∧ Hl[Array.size H]? = some (.cells [u, w].toArray 54 (0, 0))) (fun k => ls.length - k) 0 ?_ ?_ ?_
  · exact Sub.all rfl
  · exact ⟨Nat.zero_le _, wa, ws, wi, oB, bx⟩
  rintro k H4 ⟨hk, wa, ws, wi, oB, bx⟩
  have o0 : OldB 0 H H4 := ws.ob0
  have zgi := wi.lt
  refine KC.sr (KL.fin 1 rfl (KQ.seq (KC.seq ?_)))
  refine KC.iq rfl ?_ ?_
  · intro hc20
    have hk2 : k < ls.length := by omega
    obtain ⟨hcx, hx1, hx2⟩ := hL.locAt k hk2
    have hls := En.locS_rng (l := ls.take k) (fun x hx => hlr x (List.mem_of_mem_take hx))
    rw [List.length_take] at hls
    dsimp only [InR] at hx1
    refine KC.skip (KQ.seq (KC.seq (KC.block (KC.sr ?_))))
    refine KL.q (R.index (j := k) rfl U51 sz146 rfl rfl hL rfl (by omega)) rfl ?_
    refine KL.lda rfl (oB.cells hcx) rfl ?_
    have oP : Old H4 H4 := Old.refl _
    have waT := wa
    have wsT := ws
    have wiT := wi
    refine KL.m (M.alloc rfl zr146 rfl) rfl ?_
    rintro _ H5 ⟨rfl, n5⟩
    have z5 := n5.2.1
    have o0 := o0.trans ((n5.1).b (by omega))
    have oB := oB.trans n5.1
    have bx := (n5.1).blk bx
    have oP := oP.trans n5.1
    have b5 := n5.2.2
    have bv := b5
    refine KL.opS (S.storeAgg rfl sz146 rfl rfl (rfl) (by intro z hz; simp only [List.mem_cons, List.not_mem_nil, or_false] at hz; rcases hz with rfl | rfl <;> rfl) bv (by simp)) rfl rfl ?_
    rintro H6 ⟨u6, b6⟩
    have o0 := o0.trans (OldB.upd u6 (by omega))
    have zu6 := u6.1
    have oB := oB.upd u6 (by omega)
    have bx := ((u6).2 _ (by omega)).trans bx
    have oP := oP.upd u6 (by omega)
    have bv := b6
    rw [over_all (by rfl)] at bv
    have wa := waT.old oP
    have ws := wsT.old oP
    have wi := wiT.old oP
    have o0 := ws.ob0
    refine KL.nil (KQ.r (KL.run 2 rfl (KL.ld rfl (cell_of bv rfl) ?_)))
    refine KL.q (R.convI rfl U28 U95 rfl (by dsimp only [InR]; omega)) rfl ?_
    refine KL.q ((R.add rfl rfl rfl (by dsimp only [InR]; omega)).val (congrArg (Value.int .u64) (En.locS_step hk2).symm)) rfl ?_
    refine KL.fin 1 rfl (KQ.normBlock (KQ.r ?_))
    refine KL.q ((R.add rfl rfl rfl (by dsimp only [InR]; omega)).val (congrArg (Value.int .i64) (show (k : Int) + 1 = ((k + 1 : Nat) : Int) by omega))) rfl ?_
    refine KL.fin 1 rfl ?_
    refine KQ.again (k + 1) ?_ ?_ ?_
    · exact Sub.all rfl
    · omega
    exact ⟨by omega, wa, ws, wi, oB, bx⟩
  intro hc20
  have hkl : k = ls.length := by omega
  subst hkl
  rw [List.take_length]
  refine KC.exit (KQ.exitThen (KQ.exitThen (KQ.hit (KQ.sr (KL.run 2 rfl (KL.ld rfl (cell_of bx rfl) ?_))))))
  refine KL.c rfl Tryz.call67 (wexpr_any wi oB (by omega) hs hb (by rw [List.length_append, List.length_nil]; omega)) ?_
  rintro _ H7 ⟨y_2, wi_2, t_2⟩
  have lo_2 := t_2.low wi
  have oB := t_2.om wi oB (by omega)
  have bx := (lo_2.2 _ (by omega)).trans bx
  have zt_2 := t_2.sz
  have wa := wa.keep lo_2 hgg hvg
  have ws := ws.behind lo_2 hzg
  have o0 := o0.trans t_2.ob0
  have wi := wi_2
  refine KL.nil (KQ.sr (KL.run 4 rfl (KL.ld rfl (cell_of wi.b rfl) (KL.run 2 rfl ?_))))
  refine KL.cq 39 rfl ?_ ?_
  · intro hg39
    refine KL.run 3 rfl ?_
    refine KL.c rfl K62 (wmay_any wa _) ?_
    rintro _ H8 ⟨wa_1, s_1⟩
    have wi : WA H8 (Array.size H1) y_2 _ _ := ⟨s_1.blk wi.b (by omega) (hvg.imp id (fun e => by omega)), s_1.own wi.w (wi.w.lt.imp id (fun e => by omega)) (wi.w.lt.elim .inl (fun e => .inr (hvg.imp id (fun q => by omega))))⟩
    have oB := s_1.om wa oB hgB
    have abx2 := s_1.apart abx (blk_lt bx)
    have bx := s_1.blk bx (by omega) abx
    have abx := abx2
    have zs_1 := s_1.sz
    have ws := ws.trans s_1
    have wa := wa_1
    have o0 := o0.trans s_1.ob0
    refine KL.nil (KQ.r (KL.run 4 rfl (KL.ld rfl (cell_of wi.b rfl) ?_)))
    refine KL.c rfl Tryz.call73 (wbytes_own wa wi.w (wi.w.lt.imp id (fun e => by omega)) (wi.w.lt.elim .inl (fun e => .inr (hvg.imp id (fun q => by omega)))) (by rw [List.nil_append]; have := (show (En.lst En.locB ls ++ En.exprB xs).length ≤ 500000 from En.codI_le (x := (ls, xs)) ⟨hb, h1⟩); omega) (by rw [List.nil_append]; have := (show (En.lst En.locB ls ++ En.exprB xs).length ≤ 500000 from En.codI_le (x := (ls, xs)) ⟨hb, h1⟩); omega)) ?_
    rintro _ H9 ⟨v_2, wa_2, s_2⟩
    have oB := s_2.om wa oB hgB
    have abx2 := s_2.apart abx (blk_lt bx)
    have bx := s_2.blk bx (by omega) abx
    have abx := abx2
    have zs_2 := s_2.sz
    have ws := ws.trans s_2
    have wa := wa_2
    have o0 := o0.trans s_2.ob0
    refine KL.nil (KQ.fin0 Tryz.results39 ?_)
    exact ⟨_, wa.cast (by unfold En.codB En.codI; simp) (by unfold En.codO; revert hg39; cases ls.all En.locO <;> cases En.has xs <;> simp), ws⟩
  intro hg39
  refine KL.run 3 rfl ?_
  refine KL.c rfl K62 (wmay_any wa _) ?_
  rintro _ H10 ⟨wa_3, s_3⟩
  have wi : WA H10 (Array.size H1) y_2 _ _ := ⟨s_3.blk wi.b (by omega) (hvg.imp id (fun e => by omega)), s_3.own wi.w (wi.w.lt.imp id (fun e => by omega)) (wi.w.lt.elim .inl (fun e => .inr (hvg.imp id (fun q => by omega))))⟩
  have oB := s_3.om wa oB hgB
  have abx2 := s_3.apart abx (blk_lt bx)
  have bx := s_3.blk bx (by omega) abx
  have abx := abx2
  have zs_3 := s_3.sz
  have ws := ws.trans s_3
  have wa := wa_3
  have o0 := o0.trans s_3.ob0
  refine KL.nil (KQ.r (KL.run 4 rfl (KL.ld rfl (cell_of wi.b rfl) ?_)))
  refine KL.c rfl Tryz.call73 (wbytes_own wa wi.w (wi.w.lt.imp id (fun e => by omega)) (wi.w.lt.elim .inl (fun e => .inr (hvg.imp id (fun q => by omega)))) (by rw [List.nil_append]; have := (show (En.lst En.locB ls ++ En.exprB xs).length ≤ 500000 from En.codI_le (x := (ls, xs)) ⟨hb, h1⟩); omega) (by rw [List.nil_append]; have := (show (En.lst En.locB ls ++ En.exprB xs).length ≤ 500000 from En.codI_le (x := (ls, xs)) ⟨hb, h1⟩); omega)) ?_
  rintro _ H11 ⟨v_4, wa_4, s_4⟩
  have oB := s_4.om wa oB hgB
  have abx2 := s_4.apart abx (blk_lt bx)
  have bx := s_4.blk bx (by omega) abx
  have abx := abx2
  have zs_4 := s_4.sz
  have ws := ws.trans s_4
  have wa := wa_4
  have o0 := o0.trans s_4.ob0
  refine KL.nil (KQ.fin0 Tryz.results39 ?_)
  exact ⟨_, wa.cast (by unfold En.codB En.codI; simp) (by unfold En.codO; revert hg39; cases ls.all En.locO <;> cases En.has xs <;> simp), ws⟩
section
variable {P : Program} {E : Env} {H : Heap} {o : Oper}
/-- two structs' fields are alike, or not -/
inductive EqFs (P : Program) (xs ys : Array Value) : List Field → Bool → Prop
  | nil : EqFs P xs ys [] true
  | int {f : Field} {fs : List Field} {k k' : IntKind} {a b : Int} {r : Bool} (hn : f.name ≠ "_") (hu : P.underlying f.type = some (.int k')) (hx : nth xs.toList f.offset = some (.int k a)) (hy : nth ys.toList f.offset = some (.int k b)) (h : EqFs P xs ys fs r) : EqFs P xs ys (f :: fs) (decide (a = b) && r)
  | bool {f : Field} {fs : List Field} {a b : Bool} {r : Bool} (hn : f.name ≠ "_") (hu : P.underlying f.type = some .bool) (hx : nth xs.toList f.offset = some (.bool a)) (hy : nth ys.toList f.offset = some (.bool b)) (h : EqFs P xs ys fs r) : EqFs P xs ys (f :: fs) ((a == b) && r)
theorem part_one {t : TypeId} {ds : TypeDesc} {cs : Array Value} {i : Nat} {v : Value} (hu : P.underlying t = some ds) (hd : isAggD ds = false) (hv : nth cs.toList i = some v) (w : World) : (part t cs i).run P w = .ok v w := by
  have h2 : (isAgg t).run P w = .ok false w := by
    cases ds <;> simp [isAggD] at hd <;> simp [isAgg, underlying, program, hu, Sem.run_bind, Sem.run_pure, Result.andThen, Sem.run]
  rw [nth_eq] at hv
  have hv' : cs[i]? = some v := by simpa using hv
  simp [part, h2, hv', Sem.run_bind, Sem.run_pure, Result.andThen]
theorem EqFs.run {xs ys : Array Value} {fs : List Field} {r : Bool} (h : EqFs P xs ys fs r) (d : Nat) (w : World) : (Op.eqFields (d + 1) xs ys fs).run P w = .ok r w := by
  induction h with
  | nil => simp [Op.eqFields, Sem.run_pure]
  | @int f fs k k' a b r hn hu hx hy h ih =>
    have e : (a == b) = decide (a = b) := rfl
    simp only [Op.eqFields, hn, ne_eq, not_false_eq_true, if_true, Sem.run_bind, part_one hu rfl hx, part_one hu rfl hy, run_equalIn_int w d _ k k' a b hu, Result.andThen_ok, e]
    by_cases hc : a = b
    · simp [hc, ih]
    simp [hc, Sem.run_pure]
  | @bool f fs a b r hn hu hx hy h ih =>
    simp only [Op.eqFields, hn, ne_eq, not_false_eq_true, if_true, Sem.run_bind, part_one hu rfl hx, part_one hu rfl hy, run_equalIn_bool' w d _ a b hu, Result.andThen_ok]
    cases hc : (a == b)
    · simp [Sem.run_pure]
    simp [ih]
theorem R.eqlSt {T T' : TypeId} {x y : Operand} {xs ys : Array Value} {fs : Array Field} {r : Bool} (ho : o.op = .binOp .eql T x y T') (ht : P.underlying T = some (.struct fs)) (hst : P.stoodInHeld T = false) (hG : P.eqGuardType P.depth T = false) (hx : ev E x = some (.agg xs)) (hy : ev E y = some (.agg ys)) (hf : EqFs P xs ys fs.toList r) : Run P E H o (.bool r) := by
  intro ρ w ha hw
  have e : P.fieldsOf T = fs := by simp [Program.fieldsOf, ht]
  have h1 : (Op.equal T (.agg xs) (.agg ys)).run P w = .ok r w := by
    show (Op.equalIn (9999 + 1) T _ _).run P w = _
    rw [run_equalIn_struct w 9999 T xs ys (by rw [e]; exact ht) hst, e]
    exact hf.run 9998 w
  simp [execOp, ho, ha x _ hx, ha y _ hy, run_eqGuard_agg w _ T x y xs ys hG, binOp, program, h1, Sem.run_bind, Sem.run_pure, Result.andThen, Sem.run]
end
theorem wimp_0 {H : Heap} {g : Nat} {v : Value} {l : List Int} {bad : Bool} (wa : WA H g v l bad) {Hb : Heap} (oB : Old Hb H) (hgB : Hb.size ≤ g) (hT : TabU Hb) (s1 s2 : ByteArray) (ty la lb gt : Int) (gm : Bool) (h1 : s1.size ≤ 4000) (h2 : s2.size ≤ 4000) (rty : InR .u32 ty) (rla : InR .u32 la) (rlb : InR .i64 lb) (rgt : InR .u8 gt) (hN : l.length + 20000 + 20000000 ≤ 1099511627776) : Ct Tryz.prog 18 [.pointer (some ⟨g, 0, none⟩), .agg [.string s1, .string s2, .int .u8 0, .int .u32 ty, .int .u32 la, .int .i64 lb, .int .u8 gt, .bool gm].toArray] H (fun _ H' => ∃ v', WA H' g v' (l ++ En.impB ⟨s1, s2, 0, ty, (la, lb), (gt, gm)⟩) (bad || !En.impO ⟨s1, s2, 0, ty, (la, lb), (gt, gm)⟩) ∧ WS g v H v' H') := by
  refine Ct.mk Tryz.func18 rfl Tryz.ntmps18 rfl ?_
  intro W0 hW0
  have o0 : OldB 0 H H := OldB.refl _ H
  have ws := WS.refl g v H
  have zg := wa.lt
  refine KC.sr ?_
  have abx : v = .slice none 0 0 ∨ vblock v ≠ Array.size H := wa.w.lt.imp id (fun e => by omega)
  refine KL.m (M.box rfl rfl rfl) rfl ?_
  rintro _ H1 ⟨rfl, n1⟩
  have z1 := n1.2.1
  have o0 := o0.trans ((n1.1).b (by omega))
  have wa := wa.old n1.1
  have ws := ws.old n1.1
  have oB := oB.trans n1.1
  have b1 := n1.2.2
  have bx := b1
  refine KL.nil (KQ.sr (KL.run 2 rfl (KL.ld rfl (cell_of bx rfl) ?_)))
  refine KL.c rfl K61 (wname_any wa oB hgB hT s1 (by omega) (by omega)) ?_
  rintro _ H2 ⟨v_1, wa_1, s_1⟩
  have oB := s_1.om wa oB hgB
  have abx2 := s_1.apart abx (blk_lt bx)
  have bx := s_1.blk bx (by omega) abx
  have abx := abx2
  have zs_1 := s_1.sz
  have ws := ws.trans s_1
  have wa := wa_1
  have o0 := o0.trans s_1.ob0
  have ht1 := En.txt_le h1
  refine KL.nil (KQ.sr (KL.run 2 rfl (KL.ld rfl (cell_of bx rfl) ?_)))
  refine KL.c rfl K61 (wname_any wa oB hgB hT s2 (by omega) (by simp only [List.length_append, List.length_cons, List.length_nil]; omega)) ?_
  rintro _ H3 ⟨v_2, wa_2, s_2⟩
  have oB := s_2.om wa oB hgB
  have abx2 := s_2.apart abx (blk_lt bx)
  have bx := s_2.blk bx (by omega) abx
  have abx := abx2
  have zs_2 := s_2.sz
  have ws := ws.trans s_2
  have wa := wa_2
  have o0 := o0.trans s_2.ob0
  have ht2 := En.txt_le h2
  refine KL.nil (KQ.sr (KL.run 2 rfl (KL.ld rfl (cell_of bx rfl) ?_)))
  refine KL.m (M.lit rfl U34 zs5 (by decide) rfl rfl rfl) rfl ?_
  rintro _ H4 ⟨rfl, n4⟩
  have z4 := n4.2.1
  have o0 := o0.trans ((n4.1).b (by omega))
  have wa := wa.old n4.1
  have ws := ws.old n4.1
  have oB := oB.trans n4.1
  have bx := (n4.1).blk bx
  have b4 := n4.2.2
  have s0 : Sl 1 (EInt .u8) H4 _ [0] := Sl.lits (l := [0]) n4 rfl (by simp) (by intro y hy; simp only [List.mem_cons, List.not_mem_nil, or_false] at hy; subst hy; dsimp only [InR] at *; omega)
  refine KL.c rfl K57 (wbyte_any wa s0 (by simp only [List.length_append, List.length_cons, List.length_nil]; omega)) ?_
  rintro _ H5 ⟨v_3, wa_3, s_3⟩
  have oB := s_3.om wa oB hgB
  have abx2 := s_3.apart abx (blk_lt bx)
  have bx := s_3.blk bx (by omega) abx
  have abx := abx2
  have zs_3 := s_3.sz
  have ws := ws.trans s_3
  have wa := wa_3
  have o0 := o0.trans s_3.ob0
  refine KL.nil (KQ.sr (KL.run 2 rfl (KL.ld rfl (cell_of bx rfl) (KL.q ((R.eql rfl rfl rfl).val (congrArg Value.bool (decide_eq_true rfl))) rfl (KL.run 5 rfl ?_)))))
  refine KL.c rfl K62 (wmay_any wa _) ?_
  rintro _ H6 ⟨wa_4, s_4⟩
  have oB := s_4.om wa oB hgB
  have abx2 := s_4.apart abx (blk_lt bx)
  have bx := s_4.blk bx (by omega) abx
  have abx := abx2
  have zs_4 := s_4.sz
  have ws := ws.trans s_4
  have wa := wa_4
  have o0 := o0.trans s_4.ob0
  refine KL.nil (KQ.sr (KL.run 2 rfl (KL.ld rfl (cell_of bx rfl) (KL.e0 rfl (by decide) (KL.run 2 rfl (KL.ld rfl (cell_of bx rfl) (KL.e0 rfl (by decide) (KL.run 3 rfl (KL.lda rfl (cells_mid (k := 4) (n := 2) bx) rfl (KL.b0 bt57 rfl rfl (KL.q (R.eqlSt rfl U57 (by kernel_rfl) (by kernel_rfl) rfl rfl (EqFs.int (by decide) U28 rfl rfl (EqFs.int (by decide) U2 rfl rfl EqFs.nil))) rfl ?_)))))))))))
  refine KL.run 1 rfl ?_
  refine KL.c rfl K62 (wmay_any wa _) ?_
  rintro _ H7 ⟨wa_5, s_5⟩
  have oB := s_5.om wa oB hgB
  have abx2 := s_5.apart abx (blk_lt bx)
  have bx := s_5.blk bx (by omega) abx
  have abx := abx2
  have zs_5 := s_5.sz
  have ws := ws.trans s_5
  have wa := wa_5
  have o0 := o0.trans s_5.ob0
  refine KL.nil (KQ.sr (KL.run 2 rfl (KL.ld rfl (cell_of bx rfl) (KL.e0 rfl (by decide) (KL.run 2 rfl (KL.lda rfl (cells_mid (k := 6) (n := 2) bx) rfl (KL.b0 bt59 rfl rfl (KL.q (R.eqlSt rfl U59 (by kernel_rfl) (by kernel_rfl) rfl rfl (EqFs.int (by decide) U5 rfl rfl (EqFs.bool (by decide) U4 rfl rfl EqFs.nil))) rfl (KL.run 1 rfl ?_)))))))))
  refine KL.c rfl K62 (wmay_any wa _) ?_
  rintro _ H8 ⟨wa_6, s_6⟩
  have oB := s_6.om wa oB hgB
  have abx2 := s_6.apart abx (blk_lt bx)
  have bx := s_6.blk bx (by omega) abx
  have abx := abx2
  have zs_6 := s_6.sz
  have ws := ws.trans s_6
  have wa := wa_6
  have o0 := o0.trans s_6.ob0
  refine KL.nil (KQ.sr (KL.run 1 rfl (KL.ld rfl (cell_of bx rfl) (KL.nil (KQ.seq (KC.block (KC.sr (KL.q ((R.eql rfl rfl rfl).val (congrArg Value.bool (decide_eq_true rfl))) rfl (KL.fin 1 rfl (KQ.seq ?_))))))))))
  refine KC.condT rfl (KC.region (KL.run 2 rfl (KL.ld rfl (cell_of bx rfl) ?_)))
  refine KL.c rfl K21 (wu32_any wa _ rty (by simp only [List.length_append, List.length_cons, List.length_nil]; omega)) ?_
  rintro _ H9 ⟨v_7, wa_7, s_7⟩
  have oB := s_7.om wa oB hgB
  have abx2 := s_7.apart abx (blk_lt bx)
  have bx := s_7.blk bx (by omega) abx
  have abx := abx2
  have zs_7 := s_7.sz
  have ws := ws.trans s_7
  have wa := wa_7
  have o0 := o0.trans s_7.ob0
  refine KL.nil (KQ.normBlock (KQ.fin0 Tryz.results18 ?_))
  exact ⟨_, wa.cast (by unfold En.impB En.impM; simp) (by unfold En.impO En.impO2; simp [Bool.or_assoc]), ws⟩
theorem wimp_1 {H : Heap} {g : Nat} {v : Value} {l : List Int} {bad : Bool} (wa : WA H g v l bad) {Hb : Heap} (oB : Old Hb H) (hgB : Hb.size ≤ g) (hT : TabU Hb) (s1 s2 : ByteArray) (ty la lb gt : Int) (gm : Bool) (h1 : s1.size ≤ 4000) (h2 : s2.size ≤ 4000) (rty : InR .u32 ty) (rla : InR .u32 la) (rlb : InR .i64 lb) (rgt : InR .u8 gt) (hN : l.length + 20000 + 20000000 ≤ 1099511627776) : Ct Tryz.prog 18 [.pointer (some ⟨g, 0, none⟩), .agg [.string s1, .string s2, .int .u8 1, .int .u32 ty, .int .u32 la, .int .i64 lb, .int .u8 gt, .bool gm].toArray] H (fun _ H' => ∃ v', WA H' g v' (l ++ En.impB ⟨s1, s2, 1, ty, (la, lb), (gt, gm)⟩) (bad || !En.impO ⟨s1, s2, 1, ty, (la, lb), (gt, gm)⟩) ∧ WS g v H v' H') := by
  refine Ct.mk Tryz.func18 rfl Tryz.ntmps18 rfl ?_
  intro W0 hW0
  have o0 : OldB 0 H H := OldB.refl _ H
  have ws := WS.refl g v H
  have zg := wa.lt
  refine KC.sr ?_
  have abx : v = .slice none 0 0 ∨ vblock v ≠ Array.size H := wa.w.lt.imp id (fun e => by omega)
  refine KL.m (M.box rfl rfl rfl) rfl ?_
  rintro _ H1 ⟨rfl, n1⟩
  have z1 := n1.2.1
  have o0 := o0.trans ((n1.1).b (by omega))
  have wa := wa.old n1.1
  have ws := ws.old n1.1
  have oB := oB.trans n1.1
  have b1 := n1.2.2
  have bx := b1
  refine KL.nil (KQ.sr (KL.run 2 rfl (KL.ld rfl (cell_of bx rfl) ?_)))
  refine KL.c rfl K61 (wname_any wa oB hgB hT s1 (by omega) (by omega)) ?_
  rintro _ H2 ⟨v_8, wa_8, s_8⟩
  have oB := s_8.om wa oB hgB
  have abx2 := s_8.apart abx (blk_lt bx)
  have bx := s_8.blk bx (by omega) abx
  have abx := abx2
  have zs_8 := s_8.sz
  have ws := ws.trans s_8
  have wa := wa_8
  have o0 := o0.trans s_8.ob0
  have ht1 := En.txt_le h1
  refine KL.nil (KQ.sr (KL.run 2 rfl (KL.ld rfl (cell_of bx rfl) ?_)))
  refine KL.c rfl K61 (wname_any wa oB hgB hT s2 (by omega) (by simp only [List.length_append, List.length_cons, List.length_nil]; omega)) ?_
  rintro _ H3 ⟨v_9, wa_9, s_9⟩
  have oB := s_9.om wa oB hgB
  have abx2 := s_9.apart abx (blk_lt bx)
  have bx := s_9.blk bx (by omega) abx
  have abx := abx2
  have zs_9 := s_9.sz
  have ws := ws.trans s_9
  have wa := wa_9
  have o0 := o0.trans s_9.ob0
  have ht2 := En.txt_le h2
  refine KL.nil (KQ.sr (KL.run 2 rfl (KL.ld rfl (cell_of bx rfl) ?_)))
  refine KL.m (M.lit rfl U34 zs5 (by decide) rfl rfl rfl) rfl ?_
  rintro _ H4 ⟨rfl, n4⟩
  have z4 := n4.2.1
  have o0 := o0.trans ((n4.1).b (by omega))
  have wa := wa.old n4.1
  have ws := ws.old n4.1
  have oB := oB.trans n4.1
  have bx := (n4.1).blk bx
  have b4 := n4.2.2
  have s0 : Sl 1 (EInt .u8) H4 _ [1] := Sl.lits (l := [1]) n4 rfl (by simp) (by intro y hy; simp only [List.mem_cons, List.not_mem_nil, or_false] at hy; subst hy; dsimp only [InR] at *; omega)
  refine KL.c rfl K57 (wbyte_any wa s0 (by simp only [List.length_append, List.length_cons, List.length_nil]; omega)) ?_
  rintro _ H5 ⟨v_10, wa_10, s_10⟩
  have oB := s_10.om wa oB hgB
  have abx2 := s_10.apart abx (blk_lt bx)
  have bx := s_10.blk bx (by omega) abx
  have abx := abx2
  have zs_10 := s_10.sz
  have ws := ws.trans s_10
  have wa := wa_10
  have o0 := o0.trans s_10.ob0
  refine KL.nil (KQ.sr (KL.run 2 rfl (KL.ld rfl (cell_of bx rfl) (KL.e0 rfl (by decide) (KL.run 2 rfl (KL.ld rfl (cell_of bx rfl) (KL.run 2 rfl ?_)))))))
  refine KL.c rfl K62 (wmay_any wa _) ?_
  rintro _ H6 ⟨wa_11, s_11⟩
  have oB := s_11.om wa oB hgB
  have abx2 := s_11.apart abx (blk_lt bx)
  have bx := s_11.blk bx (by omega) abx
  have abx := abx2
  have zs_11 := s_11.sz
  have ws := ws.trans s_11
  have wa := wa_11
  have o0 := o0.trans s_11.ob0
  refine KL.nil (KQ.sr (KL.run 2 rfl (KL.ld rfl (cell_of bx rfl) (KL.q ((R.eql rfl rfl rfl).val (congrArg Value.bool (decide_eq_true rfl))) rfl (KL.run 11 rfl ?_)))))
  refine KL.c rfl K62 (wmay_any wa _) ?_
  rintro _ H7 ⟨wa_12, s_12⟩
  have oB := s_12.om wa oB hgB
  have abx2 := s_12.apart abx (blk_lt bx)
  have bx := s_12.blk bx (by omega) abx
  have abx := abx2
  have zs_12 := s_12.sz
  have ws := ws.trans s_12
  have wa := wa_12
  have o0 := o0.trans s_12.ob0
  refine KL.nil (KQ.sr (KL.run 2 rfl (KL.ld rfl (cell_of bx rfl) (KL.e0 rfl (by decide) (KL.run 2 rfl (KL.lda rfl (cells_mid (k := 6) (n := 2) bx) rfl (KL.b0 bt59 rfl rfl (KL.q (R.eqlSt rfl U59 (by kernel_rfl) (by kernel_rfl) rfl rfl (EqFs.int (by decide) U5 rfl rfl (EqFs.bool (by decide) U4 rfl rfl EqFs.nil))) rfl (KL.run 1 rfl ?_)))))))))
  refine KL.c rfl K62 (wmay_any wa _) ?_
  rintro _ H8 ⟨wa_13, s_13⟩
  have oB := s_13.om wa oB hgB
  have abx2 := s_13.apart abx (blk_lt bx)
  have bx := s_13.blk bx (by omega) abx
  have abx := abx2
  have zs_13 := s_13.sz
  have ws := ws.trans s_13
  have wa := wa_13
  have o0 := o0.trans s_13.ob0
  refine KL.nil (KQ.sr (KL.run 1 rfl (KL.ld rfl (cell_of bx rfl) (KL.nil (KQ.seq (KC.block (KC.sr (KL.e0 rfl (by decide) (KL.fin 1 rfl (KQ.seq ?_))))))))))
  refine KC.condF rfl (KC.sr (KL.q ((R.eql rfl rfl rfl).val (congrArg Value.bool (decide_eq_true rfl))) rfl (KL.fin 1 rfl (KQ.seq (KC.condT rfl (KC.region (KL.run 2 rfl (KL.lda rfl (cells_mid (k := 4) (n := 2) bx) rfl ?_))))))))
  refine KL.c rfl Tryz.call24 (wtable_any wa la lb rla rlb (by simp only [List.length_append, List.length_cons, List.length_nil]; omega)) ?_
  rintro _ H9 ⟨v_14, wa_14, s_14⟩
  have oB := s_14.om wa oB hgB
  have abx2 := s_14.apart abx (blk_lt bx)
  have bx := s_14.blk bx (by omega) abx
  have abx := abx2
  have zs_14 := s_14.sz
  have ws := ws.trans s_14
  have wa := wa_14
  have o0 := o0.trans s_14.ob0
  refine KL.nil (KQ.normBlock (KQ.fin0 Tryz.results18 ?_))
  exact ⟨_, wa.cast (by unfold En.impB En.impM; simp) (by unfold En.impO En.impO2; simp [Bool.or_assoc]), ws⟩
theorem wimp_2 {H : Heap} {g : Nat} {v : Value} {l : List Int} {bad : Bool} (wa : WA H g v l bad) {Hb : Heap} (oB : Old Hb H) (hgB : Hb.size ≤ g) (hT : TabU Hb) (s1 s2 : ByteArray) (ty la lb gt : Int) (gm : Bool) (h1 : s1.size ≤ 4000) (h2 : s2.size ≤ 4000) (rty : InR .u32 ty) (rla : InR .u32 la) (rlb : InR .i64 lb) (rgt : InR .u8 gt) (hN : l.length + 20000 + 20000000 ≤ 1099511627776) : Ct Tryz.prog 18 [.pointer (some ⟨g, 0, none⟩), .agg [.string s1, .string s2, .int .u8 2, .int .u32 ty, .int .u32 la, .int .i64 lb, .int .u8 gt, .bool gm].toArray] H (fun _ H' => ∃ v', WA H' g v' (l ++ En.impB ⟨s1, s2, 2, ty, (la, lb), (gt, gm)⟩) (bad || !En.impO ⟨s1, s2, 2, ty, (la, lb), (gt, gm)⟩) ∧ WS g v H v' H') := by
  refine Ct.mk Tryz.func18 rfl Tryz.ntmps18 rfl ?_
  intro W0 hW0
  have o0 : OldB 0 H H := OldB.refl _ H
  have ws := WS.refl g v H
  have zg := wa.lt
  refine KC.sr ?_
  have abx : v = .slice none 0 0 ∨ vblock v ≠ Array.size H := wa.w.lt.imp id (fun e => by omega)
  refine KL.m (M.box rfl rfl rfl) rfl ?_
  rintro _ H1 ⟨rfl, n1⟩
  have z1 := n1.2.1
  have o0 := o0.trans ((n1.1).b (by omega))
  have wa := wa.old n1.1
  have ws := ws.old n1.1
  have oB := oB.trans n1.1
  have b1 := n1.2.2
  have bx := b1
  refine KL.nil (KQ.sr (KL.run 2 rfl (KL.ld rfl (cell_of bx rfl) ?_)))
  refine KL.c rfl K61 (wname_any wa oB hgB hT s1 (by omega) (by omega)) ?_
  rintro _ H2 ⟨v_15, wa_15, s_15⟩
  have oB := s_15.om wa oB hgB
  have abx2 := s_15.apart abx (blk_lt bx)
  have bx := s_15.blk bx (by omega) abx
  have abx := abx2
  have zs_15 := s_15.sz
  have ws := ws.trans s_15
  have wa := wa_15
  have o0 := o0.trans s_15.ob0
  have ht1 := En.txt_le h1
  refine KL.nil (KQ.sr (KL.run 2 rfl (KL.ld rfl (cell_of bx rfl) ?_)))
  refine KL.c rfl K61 (wname_any wa oB hgB hT s2 (by omega) (by simp only [List.length_append, List.length_cons, List.length_nil]; omega)) ?_
  rintro _ H3 ⟨v_16, wa_16, s_16⟩
  have oB := s_16.om wa oB hgB
  have abx2 := s_16.apart abx (blk_lt bx)
  have bx := s_16.blk bx (by omega) abx
  have abx := abx2
  have zs_16 := s_16.sz
  have ws := ws.trans s_16
  have wa := wa_16
  have o0 := o0.trans s_16.ob0
  have ht2 := En.txt_le h2
  refine KL.nil (KQ.sr (KL.run 2 rfl (KL.ld rfl (cell_of bx rfl) ?_)))
  refine KL.m (M.lit rfl U34 zs5 (by decide) rfl rfl rfl) rfl ?_
  rintro _ H4 ⟨rfl, n4⟩
  have z4 := n4.2.1
  have o0 := o0.trans ((n4.1).b (by omega))
  have wa := wa.old n4.1
  have ws := ws.old n4.1
  have oB := oB.trans n4.1
  have bx := (n4.1).blk bx
  have b4 := n4.2.2
  have s0 : Sl 1 (EInt .u8) H4 _ [2] := Sl.lits (l := [2]) n4 rfl (by simp) (by intro y hy; simp only [List.mem_cons, List.not_mem_nil, or_false] at hy; subst hy; dsimp only [InR] at *; omega)
  refine KL.c rfl K57 (wbyte_any wa s0 (by simp only [List.length_append, List.length_cons, List.length_nil]; omega)) ?_
  rintro _ H5 ⟨v_17, wa_17, s_17⟩
  have oB := s_17.om wa oB hgB
  have abx2 := s_17.apart abx (blk_lt bx)
  have bx := s_17.blk bx (by omega) abx
  have abx := abx2
  have zs_17 := s_17.sz
  have ws := ws.trans s_17
  have wa := wa_17
  have o0 := o0.trans s_17.ob0
  refine KL.nil (KQ.sr (KL.run 2 rfl (KL.ld rfl (cell_of bx rfl) (KL.e0 rfl (by decide) (KL.run 2 rfl (KL.ld rfl (cell_of bx rfl) (KL.run 2 rfl ?_)))))))
  refine KL.c rfl K62 (wmay_any wa _) ?_
  rintro _ H6 ⟨wa_18, s_18⟩
  have oB := s_18.om wa oB hgB
  have abx2 := s_18.apart abx (blk_lt bx)
  have bx := s_18.blk bx (by omega) abx
  have abx := abx2
  have zs_18 := s_18.sz
  have ws := ws.trans s_18
  have wa := wa_18
  have o0 := o0.trans s_18.ob0
  refine KL.nil (KQ.sr (KL.run 2 rfl (KL.ld rfl (cell_of bx rfl) (KL.e0 rfl (by decide) (KL.run 2 rfl (KL.ld rfl (cell_of bx rfl) (KL.q ((R.eql rfl rfl rfl).val (congrArg Value.bool (decide_eq_true rfl))) rfl (KL.run 7 rfl ?_))))))))
  refine KL.c rfl K62 (wmay_any wa _) ?_
  rintro _ H7 ⟨wa_19, s_19⟩
  have oB := s_19.om wa oB hgB
  have abx2 := s_19.apart abx (blk_lt bx)
  have bx := s_19.blk bx (by omega) abx
  have abx := abx2
  have zs_19 := s_19.sz
  have ws := ws.trans s_19
  have wa := wa_19
  have o0 := o0.trans s_19.ob0
  refine KL.nil (KQ.sr (KL.run 2 rfl (KL.ld rfl (cell_of bx rfl) (KL.e0 rfl (by decide) (KL.run 2 rfl (KL.lda rfl (cells_mid (k := 6) (n := 2) bx) rfl (KL.b0 bt59 rfl rfl (KL.q (R.eqlSt rfl U59 (by kernel_rfl) (by kernel_rfl) rfl rfl (EqFs.int (by decide) U5 rfl rfl (EqFs.bool (by decide) U4 rfl rfl EqFs.nil))) rfl (KL.run 1 rfl ?_)))))))))
  refine KL.c rfl K62 (wmay_any wa _) ?_
  rintro _ H8 ⟨wa_20, s_20⟩
  have oB := s_20.om wa oB hgB
  have abx2 := s_20.apart abx (blk_lt bx)
  have bx := s_20.blk bx (by omega) abx
  have abx := abx2
  have zs_20 := s_20.sz
  have ws := ws.trans s_20
  have wa := wa_20
  have o0 := o0.trans s_20.ob0
  refine KL.nil (KQ.sr (KL.run 1 rfl (KL.ld rfl (cell_of bx rfl) (KL.nil (KQ.seq (KC.block (KC.sr (KL.e0 rfl (by decide) (KL.fin 1 rfl (KQ.seq ?_))))))))))
  refine KC.condF rfl (KC.sr (KL.e0 rfl (by decide) (KL.fin 1 rfl (KQ.seq (KC.condF rfl (KC.sr (KL.q ((R.eql rfl rfl rfl).val (congrArg Value.bool (decide_eq_true rfl))) rfl (KL.fin 1 rfl (KQ.seq (KC.condT rfl (KC.region ?_)))))))))))
  refine KL.run 2 rfl (KL.lda rfl (cells_mid (k := 4) (n := 2) bx) rfl ?_)
  refine KL.c rfl Tryz.call26 (wlimits_any wa la lb rla rlb (by simp only [List.length_append, List.length_cons, List.length_nil]; omega)) ?_
  rintro _ H9 ⟨v_21, wa_21, s_21⟩
  have oB := s_21.om wa oB hgB
  have abx2 := s_21.apart abx (blk_lt bx)
  have bx := s_21.blk bx (by omega) abx
  have abx := abx2
  have zs_21 := s_21.sz
  have ws := ws.trans s_21
  have wa := wa_21
  have o0 := o0.trans s_21.ob0
  refine KL.nil (KQ.normBlock (KQ.fin0 Tryz.results18 ?_))
  exact ⟨_, wa.cast (by unfold En.impB En.impM; simp) (by unfold En.impO En.impO2; simp [Bool.or_assoc]), ws⟩
theorem wimp_3 {H : Heap} {g : Nat} {v : Value} {l : List Int} {bad : Bool} (wa : WA H g v l bad) {Hb : Heap} (oB : Old Hb H) (hgB : Hb.size ≤ g) (hT : TabU Hb) (s1 s2 : ByteArray) (ty la lb gt : Int) (gm : Bool) (h1 : s1.size ≤ 4000) (h2 : s2.size ≤ 4000) (rty : InR .u32 ty) (rla : InR .u32 la) (rlb : InR .i64 lb) (rgt : InR .u8 gt) (hN : l.length + 20000 + 20000000 ≤ 1099511627776) : Ct Tryz.prog 18 [.pointer (some ⟨g, 0, none⟩), .agg [.string s1, .string s2, .int .u8 3, .int .u32 ty, .int .u32 la, .int .i64 lb, .int .u8 gt, .bool gm].toArray] H (fun _ H' => ∃ v', WA H' g v' (l ++ En.impB ⟨s1, s2, 3, ty, (la, lb), (gt, gm)⟩) (bad || !En.impO ⟨s1, s2, 3, ty, (la, lb), (gt, gm)⟩) ∧ WS g v H v' H') := by
  refine Ct.mk Tryz.func18 rfl Tryz.ntmps18 rfl ?_
  intro W0 hW0
  have o0 : OldB 0 H H := OldB.refl _ H
  have ws := WS.refl g v H
  have zg := wa.lt
  refine KC.sr ?_
  have abx : v = .slice none 0 0 ∨ vblock v ≠ Array.size H := wa.w.lt.imp id (fun e => by omega)
  refine KL.m (M.box rfl rfl rfl) rfl ?_
  rintro _ H1 ⟨rfl, n1⟩
  have z1 := n1.2.1
  have o0 := o0.trans ((n1.1).b (by omega))
  have wa := wa.old n1.1
  have ws := ws.old n1.1
  have oB := oB.trans n1.1
  have b1 := n1.2.2
  have bx := b1
  refine KL.nil (KQ.sr (KL.run 2 rfl (KL.ld rfl (cell_of bx rfl) ?_)))
  refine KL.c rfl K61 (wname_any wa oB hgB hT s1 (by omega) (by omega)) ?_
  rintro _ H2 ⟨v_22, wa_22, s_22⟩
  have oB := s_22.om wa oB hgB
  have abx2 := s_22.apart abx (blk_lt bx)
  have bx := s_22.blk bx (by omega) abx
  have abx := abx2
  have zs_22 := s_22.sz
  have ws := ws.trans s_22
  have wa := wa_22
  have o0 := o0.trans s_22.ob0
  have ht1 := En.txt_le h1
  refine KL.nil (KQ.sr (KL.run 2 rfl (KL.ld rfl (cell_of bx rfl) ?_)))
  refine KL.c rfl K61 (wname_any wa oB hgB hT s2 (by omega) (by simp only [List.length_append, List.length_cons, List.length_nil]; omega)) ?_
  rintro _ H3 ⟨v_23, wa_23, s_23⟩
  have oB := s_23.om wa oB hgB
  have abx2 := s_23.apart abx (blk_lt bx)
  have bx := s_23.blk bx (by omega) abx
  have abx := abx2
  have zs_23 := s_23.sz
  have ws := ws.trans s_23
  have wa := wa_23
  have o0 := o0.trans s_23.ob0
  have ht2 := En.txt_le h2
  refine KL.nil (KQ.sr (KL.run 2 rfl (KL.ld rfl (cell_of bx rfl) ?_)))
  refine KL.m (M.lit rfl U34 zs5 (by decide) rfl rfl rfl) rfl ?_
  rintro _ H4 ⟨rfl, n4⟩
  have z4 := n4.2.1
  have o0 := o0.trans ((n4.1).b (by omega))
  have wa := wa.old n4.1
  have ws := ws.old n4.1
  have oB := oB.trans n4.1
  have bx := (n4.1).blk bx
  have b4 := n4.2.2
  have s0 : Sl 1 (EInt .u8) H4 _ [3] := Sl.lits (l := [3]) n4 rfl (by simp) (by intro y hy; simp only [List.mem_cons, List.not_mem_nil, or_false] at hy; subst hy; dsimp only [InR] at *; omega)
  refine KL.c rfl K57 (wbyte_any wa s0 (by simp only [List.length_append, List.length_cons, List.length_nil]; omega)) ?_
  rintro _ H5 ⟨v_24, wa_24, s_24⟩
  have oB := s_24.om wa oB hgB
  have abx2 := s_24.apart abx (blk_lt bx)
  have bx := s_24.blk bx (by omega) abx
  have abx := abx2
  have zs_24 := s_24.sz
  have ws := ws.trans s_24
  have wa := wa_24
  have o0 := o0.trans s_24.ob0
  refine KL.nil (KQ.sr (KL.run 2 rfl (KL.ld rfl (cell_of bx rfl) (KL.e0 rfl (by decide) (KL.run 2 rfl (KL.ld rfl (cell_of bx rfl) (KL.run 2 rfl ?_)))))))
  refine KL.c rfl K62 (wmay_any wa _) ?_
  rintro _ H6 ⟨wa_25, s_25⟩
  have oB := s_25.om wa oB hgB
  have abx2 := s_25.apart abx (blk_lt bx)
  have bx := s_25.blk bx (by omega) abx
  have abx := abx2
  have zs_25 := s_25.sz
  have ws := ws.trans s_25
  have wa := wa_25
  have o0 := o0.trans s_25.ob0
  refine KL.nil (KQ.sr (KL.run 2 rfl (KL.ld rfl (cell_of bx rfl) (KL.e0 rfl (by decide) (KL.run 2 rfl (KL.ld rfl (cell_of bx rfl) (KL.e0 rfl (by decide) (KL.run 3 rfl (KL.lda rfl (cells_mid (k := 4) (n := 2) bx) rfl (KL.b0 bt57 rfl rfl (KL.q (R.eqlSt rfl U57 (by kernel_rfl) (by kernel_rfl) rfl rfl (EqFs.int (by decide) U28 rfl rfl (EqFs.int (by decide) U2 rfl rfl EqFs.nil))) rfl ?_)))))))))))
  refine KL.run 1 rfl ?_
  refine KL.c rfl K62 (wmay_any wa _) ?_
  rintro _ H7 ⟨wa_26, s_26⟩
  have oB := s_26.om wa oB hgB
  have abx2 := s_26.apart abx (blk_lt bx)
  have bx := s_26.blk bx (by omega) abx
  have abx := abx2
  have zs_26 := s_26.sz
  have ws := ws.trans s_26
  have wa := wa_26
  have o0 := o0.trans s_26.ob0
  refine KL.nil (KQ.sr (KL.run 2 rfl (KL.ld rfl (cell_of bx rfl) (KL.q ((R.eql rfl rfl rfl).val (congrArg Value.bool (decide_eq_true rfl))) rfl (KL.run 6 rfl ?_)))))
  refine KL.c rfl K62 (wmay_any wa _) ?_
  rintro _ H8 ⟨wa_27, s_27⟩
  have oB := s_27.om wa oB hgB
  have abx2 := s_27.apart abx (blk_lt bx)
  have bx := s_27.blk bx (by omega) abx
  have abx := abx2
  have zs_27 := s_27.sz
  have ws := ws.trans s_27
  have wa := wa_27
  have o0 := o0.trans s_27.ob0
  refine KL.nil (KQ.sr (KL.run 1 rfl (KL.ld rfl (cell_of bx rfl) (KL.nil (KQ.seq (KC.block (KC.sr (KL.e0 rfl (by decide) (KL.fin 1 rfl (KQ.seq ?_))))))))))
  refine KC.condF rfl (KC.sr (KL.e0 rfl (by decide) (KL.fin 1 rfl (KQ.seq (KC.condF rfl (KC.sr (KL.e0 rfl (by decide) (KL.fin 1 rfl (KQ.seq (KC.condF rfl (KC.seq ?_)))))))))))
  refine KC.region (KL.q ((R.eql rfl rfl rfl).val (congrArg Value.bool (decide_eq_true rfl))) rfl (KL.fin 1 rfl (KQ.seq (KC.condT rfl (KC.region (KL.run 2 rfl (KL.lda rfl (cells_mid (k := 6) (n := 2) bx) rfl ?_)))))))
  refine KL.c rfl Tryz.call63 (wglob_any wa gt gm rgt (by simp only [List.length_append, List.length_cons, List.length_nil]; omega)) ?_
  rintro _ H9 ⟨v_28, wa_28, s_28⟩
  have oB := s_28.om wa oB hgB
  have abx2 := s_28.apart abx (blk_lt bx)
  have bx := s_28.blk bx (by omega) abx
  have abx := abx2
  have zs_28 := s_28.sz
  have ws := ws.trans s_28
  have wa := wa_28
  have o0 := o0.trans s_28.ob0
  refine KL.nil (KQ.normBlock (KQ.fin0 Tryz.results18 ?_))
  exact ⟨_, wa.cast (by unfold En.impB En.impM; simp) (by unfold En.impO En.impO2; simp [Bool.or_assoc]), ws⟩
theorem wimp_x {H : Heap} {g : Nat} {v : Value} {l : List Int} {bad : Bool} (wa : WA H g v l bad) {Hb : Heap} (oB : Old Hb H) (hgB : Hb.size ≤ g) (hT : TabU Hb) (s1 s2 : ByteArray) (kd : Int) (rkd : InR .u8 kd) (hkd : 3 < kd) (ty la lb gt : Int) (gm : Bool) (h1 : s1.size ≤ 4000) (h2 : s2.size ≤ 4000) (rty : InR .u32 ty) (rla : InR .u32 la) (rlb : InR .i64 lb) (rgt : InR .u8 gt) (hN : l.length + 20000 + 20000000 ≤ 1099511627776) : Ct Tryz.prog 18 [.pointer (some ⟨g, 0, none⟩), .agg [.string s1, .string s2, .int .u8 kd, .int .u32 ty, .int .u32 la, .int .i64 lb, .int .u8 gt, .bool gm].toArray] H (fun _ H' => ∃ v', WA H' g v' (l ++ En.impB ⟨s1, s2, kd, ty, (la, lb), (gt, gm)⟩) (bad || !En.impO ⟨s1, s2, kd, ty, (la, lb), (gt, gm)⟩) ∧ WS g v H v' H') := by
  refine Ct.mk Tryz.func18 rfl Tryz.ntmps18 rfl ?_
  intro W0 hW0
  have o0 : OldB 0 H H := OldB.refl _ H
  have ws := WS.refl g v H
  have zg := wa.lt
  have hkr := rkd
  dsimp only [InR] at hkr
  refine KC.sr ?_
  have abx : v = .slice none 0 0 ∨ vblock v ≠ Array.size H := wa.w.lt.imp id (fun e => by omega)
  refine KL.m (M.box rfl rfl rfl) rfl ?_
  rintro _ H1 ⟨rfl, n1⟩
  have z1 := n1.2.1
  have o0 := o0.trans ((n1.1).b (by omega))
  have wa := wa.old n1.1
  have ws := ws.old n1.1
  have oB := oB.trans n1.1
  have b1 := n1.2.2
  have bx := b1
  refine KL.nil (KQ.sr (KL.run 2 rfl (KL.ld rfl (cell_of bx rfl) ?_)))
  refine KL.c rfl K61 (wname_any wa oB hgB hT s1 (by omega) (by omega)) ?_
  rintro _ H2 ⟨v_29, wa_29, s_29⟩
  have oB := s_29.om wa oB hgB
  have abx2 := s_29.apart abx (blk_lt bx)
  have bx := s_29.blk bx (by omega) abx
  have abx := abx2
  have zs_29 := s_29.sz
  have ws := ws.trans s_29
  have wa := wa_29
  have o0 := o0.trans s_29.ob0
  have ht1 := En.txt_le h1
  refine KL.nil (KQ.sr (KL.run 2 rfl (KL.ld rfl (cell_of bx rfl) ?_)))
  refine KL.c rfl K61 (wname_any wa oB hgB hT s2 (by omega) (by simp only [List.length_append, List.length_cons, List.length_nil]; omega)) ?_
  rintro _ H3 ⟨v_30, wa_30, s_30⟩
  have oB := s_30.om wa oB hgB
  have abx2 := s_30.apart abx (blk_lt bx)
  have bx := s_30.blk bx (by omega) abx
  have abx := abx2
  have zs_30 := s_30.sz
  have ws := ws.trans s_30
  have wa := wa_30
  have o0 := o0.trans s_30.ob0
  have ht2 := En.txt_le h2
  refine KL.nil (KQ.sr (KL.run 2 rfl (KL.ld rfl (cell_of bx rfl) ?_)))
  refine KL.m (M.lit rfl U34 zs5 (by decide) rfl rfl rfl) rfl ?_
  rintro _ H4 ⟨rfl, n4⟩
  have z4 := n4.2.1
  have o0 := o0.trans ((n4.1).b (by omega))
  have wa := wa.old n4.1
  have ws := ws.old n4.1
  have oB := oB.trans n4.1
  have bx := (n4.1).blk bx
  have b4 := n4.2.2
  have s0 : Sl 1 (EInt .u8) H4 _ [kd] := Sl.lits (l := [kd]) n4 rfl (by simp) (by intro y hy; simp only [List.mem_cons, List.not_mem_nil, or_false] at hy; subst hy; dsimp only [InR] at *; omega)
  refine KL.c rfl K57 (wbyte_any wa s0 (by simp only [List.length_append, List.length_cons, List.length_nil]; omega)) ?_
  rintro _ H5 ⟨v_31, wa_31, s_31⟩
  have oB := s_31.om wa oB hgB
  have abx2 := s_31.apart abx (blk_lt bx)
  have bx := s_31.blk bx (by omega) abx
  have abx := abx2
  have zs_31 := s_31.sz
  have ws := ws.trans s_31
  have wa := wa_31
  have o0 := o0.trans s_31.ob0
  refine KL.nil (KQ.sr (KL.run 2 rfl (KL.ld rfl (cell_of bx rfl) ?_)))
  refine KL.e0 rfl (by omega) ?_
  refine KL.run 2 rfl (KL.ld rfl (cell_of bx rfl) (KL.run 2 rfl ?_))
  refine KL.c rfl K62 (wmay_any wa _) ?_
  rintro _ H6 ⟨wa_32, s_32⟩
  have oB := s_32.om wa oB hgB
  have abx2 := s_32.apart abx (blk_lt bx)
  have bx := s_32.blk bx (by omega) abx
  have abx := abx2
  have zs_32 := s_32.sz
  have ws := ws.trans s_32
  have wa := wa_32
  have o0 := o0.trans s_32.ob0
  refine KL.nil (KQ.sr (KL.run 2 rfl (KL.ld rfl (cell_of bx rfl) ?_)))
  refine KL.e0 rfl (by omega) ?_
  refine KL.run 2 rfl (KL.ld rfl (cell_of bx rfl) ?_)
  refine KL.e0 rfl (by omega) ?_
  refine KL.run 3 rfl (KL.lda rfl (cells_mid (k := 4) (n := 2) bx) rfl (KL.b0 bt57 rfl rfl (KL.q (R.eqlSt rfl U57 (by kernel_rfl) (by kernel_rfl) rfl rfl (EqFs.int (by decide) U28 rfl rfl (EqFs.int (by decide) U2 rfl rfl EqFs.nil))) rfl (KL.run 1 rfl ?_))))
  refine KL.c rfl K62 (wmay_any wa _) ?_
  rintro _ H7 ⟨wa_33, s_33⟩
  have oB := s_33.om wa oB hgB
  have abx2 := s_33.apart abx (blk_lt bx)
  have bx := s_33.blk bx (by omega) abx
  have abx := abx2
  have zs_33 := s_33.sz
  have ws := ws.trans s_33
  have wa := wa_33
  have o0 := o0.trans s_33.ob0
  refine KL.nil (KQ.sr (KL.run 2 rfl (KL.ld rfl (cell_of bx rfl) ?_)))
  refine KL.e0 rfl (by omega) ?_
  refine KL.run 2 rfl (KL.lda rfl (cells_mid (k := 6) (n := 2) bx) rfl (KL.b0 bt59 rfl rfl (KL.q (R.eqlSt rfl U59 (by kernel_rfl) (by kernel_rfl) rfl rfl (EqFs.int (by decide) U5 rfl rfl (EqFs.bool (by decide) U4 rfl rfl EqFs.nil))) rfl (KL.run 1 rfl ?_))))
  refine KL.c rfl K62 (wmay_any wa _) ?_
  rintro _ H8 ⟨wa_34, s_34⟩
  have oB := s_34.om wa oB hgB
  have abx2 := s_34.apart abx (blk_lt bx)
  have bx := s_34.blk bx (by omega) abx
  have abx := abx2
  have zs_34 := s_34.sz
  have ws := ws.trans s_34
  have wa := wa_34
  have o0 := o0.trans s_34.ob0
  refine KL.nil (KQ.sr (KL.run 1 rfl (KL.ld rfl (cell_of bx rfl) (KL.nil (KQ.seq (KC.block (KC.sr ?_)))))))
  refine KL.e0 rfl (by omega) ?_
  refine KL.fin 1 rfl (KQ.seq (KC.condF rfl (KC.sr ?_)))
  refine KL.e0 rfl (by omega) ?_
  refine KL.fin 1 rfl (KQ.seq (KC.condF rfl (KC.sr ?_)))
  refine KL.e0 rfl (by omega) ?_
  refine KL.fin 1 rfl (KQ.seq (KC.condF rfl (KC.sr ?_)))
  refine KL.e0 rfl (by omega) ?_
  refine KL.fin 1 rfl (KQ.seq (KC.condF rfl (KC.region (KL.run 1 rfl ?_))))
  refine KL.c rfl K62 (wmay_any wa _) ?_
  rintro _ H9 ⟨wa_35, s_35⟩
  have oB := s_35.om wa oB hgB
  have abx2 := s_35.apart abx (blk_lt bx)
  have bx := s_35.blk bx (by omega) abx
  have abx := abx2
  have zs_35 := s_35.sz
  have ws := ws.trans s_35
  have wa := wa_35
  have o0 := o0.trans s_35.ob0
  refine KL.nil (KQ.normBlock (KQ.fin0 Tryz.results18 ?_))
  exact ⟨_, wa.cast (by unfold En.impB En.impM; simp only []; rw [if_neg (by omega), if_neg (by omega), if_neg (by omega), if_neg (by omega)]; simp) (by unfold En.impO En.impO2; dsimp only; rw [if_neg (by omega), if_neg (by omega), if_neg (by omega), if_neg (by omega)]; simp), ws⟩
theorem wimported_any {H : Heap} {g : Nat} {v : Value} {l : List Int} {bad : Bool} (wa : WA H g v l bad) {Hb : Heap} (oB : Old Hb H) (hgB : Hb.size ≤ g) (hT : TabU Hb) (s1 s2 : ByteArray) (kd ty la lb gt : Int) (gm : Bool) (rkd : InR .u8 kd) (h1 : s1.size ≤ 4000) (h2 : s2.size ≤ 4000) (rty : InR .u32 ty) (rla : InR .u32 la) (rlb : InR .i64 lb) (rgt : InR .u8 gt) (hN : l.length + 20000 + 20000000 ≤ 1099511627776) :
    Ct Tryz.prog 18 [.pointer (some ⟨g, 0, none⟩), .agg [.string s1, .string s2, .int .u8 kd, .int .u32 ty, .int .u32 la, .int .i64 lb, .int .u8 gt, .bool gm].toArray] H (fun _ H' => ∃ v', WA H' g v' (l ++ En.impB ⟨s1, s2, kd, ty, (la, lb), (gt, gm)⟩) (bad || !En.impO ⟨s1, s2, kd, ty, (la, lb), (gt, gm)⟩) ∧ WS g v H v' H') := by
  have hk := rkd
  dsimp only [InR] at hk
  rcases (by omega : kd = 0 ∨ kd = 1 ∨ kd = 2 ∨ kd = 3 ∨ 3 < kd) with rfl | rfl | rfl | rfl | h
  · exact wimp_0 wa oB hgB hT s1 s2 ty la lb gt gm h1 h2 rty rla rlb rgt hN
  · exact wimp_1 wa oB hgB hT s1 s2 ty la lb gt gm h1 h2 rty rla rlb rgt hN
  · exact wimp_2 wa oB hgB hT s1 s2 ty la lb gt gm h1 h2 rty rla rlb rgt hN
  · exact wimp_3 wa oB hgB hT s1 s2 ty la lb gt gm h1 h2 rty rla rlb rgt hN
  exact wimp_x wa oB hgB hT s1 s2 kd rkd h ty la lb gt gm h1 h2 rty rla rlb rgt hN
def EFTy : El FTy := fun H cs x => ∃ v w, cs = [v, w] ∧ Sl 1 (EInt .u8) H v x.1 ∧ Sl 1 (EInt .u8) H w x.2
def EImp : El Imp := fun _ cs x => cs = [.string x.mod, .string x.nam, .int .u8 x.kind, .int .u32 x.typ, .int .u32 x.lim.1, .int .i64 x.lim.2, .int .u8 x.glob.1, .bool x.glob.2] ∧ InR .u8 x.kind ∧ InR .u32 x.typ ∧ InR .u32 x.lim.1 ∧ InR .i64 x.lim.2 ∧ InR .u8 x.glob.1
def EGlo : El Glo := fun H cs x => ∃ v, cs = [.int .u8 x.1.1, .bool x.1.2, v] ∧ Sl 5 EIns H v x.2 ∧ InR .u8 x.1.1
def EExp : El Exp := fun _ cs x => cs = [.string x.nam, .int .u8 x.kind, .int .u32 x.idx] ∧ InR .u8 x.kind ∧ InR .u32 x.idx
def EElm : El Elm := fun H cs x => ∃ v w, cs = [.int .u32 x.1, v, w] ∧ Sl 5 EIns H v x.2.1 ∧ Sl 1 (EInt .u32) H w x.2.2 ∧ InR .u32 x.1
def EDat : El Elm := fun H cs x => ∃ v w, cs = [.int .u32 x.1, v, w] ∧ Sl 5 EIns H v x.2.1 ∧ Sl 1 (EInt .u8) H w x.2.2 ∧ InR .u32 x.1
def ECod : El Cod := fun H cs x => ∃ v w, cs = [v, w] ∧ Sl 2 ELoc H v x.1 ∧ Sl 5 EIns H w x.2
instance : Keeps EFTy := ⟨fun ho h => by obtain ⟨v, w, e, a, b⟩ := h; exact ⟨v, w, e, a.old ho, b.old ho⟩⟩
instance : Keeps EImp := ⟨fun _ h => h⟩
instance : Keeps EGlo := ⟨fun ho h => by obtain ⟨v, e, a, b⟩ := h; exact ⟨v, e, a.old ho, b⟩⟩
instance : Keeps EExp := ⟨fun _ h => h⟩
instance : Keeps EElm := ⟨fun ho h => by obtain ⟨v, w, e, a, b, c⟩ := h; exact ⟨v, w, e, a.old ho, b.old ho, c⟩⟩
instance : Keeps EDat := ⟨fun ho h => by obtain ⟨v, w, e, a, b, c⟩ := h; exact ⟨v, w, e, a.old ho, b.old ho, c⟩⟩
instance : Keeps ECod := ⟨fun ho h => by obtain ⟨v, w, e, a, b⟩ := h; exact ⟨v, w, e, a.old ho, b.old ho⟩⟩
theorem wlist_typed {H : Heap} {g : Nat} {v : Value} {l : List Int} {bad : Bool} (wa : WA H g v l bad) {Hb : Heap} (oB : Old Hb H) (hgB : Hb.size ≤ g) {u : Value} {xs : List FTy} (hs : Sl 2 EFTy Hb u xs) (hm : xs.length ≤ 4294967295) (hz : ∀ x ∈ xs, x.1.length ≤ 4000 ∧ x.2.length ≤ 4000) (hN : l.length + (En.lst En.typB xs).length + 30000000 ≤ 1099511627776) : Ct Tryz.prog 56 [.pointer (some ⟨g, 0, none⟩), u, .func (.func 15) #[.pointer (some ⟨g, 0, none⟩)] #[]] H (fun _ H' => ∃ v', WA H' g v' (l ++ En.lst En.typB xs) (bad || !xs.all En.typO) ∧ WS g v H v' H') := by
  refine Ct.mk Tryz.func56 rfl Tryz.ntmps56 rfl ?_
  intro W0 hW0
  have o0 : OldB 0 H H := OldB.refl _ H
  have ws := WS.refl g v H
  have zg := wa.lt
  have hlst : 0 ≤ (En.lst En.typB xs).length := Nat.zero_le _
  refine KC.sr (KL.run 2 rfl (KL.q (R.lenS rfl U22 rfl hs) rfl ?_))
  refine KL.q (R.convI rfl U3 U28 rfl (by dsimp only [InR]; omega)) rfl ?_
  refine KL.c rfl K21 (wu32_any wa _ (by dsimp only [InR]; omega) (by omega)) ?_
  rintro _ H1 ⟨v_1, wa_1, s_1⟩
  have oB := s_1.om wa oB hgB
  have zs_1 := s_1.sz
  have ws := ws.trans s_1
  have wa := wa_1
  have o0 := o0.trans s_1.ob0
  have hul := En.u_le (xs.length : Nat)
  refine KL.nil (KQ.sr (KL.run 1 rfl (KL.q (R.lenS rfl U22 rfl hs) rfl (KL.fin 1 rfl (KQ.seq (KC.block ?_))))))
  refine KC.loopD (κ := Nat × Value) [16, 17, 18, 7, 19, 20, 21, 22, 15] (fun k => [(15, .int .i64 (k.1 : Nat))]) (fun k Hl => k.1 ≤ xs.length ∧ WA Hl g k.2 (l ++ (En.u (xs.length : Nat) ++ (xs.take k.1).flatMap En.typB)) (bad || !(xs.take k.1).all En.typO) ∧ WS g v H k.2 Hl ∧ Old Hb Hl) (fun k => xs.length - k.1) (0, v_1) ?_ ?_ ?_
  · exact Sub.all rfl
  · exact ⟨Nat.zero_le _, wa.cast (by simp) (by simp), ws, oB⟩
  rintro ⟨k, vk⟩ H2 ⟨hk, wa, ws, oB⟩
  dsimp only at hk wa ws
  have zg := wa.lt
  have o0 : OldB 0 H H2 := ws.ob0
  refine KC.sr (KL.fin 1 rfl (KQ.seq (KC.seq ?_)))
  refine KC.iq rfl ?_ ?_
  · intro hc16
    try dsimp only at hc16
    have hk2 : k < xs.length := by omega
    obtain ⟨cs, hcl, hcx, a, b, rfl, ha, hb⟩ := hs.at k hk2
    have hzk := hz _ (En.getD_memD hk2)
    have hroom := En.room (f := En.typB) (c := 1099481627776) (a := l) hk2 (by omega)
    refine KC.skip (KQ.seq (KC.seq (KC.block (KC.sr ?_))))
    refine KL.q (R.index (j := k) rfl U22 sz50 rfl rfl hs rfl (by omega)) rfl ?_
    refine KL.lda rfl (oB.cells hcx) rfl ?_
    have abv : vk = .slice none 0 0 ∨ vblock vk ≠ Array.size H2 := wa.w.lt.imp id (fun e => by omega)
    have oP : Old H2 H2 := Old.refl _
    have waT := wa
    have wsT := ws
    refine KL.m (M.alloc rfl zr50 rfl) rfl ?_
    rintro _ H3 ⟨rfl, n3⟩
    have z3 := n3.2.1
    have o0 := o0.trans ((n3.1).b (by omega))
    have oB := oB.trans n3.1
    have oP := oP.trans n3.1
    have b3 := n3.2.2
    have bv := b3
    refine KL.opS (S.storeAgg rfl sz50 rfl rfl (rfl) (by intro z hz2; simp only [List.mem_cons, List.not_mem_nil, or_false] at hz2; rcases hz2 with rfl | rfl <;> first | rfl | exact ha.one | exact hb.one) bv (by simp)) rfl rfl ?_
    rintro H4 ⟨u4, b4⟩
    have o0 := o0.trans (OldB.upd u4 (by omega))
    have zu4 := u4.1
    have oB := oB.upd u4 (by omega)
    have oP := oP.upd u4 (by omega)
    have bv := b4
    rw [over_all (by rfl)] at bv
    have wa := waT.old oP
    have ws := wsT.old oP
    have o0 := ws.ob0
    refine KL.nil (KQ.r (KL.run 1 rfl (KL.lda rfl (cells_of bv) rfl ?_)))
    refine KL.c rfl Tryz.call15 (wtyped_any wa oB hgB ha hb hzk.1 hzk.2 (by omega)) ?_
    rintro _ H5 ⟨v_2, wa_2, s_2⟩
    have oB := s_2.om wa oB hgB
    have abv2 := s_2.apart abv (blk_lt bv)
    have bv := s_2.blk bv (by omega) abv
    have abv := abv2
    have zs_2 := s_2.sz
    have ws := ws.trans s_2
    have wa := wa_2
    have o0 := o0.trans s_2.ob0
    refine KL.nil (KQ.normBlock (KQ.r ?_))
    refine KL.q ((R.add rfl rfl rfl (by dsimp only [InR]; omega)).val (congrArg (Value.int .i64) (show (k : Int) + 1 = ((k + 1 : Nat) : Int) by omega))) rfl ?_
    refine KL.fin 1 rfl ?_
    refine KQ.again ((k + 1, v_2)) ?_ ?_ ?_
    · exact Sub.all rfl
    · show xs.length - (k + 1) < xs.length - k; omega
    exact ⟨by show k + 1 ≤ _; omega, by dsimp only; exact wa.cast (En.lst_step (by omega)) (En.all_step (by omega)), ws, oB⟩
  intro hc16
  try dsimp only at hc16
  have hkl : k = xs.length := by omega
  rw [hkl, List.take_length] at wa
  refine KC.exit (KQ.exitThen (KQ.exitThen (KQ.hit (KQ.fin0 Tryz.results56 ?_))))
  exact ⟨_, wa.cast (rfl) (rfl), ws⟩
theorem wlist_imported {H : Heap} {g : Nat} {v : Value} {l : List Int} {bad : Bool} (wa : WA H g v l bad) {Hb : Heap} (oB : Old Hb H) (hgB : Hb.size ≤ g) (hT : TabU Hb) {u : Value} {xs : List Imp} (hs : Sl 8 EImp Hb u xs) (hm : xs.length ≤ 4294967295) (hz : ∀ x ∈ xs, x.mod.size ≤ 4000 ∧ x.nam.size ≤ 4000) (hN : l.length + (En.lst En.impB xs).length + 30000000 ≤ 1099511627776) : Ct Tryz.prog 60 [.pointer (some ⟨g, 0, none⟩), u, .func (.func 18) #[.pointer (some ⟨g, 0, none⟩)] #[]] H (fun _ H' => ∃ v', WA H' g v' (l ++ En.lst En.impB xs) (bad || !xs.all En.impO) ∧ WS g v H v' H') := by
  refine Ct.mk Tryz.func60 rfl Tryz.ntmps60 rfl ?_
  intro W0 hW0
  have o0 : OldB 0 H H := OldB.refl _ H
  have ws := WS.refl g v H
  have zg := wa.lt
  have hlst : 0 ≤ (En.lst En.impB xs).length := Nat.zero_le _
  refine KC.sr (KL.run 2 rfl (KL.q (R.lenS rfl U23 rfl hs) rfl ?_))
  refine KL.q (R.convI rfl U3 U28 rfl (by dsimp only [InR]; omega)) rfl ?_
  refine KL.c rfl K21 (wu32_any wa _ (by dsimp only [InR]; omega) (by omega)) ?_
  rintro _ H1 ⟨v_3, wa_3, s_3⟩
  have oB := s_3.om wa oB hgB
  have zs_3 := s_3.sz
  have ws := ws.trans s_3
  have wa := wa_3
  have o0 := o0.trans s_3.ob0
  have hul := En.u_le (xs.length : Nat)
  refine KL.nil (KQ.sr (KL.run 1 rfl (KL.q (R.lenS rfl U23 rfl hs) rfl (KL.fin 1 rfl (KQ.seq (KC.block ?_))))))
  refine KC.loopD (κ := Nat × Value) [16, 17, 18, 7, 19, 20, 21, 22, 15] (fun k => [(15, .int .i64 (k.1 : Nat))]) (fun k Hl => k.1 ≤ xs.length ∧ WA Hl g k.2 (l ++ (En.u (xs.length : Nat) ++ (xs.take k.1).flatMap En.impB)) (bad || !(xs.take k.1).all En.impO) ∧ WS g v H k.2 Hl ∧ Old Hb Hl) (fun k => xs.length - k.1) (0, v_3) ?_ ?_ ?_
  · exact Sub.all rfl
  · exact ⟨Nat.zero_le _, wa.cast (by simp) (by simp), ws, oB⟩
  rintro ⟨k, vk⟩ H2 ⟨hk, wa, ws, oB⟩
  dsimp only at hk wa ws
  have zg := wa.lt
  have o0 : OldB 0 H H2 := ws.ob0
  refine KC.sr (KL.fin 1 rfl (KQ.seq (KC.seq ?_)))
  refine KC.iq rfl ?_ ?_
  · intro hc16
    try dsimp only at hc16
    have hk2 : k < xs.length := by omega
    obtain ⟨cs, hcl, hcx, rfl, r1, r2, r3, r4, r5⟩ := hs.at k hk2
    have hzk := hz _ (En.getD_memD hk2)
    have hroom := En.room (f := En.impB) (c := 1099481627776) (a := l) hk2 (by omega)
    refine KC.skip (KQ.seq (KC.seq (KC.block (KC.sr ?_))))
    refine KL.q (R.index (j := k) rfl U23 sz61 rfl rfl hs rfl (by omega)) rfl ?_
    refine KL.lda rfl (oB.cells hcx) rfl ?_
    have abv : vk = .slice none 0 0 ∨ vblock vk ≠ Array.size H2 := wa.w.lt.imp id (fun e => by omega)
    have oP : Old H2 H2 := Old.refl _
    have waT := wa
    have wsT := ws
    refine KL.m (M.alloc rfl zr61 rfl) rfl ?_
    rintro _ H3 ⟨rfl, n3⟩
    have z3 := n3.2.1
    have o0 := o0.trans ((n3.1).b (by omega))
    have oB := oB.trans n3.1
    have oP := oP.trans n3.1
    have b3 := n3.2.2
    have bv := b3
    refine KL.opS (S.storeAgg rfl sz61 rfl rfl (rfl) (by intro z hz2; simp only [List.mem_cons, List.not_mem_nil, or_false] at hz2; rcases hz2 with rfl | rfl | rfl | rfl | rfl | rfl | rfl | rfl <;> first | rfl) bv (by simp)) rfl rfl ?_
    rintro H4 ⟨u4, b4⟩
    have o0 := o0.trans (OldB.upd u4 (by omega))
    have zu4 := u4.1
    have oB := oB.upd u4 (by omega)
    have oP := oP.upd u4 (by omega)
    have bv := b4
    rw [over_all (by rfl)] at bv
    have wa := waT.old oP
    have ws := wsT.old oP
    have o0 := ws.ob0
    refine KL.nil (KQ.r (KL.run 1 rfl (KL.lda rfl (cells_of bv) rfl ?_)))
    refine KL.c rfl Tryz.call18 (wimported_any wa oB hgB hT _ _ _ _ _ _ _ _ r1 hzk.1 hzk.2 r2 r3 r4 r5 (by omega)) ?_
    rintro _ H5 ⟨v_4, wa_4, s_4⟩
    have oB := s_4.om wa oB hgB
    have abv2 := s_4.apart abv (blk_lt bv)
    have bv := s_4.blk bv (by omega) abv
    have abv := abv2
    have zs_4 := s_4.sz
    have ws := ws.trans s_4
    have wa := wa_4
    have o0 := o0.trans s_4.ob0
    refine KL.nil (KQ.normBlock (KQ.r ?_))
    refine KL.q ((R.add rfl rfl rfl (by dsimp only [InR]; omega)).val (congrArg (Value.int .i64) (show (k : Int) + 1 = ((k + 1 : Nat) : Int) by omega))) rfl ?_
    refine KL.fin 1 rfl ?_
    refine KQ.again ((k + 1, v_4)) ?_ ?_ ?_
    · exact Sub.all rfl
    · show xs.length - (k + 1) < xs.length - k; omega
    exact ⟨by show k + 1 ≤ _; omega, by dsimp only; exact wa.cast (En.lst_step (by omega)) (En.all_step (by omega)), ws, oB⟩
  intro hc16
  try dsimp only at hc16
  have hkl : k = xs.length := by omega
  rw [hkl, List.take_length] at wa
  refine KC.exit (KQ.exitThen (KQ.exitThen (KQ.hit (KQ.fin0 Tryz.results60 ?_))))
  exact ⟨_, wa.cast (rfl) (rfl), ws⟩
theorem wlist_global {H : Heap} {g : Nat} {v : Value} {l : List Int} {bad : Bool} (wa : WA H g v l bad) {Hb : Heap} (oB : Old Hb H) (hgB : Hb.size ≤ g) {u : Value} {xs : List Glo} (hs : Sl 3 EGlo Hb u xs) (hm : xs.length ≤ 4294967295) (hz : ∀ x ∈ xs, Isp.bulk x.2 ≤ 4000) (hN : l.length + (En.lst En.gloB xs).length + 30000000 ≤ 1099511627776) : Ct Tryz.prog 66 [.pointer (some ⟨g, 0, none⟩), u, .func (.func 29) #[.pointer (some ⟨g, 0, none⟩)] #[]] H (fun _ H' => ∃ v', WA H' g v' (l ++ En.lst En.gloB xs) (bad || !xs.all En.gloO) ∧ WS g v H v' H') := by
  refine Ct.mk Tryz.func66 rfl Tryz.ntmps66 rfl ?_
  intro W0 hW0
  have o0 : OldB 0 H H := OldB.refl _ H
  have ws := WS.refl g v H
  have zg := wa.lt
  have hlst : 0 ≤ (En.lst En.gloB xs).length := Nat.zero_le _
  refine KC.sr (KL.run 2 rfl (KL.q (R.lenS rfl U26 rfl hs) rfl ?_))
  refine KL.q (R.convI rfl U3 U28 rfl (by dsimp only [InR]; omega)) rfl ?_
  refine KL.c rfl K21 (wu32_any wa _ (by dsimp only [InR]; omega) (by omega)) ?_
  rintro _ H1 ⟨v_5, wa_5, s_5⟩
  have oB := s_5.om wa oB hgB
  have zs_5 := s_5.sz
  have ws := ws.trans s_5
  have wa := wa_5
  have o0 := o0.trans s_5.ob0
  have hul := En.u_le (xs.length : Nat)
  refine KL.nil (KQ.sr (KL.run 1 rfl (KL.q (R.lenS rfl U26 rfl hs) rfl (KL.fin 1 rfl (KQ.seq (KC.block ?_))))))
  refine KC.loopD (κ := Nat × Value) [16, 17, 18, 7, 19, 20, 21, 22, 15] (fun k => [(15, .int .i64 (k.1 : Nat))]) (fun k Hl => k.1 ≤ xs.length ∧ WA Hl g k.2 (l ++ (En.u (xs.length : Nat) ++ (xs.take k.1).flatMap En.gloB)) (bad || !(xs.take k.1).all En.gloO) ∧ WS g v H k.2 Hl ∧ Old Hb Hl) (fun k => xs.length - k.1) (0, v_5) ?_ ?_ ?_
  · exact Sub.all rfl
  · exact ⟨Nat.zero_le _, wa.cast (by simp) (by simp), ws, oB⟩
  rintro ⟨k, vk⟩ H2 ⟨hk, wa, ws, oB⟩
  dsimp only at hk wa ws
  have zg := wa.lt
  have o0 : OldB 0 H H2 := ws.ob0
  refine KC.sr (KL.fin 1 rfl (KQ.seq (KC.seq ?_)))
  refine KC.iq rfl ?_ ?_
  · intro hc16
    try dsimp only at hc16
    have hk2 : k < xs.length := by omega
    obtain ⟨cs, hcl, hcx, a, rfl, ha, r1⟩ := hs.at k hk2
    have hzk := hz _ (En.getD_memD hk2)
    have hroom := En.room (f := En.gloB) (c := 1099481627776) (a := l) hk2 (by omega)
    refine KC.skip (KQ.seq (KC.seq (KC.block (KC.sr ?_))))
    refine KL.q (R.index (j := k) rfl U26 sz63 rfl rfl hs rfl (by omega)) rfl ?_
    refine KL.lda rfl (oB.cells hcx) rfl ?_
    have abv : vk = .slice none 0 0 ∨ vblock vk ≠ Array.size H2 := wa.w.lt.imp id (fun e => by omega)
    have oP : Old H2 H2 := Old.refl _
    have waT := wa
    have wsT := ws
    refine KL.m (M.alloc rfl zr63 rfl) rfl ?_
    rintro _ H3 ⟨rfl, n3⟩
    have z3 := n3.2.1
    have o0 := o0.trans ((n3.1).b (by omega))
    have oB := oB.trans n3.1
    have oP := oP.trans n3.1
    have b3 := n3.2.2
    have bv := b3
    refine KL.opS (S.storeAgg rfl sz63 rfl rfl (rfl) (by intro z hz2; simp only [List.mem_cons, List.not_mem_nil, or_false] at hz2; rcases hz2 with rfl | rfl | rfl <;> first | rfl | exact ha.one) bv (by simp)) rfl rfl ?_
    rintro H4 ⟨u4, b4⟩
    have o0 := o0.trans (OldB.upd u4 (by omega))
    have zu4 := u4.1
    have oB := oB.upd u4 (by omega)
    have oP := oP.upd u4 (by omega)
    have bv := b4
    rw [over_all (by rfl)] at bv
    have wa := waT.old oP
    have ws := wsT.old oP
    have o0 := ws.ob0
    refine KL.nil (KQ.r (KL.run 1 rfl (KL.lda rfl (cells_of bv) rfl ?_)))
    refine KL.c rfl Tryz.call29 (wglobal_any wa oB hgB _ _ r1 ha hzk (by omega)) ?_
    rintro _ H5 ⟨v_6, wa_6, s_6⟩
    have oB := s_6.om wa oB hgB
    have abv2 := s_6.apart abv (blk_lt bv)
    have bv := s_6.blk bv (by omega) abv
    have abv := abv2
    have zs_6 := s_6.sz
    have ws := ws.trans s_6
    have wa := wa_6
    have o0 := o0.trans s_6.ob0
    refine KL.nil (KQ.normBlock (KQ.r ?_))
    refine KL.q ((R.add rfl rfl rfl (by dsimp only [InR]; omega)).val (congrArg (Value.int .i64) (show (k : Int) + 1 = ((k + 1 : Nat) : Int) by omega))) rfl ?_
    refine KL.fin 1 rfl ?_
    refine KQ.again ((k + 1, v_6)) ?_ ?_ ?_
    · exact Sub.all rfl
    · show xs.length - (k + 1) < xs.length - k; omega
    exact ⟨by show k + 1 ≤ _; omega, by dsimp only; exact wa.cast (En.lst_step (by omega)) (En.all_step (by omega)), ws, oB⟩
  intro hc16
  try dsimp only at hc16
  have hkl : k = xs.length := by omega
  rw [hkl, List.take_length] at wa
  refine KC.exit (KQ.exitThen (KQ.exitThen (KQ.hit (KQ.fin0 Tryz.results66 ?_))))
  exact ⟨_, wa.cast (rfl) (rfl), ws⟩
theorem wlist_export {H : Heap} {g : Nat} {v : Value} {l : List Int} {bad : Bool} (wa : WA H g v l bad) {Hb : Heap} (oB : Old Hb H) (hgB : Hb.size ≤ g) (hT : TabU Hb) {u : Value} {xs : List Exp} (hs : Sl 3 EExp Hb u xs) (hm : xs.length ≤ 4294967295) (hz : ∀ x ∈ xs, x.nam.size ≤ 4000) (hN : l.length + (En.lst En.expB xs).length + 30000000 ≤ 1099511627776) : Ct Tryz.prog 68 [.pointer (some ⟨g, 0, none⟩), u, .func (.func 32) #[.pointer (some ⟨g, 0, none⟩)] #[]] H (fun _ H' => ∃ v', WA H' g v' (l ++ En.lst En.expB xs) (bad || !xs.all En.expO) ∧ WS g v H v' H') := by
  refine Ct.mk Tryz.func68 rfl Tryz.ntmps68 rfl ?_
  intro W0 hW0
  have o0 : OldB 0 H H := OldB.refl _ H
  have ws := WS.refl g v H
  have zg := wa.lt
  have hlst : 0 ≤ (En.lst En.expB xs).length := Nat.zero_le _
  refine KC.sr (KL.run 2 rfl (KL.q (R.lenS rfl U27 rfl hs) rfl ?_))
  refine KL.q (R.convI rfl U3 U28 rfl (by dsimp only [InR]; omega)) rfl ?_
  refine KL.c rfl K21 (wu32_any wa _ (by dsimp only [InR]; omega) (by omega)) ?_
  rintro _ H1 ⟨v_7, wa_7, s_7⟩
  have oB := s_7.om wa oB hgB
  have zs_7 := s_7.sz
  have ws := ws.trans s_7
  have wa := wa_7
  have o0 := o0.trans s_7.ob0
  have hul := En.u_le (xs.length : Nat)
  refine KL.nil (KQ.sr (KL.run 1 rfl (KL.q (R.lenS rfl U27 rfl hs) rfl (KL.fin 1 rfl (KQ.seq (KC.block ?_))))))
  refine KC.loopD (κ := Nat × Value) [16, 17, 18, 7, 19, 20, 21, 22, 15] (fun k => [(15, .int .i64 (k.1 : Nat))]) (fun k Hl => k.1 ≤ xs.length ∧ WA Hl g k.2 (l ++ (En.u (xs.length : Nat) ++ (xs.take k.1).flatMap En.expB)) (bad || !(xs.take k.1).all En.expO) ∧ WS g v H k.2 Hl ∧ Old Hb Hl) (fun k => xs.length - k.1) (0, v_7) ?_ ?_ ?_
  · exact Sub.all rfl
  · exact ⟨Nat.zero_le _, wa.cast (by simp) (by simp), ws, oB⟩
  rintro ⟨k, vk⟩ H2 ⟨hk, wa, ws, oB⟩
  dsimp only at hk wa ws
  have zg := wa.lt
  have o0 : OldB 0 H H2 := ws.ob0
  refine KC.sr (KL.fin 1 rfl (KQ.seq (KC.seq ?_)))
  refine KC.iq rfl ?_ ?_
  · intro hc16
    try dsimp only at hc16
    have hk2 : k < xs.length := by omega
    obtain ⟨cs, hcl, hcx, rfl, r1, r2⟩ := hs.at k hk2
    have hzk := hz _ (En.getD_memD hk2)
    have hroom := En.room (f := En.expB) (c := 1099481627776) (a := l) hk2 (by omega)
    refine KC.skip (KQ.seq (KC.seq (KC.block (KC.sr ?_))))
    refine KL.q (R.index (j := k) rfl U27 sz66 rfl rfl hs rfl (by omega)) rfl ?_
    refine KL.lda rfl (oB.cells hcx) rfl ?_
    have abv : vk = .slice none 0 0 ∨ vblock vk ≠ Array.size H2 := wa.w.lt.imp id (fun e => by omega)
    have oP : Old H2 H2 := Old.refl _
    have waT := wa
    have wsT := ws
    refine KL.m (M.alloc rfl zr66 rfl) rfl ?_
    rintro _ H3 ⟨rfl, n3⟩
    have z3 := n3.2.1
    have o0 := o0.trans ((n3.1).b (by omega))
    have oB := oB.trans n3.1
    have oP := oP.trans n3.1
    have b3 := n3.2.2
    have bv := b3
    refine KL.opS (S.storeAgg rfl sz66 rfl rfl (rfl) (by intro z hz2; simp only [List.mem_cons, List.not_mem_nil, or_false] at hz2; rcases hz2 with rfl | rfl | rfl <;> first | rfl) bv (by simp)) rfl rfl ?_
    rintro H4 ⟨u4, b4⟩
    have o0 := o0.trans (OldB.upd u4 (by omega))
    have zu4 := u4.1
    have oB := oB.upd u4 (by omega)
    have oP := oP.upd u4 (by omega)
    have bv := b4
    rw [over_all (by rfl)] at bv
    have wa := waT.old oP
    have ws := wsT.old oP
    have o0 := ws.ob0
    refine KL.nil (KQ.r (KL.run 1 rfl (KL.lda rfl (cells_of bv) rfl ?_)))
    refine KL.c rfl Tryz.call32 (wexport_any wa oB hgB hT _ _ _ hzk r1 r2 (by omega)) ?_
    rintro _ H5 ⟨v_8, wa_8, s_8⟩
    have oB := s_8.om wa oB hgB
    have abv2 := s_8.apart abv (blk_lt bv)
    have bv := s_8.blk bv (by omega) abv
    have abv := abv2
    have zs_8 := s_8.sz
    have ws := ws.trans s_8
    have wa := wa_8
    have o0 := o0.trans s_8.ob0
    refine KL.nil (KQ.normBlock (KQ.r ?_))
    refine KL.q ((R.add rfl rfl rfl (by dsimp only [InR]; omega)).val (congrArg (Value.int .i64) (show (k : Int) + 1 = ((k + 1 : Nat) : Int) by omega))) rfl ?_
    refine KL.fin 1 rfl ?_
    refine KQ.again ((k + 1, v_8)) ?_ ?_ ?_
    · exact Sub.all rfl
    · show xs.length - (k + 1) < xs.length - k; omega
    exact ⟨by show k + 1 ≤ _; omega, by dsimp only; exact wa.cast (En.lst_step (by omega)) (En.all_step (by omega)), ws, oB⟩
  intro hc16
  try dsimp only at hc16
  have hkl : k = xs.length := by omega
  rw [hkl, List.take_length] at wa
  refine KC.exit (KQ.exitThen (KQ.exitThen (KQ.hit (KQ.fin0 Tryz.results68 ?_))))
  exact ⟨_, wa.cast (rfl) (rfl), ws⟩
theorem wlist_elem {H : Heap} {g : Nat} {v : Value} {l : List Int} {bad : Bool} (wa : WA H g v l bad) {Hb : Heap} (oB : Old Hb H) (hgB : Hb.size ≤ g) {u : Value} {xs : List Elm} (hs : Sl 3 EElm Hb u xs) (hm : xs.length ≤ 4294967295) (hz : ∀ x ∈ xs, Isp.bulk x.2.1 ≤ 4000 ∧ x.2.2.length ≤ 4000) (hN : l.length + (En.lst En.elmB xs).length + 30000000 ≤ 1099511627776) : Ct Tryz.prog 69 [.pointer (some ⟨g, 0, none⟩), u, .func (.func 36) #[.pointer (some ⟨g, 0, none⟩)] #[]] H (fun _ H' => ∃ v', WA H' g v' (l ++ En.lst En.elmB xs) (bad || !xs.all En.elmO) ∧ WS g v H v' H') := by
  refine Ct.mk Tryz.func69 rfl Tryz.ntmps69 rfl ?_
  intro W0 hW0
  have o0 : OldB 0 H H := OldB.refl _ H
  have ws := WS.refl g v H
  have zg := wa.lt
  have hlst : 0 ≤ (En.lst En.elmB xs).length := Nat.zero_le _
  refine KC.sr (KL.run 2 rfl (KL.q (R.lenS rfl U29 rfl hs) rfl ?_))
  refine KL.q (R.convI rfl U3 U28 rfl (by dsimp only [InR]; omega)) rfl ?_
  refine KL.c rfl K21 (wu32_any wa _ (by dsimp only [InR]; omega) (by omega)) ?_
  rintro _ H1 ⟨v_9, wa_9, s_9⟩
  have oB := s_9.om wa oB hgB
  have zs_9 := s_9.sz
  have ws := ws.trans s_9
  have wa := wa_9
  have o0 := o0.trans s_9.ob0
  have hul := En.u_le (xs.length : Nat)
  refine KL.nil (KQ.sr (KL.run 1 rfl (KL.q (R.lenS rfl U29 rfl hs) rfl (KL.fin 1 rfl (KQ.seq (KC.block ?_))))))
  refine KC.loopD (κ := Nat × Value) [16, 17, 18, 7, 19, 20, 21, 22, 15] (fun k => [(15, .int .i64 (k.1 : Nat))]) (fun k Hl => k.1 ≤ xs.length ∧ WA Hl g k.2 (l ++ (En.u (xs.length : Nat) ++ (xs.take k.1).flatMap En.elmB)) (bad || !(xs.take k.1).all En.elmO) ∧ WS g v H k.2 Hl ∧ Old Hb Hl) (fun k => xs.length - k.1) (0, v_9) ?_ ?_ ?_
  · exact Sub.all rfl
  · exact ⟨Nat.zero_le _, wa.cast (by simp) (by simp), ws, oB⟩
  rintro ⟨k, vk⟩ H2 ⟨hk, wa, ws, oB⟩
  dsimp only at hk wa ws
  have zg := wa.lt
  have o0 : OldB 0 H H2 := ws.ob0
  refine KC.sr (KL.fin 1 rfl (KQ.seq (KC.seq ?_)))
  refine KC.iq rfl ?_ ?_
  · intro hc16
    try dsimp only at hc16
    have hk2 : k < xs.length := by omega
    obtain ⟨cs, hcl, hcx, a, b, rfl, ha, hb, r1⟩ := hs.at k hk2
    have hzk := hz _ (En.getD_memD hk2)
    have hroom := En.room (f := En.elmB) (c := 1099481627776) (a := l) hk2 (by omega)
    refine KC.skip (KQ.seq (KC.seq (KC.block (KC.sr ?_))))
    refine KL.q (R.index (j := k) rfl U29 sz69 rfl rfl hs rfl (by omega)) rfl ?_
    refine KL.lda rfl (oB.cells hcx) rfl ?_
    have abv : vk = .slice none 0 0 ∨ vblock vk ≠ Array.size H2 := wa.w.lt.imp id (fun e => by omega)
    have oP : Old H2 H2 := Old.refl _
    have waT := wa
    have wsT := ws
    refine KL.m (M.alloc rfl zr69 rfl) rfl ?_
    rintro _ H3 ⟨rfl, n3⟩
    have z3 := n3.2.1
    have o0 := o0.trans ((n3.1).b (by omega))
    have oB := oB.trans n3.1
    have oP := oP.trans n3.1
    have b3 := n3.2.2
    have bv := b3
    refine KL.opS (S.storeAgg rfl sz69 rfl rfl (rfl) (by intro z hz2; simp only [List.mem_cons, List.not_mem_nil, or_false] at hz2; rcases hz2 with rfl | rfl | rfl <;> first | rfl | exact ha.one | exact hb.one) bv (by simp)) rfl rfl ?_
    rintro H4 ⟨u4, b4⟩
    have o0 := o0.trans (OldB.upd u4 (by omega))
    have zu4 := u4.1
    have oB := oB.upd u4 (by omega)
    have oP := oP.upd u4 (by omega)
    have bv := b4
    rw [over_all (by rfl)] at bv
    have wa := waT.old oP
    have ws := wsT.old oP
    have o0 := ws.ob0
    refine KL.nil (KQ.r (KL.run 1 rfl (KL.lda rfl (cells_of bv) rfl ?_)))
    refine KL.c rfl Tryz.call36 (welem_any wa oB hgB _ r1 ha hb hzk.1 hzk.2 (by omega)) ?_
    rintro _ H5 ⟨v_10, wa_10, s_10⟩
    have oB := s_10.om wa oB hgB
    have abv2 := s_10.apart abv (blk_lt bv)
    have bv := s_10.blk bv (by omega) abv
    have abv := abv2
    have zs_10 := s_10.sz
    have ws := ws.trans s_10
    have wa := wa_10
    have o0 := o0.trans s_10.ob0
    refine KL.nil (KQ.normBlock (KQ.r ?_))
    refine KL.q ((R.add rfl rfl rfl (by dsimp only [InR]; omega)).val (congrArg (Value.int .i64) (show (k : Int) + 1 = ((k + 1 : Nat) : Int) by omega))) rfl ?_
    refine KL.fin 1 rfl ?_
    refine KQ.again ((k + 1, v_10)) ?_ ?_ ?_
    · exact Sub.all rfl
    · show xs.length - (k + 1) < xs.length - k; omega
    exact ⟨by show k + 1 ≤ _; omega, by dsimp only; exact wa.cast (En.lst_step (by omega)) (En.all_step (by omega)), ws, oB⟩
  intro hc16
  try dsimp only at hc16
  have hkl : k = xs.length := by omega
  rw [hkl, List.take_length] at wa
  refine KC.exit (KQ.exitThen (KQ.exitThen (KQ.hit (KQ.fin0 Tryz.results69 ?_))))
  exact ⟨_, wa.cast (rfl) (rfl), ws⟩
theorem wlist_code {H : Heap} {g : Nat} {v : Value} {l : List Int} {bad : Bool} (wa : WA H g v l bad) {Hb : Heap} (oB : Old Hb H) (hgB : Hb.size ≤ g) {u : Value} {xs : List Cod} (hs : Sl 2 ECod Hb u xs) (hm : xs.length ≤ 4294967295) (hz : ∀ x ∈ xs, Isp.bulk x.2 ≤ 4000 ∧ x.1.length ≤ 4000) (hN : l.length + (En.lst En.codB xs).length + 30000000 ≤ 1099511627776) : Ct Tryz.prog 70 [.pointer (some ⟨g, 0, none⟩), u, .func (.func 39) #[.pointer (some ⟨g, 0, none⟩)] #[]] H (fun _ H' => ∃ v', WA H' g v' (l ++ En.lst En.codB xs) (bad || !xs.all En.codO) ∧ WS g v H v' H') := by
  refine Ct.mk Tryz.func70 rfl Tryz.ntmps70 rfl ?_
  intro W0 hW0
  have o0 : OldB 0 H H := OldB.refl _ H
  have ws := WS.refl g v H
  have zg := wa.lt
  have hlst : 0 ≤ (En.lst En.codB xs).length := Nat.zero_le _
  refine KC.sr (KL.run 2 rfl (KL.q (R.lenS rfl U30 rfl hs) rfl ?_))
  refine KL.q (R.convI rfl U3 U28 rfl (by dsimp only [InR]; omega)) rfl ?_
  refine KL.c rfl K21 (wu32_any wa _ (by dsimp only [InR]; omega) (by omega)) ?_
  rintro _ H1 ⟨v_11, wa_11, s_11⟩
  have oB := s_11.om wa oB hgB
  have zs_11 := s_11.sz
  have ws := ws.trans s_11
  have wa := wa_11
  have o0 := o0.trans s_11.ob0
  have hul := En.u_le (xs.length : Nat)
  refine KL.nil (KQ.sr (KL.run 1 rfl (KL.q (R.lenS rfl U30 rfl hs) rfl (KL.fin 1 rfl (KQ.seq (KC.block ?_))))))
  refine KC.loopD (κ := Nat × Value) [16, 17, 18, 7, 19, 20, 21, 22, 15] (fun k => [(15, .int .i64 (k.1 : Nat))]) (fun k Hl => k.1 ≤ xs.length ∧ WA Hl g k.2 (l ++ (En.u (xs.length : Nat) ++ (xs.take k.1).flatMap En.codB)) (bad || !(xs.take k.1).all En.codO) ∧ WS g v H k.2 Hl ∧ Old Hb Hl) (fun k => xs.length - k.1) (0, v_11) ?_ ?_ ?_
  · exact Sub.all rfl
  · exact ⟨Nat.zero_le _, wa.cast (by simp) (by simp), ws, oB⟩
  rintro ⟨k, vk⟩ H2 ⟨hk, wa, ws, oB⟩
  dsimp only at hk wa ws
  have zg := wa.lt
  have o0 : OldB 0 H H2 := ws.ob0
  refine KC.sr (KL.fin 1 rfl (KQ.seq (KC.seq ?_)))
  refine KC.iq rfl ?_ ?_
  · intro hc16
    try dsimp only at hc16
    have hk2 : k < xs.length := by omega
    obtain ⟨cs, hcl, hcx, a, b, rfl, ha, hb⟩ := hs.at k hk2
    have hzk := hz _ (En.getD_memD hk2)
    have hroom := En.room (f := En.codB) (c := 1099481627776) (a := l) hk2 (by omega)
    refine KC.skip (KQ.seq (KC.seq (KC.block (KC.sr ?_))))
    refine KL.q (R.index (j := k) rfl U30 sz54 rfl rfl hs rfl (by omega)) rfl ?_
    refine KL.lda rfl (oB.cells hcx) rfl ?_
    have abv : vk = .slice none 0 0 ∨ vblock vk ≠ Array.size H2 := wa.w.lt.imp id (fun e => by omega)
    have oP : Old H2 H2 := Old.refl _
    have waT := wa
    have wsT := ws
    refine KL.m (M.alloc rfl zr54 rfl) rfl ?_
    rintro _ H3 ⟨rfl, n3⟩
    have z3 := n3.2.1
    have o0 := o0.trans ((n3.1).b (by omega))
    have oB := oB.trans n3.1
    have oP := oP.trans n3.1
    have b3 := n3.2.2
    have bv := b3
    refine KL.opS (S.storeAgg rfl sz54 rfl rfl (rfl) (by intro z hz2; simp only [List.mem_cons, List.not_mem_nil, or_false] at hz2; rcases hz2 with rfl | rfl <;> first | rfl | exact ha.one | exact hb.one) bv (by simp)) rfl rfl ?_
    rintro H4 ⟨u4, b4⟩
    have o0 := o0.trans (OldB.upd u4 (by omega))
    have zu4 := u4.1
    have oB := oB.upd u4 (by omega)
    have oP := oP.upd u4 (by omega)
    have bv := b4
    rw [over_all (by rfl)] at bv
    have wa := waT.old oP
    have ws := wsT.old oP
    have o0 := ws.ob0
    refine KL.nil (KQ.r (KL.run 1 rfl (KL.lda rfl (cells_of bv) rfl ?_)))
    refine KL.c rfl Tryz.call39 (wcode_any wa oB hgB ha hb hzk.2 hzk.1 (by omega)) ?_
    rintro _ H5 ⟨v_12, wa_12, s_12⟩
    have oB := s_12.om wa oB hgB
    have abv2 := s_12.apart abv (blk_lt bv)
    have bv := s_12.blk bv (by omega) abv
    have abv := abv2
    have zs_12 := s_12.sz
    have ws := ws.trans s_12
    have wa := wa_12
    have o0 := o0.trans s_12.ob0
    refine KL.nil (KQ.normBlock (KQ.r ?_))
    refine KL.q ((R.add rfl rfl rfl (by dsimp only [InR]; omega)).val (congrArg (Value.int .i64) (show (k : Int) + 1 = ((k + 1 : Nat) : Int) by omega))) rfl ?_
    refine KL.fin 1 rfl ?_
    refine KQ.again ((k + 1, v_12)) ?_ ?_ ?_
    · exact Sub.all rfl
    · show xs.length - (k + 1) < xs.length - k; omega
    exact ⟨by show k + 1 ≤ _; omega, by dsimp only; exact wa.cast (En.lst_step (by omega)) (En.all_step (by omega)), ws, oB⟩
  intro hc16
  try dsimp only at hc16
  have hkl : k = xs.length := by omega
  rw [hkl, List.take_length] at wa
  refine KC.exit (KQ.exitThen (KQ.exitThen (KQ.hit (KQ.fin0 Tryz.results70 ?_))))
  exact ⟨_, wa.cast (rfl) (rfl), ws⟩
theorem wlist_data {H : Heap} {g : Nat} {v : Value} {l : List Int} {bad : Bool} (wa : WA H g v l bad) {Hb : Heap} (oB : Old Hb H) (hgB : Hb.size ≤ g) {u : Value} {xs : List Elm} (hs : Sl 3 EDat Hb u xs) (hm : xs.length ≤ 4294967295) (hz : ∀ x ∈ xs, Isp.bulk x.2.1 ≤ 4000 ∧ x.2.2.length ≤ 200000) (hN : l.length + (En.lst En.datB xs).length + 30000000 ≤ 1099511627776) : Ct Tryz.prog 74 [.pointer (some ⟨g, 0, none⟩), u, .func (.func 42) #[.pointer (some ⟨g, 0, none⟩)] #[]] H (fun _ H' => ∃ v', WA H' g v' (l ++ En.lst En.datB xs) (bad || !xs.all En.datO) ∧ WS g v H v' H') := by
  refine Ct.mk Tryz.func74 rfl Tryz.ntmps74 rfl ?_
  intro W0 hW0
  have o0 : OldB 0 H H := OldB.refl _ H
  have ws := WS.refl g v H
  have zg := wa.lt
  have hlst : 0 ≤ (En.lst En.datB xs).length := Nat.zero_le _
  refine KC.sr (KL.run 2 rfl (KL.q (R.lenS rfl U31 rfl hs) rfl ?_))
  refine KL.q (R.convI rfl U3 U28 rfl (by dsimp only [InR]; omega)) rfl ?_
  refine KL.c rfl K21 (wu32_any wa _ (by dsimp only [InR]; omega) (by omega)) ?_
  rintro _ H1 ⟨v_13, wa_13, s_13⟩
  have oB := s_13.om wa oB hgB
  have zs_13 := s_13.sz
  have ws := ws.trans s_13
  have wa := wa_13
  have o0 := o0.trans s_13.ob0
  have hul := En.u_le (xs.length : Nat)
  refine KL.nil (KQ.sr (KL.run 1 rfl (KL.q (R.lenS rfl U31 rfl hs) rfl (KL.fin 1 rfl (KQ.seq (KC.block ?_))))))
  refine KC.loopD (κ := Nat × Value) [16, 17, 18, 7, 19, 20, 21, 22, 15] (fun k => [(15, .int .i64 (k.1 : Nat))]) (fun k Hl => k.1 ≤ xs.length ∧ WA Hl g k.2 (l ++ (En.u (xs.length : Nat) ++ (xs.take k.1).flatMap En.datB)) (bad || !(xs.take k.1).all En.datO) ∧ WS g v H k.2 Hl ∧ Old Hb Hl) (fun k => xs.length - k.1) (0, v_13) ?_ ?_ ?_
  · exact Sub.all rfl
  · exact ⟨Nat.zero_le _, wa.cast (by simp) (by simp), ws, oB⟩
  rintro ⟨k, vk⟩ H2 ⟨hk, wa, ws, oB⟩
  dsimp only at hk wa ws
  have zg := wa.lt
  have o0 : OldB 0 H H2 := ws.ob0
  refine KC.sr (KL.fin 1 rfl (KQ.seq (KC.seq ?_)))
  refine KC.iq rfl ?_ ?_
  · intro hc16
    try dsimp only at hc16
    have hk2 : k < xs.length := by omega
    obtain ⟨cs, hcl, hcx, a, b, rfl, ha, hb, r1⟩ := hs.at k hk2
    have hzk := hz _ (En.getD_memD hk2)
    have hroom := En.room (f := En.datB) (c := 1099481627776) (a := l) hk2 (by omega)
    refine KC.skip (KQ.seq (KC.seq (KC.block (KC.sr ?_))))
    refine KL.q (R.index (j := k) rfl U31 sz71 rfl rfl hs rfl (by omega)) rfl ?_
    refine KL.lda rfl (oB.cells hcx) rfl ?_
    have abv : vk = .slice none 0 0 ∨ vblock vk ≠ Array.size H2 := wa.w.lt.imp id (fun e => by omega)
    have oP : Old H2 H2 := Old.refl _
    have waT := wa
    have wsT := ws
    refine KL.m (M.alloc rfl zr71 rfl) rfl ?_
    rintro _ H3 ⟨rfl, n3⟩
    have z3 := n3.2.1
    have o0 := o0.trans ((n3.1).b (by omega))
    have oB := oB.trans n3.1
    have oP := oP.trans n3.1
    have b3 := n3.2.2
    have bv := b3
    refine KL.opS (S.storeAgg rfl sz71 rfl rfl (rfl) (by intro z hz2; simp only [List.mem_cons, List.not_mem_nil, or_false] at hz2; rcases hz2 with rfl | rfl | rfl <;> first | rfl | exact ha.one | exact hb.one) bv (by simp)) rfl rfl ?_
    rintro H4 ⟨u4, b4⟩
    have o0 := o0.trans (OldB.upd u4 (by omega))
    have zu4 := u4.1
    have oB := oB.upd u4 (by omega)
    have oP := oP.upd u4 (by omega)
    have bv := b4
    rw [over_all (by rfl)] at bv
    have wa := waT.old oP
    have ws := wsT.old oP
    have o0 := ws.ob0
    refine KL.nil (KQ.r (KL.run 1 rfl (KL.lda rfl (cells_of bv) rfl ?_)))
    refine KL.c rfl Tryz.call42 (wdata_any wa oB hgB _ r1 ha hb hzk.1 hzk.2 (by omega)) ?_
    rintro _ H5 ⟨v_14, wa_14, s_14⟩
    have oB := s_14.om wa oB hgB
    have abv2 := s_14.apart abv (blk_lt bv)
    have bv := s_14.blk bv (by omega) abv
    have abv := abv2
    have zs_14 := s_14.sz
    have ws := ws.trans s_14
    have wa := wa_14
    have o0 := o0.trans s_14.ob0
    refine KL.nil (KQ.normBlock (KQ.r ?_))
    refine KL.q ((R.add rfl rfl rfl (by dsimp only [InR]; omega)).val (congrArg (Value.int .i64) (show (k : Int) + 1 = ((k + 1 : Nat) : Int) by omega))) rfl ?_
    refine KL.fin 1 rfl ?_
    refine KQ.again ((k + 1, v_14)) ?_ ?_ ?_
    · exact Sub.all rfl
    · show xs.length - (k + 1) < xs.length - k; omega
    exact ⟨by show k + 1 ≤ _; omega, by dsimp only; exact wa.cast (En.lst_step (by omega)) (En.all_step (by omega)), ws, oB⟩
  intro hc16
  try dsimp only at hc16
  have hkl : k = xs.length := by omega
  rw [hkl, List.take_length] at wa
  refine KC.exit (KQ.exitThen (KQ.exitThen (KQ.hit (KQ.fin0 Tryz.results74 ?_))))
  exact ⟨_, wa.cast (rfl) (rfl), ws⟩
end Go.Proofs.YtldmfchamcpmmaaGreatDoor
namespace Go.Proofs.YtldmfchamcpmmaaGreatDoor
open Go Go.RowKit Go.ChangeShapes Go.WideShapes Go.Deep
theorem Sl.keepB {k : IntKind} {H H' : Heap} {v : Value} {l : List Int} (h : Sl 1 (EInt k) H v l) (hk : l = [] ∨ H'[vblock v]? = H[vblock v]?) : Sl 1 (EInt k) H' v l := by
  rcases hk with rfl | hk
  · exact h.empty H'
  obtain ⟨a, cap, h1, h2, h3, h4, h5, h6⟩ := h
  refine ⟨a, cap, h1, h2, h3, h4, h5, fun j x hj => ?_⟩
  obtain ⟨cs, e1, e2, e3⟩ := h6 j x hj
  refine ⟨cs, e1, fun i u hu => ?_, e3⟩
  have := e2 i u hu
  have hb : (((vbase v).add (j * 1)).add i).block = vblock v := by simp [vblock, Addr.add]; split <;> split <;> rfl
  unfold cellH at this ⊢
  rw [hb] at this ⊢
  rw [hk]; exact this
/-- full: no room behind it -/
structure Full (B : Nat) (H : Heap) (v : Value) (l : List Int) : Prop where
  sl : Sl 1 (EInt .u8) H v l
  pos : 0 < l.length
  at_ : ∃ g, v = .slice (some ⟨g, 0, none⟩) l.length l.length ∧ B ≤ g ∧ g < H.size
/-- a row of the call's own, or full -/
def Out (e : TypeId) (B : Nat) (H : Heap) (v : Value) (l : List Int) : Prop := Own 1 (EInt .u8) e #[] B H v l ∨ Full B H v l
section
variable {e : TypeId} {B : Nat} {H H' : Heap} {v : Value} {l : List Int}
theorem Out.sl (h : Out e B H v l) : Sl 1 (EInt .u8) H v l := h.elim (fun h => h.sl (emptyOld _) (by omega)) (fun h => h.sl)
theorem Out.lt (h : Out e B H v l) : v = .slice none 0 0 ∨ (B ≤ vblock v ∧ vblock v < H.size) := h.elim (fun h => h.lt) (fun h => by
  obtain ⟨g, hv, h1, h2⟩ := h.at_
  subst hv; exact .inr ⟨h1, h2⟩)
theorem Out.one (h : Out e B H v l) : v.oneCell' = true := h.sl.one
theorem Out.keep (h : Out e B H v l) (hk : H'[vblock v]? = H[vblock v]?) (hs : H.size ≤ H'.size) : Out e B H' v l := h.elim (fun h => .inl (h.keep hk)) (fun h => .inr (by
  obtain ⟨g, hv, h1, h2⟩ := h.at_
  exact ⟨h.sl.keepB (.inr hk), h.pos, g, hv, h1, by omega⟩))
theorem Out.old (h : Out e B H v l) (o : Old H H') : Out e B H' v l := h.elim (fun h => .inl (h.old o)) (fun h => .inr (by
  obtain ⟨g, hv, h1, h2⟩ := h.at_
  exact ⟨h.sl.old o, h.pos, g, hv, h1, by have := o.1; omega⟩))
theorem Out.upd {g : Nat} (h : Out e B H v l) (u : Upd g H H') (hne : v = .slice none 0 0 ∨ vblock v ≠ g) : Out e B H' v l := h.elim (fun h => .inl (h.upd u hne)) (fun h => .inr (by
  obtain ⟨g', hv, h1, h2⟩ := h.at_
  have hne : vblock v ≠ g := by rcases hne with hn | hn; (subst hn; cases hv); exact hn
  exact ⟨h.sl.keepB (.inr (u.2 _ hne)), h.pos, g', hv, h1, by have := u.1; omega⟩))
end
section
variable {P : Program} {En : Env} {H : Heap} {o : Oper} {v : Value} {e : TypeId} {B : Nat} {l : List Int}
theorem M.appendFullO {T : TypeId} {s x : Operand} {u : Value} {m : List Int} {z : Value} {by' : Nat} (ho : o.op = .call { callee := .builtin .append, args := #[s, x], argTypes := #[T, T] }) (ht : P.underlying T = some (.slice e)) (hi : (P.info? e).map (fun i => (i.zero, i.size, i.bytes)) = some (some z, 1, by')) (hz : z.cells.size = 1)
    (hs : ev En s = some v) (hx : ev En x = some u) (hf : Full B H v l) (hm : Sl 1 (EInt .u8) H u m) (hm0 : 0 < m.length) (hB : B ≤ H.size) (hsz : (l.length + m.length) * by' ≤ 140737488355328) (hlen : l.length + m.length ≤ maxLen) :
    RunM P En H o (fun v' H' => Own 1 (EInt .u8) e #[] B H' v' (l ++ m) ∧ Grown v H H' ∧ Nx H v v' ∧ Old H H') := by
  intro ρ w ha hw
  obtain ⟨i, hi', hz0, hz1, hz2⟩ : ∃ i, P.info? e = some i ∧ i.zero = some z ∧ i.size = 1 ∧ i.bytes = by' := by
    cases hq : P.info? e with
    | none => simp [hq] at hi
    | some i => simp [hq] at hi; exact ⟨i, rfl, hi⟩
  obtain ⟨ad, cap, hu, hsp, hb⟩ := hm.addr hm0
  obtain ⟨fm, hfl, hfc, hfe⟩ := hm.flat hm0
  obtain ⟨fo, hol, hoc, hoe⟩ := hf.sl.flat hf.pos
  obtain ⟨g, hv, hg1, hg2⟩ := hf.at_
  rw [hb] at hfc
  have hvb : vbase v = ⟨g, 0, none⟩ := by rw [hv]; rfl
  rw [hvb] at hoc
  obtain ⟨v', w', hr, h2, h3⟩ := run_append_arg_grows (P := P) w T o.type e i z 1 by' ht hi' hz0 hz1 hz2 hz (by omega) ⟨g, 0, none⟩ l.length l.length fo hol (fun j q hj => by rw [cell_w hw]; exact hoc j q hj) ad m.length cap fm hfl (fun j q hj => by rw [cell_w hw]; exact hfc j q hj) (by omega) hlen hsz
  have hrow : OwnH H.size e 1 w'.heap v' (l ++ m).length (fo ++ fm) := by
    rw [← hw, List.length_append]; exact ownH_w.1 h2
  have hel : ∀ j x, nth (l ++ m) j = some x → EInt .u8 #[] (((fo ++ fm).drop (j * 1)).take 1) x := by
    intro j x hj
    rw [nth_eq] at hj
    by_cases hjl : j < l.length
    · rw [List.getElem?_append_left hjl] at hj
      rw [List.drop_append_of_le_length (by omega), List.take_append_of_le_length (by simp; omega)]
      exact hoe j x (by rw [nth_eq]; exact hj)
    rw [List.getElem?_append_right (by omega)] at hj
    have hge : j * 1 = fo.length + (j - l.length) * 1 := by omega
    rw [hge, List.drop_append]
    simp only [Nat.le_add_right, List.drop_eq_nil_of_le, List.nil_append, Nat.add_sub_cancel_left]
    exact hfe _ x (by rw [nth_eq]; exact hj)
  have hold : Old H w'.heap := ⟨by rw [← hw]; exact h3.size, fun k hk => by rw [← hw] at hk ⊢; exact h3.block k hk (by simp)⟩
  have hown : Own 1 (EInt .u8) e #[] H.size w'.heap v' (l ++ m) := ⟨fo ++ fm, hrow, hel⟩
  refine ⟨v', w', ?_, ⟨rfl, h3.os, h3.tape, h3.output⟩, hown.weak hB, ⟨hold.1, fun k hk _ => hold.2 k hk⟩, ?_, hold⟩
  · subst hu
    subst hv
    simp [execOp, ho, resolve, invoke, builtin, ha s _ hs, ha x _ hx, Sem.run_bind, Sem.run_pure, Result.andThen]
    simp [hr]
  rcases hown.lt with h | h
  · exact .inl h
  exact .inr (.inr h.1)
theorem M.appendFull {T : TypeId} {s x : Operand} {u : Value} {m : List Int} {z : Value} {by' : Nat} (ho : o.op = .call { callee := .builtin .append, args := #[s, x], argTypes := #[T, T] }) (ht : P.underlying T = some (.slice e)) (hi : (P.info? e).map (fun i => (i.zero, i.size, i.bytes)) = some (some z, 1, by')) (hz : z.cells.size = 1)
    (hs : ev En s = some v) (hx : ev En x = some u) (hf : Full B H v l) (hm : Sl 1 (EInt .u8) H u m) (hm0 : 0 < m.length) (hB : B ≤ H.size) (hsz : (l.length + m.length) * by' ≤ 140737488355328) (hlen : l.length + m.length ≤ maxLen) :
    RunM P En H o (fun v' H' => Own 1 (EInt .u8) e #[] B H' v' (l ++ m) ∧ Grown v H H' ∧ Nx H v v') := fun ρ w ha hw => let ⟨v', w', h1, h2, h3, h4, h5, _⟩ := M.appendFullO ho ht hi hz hs hx hf hm hm0 hB hsz hlen ρ w ha hw; ⟨v', w', h1, h2, h3, h4, h5⟩
theorem M.appendOut {T : TypeId} {s x : Operand} {u : Value} {m : List Int} {z : Value} {by' : Nat} (ho : o.op = .call { callee := .builtin .append, args := #[s, x], argTypes := #[T, T] }) (ht : P.underlying T = some (.slice e)) (hi : (P.info? e).map (fun i => (i.zero, i.size, i.bytes)) = some (some z, 1, by')) (hz : z.cells.size = 1)
    (hs : ev En s = some v) (hx : ev En x = some u) (hf : Out e B H v l) (hm : Sl 1 (EInt .u8) H u m) (hm0 : 0 < m.length) (hB : B ≤ H.size) (hsz : (l.length + m.length) * by' ≤ 140737488355328) (hlen : l.length + m.length ≤ maxLen) :
    RunM P En H o (fun v' H' => Own 1 (EInt .u8) e #[] B H' v' (l ++ m) ∧ Grown v H H' ∧ Nx H v v') := by
  rcases hf with hf | hf
  · exact M.appendN ho ht hi hz (by omega) hs hx hf hm (fun _ _ h _ => h) hB hsz hlen
  exact M.appendFull ho ht hi hz hs hx hf hm hm0 hB hsz hlen
end
end Go.Proofs.YtldmfchamcpmmaaGreatDoor
namespace Go.Proofs.YtldmfchamcpmmaaGreatDoor
open Go Go.RowKit
theorem take_succ_getD {α : Type} [Inhabited α] {l : List α} {k : Nat} (h : k < l.length) : l.take (k + 1) = l.take k ++ [l.getD k default] := by
  rw [List.take_add_one, List.getD_eq_getElem?_getD, List.getElem?_eq_getElem h]; rfl
namespace Sc
theorem rise_step {l : List Sec} {k : Nat} (h : k < l.length) : rise 0 (l.take (k + 1)) = (rise 0 (l.take k) && decide (lst 0 (l.take k) < (l.getD k default).1 ∧ (l.getD k default).1 ≤ 11)) := by
  rw [take_succ_getD h, rise_app]; simp [rise]
theorem lst_step {l : List Sec} {k : Nat} (h : k < l.length) : lst 0 (l.take (k + 1)) = (l.getD k default).1 := by
  rw [take_succ_getD h, lst_app]; rfl
theorem body_step {l : List Sec} {k : Nat} (h : k < l.length) : body (l.take (k + 1)) = body (l.take k) ++ ([(l.getD k default).1] ++ Lb.ap ((l.getD k default).2.length : Int) ++ (l.getD k default).2) := by
  rw [take_succ_getD h, body_app]; simp [body]
theorem body_le (l : List Sec) (k : Nat) : (body (l.take k)).length ≤ (body l).length := by
  conv => rhs; rw [← List.take_append_drop k l, body_app, List.length_append]
  omega
theorem rise_no {l : List Sec} {k : Nat} (h : rise 0 (l.take k) = false) : rise 0 l = false := by
  rw [← List.take_append_drop k l, rise_app, h, Bool.false_and]
theorem join_no {l : List Sec} {k : Nat} (h : k < l.length) (hb : ¬ (lst 0 (l.take k) < (l.getD k default).1 ∧ (l.getD k default).1 ≤ 11)) : join l = none := by
  unfold join
  rw [if_neg]
  rw [rise_no (k := k + 1) (by rw [rise_step h, decide_eq_false hb, Bool.and_false])]; simp
theorem join_yes {l : List Sec} {k : Nat} (h : l.length ≤ k) (hr : rise 0 (l.take k) = true) : join l = some (beg ++ body (l.take k)) := by
  rw [List.take_of_length_le h] at *
  unfold join; rw [if_pos hr]
theorem rise_yes {l : List Sec} {k : Nat} (h : k < l.length) (hr : rise 0 (l.take k) = true) (hb : lst 0 (l.take k) < (l.getD k default).1 ∧ (l.getD k default).1 ≤ 11) : rise 0 (l.take (k + 1)) = true := by
  rw [rise_step h, hr, decide_eq_true hb]; rfl
/-- what a joining hands back -/
def JRes (o : Option (List Int)) (bad good : Value) (u : Value) (H : Heap) : Prop := match o with
  | none => u = .tuple #[.slice none 0 0, bad]
  | some m => ∃ v, u = .tuple #[v, good] ∧ Sl 1 (EInt .u8) H v m
theorem body_bytes {l : List Sec} {k : Nat} (h : k < l.length) : (body (l.take k)).length + 1 + (Lb.ap ((l.getD k default).2.length : Int)).length + (l.getD k default).2.length = (body (l.take (k + 1))).length := by
  rw [body_step h]; simp only [List.length_append, List.length_cons, List.length_nil]; omega
/-- the entries and the bytes of sections -/
def wt : List Sec → Nat
  | [] => 0
  | s :: l => 1 + s.2.length + wt l
end Sc
namespace Lb
def apI (f : Nat) (z : Int) : List Int := uints (Leb.ap false f z)
theorem apI_step {f : Nat} {z : Int} (h : 128 ≤ z) : apI (f + 1) z = (z % 128 + 128) :: apI f (z / 128) := by
  unfold apI
  rw [Leb.ap, if_neg (by simp [Leb.small]; omega)]
  simp only [uints, List.map_cons, List.cons.injEq, and_true]
  rw [UInt8.toNat_ofNat']
  omega
theorem apI_last {f : Nat} {z : Int} (h0 : 0 ≤ z) (h : z < 128) : apI (f + 1) z = [z] := by
  unfold apI
  rw [Leb.ap, if_pos (by simp [Leb.small]; omega)]
  simp only [uints, List.map_cons, List.map_nil, List.cons.injEq, and_true]
  rw [UInt8.toNat_ofNat']
  omega
theorem pow_step {f : Nat} {z : Int} (h : 128 ≤ z) (hz : z < 128 ^ (f + 1)) : 1 ≤ f ∧ z / 128 < 128 ^ f := by
  refine ⟨?_, ?_⟩
  · cases f with
    | zero => simp at hz; omega
    | succ f => omega
  rw [Int.pow_succ] at hz
  exact Int.ediv_lt_of_lt_mul (by omega) hz
theorem or128 (z : Int) : bits .or .u8 (IntKind.u8.wrap z) 128 = z % 128 + 128 := by
  have key : ∀ a : Fin 256, bits .or .u8 ((a.val : Nat) : Int) 128 = ((a.val % 128 + 128 : Nat) : Int) := by decide +kernel
  have hw := inR_wrap .u8 z
  have e : IntKind.u8.wrap z = z % 256 := by simp [IntKind.wrap, IntKind.signed, IntKind.bits]
  rw [e]
  have := key ⟨(z % 256).toNat, by omega⟩
  simp only at this
  rw [show (((z % 256).toNat : Nat) : Int) = z % 256 from by omega] at this
  rw [this]; omega
end Lb
theorem AppendU_big {H : Heap} (v : Value) (l : List Int) (z : Int) (hs : Sl 1 (EInt .u8) H v l) (hl : l.length ≤ 140737488355300) (h0 : 0 ≤ z) (h1 : z < 18446744073709551616) : Ct Tryz.prog 33 [v, .int .u64 z] H (fun u H' => Own 1 (EInt .u8) 5 #[] H.size H' u (l ++ Lb.ap z) ∧ Old H H') := by
  refine Ct.mk Tryz.func33 rfl Tryz.ntmps33 rfl ?_
  intro W0 hW0
  have o0 : Old H H := Old.refl H
  have wn : Own 1 (EInt .u8) 5 #[] H.size H (.slice none 0 0) ([] : List Int) := Own.nil _ _ _ _ _ _
  refine KC.sr (KL.fin 1 rfl (KQ.sr (KL.run 1 rfl ?_)))
  have lt1 := wn.lt
  refine KL.m (M.append rfl U34 inf5 rfl (by decide) rfl rfl wn hs (fun _ _ h _ => h) (by omega) (by simp; omega) (by unfold maxLen; simp; omega)) rfl ?_
  rintro v7 H1 ⟨w1, g1⟩
  have ob1 := g1.oldB wn (by omega)
  have o0 := o0.then ob1 (by omega)
  have z1 := ob1.1
  have wn := w1
  have wo : Own 1 (EInt .u8) 5 #[] H.size H1 v7 l := wn
  refine KL.fin 1 rfl (KQ.seq (KC.seq (KC.block ?_)))
  refine KC.loopD (κ := Value × List Int × Nat × Int) [8, 9, 10, 11, 12, 13, 14, 15, 5, 16, 17, 1] (fun k => [(5, k.1), (1, .int .u64 k.2.2.2)]) (fun k Hl => Own 1 (EInt .u8) 5 #[] H.size Hl k.1 k.2.1 ∧ k.2.1 ++ Lb.apI (k.2.2.1 + 1) k.2.2.2 = l ++ Lb.ap z ∧ k.2.1.length + k.2.2.1 + 1 ≤ l.length + 10 ∧ 0 ≤ k.2.2.2 ∧ k.2.2.2 < 128 ^ (k.2.2.1 + 1) ∧ k.2.2.2 < 18446744073709551616 ∧ Old H Hl) (fun k => k.2.2.2.toNat) (v7, l, 9, z) ?_ ?_ ?_
  · exact Sub.all rfl
  · exact ⟨wo, rfl, Nat.le_refl _, h0, by show z < 128 ^ 10; rw [show (128 : Int) ^ 10 = 1180591620717411303424 from by decide]; omega, h1, o0⟩
  rintro ⟨vo, acc, f, y⟩ H2 ⟨wo, hap, hle, hy0, hyp, hy1, o0⟩
  have zl_H2 := o0.1
  dsimp only at wo hap hle hy0 hyp hy1
  have zl := o0.1
  refine KC.seq (KC.sr (KL.fin 2 rfl (KQ.seq ?_)))
  refine KC.iq rfl ?_ ?_
  · intro hc9
    try dsimp only at hc9
    have hps := Lb.pow_step (by omega) hyp
    refine KC.skip (KQ.seq (KC.block (KC.sr (KL.run 2 rfl (KL.q (R.convW rfl U95 U5 rfl) rfl (KL.q ((R.bits rfl rfl rfl rfl).val (congrArg (Value.int .u8) (Lb.or128 y))) rfl ?_))))))
    refine KL.m (M.lit rfl U34 zs5 (by decide) rfl rfl rfl) rfl ?_
    rintro _ H3 ⟨rfl, n3⟩
    have z3 := n3.2.1
    have o0 := o0.trans n3.1
    have wo := wo.old n3.1
    have b3 := n3.2.2
    have s1 : Sl 1 (EInt .u8) H3 _ [y % 128 + 128] := Sl.lits (l := [y % 128 + 128]) n3 rfl (by simp) (by intro x hx; simp only [List.mem_singleton] at hx; subst hx; dsimp only [InR]; omega)
    have lt4 := wo.lt
    refine KL.m (M.append rfl U34 inf5 rfl (by decide) rfl rfl wo s1 (fun _ _ h _ => h) (by omega) (by simp only [List.length_singleton]; omega) (by unfold maxLen; simp only [List.length_singleton]; omega)) rfl ?_
    rintro v4 H4 ⟨w4, g4⟩
    try dsimp only at g4
    have ob4 := g4.oldB wo (by omega)
    have o0 := o0.then ob4 (by omega)
    have z4 := ob4.1
    have wo := w4
    refine KL.fin 1 rfl (KQ.r (KL.run 1 rfl ?_))
    refine KL.q ((R.shr rfl rfl rfl (by omega)).val (congrArg (Value.int .u64) (congrArg (y / ·) (show (2 : Int) ^ (min (7 : Int).toNat IntKind.u64.bits) = 128 from by decide)))) rfl ?_
    refine KL.fin 1 rfl (KQ.normBlock ?_)
    refine KQ.again ((v4, acc ++ [y % 128 + 128], f - 1, y / 128)) ?_ ?_ ?_
    · exact Sub.all rfl
    · show (y / 128).toNat < y.toNat; omega
    exact ⟨wo, by show (acc ++ [y % 128 + 128]) ++ Lb.apI (f - 1 + 1) (y / 128) = _; rw [show f - 1 + 1 = f from by omega, ← hap, Lb.apI_step (f := f) (z := y) (by omega), List.append_assoc]; rfl, by show (acc ++ [_]).length + (f - 1) + 1 ≤ _; rw [List.length_append, List.length_singleton]; omega, by show 0 ≤ y / 128; omega, by show y / 128 < 128 ^ (f - 1 + 1); rw [show f - 1 + 1 = f from by omega]; exact hps.2, by show y / 128 < _; omega, o0⟩
  intro hc9
  try dsimp only at hc9
  refine KC.exit (KQ.exitThen (KQ.exitThen (KQ.hit (KQ.sr (KL.run 2 rfl ?_)))))
  refine KL.q (R.convI rfl U95 U5 rfl (by dsimp only [InR]; omega)) rfl ?_
  refine KL.m (M.lit rfl U34 zs5 (by decide) rfl rfl rfl) rfl ?_
  rintro _ H5 ⟨rfl, n5⟩
  have z5 := n5.2.1
  have o0 := o0.trans n5.1
  have wo := wo.old n5.1
  have b5 := n5.2.2
  have s1 : Sl 1 (EInt .u8) H5 _ [y] := Sl.lits (l := [y]) n5 rfl (by simp) (by intro x hx; simp only [List.mem_singleton] at hx; subst hx; dsimp only [InR]; omega)
  have lt6 := wo.lt
  refine KL.m (M.append rfl U34 inf5 rfl (by decide) rfl rfl wo s1 (fun _ _ h _ => h) (by omega) (by simp only [List.length_singleton]; omega) (by unfold maxLen; simp only [List.length_singleton]; omega)) rfl ?_
  rintro v6 H6 ⟨w6, g6⟩
  try dsimp only at g6
  have ob6 := g6.oldB wo (by omega)
  have o0 := o0.then ob6 (by omega)
  have z6 := ob6.1
  have wo := w6
  refine KL.fin 1 rfl (KQ.seq (KC.ret (KQ.ofRet (KQ.fin1 Tryz.results33 rfl ?_))))
  exact ⟨by rw [← hap, Lb.apI_last hy0 (by omega)]; exact wo, o0⟩
end Go.Proofs.YtldmfchamcpmmaaGreatDoor
