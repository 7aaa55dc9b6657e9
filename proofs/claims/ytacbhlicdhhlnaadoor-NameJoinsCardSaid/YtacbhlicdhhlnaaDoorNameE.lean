/- gabellelaw02.NameJoins returns true; the library tables that are laid. No condition but those that each states. -/
import Derived.Test.YtacbhlicdhhlnaaDoorNameD
import Derived.Lib.LaidTab
import Derived.Lib.LaidU8
import Derived.LaidMore
namespace Go.Proofs.YtacbhlicdhhlnaaDoor
open Go Go.RowKit
set_option linter.unusedVariables false
set_option linter.unusedSimpArgs false
set_option linter.unnecessarySimpa false

namespace Utf
theorem within1 {x : Int} (h : 128 ≤ x) : decide (128 ≤ x ∧ x ≤ 191) = decide (x ≤ 191) := by
  by_cases h2 : x ≤ 191
  · rw [decide_eq_true h2, decide_eq_true ⟨h, h2⟩]
  · rw [decide_eq_false h2, decide_eq_false (fun h3 => h2 h3.2)]
theorem within0 {x : Int} (h : ¬ 128 ≤ x) : decide (128 ≤ x ∧ x ≤ 191) = false := decide_eq_false (fun h3 => h h3.1)
/-- a text's beginning and end, cut at a place -/
theorem cuts {a : ByteArray} {c : Nat} (hc : c < a.size) (hv : valid (ints a) = true) :
    valid (ints (a.extract 0 c)) = !decide (128 ≤ (ints a).getD c default ∧ (ints a).getD c default ≤ 191) ∧ valid (ints (a.extract c a.size)) = !decide (128 ≤ (ints a).getD c default ∧ (ints a).getD c default ≤ 191) := by
  have := valid_cut _ (ints a) (Nat.le_refl _) hv ints_range c (by rw [ints_length]; exact hc)
  rw [ints_extract, ints_extract, List.drop_zero, ← ints_length a, List.take_length]; exact this
end Utf

set_option maxRecDepth 100000 in
set_option maxHeartbeats 1000000 in
theorem NameJoins_any {H : Heap} (a b : ByteArray) (c : Int) (rc : InR .i64 c) (za : a.size ≤ 140737488351232) (zb : b.size ≤ 140737488351232) (hT : TabU H) : Ct Tryd.prog 6 [.string a, .string b, .int .i64 c] H (fun u H' => u = .bool true ∧ Old H H') := by
  refine Ct.mk Tryd.func6 rfl Tryd.ntmps6 rfl ?_
  intro W0 hW0
  have o0 : Old H H := Old.refl H
  refine KC.seq ?_
  refine KC.region ?_
  refine KL.op (R.assign rfl rfl) rfl rfl rfl ?_
  refine KL.nil ?_
  refine KQ.seq ?_
  refine KC.seq ?_
  refine KC.seq ?_
  refine KC.region ?_
  refine KL.call rfl rfl rfl rfl Tryd.call7 rfl rfl rfl (known_any hT) ?_
  rintro _ H1 ⟨rfl, ox⟩
  have zc_H1 := (ox).1
  have o0 := o0.trans ox
  refine KL.op (R.not rfl rfl) rfl rfl rfl ?_
  refine KL.nil ?_
  refine KQ.seq ?_
  refine KC.condF rfl ?_
  refine KC.skip ?_
  refine KQ.seq ?_
  refine KC.seq ?_
  refine KC.seq ?_
  refine KC.region ?_
  refine KL.op (R.move rfl rfl) rfl rfl rfl ?_
  refine KL.op (R.lenStr (ty := 0) rfl Tryd.underlying9 rfl) rfl rfl rfl ?_
  refine KL.op (R.move rfl rfl) rfl rfl rfl ?_
  refine KL.op (R.lenStr (ty := 0) rfl Tryd.underlying9 rfl) rfl rfl rfl ?_
  refine KL.op (R.add rfl rfl rfl (by dsimp only [InR]; omega)) rfl rfl rfl ?_
  refine KL.op (R.gtr rfl rfl rfl) rfl rfl rfl ?_
  refine KL.nil ?_
  refine KQ.seq ?_
  refine KC.iteL rfl ?_ ?_
  · intro hc15
    try simp only [decide_eq_true_eq, decide_eq_false_iff_not, Bool.not_eq_true', Bool.not_eq_false', Bool.and_eq_true, Bool.or_eq_false_iff] at hc15
    refine KC.seq ?_
    refine KC.region ?_
    refine KL.op (R.assign rfl rfl) rfl rfl rfl ?_
    refine KL.nil ?_
    refine KQ.seq ?_
    refine KC.ret ?_
    refine KQ.retThen ?_
    refine KQ.ofRet ?_
    refine KQ.fin1 Tryd.results6 rfl ?_
    exact ⟨rfl, o0⟩
  · intro hc15
    try simp only [decide_eq_true_eq, decide_eq_false_iff_not, Bool.not_eq_true', Bool.not_eq_false', Bool.and_eq_true, Bool.or_eq_false_iff] at hc15
    refine KC.skip ?_
    refine KQ.seq ?_
    refine KC.seq ?_
    refine KC.seq ?_
    refine KC.region ?_
    refine KL.op (R.move rfl rfl) rfl rfl rfl ?_
    refine KL.opM (M.toBytes rfl Tryd.underlying9 Tryd.underlying22 Tryd.underlying5 rfl (by omega)) rfl rfl rfl ?_
    rintro v2 H2 ⟨t2, e2, n2, z2⟩
    have o0 := o0.trans n2
    have sa1 := t2
    refine KL.call rfl rfl rfl rfl Tryd.call10 rfl rfl rfl (nameValid_any _ _ sa1 (hT.old o0)) ?_
    rintro _ H3 ⟨rfl, ox⟩
    have zc_H3 := (ox).1
    have o0 := o0.trans ox
    have sa1 := sa1.old ox
    refine KL.op (R.move rfl rfl) rfl rfl rfl ?_
    refine KL.case (d := 19) rfl ?_ ?_
    · intro hg19
      try simp only [decide_eq_true_eq, decide_eq_false_iff_not, Bool.not_eq_true', Bool.not_eq_false', Bool.and_eq_true, Bool.or_eq_false_iff] at hg19
      refine KL.op (R.move rfl rfl) rfl rfl rfl ?_
      refine KL.opM (M.toBytes rfl Tryd.underlying9 Tryd.underlying22 Tryd.underlying5 rfl (by omega)) rfl rfl rfl ?_
      rintro v4 H4 ⟨t4, e4, n4, z4⟩
      have o0 := o0.trans n4
      have sa1 := sa1.old n4
      have sb1 := t4
      refine KL.call rfl rfl rfl rfl Tryd.call10 rfl rfl rfl (nameValid_any _ _ sb1 (hT.old o0)) ?_
      rintro _ H5 ⟨rfl, ox⟩
      have zc_H5 := (ox).1
      have o0 := o0.trans ox
      have sa1 := sa1.old ox
      have sb1 := sb1.old ox
      refine KL.op (R.pick rfl rfl rfl) rfl rfl rfl ?_
      refine KL.op (R.move rfl rfl) rfl rfl rfl ?_
      refine KL.case (d := 24) rfl ?_ ?_
      · intro hg24
        try simp only [decide_eq_true_eq, decide_eq_false_iff_not, Bool.not_eq_true', Bool.not_eq_false', Bool.and_eq_true, Bool.or_eq_false_iff] at hg24
        refine KL.op (R.move rfl rfl) rfl rfl rfl ?_
        refine KL.op (R.move rfl rfl) rfl rfl rfl ?_
        refine KL.op (R.addStr rfl rfl rfl (by omega)) rfl rfl rfl ?_
        refine KL.opM (M.toBytes rfl Tryd.underlying9 Tryd.underlying22 Tryd.underlying5 rfl (by rw [ByteArray.size_append]; omega)) rfl rfl rfl ?_
        rintro v6 H6 ⟨t6, e6, n6, z6⟩
        have o0 := o0.trans n6
        have sa1 := sa1.old n6
        have sb1 := sb1.old n6
        have sab := t6
        refine KL.call rfl rfl rfl rfl Tryd.call10 rfl rfl rfl (Valid_is _ _ sab (hT.old o0) (b := true) (by rw [ints_append, Utf.valid_app _ _ _ (Nat.le_refl _) (by assumption)]; assumption)) ?_
        rintro _ H7 ⟨rfl, ox⟩
        have zc_H7 := (ox).1
        have o0 := o0.trans ox
        have sa1 := sa1.old ox
        have sb1 := sb1.old ox
        have sab := sab.old ox
        refine KL.op (R.not rfl rfl) rfl rfl rfl ?_
        refine KL.op (R.pick rfl rfl rfl) rfl rfl rfl ?_
        refine KL.nil ?_
        refine KQ.seq ?_
        refine KC.condF rfl ?_
        refine KC.skip ?_
        refine KQ.seq ?_
        refine KC.seq ?_
        refine KC.seq ?_
        refine KC.region ?_
        refine KL.op (R.move rfl rfl) rfl rfl rfl ?_
        refine KL.opM (M.toBytes rfl Tryd.underlying9 Tryd.underlying22 Tryd.underlying5 rfl (by omega)) rfl rfl rfl ?_
        rintro v8 H8 ⟨t8, e8, n8, z8⟩
        have o0 := o0.trans n8
        have sa1 := sa1.old n8
        have sb1 := sb1.old n8
        have sab := sab.old n8
        have sa2 := t8
        refine KL.call rfl rfl rfl rfl Tryd.call10 rfl rfl rfl (nameValid_any _ _ sa2 (hT.old o0)) ?_
        rintro _ H9 ⟨rfl, ox⟩
        have zc_H9 := (ox).1
        have o0 := o0.trans ox
        have sa1 := sa1.old ox
        have sb1 := sb1.old ox
        have sab := sab.old ox
        have sa2 := sa2.old ox
        refine KL.op (R.not rfl rfl) rfl rfl rfl ?_
        refine KL.op (R.move rfl rfl) rfl rfl rfl ?_
        refine KL.case (d := 36) rfl ?_ ?_
        · intro hg36
          try simp only [decide_eq_true_eq, decide_eq_false_iff_not, Bool.not_eq_true', Bool.not_eq_false', Bool.and_eq_true, Bool.or_eq_false_iff] at hg36
          refine KL.skip rfl rfl rfl ?_
          refine KL.skip rfl rfl rfl ?_
          refine KL.op (R.pick rfl rfl rfl) rfl rfl rfl ?_
          refine KL.op (R.move rfl rfl) rfl rfl rfl ?_
          refine KL.skip rfl rfl rfl ?_
          refine KL.skip rfl rfl rfl ?_
          refine KL.skip rfl rfl rfl ?_
          refine KL.skip rfl rfl rfl ?_
          refine KL.op (R.pick rfl rfl rfl) rfl rfl rfl ?_
          refine KL.nil ?_
          refine KQ.seq ?_
          refine KC.condT rfl ?_
          refine KC.seq ?_
          refine KC.region ?_
          refine KL.op (R.assign rfl rfl) rfl rfl rfl ?_
          refine KL.nil ?_
          refine KQ.seq ?_
          refine KC.ret ?_
          refine KQ.retThen ?_
          refine KQ.ofRet ?_
          refine KQ.fin1 Tryd.results6 rfl ?_
          exact ⟨rfl, o0⟩
        · intro hg36
          try simp only [decide_eq_true_eq, decide_eq_false_iff_not, Bool.not_eq_true', Bool.not_eq_false', Bool.and_eq_true, Bool.or_eq_false_iff] at hg36
          refine KL.op (R.move rfl rfl) rfl rfl rfl ?_
          refine KL.op (R.lss rfl rfl rfl) rfl rfl rfl ?_
          refine KL.op (R.pick rfl rfl rfl) rfl rfl rfl ?_
          refine KL.op (R.move rfl rfl) rfl rfl rfl ?_
          refine KL.case (d := 40) rfl ?_ ?_
          · intro hg40
            try simp only [decide_eq_true_eq, decide_eq_false_iff_not, Bool.not_eq_true', Bool.not_eq_false', Bool.and_eq_true, Bool.or_eq_false_iff] at hg40
            refine KL.skip rfl rfl rfl ?_
            refine KL.skip rfl rfl rfl ?_
            refine KL.skip rfl rfl rfl ?_
            refine KL.skip rfl rfl rfl ?_
            refine KL.op (R.pick rfl rfl rfl) rfl rfl rfl ?_
            refine KL.nil ?_
            refine KQ.seq ?_
            refine KC.condT rfl ?_
            refine KC.seq ?_
            refine KC.region ?_
            refine KL.op (R.assign rfl rfl) rfl rfl rfl ?_
            refine KL.nil ?_
            refine KQ.seq ?_
            refine KC.ret ?_
            refine KQ.retThen ?_
            refine KQ.ofRet ?_
            refine KQ.fin1 Tryd.results6 rfl ?_
            exact ⟨rfl, o0⟩
          · intro hg40
            try simp only [decide_eq_true_eq, decide_eq_false_iff_not, Bool.not_eq_true', Bool.not_eq_false', Bool.and_eq_true, Bool.or_eq_false_iff] at hg40
            refine KL.op (R.move rfl rfl) rfl rfl rfl ?_
            refine KL.op (R.move rfl rfl) rfl rfl rfl ?_
            refine KL.op (R.lenStr (ty := 0) rfl Tryd.underlying9 rfl) rfl rfl rfl ?_
            refine KL.op (R.geq rfl rfl rfl) rfl rfl rfl ?_
            refine KL.op (R.pick rfl rfl rfl) rfl rfl rfl ?_
            refine KL.nil ?_
            refine KQ.seq ?_
            refine KC.iteL rfl ?_ ?_
            · intro hc45
              try simp only [decide_eq_true_eq, decide_eq_false_iff_not, Bool.not_eq_true', Bool.not_eq_false', Bool.and_eq_true, Bool.or_eq_false_iff] at hc45
              refine KC.seq ?_
              refine KC.region ?_
              refine KL.op (R.assign rfl rfl) rfl rfl rfl ?_
              refine KL.nil ?_
              refine KQ.seq ?_
              refine KC.ret ?_
              refine KQ.retThen ?_
              refine KQ.ofRet ?_
              refine KQ.fin1 Tryd.results6 rfl ?_
              exact ⟨rfl, o0⟩
            · intro hc45
              try simp only [decide_eq_true_eq, decide_eq_false_iff_not, Bool.not_eq_true', Bool.not_eq_false', Bool.and_eq_true, Bool.or_eq_false_iff] at hc45
              refine KC.skip ?_
              refine KQ.seq ?_
              refine KC.seq ?_
              refine KC.region ?_
              refine KL.op (R.move rfl rfl) rfl rfl rfl ?_
              refine KL.op (R.move rfl rfl) rfl rfl rfl ?_
              refine KL.op (R.indexStr (j := c.toNat) rfl Tryd.underlying9 rfl rfl (by omega) (by omega)) rfl rfl rfl ?_
              refine KL.op (R.geq rfl rfl rfl) rfl rfl rfl ?_
              refine KL.op (R.move rfl rfl) rfl rfl rfl ?_
              refine KL.case (d := 50) rfl ?_ ?_
              · intro hg50
                try simp only [decide_eq_true_eq, decide_eq_false_iff_not, Bool.not_eq_true', Bool.not_eq_false', Bool.and_eq_true, Bool.or_eq_false_iff] at hg50
                refine KL.op (R.move rfl rfl) rfl rfl rfl ?_
                refine KL.op (R.move rfl rfl) rfl rfl rfl ?_
                refine KL.op (R.indexStr (j := c.toNat) rfl Tryd.underlying9 rfl rfl (by omega) (by omega)) rfl rfl rfl ?_
                refine KL.op (R.leq rfl rfl rfl) rfl rfl rfl ?_
                refine KL.op (R.pick rfl rfl rfl) rfl rfl rfl ?_
                refine KL.op (R.assign rfl rfl) rfl rfl rfl ?_
                refine KL.nil ?_
                refine KQ.seq ?_
                refine KC.seq ?_
                refine KC.region ?_
                refine KL.op (R.move rfl rfl) rfl rfl rfl ?_
                refine KL.op (R.move rfl rfl) rfl rfl rfl ?_
                refine KL.op (R.sliceStr (i := 0) (j := c.toNat) rfl Tryd.underlying9 rfl bnd.no (bnd.mk rfl (by omega)) (Nat.zero_le _) (by omega)) rfl rfl rfl ?_
                refine KL.opM (M.toBytes rfl Tryd.underlying9 Tryd.underlying22 Tryd.underlying5 rfl (by rw [ByteArray.size_extract]; omega)) rfl rfl rfl ?_
                rintro v10 H10 ⟨t10, e10, n10, z10⟩
                have o0 := o0.trans n10
                have sa1 := sa1.old n10
                have sb1 := sb1.old n10
                have sab := sab.old n10
                have sa2 := sa2.old n10
                have sx := t10
                refine KL.call rfl rfl rfl rfl Tryd.call10 rfl rfl rfl (Valid_is _ _ sx (hT.old o0) (b := !decide ((ints a).getD c.toNat default ≤ 191)) (((Utf.cuts (a := a) (c := c.toNat) (by omega) (by assumption)).1).trans (congrArg not (Utf.within1 (by omega))))) ?_
                rintro _ H11 ⟨rfl, ox⟩
                have zc_H11 := (ox).1
                have o0 := o0.trans ox
                have sa1 := sa1.old ox
                have sb1 := sb1.old ox
                have sab := sab.old ox
                have sa2 := sa2.old ox
                have sx := sx.old ox
                refine KL.op (R.move rfl rfl) rfl rfl rfl ?_
                refine KL.op (R.not rfl rfl) rfl rfl rfl ?_
                refine KL.op ((R.eqlB rfl Tryd.underlying4 rfl rfl).val (congrArg Value.bool (beq_self_eq_true _))) rfl rfl rfl ?_
                refine KL.op (R.move rfl rfl) rfl rfl rfl ?_
                refine KL.op (R.move rfl rfl) rfl rfl rfl ?_
                refine KL.op (R.move rfl rfl) rfl rfl rfl ?_
                refine KL.op (R.sliceStr (i := c.toNat) (j := a.size) rfl Tryd.underlying9 rfl (bnd.mk rfl (by omega)) bnd.no (by omega) (Nat.le_refl _)) rfl rfl rfl ?_
                refine KL.opM (M.toBytes rfl Tryd.underlying9 Tryd.underlying22 Tryd.underlying5 rfl (by rw [ByteArray.size_extract]; omega)) rfl rfl rfl ?_
                rintro v12 H12 ⟨t12, e12, n12, z12⟩
                have o0 := o0.trans n12
                have sa1 := sa1.old n12
                have sb1 := sb1.old n12
                have sab := sab.old n12
                have sa2 := sa2.old n12
                have sx := sx.old n12
                have sy := t12
                refine KL.call rfl rfl rfl rfl Tryd.call10 rfl rfl rfl (Valid_is _ _ sy (hT.old o0) (b := !decide ((ints a).getD c.toNat default ≤ 191)) (((Utf.cuts (a := a) (c := c.toNat) (by omega) (by assumption)).2).trans (congrArg not (Utf.within1 (by omega))))) ?_
                rintro _ H13 ⟨rfl, ox⟩
                have zc_H13 := (ox).1
                have o0 := o0.trans ox
                have sa1 := sa1.old ox
                have sb1 := sb1.old ox
                have sab := sab.old ox
                have sa2 := sa2.old ox
                have sx := sx.old ox
                have sy := sy.old ox
                refine KL.op (R.move rfl rfl) rfl rfl rfl ?_
                refine KL.op (R.not rfl rfl) rfl rfl rfl ?_
                refine KL.op ((R.eqlB rfl Tryd.underlying4 rfl rfl).val (congrArg Value.bool (beq_self_eq_true _))) rfl rfl rfl ?_
                refine KL.op (R.pick rfl rfl rfl) rfl rfl rfl ?_
                refine KL.op (R.assign rfl rfl) rfl rfl rfl ?_
                refine KL.nil ?_
                refine KQ.seq ?_
                refine KC.ret ?_
                refine KQ.ofRet ?_
                refine KQ.fin1 Tryd.results6 rfl ?_
                exact ⟨rfl, o0⟩
              · intro hg50
                try simp only [decide_eq_true_eq, decide_eq_false_iff_not, Bool.not_eq_true', Bool.not_eq_false', Bool.and_eq_true, Bool.or_eq_false_iff] at hg50
                refine KL.skip rfl rfl rfl ?_
                refine KL.skip rfl rfl rfl ?_
                refine KL.skip rfl rfl rfl ?_
                refine KL.skip rfl rfl rfl ?_
                refine KL.op (R.pick rfl rfl rfl) rfl rfl rfl ?_
                refine KL.op (R.assign rfl rfl) rfl rfl rfl ?_
                refine KL.nil ?_
                refine KQ.seq ?_
                refine KC.seq ?_
                refine KC.region ?_
                refine KL.op (R.move rfl rfl) rfl rfl rfl ?_
                refine KL.op (R.move rfl rfl) rfl rfl rfl ?_
                refine KL.op (R.sliceStr (i := 0) (j := c.toNat) rfl Tryd.underlying9 rfl bnd.no (bnd.mk rfl (by omega)) (Nat.zero_le _) (by omega)) rfl rfl rfl ?_
                refine KL.opM (M.toBytes rfl Tryd.underlying9 Tryd.underlying22 Tryd.underlying5 rfl (by rw [ByteArray.size_extract]; omega)) rfl rfl rfl ?_
                rintro v14 H14 ⟨t14, e14, n14, z14⟩
                have o0 := o0.trans n14
                have sa1 := sa1.old n14
                have sb1 := sb1.old n14
                have sab := sab.old n14
                have sa2 := sa2.old n14
                have sx := t14
                refine KL.call rfl rfl rfl rfl Tryd.call10 rfl rfl rfl (Valid_is _ _ sx (hT.old o0) (b := true) (((Utf.cuts (a := a) (c := c.toNat) (by omega) (by assumption)).1).trans (congrArg not (Utf.within0 (by omega))))) ?_
                rintro _ H15 ⟨rfl, ox⟩
                have zc_H15 := (ox).1
                have o0 := o0.trans ox
                have sa1 := sa1.old ox
                have sb1 := sb1.old ox
                have sab := sab.old ox
                have sa2 := sa2.old ox
                have sx := sx.old ox
                refine KL.op (R.move rfl rfl) rfl rfl rfl ?_
                refine KL.op (R.not rfl rfl) rfl rfl rfl ?_
                refine KL.op (R.eqlB rfl Tryd.underlying4 rfl rfl) rfl rfl rfl ?_
                refine KL.op (R.move rfl rfl) rfl rfl rfl ?_
                refine KL.op (R.move rfl rfl) rfl rfl rfl ?_
                refine KL.op (R.move rfl rfl) rfl rfl rfl ?_
                refine KL.op (R.sliceStr (i := c.toNat) (j := a.size) rfl Tryd.underlying9 rfl (bnd.mk rfl (by omega)) bnd.no (by omega) (Nat.le_refl _)) rfl rfl rfl ?_
                refine KL.opM (M.toBytes rfl Tryd.underlying9 Tryd.underlying22 Tryd.underlying5 rfl (by rw [ByteArray.size_extract]; omega)) rfl rfl rfl ?_
                rintro v16 H16 ⟨t16, e16, n16, z16⟩
                have o0 := o0.trans n16
                have sa1 := sa1.old n16
                have sb1 := sb1.old n16
                have sab := sab.old n16
                have sa2 := sa2.old n16
                have sx := sx.old n16
                have sy := t16
                refine KL.call rfl rfl rfl rfl Tryd.call10 rfl rfl rfl (Valid_is _ _ sy (hT.old o0) (b := true) (((Utf.cuts (a := a) (c := c.toNat) (by omega) (by assumption)).2).trans (congrArg not (Utf.within0 (by omega))))) ?_
                rintro _ H17 ⟨rfl, ox⟩
                have zc_H17 := (ox).1
                have o0 := o0.trans ox
                have sa1 := sa1.old ox
                have sb1 := sb1.old ox
                have sab := sab.old ox
                have sa2 := sa2.old ox
                have sx := sx.old ox
                have sy := sy.old ox
                refine KL.op (R.move rfl rfl) rfl rfl rfl ?_
                refine KL.op (R.not rfl rfl) rfl rfl rfl ?_
                refine KL.op (R.eqlB rfl Tryd.underlying4 rfl rfl) rfl rfl rfl ?_
                refine KL.op (R.pick rfl rfl rfl) rfl rfl rfl ?_
                refine KL.op (R.assign rfl rfl) rfl rfl rfl ?_
                refine KL.nil ?_
                refine KQ.seq ?_
                refine KC.ret ?_
                refine KQ.ofRet ?_
                refine KQ.fin1 Tryd.results6 rfl ?_
                exact ⟨rfl, o0⟩
      · intro hg24
        try simp only [decide_eq_true_eq, decide_eq_false_iff_not, Bool.not_eq_true', Bool.not_eq_false', Bool.and_eq_true, Bool.or_eq_false_iff] at hg24
        refine KL.skip rfl rfl rfl ?_
        refine KL.skip rfl rfl rfl ?_
        refine KL.skip rfl rfl rfl ?_
        refine KL.skip rfl rfl rfl ?_
        refine KL.skip rfl rfl rfl ?_
        refine KL.skip rfl rfl rfl ?_
        refine KL.op (R.pick rfl rfl rfl) rfl rfl rfl ?_
        refine KL.nil ?_
        refine KQ.seq ?_
        refine KC.condF rfl ?_
        refine KC.skip ?_
        refine KQ.seq ?_
        refine KC.seq ?_
        refine KC.seq ?_
        refine KC.region ?_
        refine KL.op (R.move rfl rfl) rfl rfl rfl ?_
        refine KL.opM (M.toBytes rfl Tryd.underlying9 Tryd.underlying22 Tryd.underlying5 rfl (by omega)) rfl rfl rfl ?_
        rintro v18 H18 ⟨t18, e18, n18, z18⟩
        have o0 := o0.trans n18
        have sa1 := sa1.old n18
        have sb1 := sb1.old n18
        have sa2 := t18
        refine KL.call rfl rfl rfl rfl Tryd.call10 rfl rfl rfl (nameValid_any _ _ sa2 (hT.old o0)) ?_
        rintro _ H19 ⟨rfl, ox⟩
        have zc_H19 := (ox).1
        have o0 := o0.trans ox
        have sa1 := sa1.old ox
        have sb1 := sb1.old ox
        have sa2 := sa2.old ox
        refine KL.op (R.not rfl rfl) rfl rfl rfl ?_
        refine KL.op (R.move rfl rfl) rfl rfl rfl ?_
        refine KL.case (d := 36) rfl ?_ ?_
        · intro hg36
          try simp only [decide_eq_true_eq, decide_eq_false_iff_not, Bool.not_eq_true', Bool.not_eq_false', Bool.and_eq_true, Bool.or_eq_false_iff] at hg36
          refine KL.skip rfl rfl rfl ?_
          refine KL.skip rfl rfl rfl ?_
          refine KL.op (R.pick rfl rfl rfl) rfl rfl rfl ?_
          refine KL.op (R.move rfl rfl) rfl rfl rfl ?_
          refine KL.skip rfl rfl rfl ?_
          refine KL.skip rfl rfl rfl ?_
          refine KL.skip rfl rfl rfl ?_
          refine KL.skip rfl rfl rfl ?_
          refine KL.op (R.pick rfl rfl rfl) rfl rfl rfl ?_
          refine KL.nil ?_
          refine KQ.seq ?_
          refine KC.condT rfl ?_
          refine KC.seq ?_
          refine KC.region ?_
          refine KL.op (R.assign rfl rfl) rfl rfl rfl ?_
          refine KL.nil ?_
          refine KQ.seq ?_
          refine KC.ret ?_
          refine KQ.retThen ?_
          refine KQ.ofRet ?_
          refine KQ.fin1 Tryd.results6 rfl ?_
          exact ⟨rfl, o0⟩
        · intro hg36
          try simp only [decide_eq_true_eq, decide_eq_false_iff_not, Bool.not_eq_true', Bool.not_eq_false', Bool.and_eq_true, Bool.or_eq_false_iff] at hg36
          refine KL.op (R.move rfl rfl) rfl rfl rfl ?_
          refine KL.op (R.lss rfl rfl rfl) rfl rfl rfl ?_
          refine KL.op (R.pick rfl rfl rfl) rfl rfl rfl ?_
          refine KL.op (R.move rfl rfl) rfl rfl rfl ?_
          refine KL.case (d := 40) rfl ?_ ?_
          · intro hg40
            try simp only [decide_eq_true_eq, decide_eq_false_iff_not, Bool.not_eq_true', Bool.not_eq_false', Bool.and_eq_true, Bool.or_eq_false_iff] at hg40
            refine KL.skip rfl rfl rfl ?_
            refine KL.skip rfl rfl rfl ?_
            refine KL.skip rfl rfl rfl ?_
            refine KL.skip rfl rfl rfl ?_
            refine KL.op (R.pick rfl rfl rfl) rfl rfl rfl ?_
            refine KL.nil ?_
            refine KQ.seq ?_
            refine KC.condT rfl ?_
            refine KC.seq ?_
            refine KC.region ?_
            refine KL.op (R.assign rfl rfl) rfl rfl rfl ?_
            refine KL.nil ?_
            refine KQ.seq ?_
            refine KC.ret ?_
            refine KQ.retThen ?_
            refine KQ.ofRet ?_
            refine KQ.fin1 Tryd.results6 rfl ?_
            exact ⟨rfl, o0⟩
          · intro hg40
            try simp only [decide_eq_true_eq, decide_eq_false_iff_not, Bool.not_eq_true', Bool.not_eq_false', Bool.and_eq_true, Bool.or_eq_false_iff] at hg40
            refine KL.op (R.move rfl rfl) rfl rfl rfl ?_
            refine KL.op (R.move rfl rfl) rfl rfl rfl ?_
            refine KL.op (R.lenStr (ty := 0) rfl Tryd.underlying9 rfl) rfl rfl rfl ?_
            refine KL.op (R.geq rfl rfl rfl) rfl rfl rfl ?_
            refine KL.op (R.pick rfl rfl rfl) rfl rfl rfl ?_
            refine KL.nil ?_
            refine KQ.seq ?_
            refine KC.iteL rfl ?_ ?_
            · intro hc45
              try simp only [decide_eq_true_eq, decide_eq_false_iff_not, Bool.not_eq_true', Bool.not_eq_false', Bool.and_eq_true, Bool.or_eq_false_iff] at hc45
              refine KC.seq ?_
              refine KC.region ?_
              refine KL.op (R.assign rfl rfl) rfl rfl rfl ?_
              refine KL.nil ?_
              refine KQ.seq ?_
              refine KC.ret ?_
              refine KQ.retThen ?_
              refine KQ.ofRet ?_
              refine KQ.fin1 Tryd.results6 rfl ?_
              exact ⟨rfl, o0⟩
            · intro hc45
              try simp only [decide_eq_true_eq, decide_eq_false_iff_not, Bool.not_eq_true', Bool.not_eq_false', Bool.and_eq_true, Bool.or_eq_false_iff] at hc45
              refine KC.skip ?_
              refine KQ.seq ?_
              refine KC.seq ?_
              refine KC.region ?_
              refine KL.op (R.move rfl rfl) rfl rfl rfl ?_
              refine KL.op (R.move rfl rfl) rfl rfl rfl ?_
              refine KL.op (R.indexStr (j := c.toNat) rfl Tryd.underlying9 rfl rfl (by omega) (by omega)) rfl rfl rfl ?_
              refine KL.op (R.geq rfl rfl rfl) rfl rfl rfl ?_
              refine KL.op (R.move rfl rfl) rfl rfl rfl ?_
              refine KL.case (d := 50) rfl ?_ ?_
              · intro hg50
                try simp only [decide_eq_true_eq, decide_eq_false_iff_not, Bool.not_eq_true', Bool.not_eq_false', Bool.and_eq_true, Bool.or_eq_false_iff] at hg50
                refine KL.op (R.move rfl rfl) rfl rfl rfl ?_
                refine KL.op (R.move rfl rfl) rfl rfl rfl ?_
                refine KL.op (R.indexStr (j := c.toNat) rfl Tryd.underlying9 rfl rfl (by omega) (by omega)) rfl rfl rfl ?_
                refine KL.op (R.leq rfl rfl rfl) rfl rfl rfl ?_
                refine KL.op (R.pick rfl rfl rfl) rfl rfl rfl ?_
                refine KL.op (R.assign rfl rfl) rfl rfl rfl ?_
                refine KL.nil ?_
                refine KQ.seq ?_
                refine KC.seq ?_
                refine KC.region ?_
                refine KL.op (R.move rfl rfl) rfl rfl rfl ?_
                refine KL.op (R.move rfl rfl) rfl rfl rfl ?_
                refine KL.op (R.sliceStr (i := 0) (j := c.toNat) rfl Tryd.underlying9 rfl bnd.no (bnd.mk rfl (by omega)) (Nat.zero_le _) (by omega)) rfl rfl rfl ?_
                refine KL.opM (M.toBytes rfl Tryd.underlying9 Tryd.underlying22 Tryd.underlying5 rfl (by rw [ByteArray.size_extract]; omega)) rfl rfl rfl ?_
                rintro v20 H20 ⟨t20, e20, n20, z20⟩
                have o0 := o0.trans n20
                have sa1 := sa1.old n20
                have sb1 := sb1.old n20
                have sa2 := sa2.old n20
                have sx := t20
                refine KL.call rfl rfl rfl rfl Tryd.call10 rfl rfl rfl (Valid_is _ _ sx (hT.old o0) (b := !decide ((ints a).getD c.toNat default ≤ 191)) (((Utf.cuts (a := a) (c := c.toNat) (by omega) (by assumption)).1).trans (congrArg not (Utf.within1 (by omega))))) ?_
                rintro _ H21 ⟨rfl, ox⟩
                have zc_H21 := (ox).1
                have o0 := o0.trans ox
                have sa1 := sa1.old ox
                have sb1 := sb1.old ox
                have sa2 := sa2.old ox
                have sx := sx.old ox
                refine KL.op (R.move rfl rfl) rfl rfl rfl ?_
                refine KL.op (R.not rfl rfl) rfl rfl rfl ?_
                refine KL.op ((R.eqlB rfl Tryd.underlying4 rfl rfl).val (congrArg Value.bool (beq_self_eq_true _))) rfl rfl rfl ?_
                refine KL.op (R.move rfl rfl) rfl rfl rfl ?_
                refine KL.op (R.move rfl rfl) rfl rfl rfl ?_
                refine KL.op (R.move rfl rfl) rfl rfl rfl ?_
                refine KL.op (R.sliceStr (i := c.toNat) (j := a.size) rfl Tryd.underlying9 rfl (bnd.mk rfl (by omega)) bnd.no (by omega) (Nat.le_refl _)) rfl rfl rfl ?_
                refine KL.opM (M.toBytes rfl Tryd.underlying9 Tryd.underlying22 Tryd.underlying5 rfl (by rw [ByteArray.size_extract]; omega)) rfl rfl rfl ?_
                rintro v22 H22 ⟨t22, e22, n22, z22⟩
                have o0 := o0.trans n22
                have sa1 := sa1.old n22
                have sb1 := sb1.old n22
                have sa2 := sa2.old n22
                have sx := sx.old n22
                have sy := t22
                refine KL.call rfl rfl rfl rfl Tryd.call10 rfl rfl rfl (Valid_is _ _ sy (hT.old o0) (b := !decide ((ints a).getD c.toNat default ≤ 191)) (((Utf.cuts (a := a) (c := c.toNat) (by omega) (by assumption)).2).trans (congrArg not (Utf.within1 (by omega))))) ?_
                rintro _ H23 ⟨rfl, ox⟩
                have zc_H23 := (ox).1
                have o0 := o0.trans ox
                have sa1 := sa1.old ox
                have sb1 := sb1.old ox
                have sa2 := sa2.old ox
                have sx := sx.old ox
                have sy := sy.old ox
                refine KL.op (R.move rfl rfl) rfl rfl rfl ?_
                refine KL.op (R.not rfl rfl) rfl rfl rfl ?_
                refine KL.op ((R.eqlB rfl Tryd.underlying4 rfl rfl).val (congrArg Value.bool (beq_self_eq_true _))) rfl rfl rfl ?_
                refine KL.op (R.pick rfl rfl rfl) rfl rfl rfl ?_
                refine KL.op (R.assign rfl rfl) rfl rfl rfl ?_
                refine KL.nil ?_
                refine KQ.seq ?_
                refine KC.ret ?_
                refine KQ.ofRet ?_
                refine KQ.fin1 Tryd.results6 rfl ?_
                exact ⟨rfl, o0⟩
              · intro hg50
                try simp only [decide_eq_true_eq, decide_eq_false_iff_not, Bool.not_eq_true', Bool.not_eq_false', Bool.and_eq_true, Bool.or_eq_false_iff] at hg50
                refine KL.skip rfl rfl rfl ?_
                refine KL.skip rfl rfl rfl ?_
                refine KL.skip rfl rfl rfl ?_
                refine KL.skip rfl rfl rfl ?_
                refine KL.op (R.pick rfl rfl rfl) rfl rfl rfl ?_
                refine KL.op (R.assign rfl rfl) rfl rfl rfl ?_
                refine KL.nil ?_
                refine KQ.seq ?_
                refine KC.seq ?_
                refine KC.region ?_
                refine KL.op (R.move rfl rfl) rfl rfl rfl ?_
                refine KL.op (R.move rfl rfl) rfl rfl rfl ?_
                refine KL.op (R.sliceStr (i := 0) (j := c.toNat) rfl Tryd.underlying9 rfl bnd.no (bnd.mk rfl (by omega)) (Nat.zero_le _) (by omega)) rfl rfl rfl ?_
                refine KL.opM (M.toBytes rfl Tryd.underlying9 Tryd.underlying22 Tryd.underlying5 rfl (by rw [ByteArray.size_extract]; omega)) rfl rfl rfl ?_
                rintro v24 H24 ⟨t24, e24, n24, z24⟩
                have o0 := o0.trans n24
                have sa1 := sa1.old n24
                have sb1 := sb1.old n24
                have sa2 := sa2.old n24
                have sx := t24
                refine KL.call rfl rfl rfl rfl Tryd.call10 rfl rfl rfl (Valid_is _ _ sx (hT.old o0) (b := true) (((Utf.cuts (a := a) (c := c.toNat) (by omega) (by assumption)).1).trans (congrArg not (Utf.within0 (by omega))))) ?_
                rintro _ H25 ⟨rfl, ox⟩
                have zc_H25 := (ox).1
                have o0 := o0.trans ox
                have sa1 := sa1.old ox
                have sb1 := sb1.old ox
                have sa2 := sa2.old ox
                have sx := sx.old ox
                refine KL.op (R.move rfl rfl) rfl rfl rfl ?_
                refine KL.op (R.not rfl rfl) rfl rfl rfl ?_
                refine KL.op (R.eqlB rfl Tryd.underlying4 rfl rfl) rfl rfl rfl ?_
                refine KL.op (R.move rfl rfl) rfl rfl rfl ?_
                refine KL.op (R.move rfl rfl) rfl rfl rfl ?_
                refine KL.op (R.move rfl rfl) rfl rfl rfl ?_
                refine KL.op (R.sliceStr (i := c.toNat) (j := a.size) rfl Tryd.underlying9 rfl (bnd.mk rfl (by omega)) bnd.no (by omega) (Nat.le_refl _)) rfl rfl rfl ?_
                refine KL.opM (M.toBytes rfl Tryd.underlying9 Tryd.underlying22 Tryd.underlying5 rfl (by rw [ByteArray.size_extract]; omega)) rfl rfl rfl ?_
                rintro v26 H26 ⟨t26, e26, n26, z26⟩
                have o0 := o0.trans n26
                have sa1 := sa1.old n26
                have sb1 := sb1.old n26
                have sa2 := sa2.old n26
                have sx := sx.old n26
                have sy := t26
                refine KL.call rfl rfl rfl rfl Tryd.call10 rfl rfl rfl (Valid_is _ _ sy (hT.old o0) (b := true) (((Utf.cuts (a := a) (c := c.toNat) (by omega) (by assumption)).2).trans (congrArg not (Utf.within0 (by omega))))) ?_
                rintro _ H27 ⟨rfl, ox⟩
                have zc_H27 := (ox).1
                have o0 := o0.trans ox
                have sa1 := sa1.old ox
                have sb1 := sb1.old ox
                have sa2 := sa2.old ox
                have sx := sx.old ox
                have sy := sy.old ox
                refine KL.op (R.move rfl rfl) rfl rfl rfl ?_
                refine KL.op (R.not rfl rfl) rfl rfl rfl ?_
                refine KL.op (R.eqlB rfl Tryd.underlying4 rfl rfl) rfl rfl rfl ?_
                refine KL.op (R.pick rfl rfl rfl) rfl rfl rfl ?_
                refine KL.op (R.assign rfl rfl) rfl rfl rfl ?_
                refine KL.nil ?_
                refine KQ.seq ?_
                refine KC.ret ?_
                refine KQ.ofRet ?_
                refine KQ.fin1 Tryd.results6 rfl ?_
                exact ⟨rfl, o0⟩
    · intro hg19
      try simp only [decide_eq_true_eq, decide_eq_false_iff_not, Bool.not_eq_true', Bool.not_eq_false', Bool.and_eq_true, Bool.or_eq_false_iff] at hg19
      refine KL.skip rfl rfl rfl ?_
      refine KL.skip rfl rfl rfl ?_
      refine KL.skip rfl rfl rfl ?_
      refine KL.op (R.pick rfl rfl rfl) rfl rfl rfl ?_
      refine KL.op (R.move rfl rfl) rfl rfl rfl ?_
      refine KL.skip rfl rfl rfl ?_
      refine KL.skip rfl rfl rfl ?_
      refine KL.skip rfl rfl rfl ?_
      refine KL.skip rfl rfl rfl ?_
      refine KL.skip rfl rfl rfl ?_
      refine KL.skip rfl rfl rfl ?_
      refine KL.op (R.pick rfl rfl rfl) rfl rfl rfl ?_
      refine KL.nil ?_
      refine KQ.seq ?_
      refine KC.condF rfl ?_
      refine KC.skip ?_
      refine KQ.seq ?_
      refine KC.seq ?_
      refine KC.seq ?_
      refine KC.region ?_
      refine KL.op (R.move rfl rfl) rfl rfl rfl ?_
      refine KL.opM (M.toBytes rfl Tryd.underlying9 Tryd.underlying22 Tryd.underlying5 rfl (by omega)) rfl rfl rfl ?_
      rintro v28 H28 ⟨t28, e28, n28, z28⟩
      have o0 := o0.trans n28
      have sa1 := sa1.old n28
      have sa2 := t28
      refine KL.call rfl rfl rfl rfl Tryd.call10 rfl rfl rfl (nameValid_any _ _ sa2 (hT.old o0)) ?_
      rintro _ H29 ⟨rfl, ox⟩
      have zc_H29 := (ox).1
      have o0 := o0.trans ox
      have sa1 := sa1.old ox
      have sa2 := sa2.old ox
      refine KL.op (R.not rfl rfl) rfl rfl rfl ?_
      refine KL.op (R.move rfl rfl) rfl rfl rfl ?_
      refine KL.case (d := 36) rfl ?_ ?_
      · intro hg36
        try simp only [decide_eq_true_eq, decide_eq_false_iff_not, Bool.not_eq_true', Bool.not_eq_false', Bool.and_eq_true, Bool.or_eq_false_iff] at hg36
        refine KL.skip rfl rfl rfl ?_
        refine KL.skip rfl rfl rfl ?_
        refine KL.op (R.pick rfl rfl rfl) rfl rfl rfl ?_
        refine KL.op (R.move rfl rfl) rfl rfl rfl ?_
        refine KL.skip rfl rfl rfl ?_
        refine KL.skip rfl rfl rfl ?_
        refine KL.skip rfl rfl rfl ?_
        refine KL.skip rfl rfl rfl ?_
        refine KL.op (R.pick rfl rfl rfl) rfl rfl rfl ?_
        refine KL.nil ?_
        refine KQ.seq ?_
        refine KC.condT rfl ?_
        refine KC.seq ?_
        refine KC.region ?_
        refine KL.op (R.assign rfl rfl) rfl rfl rfl ?_
        refine KL.nil ?_
        refine KQ.seq ?_
        refine KC.ret ?_
        refine KQ.retThen ?_
        refine KQ.ofRet ?_
        refine KQ.fin1 Tryd.results6 rfl ?_
        exact ⟨rfl, o0⟩
      · intro hg36
        try simp only [decide_eq_true_eq, decide_eq_false_iff_not, Bool.not_eq_true', Bool.not_eq_false', Bool.and_eq_true, Bool.or_eq_false_iff] at hg36
        refine KL.op (R.move rfl rfl) rfl rfl rfl ?_
        refine KL.op (R.lss rfl rfl rfl) rfl rfl rfl ?_
        refine KL.op (R.pick rfl rfl rfl) rfl rfl rfl ?_
        refine KL.op (R.move rfl rfl) rfl rfl rfl ?_
        refine KL.case (d := 40) rfl ?_ ?_
        · intro hg40
          try simp only [decide_eq_true_eq, decide_eq_false_iff_not, Bool.not_eq_true', Bool.not_eq_false', Bool.and_eq_true, Bool.or_eq_false_iff] at hg40
          refine KL.skip rfl rfl rfl ?_
          refine KL.skip rfl rfl rfl ?_
          refine KL.skip rfl rfl rfl ?_
          refine KL.skip rfl rfl rfl ?_
          refine KL.op (R.pick rfl rfl rfl) rfl rfl rfl ?_
          refine KL.nil ?_
          refine KQ.seq ?_
          refine KC.condT rfl ?_
          refine KC.seq ?_
          refine KC.region ?_
          refine KL.op (R.assign rfl rfl) rfl rfl rfl ?_
          refine KL.nil ?_
          refine KQ.seq ?_
          refine KC.ret ?_
          refine KQ.retThen ?_
          refine KQ.ofRet ?_
          refine KQ.fin1 Tryd.results6 rfl ?_
          exact ⟨rfl, o0⟩
        · intro hg40
          try simp only [decide_eq_true_eq, decide_eq_false_iff_not, Bool.not_eq_true', Bool.not_eq_false', Bool.and_eq_true, Bool.or_eq_false_iff] at hg40
          refine KL.op (R.move rfl rfl) rfl rfl rfl ?_
          refine KL.op (R.move rfl rfl) rfl rfl rfl ?_
          refine KL.op (R.lenStr (ty := 0) rfl Tryd.underlying9 rfl) rfl rfl rfl ?_
          refine KL.op (R.geq rfl rfl rfl) rfl rfl rfl ?_
          refine KL.op (R.pick rfl rfl rfl) rfl rfl rfl ?_
          refine KL.nil ?_
          refine KQ.seq ?_
          refine KC.iteL rfl ?_ ?_
          · intro hc45
            try simp only [decide_eq_true_eq, decide_eq_false_iff_not, Bool.not_eq_true', Bool.not_eq_false', Bool.and_eq_true, Bool.or_eq_false_iff] at hc45
            refine KC.seq ?_
            refine KC.region ?_
            refine KL.op (R.assign rfl rfl) rfl rfl rfl ?_
            refine KL.nil ?_
            refine KQ.seq ?_
            refine KC.ret ?_
            refine KQ.retThen ?_
            refine KQ.ofRet ?_
            refine KQ.fin1 Tryd.results6 rfl ?_
            exact ⟨rfl, o0⟩
          · intro hc45
            try simp only [decide_eq_true_eq, decide_eq_false_iff_not, Bool.not_eq_true', Bool.not_eq_false', Bool.and_eq_true, Bool.or_eq_false_iff] at hc45
            refine KC.skip ?_
            refine KQ.seq ?_
            refine KC.seq ?_
            refine KC.region ?_
            refine KL.op (R.move rfl rfl) rfl rfl rfl ?_
            refine KL.op (R.move rfl rfl) rfl rfl rfl ?_
            refine KL.op (R.indexStr (j := c.toNat) rfl Tryd.underlying9 rfl rfl (by omega) (by omega)) rfl rfl rfl ?_
            refine KL.op (R.geq rfl rfl rfl) rfl rfl rfl ?_
            refine KL.op (R.move rfl rfl) rfl rfl rfl ?_
            refine KL.case (d := 50) rfl ?_ ?_
            · intro hg50
              try simp only [decide_eq_true_eq, decide_eq_false_iff_not, Bool.not_eq_true', Bool.not_eq_false', Bool.and_eq_true, Bool.or_eq_false_iff] at hg50
              refine KL.op (R.move rfl rfl) rfl rfl rfl ?_
              refine KL.op (R.move rfl rfl) rfl rfl rfl ?_
              refine KL.op (R.indexStr (j := c.toNat) rfl Tryd.underlying9 rfl rfl (by omega) (by omega)) rfl rfl rfl ?_
              refine KL.op (R.leq rfl rfl rfl) rfl rfl rfl ?_
              refine KL.op (R.pick rfl rfl rfl) rfl rfl rfl ?_
              refine KL.op (R.assign rfl rfl) rfl rfl rfl ?_
              refine KL.nil ?_
              refine KQ.seq ?_
              refine KC.seq ?_
              refine KC.region ?_
              refine KL.op (R.move rfl rfl) rfl rfl rfl ?_
              refine KL.op (R.move rfl rfl) rfl rfl rfl ?_
              refine KL.op (R.sliceStr (i := 0) (j := c.toNat) rfl Tryd.underlying9 rfl bnd.no (bnd.mk rfl (by omega)) (Nat.zero_le _) (by omega)) rfl rfl rfl ?_
              refine KL.opM (M.toBytes rfl Tryd.underlying9 Tryd.underlying22 Tryd.underlying5 rfl (by rw [ByteArray.size_extract]; omega)) rfl rfl rfl ?_
              rintro v30 H30 ⟨t30, e30, n30, z30⟩
              have o0 := o0.trans n30
              have sa1 := sa1.old n30
              have sa2 := sa2.old n30
              have sx := t30
              refine KL.call rfl rfl rfl rfl Tryd.call10 rfl rfl rfl (Valid_is _ _ sx (hT.old o0) (b := !decide ((ints a).getD c.toNat default ≤ 191)) (((Utf.cuts (a := a) (c := c.toNat) (by omega) (by assumption)).1).trans (congrArg not (Utf.within1 (by omega))))) ?_
              rintro _ H31 ⟨rfl, ox⟩
              have zc_H31 := (ox).1
              have o0 := o0.trans ox
              have sa1 := sa1.old ox
              have sa2 := sa2.old ox
              have sx := sx.old ox
              refine KL.op (R.move rfl rfl) rfl rfl rfl ?_
              refine KL.op (R.not rfl rfl) rfl rfl rfl ?_
              refine KL.op ((R.eqlB rfl Tryd.underlying4 rfl rfl).val (congrArg Value.bool (beq_self_eq_true _))) rfl rfl rfl ?_
              refine KL.op (R.move rfl rfl) rfl rfl rfl ?_
              refine KL.op (R.move rfl rfl) rfl rfl rfl ?_
              refine KL.op (R.move rfl rfl) rfl rfl rfl ?_
              refine KL.op (R.sliceStr (i := c.toNat) (j := a.size) rfl Tryd.underlying9 rfl (bnd.mk rfl (by omega)) bnd.no (by omega) (Nat.le_refl _)) rfl rfl rfl ?_
              refine KL.opM (M.toBytes rfl Tryd.underlying9 Tryd.underlying22 Tryd.underlying5 rfl (by rw [ByteArray.size_extract]; omega)) rfl rfl rfl ?_
              rintro v32 H32 ⟨t32, e32, n32, z32⟩
              have o0 := o0.trans n32
              have sa1 := sa1.old n32
              have sa2 := sa2.old n32
              have sx := sx.old n32
              have sy := t32
              refine KL.call rfl rfl rfl rfl Tryd.call10 rfl rfl rfl (Valid_is _ _ sy (hT.old o0) (b := !decide ((ints a).getD c.toNat default ≤ 191)) (((Utf.cuts (a := a) (c := c.toNat) (by omega) (by assumption)).2).trans (congrArg not (Utf.within1 (by omega))))) ?_
              rintro _ H33 ⟨rfl, ox⟩
              have zc_H33 := (ox).1
              have o0 := o0.trans ox
              have sa1 := sa1.old ox
              have sa2 := sa2.old ox
              have sx := sx.old ox
              have sy := sy.old ox
              refine KL.op (R.move rfl rfl) rfl rfl rfl ?_
              refine KL.op (R.not rfl rfl) rfl rfl rfl ?_
              refine KL.op ((R.eqlB rfl Tryd.underlying4 rfl rfl).val (congrArg Value.bool (beq_self_eq_true _))) rfl rfl rfl ?_
              refine KL.op (R.pick rfl rfl rfl) rfl rfl rfl ?_
              refine KL.op (R.assign rfl rfl) rfl rfl rfl ?_
              refine KL.nil ?_
              refine KQ.seq ?_
              refine KC.ret ?_
              refine KQ.ofRet ?_
              refine KQ.fin1 Tryd.results6 rfl ?_
              exact ⟨rfl, o0⟩
            · intro hg50
              try simp only [decide_eq_true_eq, decide_eq_false_iff_not, Bool.not_eq_true', Bool.not_eq_false', Bool.and_eq_true, Bool.or_eq_false_iff] at hg50
              refine KL.skip rfl rfl rfl ?_
              refine KL.skip rfl rfl rfl ?_
              refine KL.skip rfl rfl rfl ?_
              refine KL.skip rfl rfl rfl ?_
              refine KL.op (R.pick rfl rfl rfl) rfl rfl rfl ?_
              refine KL.op (R.assign rfl rfl) rfl rfl rfl ?_
              refine KL.nil ?_
              refine KQ.seq ?_
              refine KC.seq ?_
              refine KC.region ?_
              refine KL.op (R.move rfl rfl) rfl rfl rfl ?_
              refine KL.op (R.move rfl rfl) rfl rfl rfl ?_
              refine KL.op (R.sliceStr (i := 0) (j := c.toNat) rfl Tryd.underlying9 rfl bnd.no (bnd.mk rfl (by omega)) (Nat.zero_le _) (by omega)) rfl rfl rfl ?_
              refine KL.opM (M.toBytes rfl Tryd.underlying9 Tryd.underlying22 Tryd.underlying5 rfl (by rw [ByteArray.size_extract]; omega)) rfl rfl rfl ?_
              rintro v34 H34 ⟨t34, e34, n34, z34⟩
              have o0 := o0.trans n34
              have sa1 := sa1.old n34
              have sa2 := sa2.old n34
              have sx := t34
              refine KL.call rfl rfl rfl rfl Tryd.call10 rfl rfl rfl (Valid_is _ _ sx (hT.old o0) (b := true) (((Utf.cuts (a := a) (c := c.toNat) (by omega) (by assumption)).1).trans (congrArg not (Utf.within0 (by omega))))) ?_
              rintro _ H35 ⟨rfl, ox⟩
              have zc_H35 := (ox).1
              have o0 := o0.trans ox
              have sa1 := sa1.old ox
              have sa2 := sa2.old ox
              have sx := sx.old ox
              refine KL.op (R.move rfl rfl) rfl rfl rfl ?_
              refine KL.op (R.not rfl rfl) rfl rfl rfl ?_
              refine KL.op (R.eqlB rfl Tryd.underlying4 rfl rfl) rfl rfl rfl ?_
              refine KL.op (R.move rfl rfl) rfl rfl rfl ?_
              refine KL.op (R.move rfl rfl) rfl rfl rfl ?_
              refine KL.op (R.move rfl rfl) rfl rfl rfl ?_
              refine KL.op (R.sliceStr (i := c.toNat) (j := a.size) rfl Tryd.underlying9 rfl (bnd.mk rfl (by omega)) bnd.no (by omega) (Nat.le_refl _)) rfl rfl rfl ?_
              refine KL.opM (M.toBytes rfl Tryd.underlying9 Tryd.underlying22 Tryd.underlying5 rfl (by rw [ByteArray.size_extract]; omega)) rfl rfl rfl ?_
              rintro v36 H36 ⟨t36, e36, n36, z36⟩
              have o0 := o0.trans n36
              have sa1 := sa1.old n36
              have sa2 := sa2.old n36
              have sx := sx.old n36
              have sy := t36
              refine KL.call rfl rfl rfl rfl Tryd.call10 rfl rfl rfl (Valid_is _ _ sy (hT.old o0) (b := true) (((Utf.cuts (a := a) (c := c.toNat) (by omega) (by assumption)).2).trans (congrArg not (Utf.within0 (by omega))))) ?_
              rintro _ H37 ⟨rfl, ox⟩
              have zc_H37 := (ox).1
              have o0 := o0.trans ox
              have sa1 := sa1.old ox
              have sa2 := sa2.old ox
              have sx := sx.old ox
              have sy := sy.old ox
              refine KL.op (R.move rfl rfl) rfl rfl rfl ?_
              refine KL.op (R.not rfl rfl) rfl rfl rfl ?_
              refine KL.op (R.eqlB rfl Tryd.underlying4 rfl rfl) rfl rfl rfl ?_
              refine KL.op (R.pick rfl rfl rfl) rfl rfl rfl ?_
              refine KL.op (R.assign rfl rfl) rfl rfl rfl ?_
              refine KL.nil ?_
              refine KQ.seq ?_
              refine KC.ret ?_
              refine KQ.ofRet ?_
              refine KQ.fin1 Tryd.results6 rfl ?_
              exact ⟨rfl, o0⟩


theorem tabU_laid {w : World} {row : List (String × DataW Unit)} (e : row = [("unicode/utf8.acceptRanges", Lib.acceptData), ("unicode/utf8.first", Lib.firstData)]) (h : laidMetH Tryd.prog row w) : TabU w.heap := by
  subst e
  rw [MakeChecks.laidMetH_plain _ _ _ (by kernel_rfl)] at h
  have h3 : Lib.VarReads Tryd.prog w "unicode/utf8.first" Lib.firstData := Lib.laidMet.reads h (by simp)
  have h4 : Lib.VarReads Tryd.prog w "unicode/utf8.acceptRanges" Lib.acceptData := Lib.laidMet.reads h (by simp)
  obtain ⟨g, t, cs, fuel, p, hg, hty, hvar, hd⟩ := h3
  obtain rfl := Option.some.inj ((show Tryd.prog.globalNamed "unicode/utf8.first" = some 0 by kernel_rfl).symm.trans hg)
  obtain rfl := Option.some.inj ((show (Tryd.prog.globals[0]?).map (·.type) = some 46 by kernel_rfl).symm.trans hty)
  have hcs := Lib.cells_of_tab Tryd.underlying46 Tryd.underlying5 (by kernel_rfl) (by kernel_rfl) hd
  obtain ⟨g', t', cs', fuel', p', hg', hty', hvar', hd'⟩ := h4
  obtain rfl := Option.some.inj ((show Tryd.prog.globalNamed "unicode/utf8.acceptRanges" = some 1 by kernel_rfl).symm.trans hg')
  obtain rfl := Option.some.inj ((show (Tryd.prog.globals[1]?).map (·.type) = some 49 by kernel_rfl).symm.trans hty')
  have key : ∀ i : Nat, i < 16 → (w.cell? ⟨1, i * 2, none⟩ = some (.int .u8 (Lib.accLo i : Nat)) ∧ w.cell? ⟨1, i * 2 + 1, none⟩ = some (.int .u8 (Lib.accHi i : Nat))) := by
    intro i hi
    obtain ⟨fuel2, d, q, hdi, he⟩ := Lib.array_elem Tryd.underlying49 hd' i hi
    simp only [List.getElem?_map, List.getElem?_range hi, Option.map_some, Option.some.injEq] at hdi
    subst hdi
    have hc2 : Tryd.prog.cellsOf 48 = 2 := by kernel_rfl
    have hc1 : Tryd.prog.cellsOf 5 = 1 := by kernel_rfl
    rw [hc2] at he
    have hw := Lib.ints_of_struct Tryd.underlying48 (fun j f hj => by
      match j, hj with
      | 0, hj => simp at hj; subst hj; exact ⟨Tryd.underlying5, rfl, hc1⟩
      | 1, hj => simp at hj; subst hj; exact ⟨Tryd.underlying5, rfl, hc1⟩
      | j + 2, hj => simp at hj) (by rw [hc2]; rfl) he
    have e0 := congrArg (·[0]?) hw
    have e1 := congrArg (·[1]?) hw
    simp only [List.getElem?_take, List.getElem?_drop] at e0 e1
    refine ⟨?_, ?_⟩
    · rw [World.var?_cell hg' hvar' (i * 2), ← Array.getElem?_toList]
      simpa using e0
    · rw [World.var?_cell hg' hvar' (i * 2 + 1), ← Array.getElem?_toList]
      simpa using e1
  refine ⟨fun c hc => ?_, fun i hi => ?_, fun i hi => ?_⟩
  · rw [← cell_w rfl, World.var?_cell hg hvar c, ← Array.getElem?_toList, hcs]
    simp [Lib.firstTab, hc]
  · rw [← cell_w rfl]; exact (key i hi).1
  · rw [← cell_w rfl]; exact (key i hi).2

end Go.Proofs.YtacbhlicdhhlnaaDoor
