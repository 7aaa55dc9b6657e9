/- A module's spaces: imports and exports. No condition. -/
import Derived.Test.YtbmikddaiedhiaaSpE
namespace Go.Proofs.Ytbmikddaiedhiaa
open Go Go.RowKit
set_option linter.unusedVariables false
set_option linter.unusedSimpArgs false
set_option linter.unnecessarySimpa false

def impK (s : Spc) : Nat → Nat
  | 0 => s.imp.1
  | 1 => s.imp.2.1
  | 2 => s.imp.2.2.1
  | 3 => s.imp.2.2.2
  | _ => 0
theorem impK_no {s : Spc} {k : Nat} (h : 3 < k) : impK s k = 0 := by
  match k, h with
  | k + 4, _ => rfl
theorem SP.impAt {H : Heap} {g : Nat} {vt vf vg va vm ve : Value} {s : Spc} (sp : SP H g vt vf vg va vm ve s) {k : Nat} (hk : k ≤ 3) : cellH H ((⟨g, 5, none⟩ : Addr).add (k * 1)) = some (.int .i64 (impK s k : Nat)) := by
  have h4 : k = 0 ∨ k = 1 ∨ k = 2 ∨ k = 3 := by omega
  have ep : (⟨g, 5, none⟩ : Addr).add (k * 1) = ⟨g, 5 + k, none⟩ := by unfold Addr.add; split <;> simp_all
  rw [ep]
  rcases h4 with rfl | rfl | rfl | rfl <;> exact cell_of sp.b rfl
theorem str_cmp (a b : ByteArray) : (a.toList == b.toList) = decide (a = b) := by
  by_cases h : a = b
  · subst h; simp
  · rw [decide_eq_false h, beq_eq_false_iff_ne]
    intro e
    apply h
    apply ByteArray.ext
    have := congrArg List.toArray e
    simpa [ByteArray.toList_eq] using this
def isE (nm : ByteArray) (k : Int) (x : Exp) : Bool := decide (x.nm = nm) && decide (x.k = k)
def findE (nm : ByteArray) (k : Int) (l : List Exp) : Option Exp := l.find? (isE nm k)
theorem find_at {α : Type} [Inhabited α] {l : List α} {p : α → Bool} {k : Nat} (hk : k < l.length) (h : p (l.getD k default) = true) (hno : ∀ j, j < k → p (l.getD j default) = false) : l.find? p = some (l.getD k default) := by
  rw [List.find?_eq_some_iff_getElem]
  have e : ∀ j, (hj : j < l.length) → l.getD j default = l[j] := fun j hj => by rw [List.getD_eq_getElem?_getD, List.getElem?_eq_getElem hj]; rfl
  refine ⟨h, k, hk, (e k hk).symm, fun j hj => ?_⟩
  have := hno j hj
  rw [e j (by omega)] at this
  rw [this]; rfl
theorem find_no {α : Type} [Inhabited α] {l : List α} {p : α → Bool} (hno : ∀ j, j < l.length → p (l.getD j default) = false) : l.find? p = none := by
  rw [List.find?_eq_none]
  intro x hx
  obtain ⟨j, hj, rfl⟩ := List.getElem_of_mem hx
  have := hno j hj
  rw [List.getD_eq_getElem?_getD, List.getElem?_eq_getElem hj] at this
  simp only [Option.getD_some] at this
  simp [this]
theorem Sl.expAt {H : Heap} {v : Value} {l : List Exp} (h : Sl 3 EExp H v l) (j : Nat) (hj : j < l.length) : CellsH H ((vbase v).add (j * 3)) [.string (l.getD j default).nm, .int .u8 (l.getD j default).k, .int .u32 (l.getD j default).ix] := by
  obtain ⟨cs, _, hc, rfl, hr⟩ := h.at j hj
  exact hc

set_option maxRecDepth 100000 in
set_option maxHeartbeats 4000000 in
theorem SImp_any {H : Heap} {g : Nat} {vt vf vg va vm ve : Value} {s : Spc} (sp : SP H g vt vf vg va vm ve s) (k : Nat) : Ct Try.prog 23 [.pointer (some ⟨g, 0, none⟩), .int .u8 (k : Nat)] H (fun u H' => u = .int .i64 (impK s k : Nat) ∧ H = H') := by
  refine Ct.mk Try.func23 rfl Try.ntmps23 rfl ?_
  intro W0 hW0
  have o0 : Old H H := Old.refl H
  refine KC.seq ?_
  refine KC.region ?_
  refine KL.op (R.assign rfl rfl) rfl rfl rfl ?_
  refine KL.nil ?_
  refine KQ.seq ?_
  refine KC.seq ?_
  refine KC.seq ?_
  refine KC.region ?_
  refine KL.op (R.move rfl rfl) rfl rfl rfl ?_
  refine KL.op ((R.eqlP rfl Try.underlying40 rfl rfl).val (show _ = Value.bool false from rfl)) rfl rfl rfl ?_
  refine KL.op (R.move rfl rfl) rfl rfl rfl ?_
  refine KL.op (R.move rfl rfl) rfl rfl rfl ?_
  refine KL.op (R.gtr rfl rfl rfl) rfl rfl rfl ?_
  refine KL.op (R.pick rfl rfl rfl) rfl rfl rfl ?_
  refine KL.nil ?_
  refine KQ.seq ?_
  refine KC.iteL rfl ?_ ?_
  · intro hc10
    try simp only [decide_eq_true_eq, decide_eq_false_iff_not, Bool.not_eq_true', Bool.not_eq_false', Bool.and_eq_true, Bool.or_eq_false_iff] at hc10
    refine KC.seq ?_
    refine KC.region ?_
    refine KL.op (R.assign rfl rfl) rfl rfl rfl ?_
    refine KL.nil ?_
    refine KQ.seq ?_
    refine KC.ret ?_
    refine KQ.retThen ?_
    refine KQ.ofRet ?_
    refine KQ.fin1 Try.results23 rfl ?_
    first
      | exact ⟨rfl, rfl⟩
      | exact ⟨by rw [impK_no (by omega)]; rfl, rfl⟩
  · intro hc10
    try simp only [decide_eq_true_eq, decide_eq_false_iff_not, Bool.not_eq_true', Bool.not_eq_false', Bool.and_eq_true, Bool.or_eq_false_iff] at hc10
    refine KC.skip ?_
    refine KQ.seq ?_
    refine KC.seq ?_
    refine KC.region ?_
    refine KL.op (R.move rfl rfl) rfl rfl rfl ?_
    refine KL.op (R.move rfl rfl) rfl rfl rfl ?_
    refine KL.op (R.nilCheck rfl rfl) rfl rfl rfl ?_
    refine KL.op ((by first | exact R.fieldAddr rfl Try.underlying74 rfl rfl sz72 rfl | exact R.fieldAddrP rfl Try.underlying74 rfl rfl sz72 rfl)) rfl rfl rfl ?_
    refine KL.op (R.indexAddrArr (j := k) rfl Try.underlying72 sz3 rfl rfl (by first | rfl | omega) (by omega)) rfl rfl rfl ?_
    refine KL.op (R.load (v := .int .i64 (impK s k : Nat)) rfl Try.underlying3 rfl rfl (sp.impAt (k := k) (by omega))) rfl rfl rfl ?_
    refine KL.op (R.assign rfl rfl) rfl rfl rfl ?_
    refine KL.nil ?_
    refine KQ.seq ?_
    refine KC.ret ?_
    refine KQ.ofRet ?_
    refine KQ.fin1 Try.results23 rfl ?_
    first
      | exact ⟨rfl, rfl⟩
      | exact ⟨by rw [impK_no (by omega)]; rfl, rfl⟩

set_option maxRecDepth 100000 in
set_option maxHeartbeats 4000000 in
theorem SExp_any {H : Heap} {g : Nat} {vt vf vg va vm ve : Value} {s : Spc} (sp : SP H g vt vf vg va vm ve s) (nm : ByteArray) (kd : Int) : Ct Try.prog 19 [.pointer (some ⟨g, 0, none⟩), .string nm, .int .u8 kd] H (fun u H' => u = .tuple #[.int .u32 ((findE nm kd s.exports).elim 0 (·.ix)), .bool (findE nm kd s.exports).isSome] ∧ Old H H') := by
  refine Ct.mk Try.func19 rfl Try.ntmps19 rfl ?_
  intro W0 hW0
  have o0 : Old H H := Old.refl H
  have sp0 := sp
  have hlm := sp.e.lenM
  unfold maxLen at hlm
  refine KC.seq ?_
  refine KC.region ?_
  refine KL.op (R.assign rfl rfl) rfl rfl rfl ?_
  refine KL.op (R.assign rfl rfl) rfl rfl rfl ?_
  refine KL.nil ?_
  refine KQ.seq ?_
  refine KC.seq ?_
  refine KC.seq ?_
  refine KC.region ?_
  refine KL.op (R.move rfl rfl) rfl rfl rfl ?_
  refine KL.op ((R.eqlP rfl Try.underlying40 rfl rfl).val (show _ = Value.bool false from rfl)) rfl rfl rfl ?_
  refine KL.nil ?_
  refine KQ.seq ?_
  refine KC.condF rfl ?_
  refine KC.skip ?_
  refine KQ.seq ?_
  refine KC.seq ?_
  refine KC.seq ?_
  refine KC.region ?_
  refine KL.op (R.move rfl rfl) rfl rfl rfl ?_
  refine KL.op (R.nilCheck rfl rfl) rfl rfl rfl ?_
  refine KL.op ((by first | exact R.fieldAddr rfl Try.underlying74 rfl rfl sz32 rfl | exact R.fieldAddrP rfl Try.underlying74 rfl rfl sz32 rfl)) rfl rfl rfl ?_
  refine KL.op (R.load rfl Try.underlying32 rfl rfl (by first | exact cell_of sp.b rfl | exact cell_of b9x rfl | assumption)) rfl rfl rfl ?_
  refine KL.op (R.lenS rfl Try.underlying32 rfl sp.e) rfl rfl rfl ?_
  refine KL.op (R.move rfl rfl) rfl rfl rfl ?_
  refine KL.nil ?_
  refine KQ.seq ?_
  refine KC.block ?_
  refine KC.loopD (κ := Nat) [18, 19, 20, 9, 21, 22, 23, 24, 25, 26, 27, 28, 29, 30, 31, 32, 6, 7, 33, 17] (fun k => [(17, .int .i64 (k : Nat))]) (fun k Hl => k ≤ s.exports.length ∧ Old H Hl ∧ ∀ j, j < k → isE nm kd (s.exports.getD j default) = false) (fun k => s.exports.length - k) 0 ?_ ?_ ?_
  · exact (Sub.cons rfl (Ext.sub (Ext.refl _ _)))
  · exact ⟨Nat.zero_le _, o0, fun j hj => by omega⟩
  · rintro k H1 ⟨hk, o0, hno⟩
    have zl_H1 := o0.1
    have zl := o0.1
    have sp := sp0.old o0
    refine KC.seq ?_
    refine KC.region ?_
    refine KL.op (R.lss rfl rfl rfl) rfl rfl rfl ?_
    refine KL.nil ?_
    refine KQ.seq ?_
    refine KC.seq ?_
    refine KC.iteL rfl ?_ ?_
    · intro hc18
      try simp only [decide_eq_true_eq, decide_eq_false_iff_not, Bool.not_eq_true', Bool.not_eq_false', Bool.and_eq_true, Bool.or_eq_false_iff] at hc18
      have hcx := sp.e.expAt k (by omega)
      refine KC.skip ?_
      refine KQ.seq ?_
      refine KC.seq ?_
      refine KC.block ?_
      refine KC.seq ?_
      refine KC.region ?_
      refine KL.op (R.index (j := k) rfl Try.underlying32 sz69 rfl rfl sp.e rfl (by omega)) rfl rfl rfl ?_
      refine KL.op (R.loadAgg rfl Try.underlying69 rfl sz69 rfl hcx rfl) rfl rfl rfl ?_
      refine KL.opM (M.alloc rfl zr69 rfl) rfl rfl rfl ?_
      rintro _ H2 ⟨rfl, n2⟩
      have z2 := n2.2.1
      have o0 := o0.trans n2.1
      have sp := sp.old n2.1
      have b2 := n2.2.2
      have b9x := b2
      refine KL.opS (S.storeAgg rfl sz69 rfl rfl (rfl) (by intro u hu; simp only [List.mem_cons, List.not_mem_nil, or_false] at hu; rcases hu with rfl | rfl | rfl <;> rfl) b9x (by simp)) rfl rfl ?_
      rintro H3 ⟨u3, b3⟩
      have o0 := o0.upd u3 (by omega)
      have zu3 := u3.1
      have b9x := b3
      rw [over_all (by rfl)] at b9x
      refine KL.nil ?_
      refine KQ.seq ?_
      refine KC.seq ?_
      refine KC.region ?_
      refine KL.op ((by first | exact R.fieldAddr rfl Try.underlying69 rfl rfl sz9 rfl | exact R.fieldAddrP rfl Try.underlying69 rfl rfl sz9 rfl)) rfl rfl rfl ?_
      refine KL.op (R.load rfl Try.underlying9 rfl rfl (by first | exact cell_of sp.b rfl | exact cell_of b9x rfl | exact cell_of b9x rfl | assumption)) rfl rfl rfl ?_
      refine KL.op (R.move rfl rfl) rfl rfl rfl ?_
      refine KL.op ((R.eqlStr rfl rfl rfl).val (congrArg Value.bool (str_cmp _ _))) rfl rfl rfl ?_
      refine KL.op (R.move rfl rfl) rfl rfl rfl ?_
      refine KL.case (d := 25) rfl ?_ ?_
      · intro hg25
        try simp only [decide_eq_true_eq, decide_eq_false_iff_not, Bool.not_eq_true', Bool.not_eq_false', Bool.and_eq_true, Bool.or_eq_false_iff] at hg25
        refine KL.op ((by first | exact R.fieldAddr rfl Try.underlying69 rfl rfl sz5 rfl | exact R.fieldAddrP rfl Try.underlying69 rfl rfl sz5 rfl)) rfl rfl rfl ?_
        refine KL.op (R.load rfl Try.underlying5 rfl rfl (by first | exact cell_of sp.b rfl | exact cell_of b9x rfl | exact cell_of b9x rfl | assumption)) rfl rfl rfl ?_
        refine KL.op (R.move rfl rfl) rfl rfl rfl ?_
        refine KL.op (R.eql rfl rfl rfl) rfl rfl rfl ?_
        refine KL.op (R.pick rfl rfl rfl) rfl rfl rfl ?_
        refine KL.nil ?_
        refine KQ.seq ?_
        refine KC.iteL rfl ?_ ?_
        · intro hc30
          try simp only [decide_eq_true_eq, decide_eq_false_iff_not, Bool.not_eq_true', Bool.not_eq_false', Bool.and_eq_true, Bool.or_eq_false_iff] at hc30
          refine KC.seq ?_
          refine KC.region ?_
          refine KL.op ((by first | exact R.fieldAddr rfl Try.underlying69 rfl rfl sz33 rfl | exact R.fieldAddrP rfl Try.underlying69 rfl rfl sz33 rfl)) rfl rfl rfl ?_
          refine KL.op (R.load rfl Try.underlying33 rfl rfl (by first | exact cell_of sp.b rfl | exact cell_of b9x rfl | exact cell_of b9x rfl | assumption)) rfl rfl rfl ?_
          refine KL.op (R.assign rfl rfl) rfl rfl rfl ?_
          refine KL.op (R.assign rfl rfl) rfl rfl rfl ?_
          refine KL.nil ?_
          refine KQ.seq ?_
          refine KC.ret ?_
          refine KQ.retBlock ?_
          refine KQ.retThen ?_
          refine KQ.retThen ?_
          refine KQ.retBlock ?_
          refine KQ.retThen ?_
          refine KQ.ofRet ?_
          refine KQ.fin2 Try.results19 rfl rfl ?_
          first
            | (have hf : findE nm kd s.exports = some (s.exports.getD k default) := find_at (by omega) (by unfold isE; simp_all) hno
               exact ⟨by rw [hf]; rfl, o0⟩)
            | (have hf : findE nm kd s.exports = none := find_no (fun j hj => hno j (by omega))
               exact ⟨by rw [hf]; rfl, o0⟩)
        · intro hc30
          try simp only [decide_eq_true_eq, decide_eq_false_iff_not, Bool.not_eq_true', Bool.not_eq_false', Bool.and_eq_true, Bool.or_eq_false_iff] at hc30
          refine KC.skip ?_
          refine KQ.normBlock ?_
          refine KQ.seq ?_
          refine KC.region ?_
          refine KL.op ((R.add rfl rfl rfl (by dsimp only [InR]; omega)).val (congrArg (Value.int .i64) (show (k : Int) + 1 = ((k + 1 : Nat) : Int) by omega))) rfl rfl rfl ?_
          refine KL.op (R.move rfl rfl) rfl rfl rfl ?_
          refine KL.nil ?_
          refine KQ.again (k + 1) ?_ ?_ ?_
          · exact (Sub.cons rfl (Ext.sub (by repeat (first | exact Ext.refl _ _ | refine Ext.put rfl ?_ | refine Ext.drop rfl ?_))))
          · omega
          · exact ⟨by omega, o0, fun j hj => by
              by_cases e : j = k
              · subst e; unfold isE; simp_all
              · exact hno j (by omega)⟩
      · intro hg25
        try simp only [decide_eq_true_eq, decide_eq_false_iff_not, Bool.not_eq_true', Bool.not_eq_false', Bool.and_eq_true, Bool.or_eq_false_iff] at hg25
        refine KL.skip rfl rfl rfl ?_
        refine KL.skip rfl rfl rfl ?_
        refine KL.skip rfl rfl rfl ?_
        refine KL.skip rfl rfl rfl ?_
        refine KL.op (R.pick rfl rfl rfl) rfl rfl rfl ?_
        refine KL.nil ?_
        refine KQ.seq ?_
        refine KC.condF rfl ?_
        refine KC.skip ?_
        refine KQ.normBlock ?_
        refine KQ.seq ?_
        refine KC.region ?_
        refine KL.op ((R.add rfl rfl rfl (by dsimp only [InR]; omega)).val (congrArg (Value.int .i64) (show (k : Int) + 1 = ((k + 1 : Nat) : Int) by omega))) rfl rfl rfl ?_
        refine KL.op (R.move rfl rfl) rfl rfl rfl ?_
        refine KL.nil ?_
        refine KQ.again (k + 1) ?_ ?_ ?_
        · exact (Sub.cons rfl (Ext.sub (by repeat (first | exact Ext.refl _ _ | refine Ext.put rfl ?_ | refine Ext.drop rfl ?_))))
        · omega
        · exact ⟨by omega, o0, fun j hj => by
            by_cases e : j = k
            · subst e; unfold isE; simp_all
            · exact hno j (by omega)⟩
    · intro hc18
      try simp only [decide_eq_true_eq, decide_eq_false_iff_not, Bool.not_eq_true', Bool.not_eq_false', Bool.and_eq_true, Bool.or_eq_false_iff] at hc18
      refine KC.exit ?_
      refine KQ.exitThen ?_
      refine KQ.exitThen ?_
      refine KQ.hit ?_
      refine KQ.seq ?_
      refine KC.seq ?_
      refine KC.region ?_
      refine KL.op (R.assign rfl rfl) rfl rfl rfl ?_
      refine KL.op (R.assign rfl rfl) rfl rfl rfl ?_
      refine KL.nil ?_
      refine KQ.seq ?_
      refine KC.ret ?_
      refine KQ.ofRet ?_
      refine KQ.fin2 Try.results19 rfl rfl ?_
      first
        | (have hf : findE nm kd s.exports = some (s.exports.getD k default) := find_at (by omega) (by unfold isE; simp_all) hno
           exact ⟨by rw [hf]; rfl, o0⟩)
        | (have hf : findE nm kd s.exports = none := find_no (fun j hj => hno j (by omega))
           exact ⟨by rw [hf]; rfl, o0⟩)

end Go.Proofs.Ytbmikddaiedhiaa
