/- Imports of a kind are sifted. No condition but sizes. -/
import Derived.Test.YtbmikddaiedhiaaSpB
namespace Go.Proofs.Ytbmikddaiedhiaa
open Go Go.RowKit
set_option linter.unusedVariables false
set_option linter.unusedSimpArgs false
set_option linter.unnecessarySimpa false

/-- of a kind -/
def isK (k : Int) (x : Imp) : Bool := decide (x.k = k)
/-- those of a kind -/
def ofK (k : Int) (l : List Imp) : List Imp := l.filter (isK k)
theorem take_succ {α : Type} [Inhabited α] {l : List α} {k : Nat} (h : k < l.length) : l.take (k + 1) = l.take k ++ [l.getD k default] := by
  rw [List.take_add_one, List.getElem?_eq_getElem h, List.getD_eq_getElem?_getD, List.getElem?_eq_getElem h]; rfl
theorem ofK_step {k : Int} {l : List Imp} {j : Nat} (h : j < l.length) : ofK k (l.take (j + 1)) = ofK k (l.take j) ++ (if isK k (l.getD j default) = true then [l.getD j default] else []) := by
  unfold ofK
  rw [take_succ h, List.filter_append]
  congr 1
  simp only [List.filter_cons, List.filter_nil]
theorem ofK_all {k : Int} {l : List Imp} {j : Nat} (hj : j ≤ l.length) (h : ∀ i, i < j → isK k (l.getD i default) = true) : ofK k (l.take j) = l.take j := by
  unfold ofK
  rw [List.filter_eq_self]
  intro x hx
  obtain ⟨i, hi, rfl⟩ := List.getElem_of_mem hx
  rw [List.length_take] at hi
  have := h i (by omega)
  rw [List.getD_eq_getElem?_getD, List.getElem?_eq_getElem (by omega)] at this
  rw [List.getElem_take]; exact this
theorem ofK_len {k : Int} {l : List Imp} : (ofK k l).length ≤ l.length := List.length_filter_le _ _
/-- the list that is being sifted: i are kept, j are seen -/
structure Sift (k : Int) (l m : List Imp) (i j : Nat) : Prop where
  len : m.length = l.length
  le : i ≤ j ∧ j ≤ l.length
  ahead : m.take i = ofK k (l.take j)
  behind : ∀ t, j ≤ t → m.getD t default = l.getD t default
theorem Sift.start {k : Int} {l : List Imp} {j : Nat} (hj : j < l.length) (h : ∀ i, i < j → isK k (l.getD i default) = true) (hn : isK k (l.getD j default) = false) : Sift k l l j (j + 1) :=
  ⟨rfl, by omega, by rw [ofK_step hj, ofK_all (by omega) h, hn]; simp, fun _ _ => rfl⟩
theorem Sift.drop {k : Int} {l m : List Imp} {i j : Nat} (h : Sift k l m i j) (hj : j < l.length) (hn : isK k (l.getD j default) = false) : Sift k l m i (j + 1) :=
  ⟨h.len, by have := h.le; omega, by rw [ofK_step hj, hn, h.ahead]; simp, fun t ht => h.behind t (by omega)⟩
theorem Sift.keep {k : Int} {l m : List Imp} {i j : Nat} (h : Sift k l m i j) (hj : j < l.length) (hn : isK k (l.getD j default) = true) : Sift k l (m.set i (l.getD j default)) (i + 1) (j + 1) := by
  have hl := h.le
  have hm := h.len
  refine ⟨by rw [List.length_set]; exact hm, by omega, ?_, fun t ht => ?_⟩
  · rw [ofK_step hj, hn, ← h.ahead, take_succ (by rw [List.length_set]; omega)]
    congr 1
    · rw [List.take_set_of_le (Nat.le_refl _)]
    · simp only [if_true]
      rw [List.getD_eq_getElem?_getD, List.getElem?_set_self (by omega)]; rfl
  · rw [List.getD_eq_getElem?_getD, List.getElem?_set_ne (by omega), ← List.getD_eq_getElem?_getD]
    exact h.behind t (by omega)
theorem Sl.impAt {H : Heap} {v : Value} {l : List Imp} (h : Sl 8 EImp H v l) (j : Nat) (hj : j < l.length) : CellsH H ((vbase v).add (j * 8)) (l.getD j default).cells ∧ (l.getD j default).R := by
  obtain ⟨cs, _, hc, rfl, hr⟩ := h.at j hj
  exact ⟨hc, hr⟩
theorem Own.not_nilS {α : Type} {n : Nat} {E : El α} {e : TypeId} {H0 H : Heap} {B : Nat} {v : Value} {l : List α} (h : Own n E e H0 B H v l) (hl : 0 < l.length) : v ≠ .slice none 0 0 := by
  rintro rfl
  obtain ⟨a, cap, e, _⟩ := h.val
  injection e with e1 e2
  omega
theorem kind_one {x : Imp} : ∀ u ∈ x.cells, u.oneCell' = true := by
  intro u hu
  simp only [Imp.cells, List.mem_cons, List.not_mem_nil, or_false] at hu
  rcases hu with rfl | rfl | rfl | rfl | rfl | rfl | rfl | rfl <;> rfl

set_option maxRecDepth 100000 in
set_option maxHeartbeats 4000000 in
theorem kind0 {H : Heap} (x : Imp) : Ct Try.prog 30 [.agg x.cells.toArray] H (fun u H' => u = .bool (isK 0 x) ∧ Old H H') := by
  refine Ct.mk Try.func30 rfl Try.ntmps30 rfl ?_
  intro W0 hW0
  have o0 : Old H H := Old.refl H
  unfold Imp.cells
  refine KC.seq ?_
  refine KC.region ?_
  refine KL.opM (M.box rfl rfl rfl) rfl rfl rfl ?_
  rintro _ H1 ⟨rfl, n1⟩
  have z1 := n1.2.1
  have o0 := o0.trans n1.1
  have b1 := n1.2.2
  have bx := b1
  refine KL.op (R.assign rfl rfl) rfl rfl rfl ?_
  refine KL.nil ?_
  refine KQ.seq ?_
  refine KC.seq ?_
  refine KC.region ?_
  refine KL.op ((by first | exact R.fieldAddr rfl Try.underlying78 rfl rfl sz5 rfl | exact R.fieldAddrP rfl Try.underlying78 rfl rfl sz5 rfl)) rfl rfl rfl ?_
  refine KL.op (R.load rfl Try.underlying5 rfl rfl (by first | exact cell_of bx rfl | assumption)) rfl rfl rfl ?_
  refine KL.op (R.eql rfl rfl rfl) rfl rfl rfl ?_
  refine KL.op (R.assign rfl rfl) rfl rfl rfl ?_
  refine KL.nil ?_
  refine KQ.seq ?_
  refine KC.ret ?_
  refine KQ.ofRet ?_
  refine KQ.fin1 Try.results30 rfl ?_
  exact ⟨rfl, o0⟩

set_option maxRecDepth 100000 in
set_option maxHeartbeats 4000000 in
theorem of1_0 {H : Heap} {g : Nat} (x : Imp) (bg : H[g]? = some (.cells [.func (.func 30) #[] #[]].toArray 77 (0, 0))) : Ct Try.prog 43 [.agg x.cells.toArray, .pointer (some ⟨g, 0, none⟩)] H (fun u H' => u = .bool (!isK 0 x) ∧ Old H H') := by
  refine Ct.mk Try.func43 rfl Try.ntmps43 rfl ?_
  intro W0 hW0
  have o0 : Old H H := Old.refl H
  refine KC.seq ?_
  refine KC.region ?_
  refine KL.opM (M.box (cs := x.cells) rfl rfl rfl) rfl rfl rfl ?_
  rintro _ H1 ⟨rfl, n1⟩
  have z1 := n1.2.1
  have o0 := o0.trans n1.1
  have bg := (n1.1).blk bg
  have b1 := n1.2.2
  have bx := b1
  refine KL.op (R.assign rfl rfl) rfl rfl rfl ?_
  refine KL.nil ?_
  refine KQ.seq ?_
  refine KC.seq ?_
  refine KC.region ?_
  refine KL.op (R.load rfl Try.underlying77 rfl rfl (by first | exact cell_of bg rfl | exact cell_of bx rfl | assumption)) rfl rfl rfl ?_
  refine KL.op (R.loadAgg rfl Try.underlying63 rfl sz63 rfl (cells_of bx) rfl) rfl rfl rfl ?_
  refine KL.call rfl rfl rfl rfl Try.call30 rfl rfl rfl (kind0 x) ?_
  rintro _ H2 ⟨rfl, ox⟩
  have zc_H2 := (ox).1
  have o0 := o0.trans ox
  have bg := (ox).blk bg
  have bx := (ox).blk bx
  refine KL.op (R.not rfl rfl) rfl rfl rfl ?_
  refine KL.op (R.assign rfl rfl) rfl rfl rfl ?_
  refine KL.nil ?_
  refine KQ.seq ?_
  refine KC.ret ?_
  refine KQ.ofRet ?_
  refine KQ.fin1 Try.results43 rfl ?_
  exact ⟨rfl, o0⟩

set_option maxRecDepth 100000 in
set_option maxHeartbeats 4000000 in
theorem idx_0 {H : Heap} {g : Nat} {v : Value} {l : List Imp} (hs0 : Sl 8 EImp H v l) (hl : l.length ≤ 100000000000) (bg : H[g]? = some (.cells [.func (.func 30) #[] #[]].toArray 77 (0, 0))) : Ct Try.prog 44 [v, .func (.func 43) #[] #[.pointer (some ⟨g, 0, none⟩)]] H (fun u H' => ((u = .int .i64 (-1) ∧ ∀ i, i < l.length → isK 0 (l.getD i default) = true) ∨ ∃ j, u = .int .i64 (j : Nat) ∧ j < l.length ∧ (∀ i, i < j → isK 0 (l.getD i default) = true) ∧ isK 0 (l.getD j default) = false) ∧ Old H H') := by
  refine Ct.mk Try.func44 rfl Try.ntmps44 rfl ?_
  intro W0 hW0
  have o0 : Old H H := Old.refl H
  have hs := hs0
  refine KC.seq ?_
  refine KC.region ?_
  refine KL.op (R.assign rfl rfl) rfl rfl rfl ?_
  refine KL.nil ?_
  refine KQ.seq ?_
  refine KC.seq ?_
  refine KC.seq ?_
  refine KC.region ?_
  refine KL.op (R.move rfl rfl) rfl rfl rfl ?_
  refine KL.op (R.lenS rfl Try.underlying28 rfl hs) rfl rfl rfl ?_
  refine KL.op (R.move rfl rfl) rfl rfl rfl ?_
  refine KL.nil ?_
  refine KQ.seq ?_
  refine KC.block ?_
  refine KC.loopD (κ := Nat) [9, 10, 5, 11, 12, 13, 14, 15, 16, 17, 4, 18, 8] (fun k => [(8, .int .i64 (k : Nat))]) (fun k Hl => k ≤ l.length ∧ Old H Hl ∧ ∀ i, i < k → isK 0 (l.getD i default) = true) (fun k => l.length - k) 0 ?_ ?_ ?_
  · exact (Sub.cons rfl (Ext.sub (Ext.refl _ _)))
  · exact ⟨Nat.zero_le _, o0, fun i hi => by omega⟩
  · rintro k H1 ⟨hk, o0, hall⟩
    have zl_H1 := o0.1
    have zl := o0.1
    have hs := hs0.old o0
    have bg := o0.blk bg
    refine KC.seq ?_
    refine KC.region ?_
    refine KL.op (R.lss rfl rfl rfl) rfl rfl rfl ?_
    refine KL.nil ?_
    refine KQ.seq ?_
    refine KC.seq ?_
    refine KC.iteL rfl ?_ ?_
    · intro hc9
      try simp only [decide_eq_true_eq, decide_eq_false_iff_not, Bool.not_eq_true', Bool.not_eq_false', Bool.and_eq_true, Bool.or_eq_false_iff] at hc9
      obtain ⟨hcx, hxr⟩ := hs.impAt k (by omega)
      refine KC.skip ?_
      refine KQ.seq ?_
      refine KC.seq ?_
      refine KC.block ?_
      refine KC.seq ?_
      refine KC.region ?_
      refine KL.op (R.move rfl rfl) rfl rfl rfl ?_
      refine KL.op (R.assign rfl rfl) rfl rfl rfl ?_
      refine KL.nil ?_
      refine KQ.seq ?_
      refine KC.seq ?_
      refine KC.region ?_
      refine KL.op (R.move rfl rfl) rfl rfl rfl ?_
      refine KL.op (R.move rfl rfl) rfl rfl rfl ?_
      refine KL.op (R.move rfl rfl) rfl rfl rfl ?_
      refine KL.op (R.index (j := k) rfl Try.underlying28 sz63 rfl rfl hs rfl (by omega)) rfl rfl rfl ?_
      refine KL.op (R.loadAgg rfl Try.underlying63 rfl sz63 rfl hcx rfl) rfl rfl rfl ?_
      refine KL.call rfl rfl rfl rfl Try.call43 rfl rfl rfl (of1_0 (l.getD k default) bg) ?_
      rintro _ H2 ⟨rfl, ox⟩
      have zc_H2 := (ox).1
      have o0 := o0.trans ox
      have hs := hs.old ox
      have bg := (ox).blk bg
      refine KL.nil ?_
      refine KQ.seq ?_
      refine KC.iteL rfl ?_ ?_
      · intro hc16
        try simp only [decide_eq_true_eq, decide_eq_false_iff_not, Bool.not_eq_true', Bool.not_eq_false', Bool.and_eq_true, Bool.or_eq_false_iff] at hc16
        refine KC.seq ?_
        refine KC.region ?_
        refine KL.op (R.move rfl rfl) rfl rfl rfl ?_
        refine KL.op (R.assign rfl rfl) rfl rfl rfl ?_
        refine KL.nil ?_
        refine KQ.seq ?_
        refine KC.ret ?_
        refine KQ.retBlock ?_
        refine KQ.retThen ?_
        refine KQ.retThen ?_
        refine KQ.retBlock ?_
        refine KQ.retThen ?_
        refine KQ.ofRet ?_
        refine KQ.fin1 Try.results44 rfl ?_
        first
          | exact ⟨.inr ⟨k, rfl, by omega, hall, by simpa using hc16⟩, o0⟩
          | exact ⟨.inl ⟨rfl, fun i hi => hall i (by omega)⟩, o0⟩
      · intro hc16
        try simp only [decide_eq_true_eq, decide_eq_false_iff_not, Bool.not_eq_true', Bool.not_eq_false', Bool.and_eq_true, Bool.or_eq_false_iff] at hc16
        refine KC.skip ?_
        refine KQ.normBlock ?_
        refine KQ.seq ?_
        refine KC.region ?_
        refine KL.op ((R.add rfl rfl rfl (by dsimp only [InR]; omega)).val (congrArg (Value.int .i64) (show (k : Int) + 1 = ((k + 1 : Nat) : Int) by omega))) rfl rfl rfl ?_
        refine KL.op (R.move rfl rfl) rfl rfl rfl ?_
        refine KL.nil ?_
        refine KQ.again (k + 1) ?_ ?_ ?_
        · exact (Sub.cons rfl (Ext.sub (by repeat (first | exact Ext.refl _ _ | refine Ext.put rfl ?_ | refine Ext.drop rfl ?_))))
        · omega
        · exact ⟨by omega, o0, fun i hi => by
            by_cases e : i = k
            · subst e; simpa using hc16
            · exact hall i (by omega)⟩
    · intro hc9
      try simp only [decide_eq_true_eq, decide_eq_false_iff_not, Bool.not_eq_true', Bool.not_eq_false', Bool.and_eq_true, Bool.or_eq_false_iff] at hc9
      refine KC.exit ?_
      refine KQ.exitThen ?_
      refine KQ.exitThen ?_
      refine KQ.hit ?_
      refine KQ.seq ?_
      refine KC.seq ?_
      refine KC.region ?_
      refine KL.op (R.assign rfl rfl) rfl rfl rfl ?_
      refine KL.nil ?_
      refine KQ.seq ?_
      refine KC.ret ?_
      refine KQ.ofRet ?_
      refine KQ.fin1 Try.results44 rfl ?_
      first
        | exact ⟨.inr ⟨k, rfl, by omega, hall, by simpa using hc16⟩, o0⟩
        | exact ⟨.inl ⟨rfl, fun i hi => hall i (by omega)⟩, o0⟩

set_option maxRecDepth 100000 in
set_option maxHeartbeats 4000000 in
theorem del_0 {H : Heap} {g B : Nat} {v : Value} {l : List Imp} (ow0 : Own 8 EImp 63 #[] B H v l) (hB : B ≤ H.size) (hgv : v = .slice none 0 0 ∨ vblock v ≠ g) (hl : l.length ≤ 100000000000) (bg : H[g]? = some (.cells [.func (.func 30) #[] #[]].toArray 77 (0, 0))) : Ct Try.prog 41 [v, .func (.func 43) #[] #[.pointer (some ⟨g, 0, none⟩)]] H (fun u H' => Own 8 EImp 63 #[] B H' u (ofK 0 l) ∧ OldB B H H') := by
  refine Ct.mk Try.func41 rfl Try.ntmps41 rfl ?_
  intro W0 hW0
  have o0 : OldB B H H := OldB.refl _ H
  have ow := ow0
  have bg0 := bg
  have hgl := blk_lt bg
  refine KC.seq ?_
  refine KC.region ?_
  refine KL.op (R.assign rfl rfl) rfl rfl rfl ?_
  refine KL.nil ?_
  refine KQ.seq ?_
  refine KC.seq ?_
  refine KC.region ?_
  refine KL.op (R.move rfl rfl) rfl rfl rfl ?_
  refine KL.op (R.move rfl rfl) rfl rfl rfl ?_
  have hs := ow.sl (emptyOld _) (by omega)
  have hwl := ow.lt
  refine KL.call rfl rfl rfl rfl Try.call44 rfl rfl rfl (idx_0 hs hl bg) ?_
  rintro u H1 ⟨hR, ox⟩
  rcases hR with ⟨rfl, hall⟩ | ⟨j0, rfl, hj0, hall, hj1⟩
  · skip
    have o0 := o0.trans ((ox).b (by omega))
    have ow := ow.old ox
    have bg := (ox).blk bg
    have zox := ox.1
    refine KL.op (R.assign rfl rfl) rfl rfl rfl ?_
    refine KL.nil ?_
    refine KQ.seq ?_
    refine KC.seq ?_
    refine KC.seq ?_
    refine KC.region ?_
    refine KL.op (R.move rfl rfl) rfl rfl rfl ?_
    refine KL.op ((R.eql rfl rfl rfl).val (congrArg Value.bool (decide_eq_true (by rfl)))) rfl rfl rfl ?_
    refine KL.nil ?_
    refine KQ.seq ?_
    refine KC.condT rfl ?_
    refine KC.seq ?_
    refine KC.region ?_
    refine KL.op (R.move rfl rfl) rfl rfl rfl ?_
    refine KL.op (R.assign rfl rfl) rfl rfl rfl ?_
    refine KL.nil ?_
    refine KQ.seq ?_
    refine KC.ret ?_
    refine KQ.retThen ?_
    refine KQ.ofRet ?_
    refine KQ.fin1 Try.results41 rfl ?_
    first
      | (have e : ofK 0 l = l := by have := ofK_all (k := 0) (Nat.le_refl l.length) hall; rwa [List.take_length] at this
         rw [e]; exact ⟨ow, o0⟩)
      | (have ha := hsf.ahead
         rw [hjl, List.take_length] at ha
         rw [← ha]; exact ⟨owc, o0⟩)
  · skip
    have o0 := o0.trans ((ox).b (by omega))
    have ow := ow.old ox
    have bg := (ox).blk bg
    have zox := ox.1
    have owS := ow
    refine KL.op (R.assign rfl rfl) rfl rfl rfl ?_
    refine KL.nil ?_
    refine KQ.seq ?_
    refine KC.seq ?_
    refine KC.seq ?_
    refine KC.region ?_
    refine KL.op (R.move rfl rfl) rfl rfl rfl ?_
    refine KL.op ((R.eql rfl rfl rfl).val (congrArg Value.bool (decide_eq_false (by omega)))) rfl rfl rfl ?_
    refine KL.nil ?_
    refine KQ.seq ?_
    refine KC.condF rfl ?_
    refine KC.skip ?_
    refine KQ.seq ?_
    refine KC.seq ?_
    refine KC.seq ?_
    refine KC.region ?_
    refine KL.op (R.move rfl rfl) rfl rfl rfl ?_
    refine KL.op ((R.add rfl rfl rfl (by dsimp only [InR]; omega)).val (congrArg (Value.int .i64) (show (j0 : Int) + 1 = ((j0 + 1 : Nat) : Int) by omega))) rfl rfl rfl ?_
    refine KL.op (R.assign rfl rfl) rfl rfl rfl ?_
    refine KL.nil ?_
    refine KQ.seq ?_
    refine KC.block ?_
    refine KC.loopD (κ := Nat × Nat × List Imp) [16, 17, 18, 19, 22, 23, 24, 25, 7, 26, 27, 28, 29, 30, 31, 32, 33, 34, 35, 5, 20, 21, 6] (fun k => [(5, .int .i64 (k.1 : Nat)), (6, .int .i64 (k.2.1 : Nat))]) (fun k Hl => Own 8 EImp 63 #[] B Hl v k.2.2 ∧ Sift 0 l k.2.2 k.1 k.2.1 ∧ OldB B H Hl ∧ H.size ≤ Hl.size ∧ Hl[g]? = H[g]?) (fun k => l.length - k.2.1) (j0, j0 + 1, l) ?_ ?_ ?_
    · exact (Sub.cons rfl (Sub.cons rfl (Ext.sub (Ext.refl _ _))))
    · exact ⟨ow, Sift.start hj0 hall hj1, o0, by omega, bg.trans bg0.symm⟩
    · rintro ⟨i, j, m⟩ H2 ⟨ow, hsf, o0, hHz, hgk⟩
      have zl_H2 := o0.1
      dsimp only at ow hsf
      have hml := hsf.len
      have hle := hsf.le
      have bg := hgk.trans bg0
      have hwl := ow.lt
      refine KC.seq ?_
      refine KC.seq ?_
      refine KC.region ?_
      refine KL.op (R.move rfl rfl) rfl rfl rfl ?_
      refine KL.op (R.move rfl rfl) rfl rfl rfl ?_
      refine KL.op (R.lenO rfl Try.underlying28 rfl ow) rfl rfl rfl ?_
      refine KL.op (R.lss rfl rfl rfl) rfl rfl rfl ?_
      refine KL.nil ?_
      refine KQ.seq ?_
      refine KC.iteL rfl ?_ ?_
      · intro hc19
        try simp only [decide_eq_true_eq, decide_eq_false_iff_not, Bool.not_eq_true', Bool.not_eq_false', Bool.and_eq_true, Bool.or_eq_false_iff] at hc19
        have hs := ow.sl (emptyOld _) (by omega)
        obtain ⟨hcx, hxr⟩ := hs.impAt j (by omega)
        rw [hsf.behind j (Nat.le_refl _)] at hcx hxr
        have owP := ow
        refine KC.skip ?_
        refine KQ.seq ?_
        refine KC.seq ?_
        refine KC.block ?_
        refine KC.seq ?_
        refine KC.region ?_
        refine KL.op (R.move rfl rfl) rfl rfl rfl ?_
        refine KL.op (R.move rfl rfl) rfl rfl rfl ?_
        refine KL.op (R.index (j := j) rfl Try.underlying28 sz63 rfl rfl hs rfl (by omega)) rfl rfl rfl ?_
        refine KL.op (R.loadAgg rfl Try.underlying63 rfl sz63 rfl hcx rfl) rfl rfl rfl ?_
        have hwlP := ow.lt
        refine KL.opM (M.alloc rfl zr63 rfl) rfl rfl rfl ?_
        rintro _ H3 ⟨rfl, n3⟩
        have z3 := n3.2.1
        have o0 := o0.trans ((n3.1).b (by omega))
        have ow := ow.old n3.1
        have bg := (n3.1).blk bg
        have b3 := n3.2.2
        have b7x := b3
        refine KL.opS (S.storeAgg (us := (l.getD j default).cells) rfl sz63 rfl rfl (rfl) (by exact kind_one) b7x (by simp [Imp.cells])) rfl rfl ?_
        rintro H4 ⟨u4, b4⟩
        have o0 := o0.trans (OldB.upd u4 (by omega))
        have zu4 := u4.1
        have ow := ow.upd u4 (by first | exact .inl rfl | exact .inr (by omega) | exact hwlP.imp id (fun h => by omega) | exact ow.lt.imp id (fun h => by omega))
        have bg := ((u4).2 _ (by omega)).trans bg
        have b7x := b4
        have b7x : _ = some (Obj.cells (l.getD j default).cells.toArray 63 (0, 0)) := b7x
        have hwl := ow.lt
        refine KL.nil ?_
        refine KQ.seq ?_
        refine KC.seq ?_
        refine KC.region ?_
        refine KL.op (R.move rfl rfl) rfl rfl rfl ?_
        refine KL.op (R.loadAgg rfl Try.underlying63 rfl sz63 rfl (cells_of b7x) rfl) rfl rfl rfl ?_
        refine KL.call rfl rfl rfl rfl Try.call43 rfl rfl rfl (of1_0 (l.getD j default) bg) ?_
        rintro _ H5 ⟨rfl, ox⟩
        have zc_H5 := (ox).1
        have o0 := o0.trans ((ox).b (by omega))
        have ow := ow.old ox
        have bg := (ox).blk bg
        have b7x := (ox).blk b7x
        refine KL.op (R.not rfl rfl) rfl rfl rfl ?_
        refine KL.nil ?_
        refine KQ.seq ?_
        refine KC.iteL rfl ?_ ?_
        · intro hc29
          try simp only [decide_eq_true_eq, decide_eq_false_iff_not, Bool.not_eq_true', Bool.not_eq_false', Bool.and_eq_true, Bool.or_eq_false_iff] at hc29
          have hkj : isK 0 (l.getD j default) = true := by simpa using hc29
          refine KC.seq ?_
          refine KC.region ?_
          refine KL.op (R.move rfl rfl) rfl rfl rfl ?_
          refine KL.op (R.move rfl rfl) rfl rfl rfl ?_
          refine KL.op (R.loadAgg rfl Try.underlying63 rfl sz63 rfl (cells_of b7x) rfl) rfl rfl rfl ?_
          refine KL.op (R.index (j := i) rfl Try.underlying28 sz63 rfl rfl (ow.sl (emptyOld _) (by omega)) rfl (by omega)) rfl rfl rfl ?_
          refine KL.opS (S.ownN (j := i) (a := l.getD j default) rfl sz63 rfl rfl rfl kind_one ow (by omega) ⟨rfl, hxr⟩) rfl rfl ?_
          rintro H6 ⟨u1, ow1⟩
          have zu1 := u1.1
          have hvn := hwl.resolve_left (Own.not_nilS ow (by omega))
          have hvg := hgv.resolve_left (Own.not_nilS ow (by omega))
          have o0 := o0.trans (OldB.upd u1 (by omega))
          have bg := (u1.2 _ (by omega)).trans bg
          have ow := ow1
          refine KL.nil ?_
          refine KQ.seq ?_
          refine KC.region ?_
          refine KL.op (R.move rfl rfl) rfl rfl rfl ?_
          refine KL.op ((R.add rfl rfl rfl (by dsimp only [InR]; omega)).val (congrArg (Value.int .i64) (show (i : Int) + 1 = ((i + 1 : Nat) : Int) by omega))) rfl rfl rfl ?_
          refine KL.op (R.assign rfl rfl) rfl rfl rfl ?_
          refine KL.nil ?_
          refine KQ.normBlock ?_
          refine KQ.seq ?_
          refine KC.region ?_
          refine KL.op (R.move rfl rfl) rfl rfl rfl ?_
          refine KL.op ((R.add rfl rfl rfl (by dsimp only [InR]; omega)).val (congrArg (Value.int .i64) (show (j : Int) + 1 = ((j + 1 : Nat) : Int) by omega))) rfl rfl rfl ?_
          refine KL.op (R.assign rfl rfl) rfl rfl rfl ?_
          refine KL.nil ?_
          refine KQ.again ((i + 1, j + 1, m.set i (l.getD j default))) ?_ ?_ ?_
          · exact (Sub.cons rfl (Sub.cons rfl (Ext.sub (by repeat (first | exact Ext.refl _ _ | refine Ext.put rfl ?_ | refine Ext.drop rfl ?_)))))
          · show l.length - (j + 1) < l.length - j; omega
          · exact ⟨ow, by first | exact hsf.keep (by omega) hkj | exact hsf.drop (by omega) hkj, o0, by omega, bg.trans bg0.symm⟩
        · intro hc29
          try simp only [decide_eq_true_eq, decide_eq_false_iff_not, Bool.not_eq_true', Bool.not_eq_false', Bool.and_eq_true, Bool.or_eq_false_iff] at hc29
          have hkj : isK 0 (l.getD j default) = false := by simpa using hc29
          refine KC.skip ?_
          refine KQ.normBlock ?_
          refine KQ.seq ?_
          refine KC.region ?_
          refine KL.op (R.move rfl rfl) rfl rfl rfl ?_
          refine KL.op ((R.add rfl rfl rfl (by dsimp only [InR]; omega)).val (congrArg (Value.int .i64) (show (j : Int) + 1 = ((j + 1 : Nat) : Int) by omega))) rfl rfl rfl ?_
          refine KL.op (R.assign rfl rfl) rfl rfl rfl ?_
          refine KL.nil ?_
          refine KQ.again ((i, j + 1, m)) ?_ ?_ ?_
          · exact (Sub.cons rfl (Sub.cons rfl (Ext.sub (by repeat (first | exact Ext.refl _ _ | refine Ext.put rfl ?_ | refine Ext.drop rfl ?_)))))
          · show l.length - (j + 1) < l.length - j; omega
          · exact ⟨ow, by first | exact hsf.keep (by omega) hkj | exact hsf.drop (by omega) hkj, o0, by omega, bg.trans bg0.symm⟩
      · intro hc19
        try simp only [decide_eq_true_eq, decide_eq_false_iff_not, Bool.not_eq_true', Bool.not_eq_false', Bool.and_eq_true, Bool.or_eq_false_iff] at hc19
        have hjl : j = l.length := by omega
        refine KC.exit ?_
        refine KQ.exitThen ?_
        refine KQ.exitThen ?_
        refine KQ.hit ?_
        refine KQ.seq ?_
        refine KC.seq ?_
        refine KC.region ?_
        refine KL.op (R.move rfl rfl) rfl rfl rfl ?_
        refine KL.op (R.move rfl rfl) rfl rfl rfl ?_
        refine KL.op (R.slice (i := i) (j := m.length) rfl Try.underlying28 sz63 rfl (ow.sl (emptyOld _) (by omega)) (bnd.mk rfl rfl) bnd.no (by omega) (by omega)) rfl rfl rfl ?_
        have owE := ow
        refine KL.opZ (M.clear (j := i) rfl Try.underlying28 zr63 rfl (by decide) rfl ow (by omega)) rfl rfl ?_
        rintro H7 ⟨zc, hkc, owc⟩
        have o0 := o0.trans (⟨by omega, fun y hy => hkc y (hwl.imp id (fun h => by omega))⟩ : OldB B _ H7)
        refine KL.nil ?_
        refine KQ.seq ?_
        refine KC.seq ?_
        refine KC.region ?_
        refine KL.op (R.move rfl rfl) rfl rfl rfl ?_
        refine KL.op (R.move rfl rfl) rfl rfl rfl ?_
        refine KL.op (R.sliceTo (j := i) rfl Try.underlying28 sz63 rfl rfl owE rfl (by omega)) rfl rfl rfl ?_
        refine KL.op (R.assign rfl rfl) rfl rfl rfl ?_
        refine KL.nil ?_
        refine KQ.seq ?_
        refine KC.ret ?_
        refine KQ.ofRet ?_
        refine KQ.fin1 Try.results41 rfl ?_
        first
          | (have e : ofK 0 l = l := by have := ofK_all (k := 0) (Nat.le_refl l.length) hall; rwa [List.take_length] at this
             rw [e]; exact ⟨ow, o0⟩)
          | (have ha := hsf.ahead
             rw [hjl, List.take_length] at ha
             rw [← ha]; exact ⟨owc, o0⟩)

set_option maxRecDepth 100000 in
set_option maxHeartbeats 4000000 in
theorem kind1 {H : Heap} (x : Imp) : Ct Try.prog 31 [.agg x.cells.toArray] H (fun u H' => u = .bool (isK 1 x) ∧ Old H H') := by
  refine Ct.mk Try.func31 rfl Try.ntmps31 rfl ?_
  intro W0 hW0
  have o0 : Old H H := Old.refl H
  unfold Imp.cells
  refine KC.seq ?_
  refine KC.region ?_
  refine KL.opM (M.box rfl rfl rfl) rfl rfl rfl ?_
  rintro _ H1 ⟨rfl, n1⟩
  have z1 := n1.2.1
  have o0 := o0.trans n1.1
  have b1 := n1.2.2
  have bx := b1
  refine KL.op (R.assign rfl rfl) rfl rfl rfl ?_
  refine KL.nil ?_
  refine KQ.seq ?_
  refine KC.seq ?_
  refine KC.region ?_
  refine KL.op ((by first | exact R.fieldAddr rfl Try.underlying78 rfl rfl sz5 rfl | exact R.fieldAddrP rfl Try.underlying78 rfl rfl sz5 rfl)) rfl rfl rfl ?_
  refine KL.op (R.load rfl Try.underlying5 rfl rfl (by first | exact cell_of bx rfl | assumption)) rfl rfl rfl ?_
  refine KL.op (R.eql rfl rfl rfl) rfl rfl rfl ?_
  refine KL.op (R.assign rfl rfl) rfl rfl rfl ?_
  refine KL.nil ?_
  refine KQ.seq ?_
  refine KC.ret ?_
  refine KQ.ofRet ?_
  refine KQ.fin1 Try.results31 rfl ?_
  exact ⟨rfl, o0⟩

set_option maxRecDepth 100000 in
set_option maxHeartbeats 4000000 in
theorem of1_1 {H : Heap} {g : Nat} (x : Imp) (bg : H[g]? = some (.cells [.func (.func 31) #[] #[]].toArray 77 (0, 0))) : Ct Try.prog 43 [.agg x.cells.toArray, .pointer (some ⟨g, 0, none⟩)] H (fun u H' => u = .bool (!isK 1 x) ∧ Old H H') := by
  refine Ct.mk Try.func43 rfl Try.ntmps43 rfl ?_
  intro W0 hW0
  have o0 : Old H H := Old.refl H
  refine KC.seq ?_
  refine KC.region ?_
  refine KL.opM (M.box (cs := x.cells) rfl rfl rfl) rfl rfl rfl ?_
  rintro _ H1 ⟨rfl, n1⟩
  have z1 := n1.2.1
  have o0 := o0.trans n1.1
  have bg := (n1.1).blk bg
  have b1 := n1.2.2
  have bx := b1
  refine KL.op (R.assign rfl rfl) rfl rfl rfl ?_
  refine KL.nil ?_
  refine KQ.seq ?_
  refine KC.seq ?_
  refine KC.region ?_
  refine KL.op (R.load rfl Try.underlying77 rfl rfl (by first | exact cell_of bg rfl | exact cell_of bx rfl | assumption)) rfl rfl rfl ?_
  refine KL.op (R.loadAgg rfl Try.underlying63 rfl sz63 rfl (cells_of bx) rfl) rfl rfl rfl ?_
  refine KL.call rfl rfl rfl rfl Try.call31 rfl rfl rfl (kind1 x) ?_
  rintro _ H2 ⟨rfl, ox⟩
  have zc_H2 := (ox).1
  have o0 := o0.trans ox
  have bg := (ox).blk bg
  have bx := (ox).blk bx
  refine KL.op (R.not rfl rfl) rfl rfl rfl ?_
  refine KL.op (R.assign rfl rfl) rfl rfl rfl ?_
  refine KL.nil ?_
  refine KQ.seq ?_
  refine KC.ret ?_
  refine KQ.ofRet ?_
  refine KQ.fin1 Try.results43 rfl ?_
  exact ⟨rfl, o0⟩

set_option maxRecDepth 100000 in
set_option maxHeartbeats 4000000 in
theorem idx_1 {H : Heap} {g : Nat} {v : Value} {l : List Imp} (hs0 : Sl 8 EImp H v l) (hl : l.length ≤ 100000000000) (bg : H[g]? = some (.cells [.func (.func 31) #[] #[]].toArray 77 (0, 0))) : Ct Try.prog 44 [v, .func (.func 43) #[] #[.pointer (some ⟨g, 0, none⟩)]] H (fun u H' => ((u = .int .i64 (-1) ∧ ∀ i, i < l.length → isK 1 (l.getD i default) = true) ∨ ∃ j, u = .int .i64 (j : Nat) ∧ j < l.length ∧ (∀ i, i < j → isK 1 (l.getD i default) = true) ∧ isK 1 (l.getD j default) = false) ∧ Old H H') := by
  refine Ct.mk Try.func44 rfl Try.ntmps44 rfl ?_
  intro W0 hW0
  have o0 : Old H H := Old.refl H
  have hs := hs0
  refine KC.seq ?_
  refine KC.region ?_
  refine KL.op (R.assign rfl rfl) rfl rfl rfl ?_
  refine KL.nil ?_
  refine KQ.seq ?_
  refine KC.seq ?_
  refine KC.seq ?_
  refine KC.region ?_
  refine KL.op (R.move rfl rfl) rfl rfl rfl ?_
  refine KL.op (R.lenS rfl Try.underlying28 rfl hs) rfl rfl rfl ?_
  refine KL.op (R.move rfl rfl) rfl rfl rfl ?_
  refine KL.nil ?_
  refine KQ.seq ?_
  refine KC.block ?_
  refine KC.loopD (κ := Nat) [9, 10, 5, 11, 12, 13, 14, 15, 16, 17, 4, 18, 8] (fun k => [(8, .int .i64 (k : Nat))]) (fun k Hl => k ≤ l.length ∧ Old H Hl ∧ ∀ i, i < k → isK 1 (l.getD i default) = true) (fun k => l.length - k) 0 ?_ ?_ ?_
  · exact (Sub.cons rfl (Ext.sub (Ext.refl _ _)))
  · exact ⟨Nat.zero_le _, o0, fun i hi => by omega⟩
  · rintro k H1 ⟨hk, o0, hall⟩
    have zl_H1 := o0.1
    have zl := o0.1
    have hs := hs0.old o0
    have bg := o0.blk bg
    refine KC.seq ?_
    refine KC.region ?_
    refine KL.op (R.lss rfl rfl rfl) rfl rfl rfl ?_
    refine KL.nil ?_
    refine KQ.seq ?_
    refine KC.seq ?_
    refine KC.iteL rfl ?_ ?_
    · intro hc9
      try simp only [decide_eq_true_eq, decide_eq_false_iff_not, Bool.not_eq_true', Bool.not_eq_false', Bool.and_eq_true, Bool.or_eq_false_iff] at hc9
      obtain ⟨hcx, hxr⟩ := hs.impAt k (by omega)
      refine KC.skip ?_
      refine KQ.seq ?_
      refine KC.seq ?_
      refine KC.block ?_
      refine KC.seq ?_
      refine KC.region ?_
      refine KL.op (R.move rfl rfl) rfl rfl rfl ?_
      refine KL.op (R.assign rfl rfl) rfl rfl rfl ?_
      refine KL.nil ?_
      refine KQ.seq ?_
      refine KC.seq ?_
      refine KC.region ?_
      refine KL.op (R.move rfl rfl) rfl rfl rfl ?_
      refine KL.op (R.move rfl rfl) rfl rfl rfl ?_
      refine KL.op (R.move rfl rfl) rfl rfl rfl ?_
      refine KL.op (R.index (j := k) rfl Try.underlying28 sz63 rfl rfl hs rfl (by omega)) rfl rfl rfl ?_
      refine KL.op (R.loadAgg rfl Try.underlying63 rfl sz63 rfl hcx rfl) rfl rfl rfl ?_
      refine KL.call rfl rfl rfl rfl Try.call43 rfl rfl rfl (of1_1 (l.getD k default) bg) ?_
      rintro _ H2 ⟨rfl, ox⟩
      have zc_H2 := (ox).1
      have o0 := o0.trans ox
      have hs := hs.old ox
      have bg := (ox).blk bg
      refine KL.nil ?_
      refine KQ.seq ?_
      refine KC.iteL rfl ?_ ?_
      · intro hc16
        try simp only [decide_eq_true_eq, decide_eq_false_iff_not, Bool.not_eq_true', Bool.not_eq_false', Bool.and_eq_true, Bool.or_eq_false_iff] at hc16
        refine KC.seq ?_
        refine KC.region ?_
        refine KL.op (R.move rfl rfl) rfl rfl rfl ?_
        refine KL.op (R.assign rfl rfl) rfl rfl rfl ?_
        refine KL.nil ?_
        refine KQ.seq ?_
        refine KC.ret ?_
        refine KQ.retBlock ?_
        refine KQ.retThen ?_
        refine KQ.retThen ?_
        refine KQ.retBlock ?_
        refine KQ.retThen ?_
        refine KQ.ofRet ?_
        refine KQ.fin1 Try.results44 rfl ?_
        first
          | exact ⟨.inr ⟨k, rfl, by omega, hall, by simpa using hc16⟩, o0⟩
          | exact ⟨.inl ⟨rfl, fun i hi => hall i (by omega)⟩, o0⟩
      · intro hc16
        try simp only [decide_eq_true_eq, decide_eq_false_iff_not, Bool.not_eq_true', Bool.not_eq_false', Bool.and_eq_true, Bool.or_eq_false_iff] at hc16
        refine KC.skip ?_
        refine KQ.normBlock ?_
        refine KQ.seq ?_
        refine KC.region ?_
        refine KL.op ((R.add rfl rfl rfl (by dsimp only [InR]; omega)).val (congrArg (Value.int .i64) (show (k : Int) + 1 = ((k + 1 : Nat) : Int) by omega))) rfl rfl rfl ?_
        refine KL.op (R.move rfl rfl) rfl rfl rfl ?_
        refine KL.nil ?_
        refine KQ.again (k + 1) ?_ ?_ ?_
        · exact (Sub.cons rfl (Ext.sub (by repeat (first | exact Ext.refl _ _ | refine Ext.put rfl ?_ | refine Ext.drop rfl ?_))))
        · omega
        · exact ⟨by omega, o0, fun i hi => by
            by_cases e : i = k
            · subst e; simpa using hc16
            · exact hall i (by omega)⟩
    · intro hc9
      try simp only [decide_eq_true_eq, decide_eq_false_iff_not, Bool.not_eq_true', Bool.not_eq_false', Bool.and_eq_true, Bool.or_eq_false_iff] at hc9
      refine KC.exit ?_
      refine KQ.exitThen ?_
      refine KQ.exitThen ?_
      refine KQ.hit ?_
      refine KQ.seq ?_
      refine KC.seq ?_
      refine KC.region ?_
      refine KL.op (R.assign rfl rfl) rfl rfl rfl ?_
      refine KL.nil ?_
      refine KQ.seq ?_
      refine KC.ret ?_
      refine KQ.ofRet ?_
      refine KQ.fin1 Try.results44 rfl ?_
      first
        | exact ⟨.inr ⟨k, rfl, by omega, hall, by simpa using hc16⟩, o0⟩
        | exact ⟨.inl ⟨rfl, fun i hi => hall i (by omega)⟩, o0⟩

set_option maxRecDepth 100000 in
set_option maxHeartbeats 4000000 in
theorem del_1 {H : Heap} {g B : Nat} {v : Value} {l : List Imp} (ow0 : Own 8 EImp 63 #[] B H v l) (hB : B ≤ H.size) (hgv : v = .slice none 0 0 ∨ vblock v ≠ g) (hl : l.length ≤ 100000000000) (bg : H[g]? = some (.cells [.func (.func 31) #[] #[]].toArray 77 (0, 0))) : Ct Try.prog 41 [v, .func (.func 43) #[] #[.pointer (some ⟨g, 0, none⟩)]] H (fun u H' => Own 8 EImp 63 #[] B H' u (ofK 1 l) ∧ OldB B H H') := by
  refine Ct.mk Try.func41 rfl Try.ntmps41 rfl ?_
  intro W0 hW0
  have o0 : OldB B H H := OldB.refl _ H
  have ow := ow0
  have bg0 := bg
  have hgl := blk_lt bg
  refine KC.seq ?_
  refine KC.region ?_
  refine KL.op (R.assign rfl rfl) rfl rfl rfl ?_
  refine KL.nil ?_
  refine KQ.seq ?_
  refine KC.seq ?_
  refine KC.region ?_
  refine KL.op (R.move rfl rfl) rfl rfl rfl ?_
  refine KL.op (R.move rfl rfl) rfl rfl rfl ?_
  have hs := ow.sl (emptyOld _) (by omega)
  have hwl := ow.lt
  refine KL.call rfl rfl rfl rfl Try.call44 rfl rfl rfl (idx_1 hs hl bg) ?_
  rintro u H1 ⟨hR, ox⟩
  rcases hR with ⟨rfl, hall⟩ | ⟨j0, rfl, hj0, hall, hj1⟩
  · skip
    have o0 := o0.trans ((ox).b (by omega))
    have ow := ow.old ox
    have bg := (ox).blk bg
    have zox := ox.1
    refine KL.op (R.assign rfl rfl) rfl rfl rfl ?_
    refine KL.nil ?_
    refine KQ.seq ?_
    refine KC.seq ?_
    refine KC.seq ?_
    refine KC.region ?_
    refine KL.op (R.move rfl rfl) rfl rfl rfl ?_
    refine KL.op ((R.eql rfl rfl rfl).val (congrArg Value.bool (decide_eq_true (by rfl)))) rfl rfl rfl ?_
    refine KL.nil ?_
    refine KQ.seq ?_
    refine KC.condT rfl ?_
    refine KC.seq ?_
    refine KC.region ?_
    refine KL.op (R.move rfl rfl) rfl rfl rfl ?_
    refine KL.op (R.assign rfl rfl) rfl rfl rfl ?_
    refine KL.nil ?_
    refine KQ.seq ?_
    refine KC.ret ?_
    refine KQ.retThen ?_
    refine KQ.ofRet ?_
    refine KQ.fin1 Try.results41 rfl ?_
    first
      | (have e : ofK 1 l = l := by have := ofK_all (k := 1) (Nat.le_refl l.length) hall; rwa [List.take_length] at this
         rw [e]; exact ⟨ow, o0⟩)
      | (have ha := hsf.ahead
         rw [hjl, List.take_length] at ha
         rw [← ha]; exact ⟨owc, o0⟩)
  · skip
    have o0 := o0.trans ((ox).b (by omega))
    have ow := ow.old ox
    have bg := (ox).blk bg
    have zox := ox.1
    have owS := ow
    refine KL.op (R.assign rfl rfl) rfl rfl rfl ?_
    refine KL.nil ?_
    refine KQ.seq ?_
    refine KC.seq ?_
    refine KC.seq ?_
    refine KC.region ?_
    refine KL.op (R.move rfl rfl) rfl rfl rfl ?_
    refine KL.op ((R.eql rfl rfl rfl).val (congrArg Value.bool (decide_eq_false (by omega)))) rfl rfl rfl ?_
    refine KL.nil ?_
    refine KQ.seq ?_
    refine KC.condF rfl ?_
    refine KC.skip ?_
    refine KQ.seq ?_
    refine KC.seq ?_
    refine KC.seq ?_
    refine KC.region ?_
    refine KL.op (R.move rfl rfl) rfl rfl rfl ?_
    refine KL.op ((R.add rfl rfl rfl (by dsimp only [InR]; omega)).val (congrArg (Value.int .i64) (show (j0 : Int) + 1 = ((j0 + 1 : Nat) : Int) by omega))) rfl rfl rfl ?_
    refine KL.op (R.assign rfl rfl) rfl rfl rfl ?_
    refine KL.nil ?_
    refine KQ.seq ?_
    refine KC.block ?_
    refine KC.loopD (κ := Nat × Nat × List Imp) [16, 17, 18, 19, 22, 23, 24, 25, 7, 26, 27, 28, 29, 30, 31, 32, 33, 34, 35, 5, 20, 21, 6] (fun k => [(5, .int .i64 (k.1 : Nat)), (6, .int .i64 (k.2.1 : Nat))]) (fun k Hl => Own 8 EImp 63 #[] B Hl v k.2.2 ∧ Sift 1 l k.2.2 k.1 k.2.1 ∧ OldB B H Hl ∧ H.size ≤ Hl.size ∧ Hl[g]? = H[g]?) (fun k => l.length - k.2.1) (j0, j0 + 1, l) ?_ ?_ ?_
    · exact (Sub.cons rfl (Sub.cons rfl (Ext.sub (Ext.refl _ _))))
    · exact ⟨ow, Sift.start hj0 hall hj1, o0, by omega, bg.trans bg0.symm⟩
    · rintro ⟨i, j, m⟩ H2 ⟨ow, hsf, o0, hHz, hgk⟩
      have zl_H2 := o0.1
      dsimp only at ow hsf
      have hml := hsf.len
      have hle := hsf.le
      have bg := hgk.trans bg0
      have hwl := ow.lt
      refine KC.seq ?_
      refine KC.seq ?_
      refine KC.region ?_
      refine KL.op (R.move rfl rfl) rfl rfl rfl ?_
      refine KL.op (R.move rfl rfl) rfl rfl rfl ?_
      refine KL.op (R.lenO rfl Try.underlying28 rfl ow) rfl rfl rfl ?_
      refine KL.op (R.lss rfl rfl rfl) rfl rfl rfl ?_
      refine KL.nil ?_
      refine KQ.seq ?_
      refine KC.iteL rfl ?_ ?_
      · intro hc19
        try simp only [decide_eq_true_eq, decide_eq_false_iff_not, Bool.not_eq_true', Bool.not_eq_false', Bool.and_eq_true, Bool.or_eq_false_iff] at hc19
        have hs := ow.sl (emptyOld _) (by omega)
        obtain ⟨hcx, hxr⟩ := hs.impAt j (by omega)
        rw [hsf.behind j (Nat.le_refl _)] at hcx hxr
        have owP := ow
        refine KC.skip ?_
        refine KQ.seq ?_
        refine KC.seq ?_
        refine KC.block ?_
        refine KC.seq ?_
        refine KC.region ?_
        refine KL.op (R.move rfl rfl) rfl rfl rfl ?_
        refine KL.op (R.move rfl rfl) rfl rfl rfl ?_
        refine KL.op (R.index (j := j) rfl Try.underlying28 sz63 rfl rfl hs rfl (by omega)) rfl rfl rfl ?_
        refine KL.op (R.loadAgg rfl Try.underlying63 rfl sz63 rfl hcx rfl) rfl rfl rfl ?_
        have hwlP := ow.lt
        refine KL.opM (M.alloc rfl zr63 rfl) rfl rfl rfl ?_
        rintro _ H3 ⟨rfl, n3⟩
        have z3 := n3.2.1
        have o0 := o0.trans ((n3.1).b (by omega))
        have ow := ow.old n3.1
        have bg := (n3.1).blk bg
        have b3 := n3.2.2
        have b7x := b3
        refine KL.opS (S.storeAgg (us := (l.getD j default).cells) rfl sz63 rfl rfl (rfl) (by exact kind_one) b7x (by simp [Imp.cells])) rfl rfl ?_
        rintro H4 ⟨u4, b4⟩
        have o0 := o0.trans (OldB.upd u4 (by omega))
        have zu4 := u4.1
        have ow := ow.upd u4 (by first | exact .inl rfl | exact .inr (by omega) | exact hwlP.imp id (fun h => by omega) | exact ow.lt.imp id (fun h => by omega))
        have bg := ((u4).2 _ (by omega)).trans bg
        have b7x := b4
        have b7x : _ = some (Obj.cells (l.getD j default).cells.toArray 63 (0, 0)) := b7x
        have hwl := ow.lt
        refine KL.nil ?_
        refine KQ.seq ?_
        refine KC.seq ?_
        refine KC.region ?_
        refine KL.op (R.move rfl rfl) rfl rfl rfl ?_
        refine KL.op (R.loadAgg rfl Try.underlying63 rfl sz63 rfl (cells_of b7x) rfl) rfl rfl rfl ?_
        refine KL.call rfl rfl rfl rfl Try.call43 rfl rfl rfl (of1_1 (l.getD j default) bg) ?_
        rintro _ H5 ⟨rfl, ox⟩
        have zc_H5 := (ox).1
        have o0 := o0.trans ((ox).b (by omega))
        have ow := ow.old ox
        have bg := (ox).blk bg
        have b7x := (ox).blk b7x
        refine KL.op (R.not rfl rfl) rfl rfl rfl ?_
        refine KL.nil ?_
        refine KQ.seq ?_
        refine KC.iteL rfl ?_ ?_
        · intro hc29
          try simp only [decide_eq_true_eq, decide_eq_false_iff_not, Bool.not_eq_true', Bool.not_eq_false', Bool.and_eq_true, Bool.or_eq_false_iff] at hc29
          have hkj : isK 1 (l.getD j default) = true := by simpa using hc29
          refine KC.seq ?_
          refine KC.region ?_
          refine KL.op (R.move rfl rfl) rfl rfl rfl ?_
          refine KL.op (R.move rfl rfl) rfl rfl rfl ?_
          refine KL.op (R.loadAgg rfl Try.underlying63 rfl sz63 rfl (cells_of b7x) rfl) rfl rfl rfl ?_
          refine KL.op (R.index (j := i) rfl Try.underlying28 sz63 rfl rfl (ow.sl (emptyOld _) (by omega)) rfl (by omega)) rfl rfl rfl ?_
          refine KL.opS (S.ownN (j := i) (a := l.getD j default) rfl sz63 rfl rfl rfl kind_one ow (by omega) ⟨rfl, hxr⟩) rfl rfl ?_
          rintro H6 ⟨u1, ow1⟩
          have zu1 := u1.1
          have hvn := hwl.resolve_left (Own.not_nilS ow (by omega))
          have hvg := hgv.resolve_left (Own.not_nilS ow (by omega))
          have o0 := o0.trans (OldB.upd u1 (by omega))
          have bg := (u1.2 _ (by omega)).trans bg
          have ow := ow1
          refine KL.nil ?_
          refine KQ.seq ?_
          refine KC.region ?_
          refine KL.op (R.move rfl rfl) rfl rfl rfl ?_
          refine KL.op ((R.add rfl rfl rfl (by dsimp only [InR]; omega)).val (congrArg (Value.int .i64) (show (i : Int) + 1 = ((i + 1 : Nat) : Int) by omega))) rfl rfl rfl ?_
          refine KL.op (R.assign rfl rfl) rfl rfl rfl ?_
          refine KL.nil ?_
          refine KQ.normBlock ?_
          refine KQ.seq ?_
          refine KC.region ?_
          refine KL.op (R.move rfl rfl) rfl rfl rfl ?_
          refine KL.op ((R.add rfl rfl rfl (by dsimp only [InR]; omega)).val (congrArg (Value.int .i64) (show (j : Int) + 1 = ((j + 1 : Nat) : Int) by omega))) rfl rfl rfl ?_
          refine KL.op (R.assign rfl rfl) rfl rfl rfl ?_
          refine KL.nil ?_
          refine KQ.again ((i + 1, j + 1, m.set i (l.getD j default))) ?_ ?_ ?_
          · exact (Sub.cons rfl (Sub.cons rfl (Ext.sub (by repeat (first | exact Ext.refl _ _ | refine Ext.put rfl ?_ | refine Ext.drop rfl ?_)))))
          · show l.length - (j + 1) < l.length - j; omega
          · exact ⟨ow, by first | exact hsf.keep (by omega) hkj | exact hsf.drop (by omega) hkj, o0, by omega, bg.trans bg0.symm⟩
        · intro hc29
          try simp only [decide_eq_true_eq, decide_eq_false_iff_not, Bool.not_eq_true', Bool.not_eq_false', Bool.and_eq_true, Bool.or_eq_false_iff] at hc29
          have hkj : isK 1 (l.getD j default) = false := by simpa using hc29
          refine KC.skip ?_
          refine KQ.normBlock ?_
          refine KQ.seq ?_
          refine KC.region ?_
          refine KL.op (R.move rfl rfl) rfl rfl rfl ?_
          refine KL.op ((R.add rfl rfl rfl (by dsimp only [InR]; omega)).val (congrArg (Value.int .i64) (show (j : Int) + 1 = ((j + 1 : Nat) : Int) by omega))) rfl rfl rfl ?_
          refine KL.op (R.assign rfl rfl) rfl rfl rfl ?_
          refine KL.nil ?_
          refine KQ.again ((i, j + 1, m)) ?_ ?_ ?_
          · exact (Sub.cons rfl (Sub.cons rfl (Ext.sub (by repeat (first | exact Ext.refl _ _ | refine Ext.put rfl ?_ | refine Ext.drop rfl ?_)))))
          · show l.length - (j + 1) < l.length - j; omega
          · exact ⟨ow, by first | exact hsf.keep (by omega) hkj | exact hsf.drop (by omega) hkj, o0, by omega, bg.trans bg0.symm⟩
      · intro hc19
        try simp only [decide_eq_true_eq, decide_eq_false_iff_not, Bool.not_eq_true', Bool.not_eq_false', Bool.and_eq_true, Bool.or_eq_false_iff] at hc19
        have hjl : j = l.length := by omega
        refine KC.exit ?_
        refine KQ.exitThen ?_
        refine KQ.exitThen ?_
        refine KQ.hit ?_
        refine KQ.seq ?_
        refine KC.seq ?_
        refine KC.region ?_
        refine KL.op (R.move rfl rfl) rfl rfl rfl ?_
        refine KL.op (R.move rfl rfl) rfl rfl rfl ?_
        refine KL.op (R.slice (i := i) (j := m.length) rfl Try.underlying28 sz63 rfl (ow.sl (emptyOld _) (by omega)) (bnd.mk rfl rfl) bnd.no (by omega) (by omega)) rfl rfl rfl ?_
        have owE := ow
        refine KL.opZ (M.clear (j := i) rfl Try.underlying28 zr63 rfl (by decide) rfl ow (by omega)) rfl rfl ?_
        rintro H7 ⟨zc, hkc, owc⟩
        have o0 := o0.trans (⟨by omega, fun y hy => hkc y (hwl.imp id (fun h => by omega))⟩ : OldB B _ H7)
        refine KL.nil ?_
        refine KQ.seq ?_
        refine KC.seq ?_
        refine KC.region ?_
        refine KL.op (R.move rfl rfl) rfl rfl rfl ?_
        refine KL.op (R.move rfl rfl) rfl rfl rfl ?_
        refine KL.op (R.sliceTo (j := i) rfl Try.underlying28 sz63 rfl rfl owE rfl (by omega)) rfl rfl rfl ?_
        refine KL.op (R.assign rfl rfl) rfl rfl rfl ?_
        refine KL.nil ?_
        refine KQ.seq ?_
        refine KC.ret ?_
        refine KQ.ofRet ?_
        refine KQ.fin1 Try.results41 rfl ?_
        first
          | (have e : ofK 1 l = l := by have := ofK_all (k := 1) (Nat.le_refl l.length) hall; rwa [List.take_length] at this
             rw [e]; exact ⟨ow, o0⟩)
          | (have ha := hsf.ahead
             rw [hjl, List.take_length] at ha
             rw [← ha]; exact ⟨owc, o0⟩)

set_option maxRecDepth 100000 in
set_option maxHeartbeats 4000000 in
theorem kind2 {H : Heap} (x : Imp) : Ct Try.prog 32 [.agg x.cells.toArray] H (fun u H' => u = .bool (isK 2 x) ∧ Old H H') := by
  refine Ct.mk Try.func32 rfl Try.ntmps32 rfl ?_
  intro W0 hW0
  have o0 : Old H H := Old.refl H
  unfold Imp.cells
  refine KC.seq ?_
  refine KC.region ?_
  refine KL.opM (M.box rfl rfl rfl) rfl rfl rfl ?_
  rintro _ H1 ⟨rfl, n1⟩
  have z1 := n1.2.1
  have o0 := o0.trans n1.1
  have b1 := n1.2.2
  have bx := b1
  refine KL.op (R.assign rfl rfl) rfl rfl rfl ?_
  refine KL.nil ?_
  refine KQ.seq ?_
  refine KC.seq ?_
  refine KC.region ?_
  refine KL.op ((by first | exact R.fieldAddr rfl Try.underlying78 rfl rfl sz5 rfl | exact R.fieldAddrP rfl Try.underlying78 rfl rfl sz5 rfl)) rfl rfl rfl ?_
  refine KL.op (R.load rfl Try.underlying5 rfl rfl (by first | exact cell_of bx rfl | assumption)) rfl rfl rfl ?_
  refine KL.op (R.eql rfl rfl rfl) rfl rfl rfl ?_
  refine KL.op (R.assign rfl rfl) rfl rfl rfl ?_
  refine KL.nil ?_
  refine KQ.seq ?_
  refine KC.ret ?_
  refine KQ.ofRet ?_
  refine KQ.fin1 Try.results32 rfl ?_
  exact ⟨rfl, o0⟩

set_option maxRecDepth 100000 in
set_option maxHeartbeats 4000000 in
theorem of1_2 {H : Heap} {g : Nat} (x : Imp) (bg : H[g]? = some (.cells [.func (.func 32) #[] #[]].toArray 77 (0, 0))) : Ct Try.prog 43 [.agg x.cells.toArray, .pointer (some ⟨g, 0, none⟩)] H (fun u H' => u = .bool (!isK 2 x) ∧ Old H H') := by
  refine Ct.mk Try.func43 rfl Try.ntmps43 rfl ?_
  intro W0 hW0
  have o0 : Old H H := Old.refl H
  refine KC.seq ?_
  refine KC.region ?_
  refine KL.opM (M.box (cs := x.cells) rfl rfl rfl) rfl rfl rfl ?_
  rintro _ H1 ⟨rfl, n1⟩
  have z1 := n1.2.1
  have o0 := o0.trans n1.1
  have bg := (n1.1).blk bg
  have b1 := n1.2.2
  have bx := b1
  refine KL.op (R.assign rfl rfl) rfl rfl rfl ?_
  refine KL.nil ?_
  refine KQ.seq ?_
  refine KC.seq ?_
  refine KC.region ?_
  refine KL.op (R.load rfl Try.underlying77 rfl rfl (by first | exact cell_of bg rfl | exact cell_of bx rfl | assumption)) rfl rfl rfl ?_
  refine KL.op (R.loadAgg rfl Try.underlying63 rfl sz63 rfl (cells_of bx) rfl) rfl rfl rfl ?_
  refine KL.call rfl rfl rfl rfl Try.call32 rfl rfl rfl (kind2 x) ?_
  rintro _ H2 ⟨rfl, ox⟩
  have zc_H2 := (ox).1
  have o0 := o0.trans ox
  have bg := (ox).blk bg
  have bx := (ox).blk bx
  refine KL.op (R.not rfl rfl) rfl rfl rfl ?_
  refine KL.op (R.assign rfl rfl) rfl rfl rfl ?_
  refine KL.nil ?_
  refine KQ.seq ?_
  refine KC.ret ?_
  refine KQ.ofRet ?_
  refine KQ.fin1 Try.results43 rfl ?_
  exact ⟨rfl, o0⟩

set_option maxRecDepth 100000 in
set_option maxHeartbeats 4000000 in
theorem idx_2 {H : Heap} {g : Nat} {v : Value} {l : List Imp} (hs0 : Sl 8 EImp H v l) (hl : l.length ≤ 100000000000) (bg : H[g]? = some (.cells [.func (.func 32) #[] #[]].toArray 77 (0, 0))) : Ct Try.prog 44 [v, .func (.func 43) #[] #[.pointer (some ⟨g, 0, none⟩)]] H (fun u H' => ((u = .int .i64 (-1) ∧ ∀ i, i < l.length → isK 2 (l.getD i default) = true) ∨ ∃ j, u = .int .i64 (j : Nat) ∧ j < l.length ∧ (∀ i, i < j → isK 2 (l.getD i default) = true) ∧ isK 2 (l.getD j default) = false) ∧ Old H H') := by
  refine Ct.mk Try.func44 rfl Try.ntmps44 rfl ?_
  intro W0 hW0
  have o0 : Old H H := Old.refl H
  have hs := hs0
  refine KC.seq ?_
  refine KC.region ?_
  refine KL.op (R.assign rfl rfl) rfl rfl rfl ?_
  refine KL.nil ?_
  refine KQ.seq ?_
  refine KC.seq ?_
  refine KC.seq ?_
  refine KC.region ?_
  refine KL.op (R.move rfl rfl) rfl rfl rfl ?_
  refine KL.op (R.lenS rfl Try.underlying28 rfl hs) rfl rfl rfl ?_
  refine KL.op (R.move rfl rfl) rfl rfl rfl ?_
  refine KL.nil ?_
  refine KQ.seq ?_
  refine KC.block ?_
  refine KC.loopD (κ := Nat) [9, 10, 5, 11, 12, 13, 14, 15, 16, 17, 4, 18, 8] (fun k => [(8, .int .i64 (k : Nat))]) (fun k Hl => k ≤ l.length ∧ Old H Hl ∧ ∀ i, i < k → isK 2 (l.getD i default) = true) (fun k => l.length - k) 0 ?_ ?_ ?_
  · exact (Sub.cons rfl (Ext.sub (Ext.refl _ _)))
  · exact ⟨Nat.zero_le _, o0, fun i hi => by omega⟩
  · rintro k H1 ⟨hk, o0, hall⟩
    have zl_H1 := o0.1
    have zl := o0.1
    have hs := hs0.old o0
    have bg := o0.blk bg
    refine KC.seq ?_
    refine KC.region ?_
    refine KL.op (R.lss rfl rfl rfl) rfl rfl rfl ?_
    refine KL.nil ?_
    refine KQ.seq ?_
    refine KC.seq ?_
    refine KC.iteL rfl ?_ ?_
    · intro hc9
      try simp only [decide_eq_true_eq, decide_eq_false_iff_not, Bool.not_eq_true', Bool.not_eq_false', Bool.and_eq_true, Bool.or_eq_false_iff] at hc9
      obtain ⟨hcx, hxr⟩ := hs.impAt k (by omega)
      refine KC.skip ?_
      refine KQ.seq ?_
      refine KC.seq ?_
      refine KC.block ?_
      refine KC.seq ?_
      refine KC.region ?_
      refine KL.op (R.move rfl rfl) rfl rfl rfl ?_
      refine KL.op (R.assign rfl rfl) rfl rfl rfl ?_
      refine KL.nil ?_
      refine KQ.seq ?_
      refine KC.seq ?_
      refine KC.region ?_
      refine KL.op (R.move rfl rfl) rfl rfl rfl ?_
      refine KL.op (R.move rfl rfl) rfl rfl rfl ?_
      refine KL.op (R.move rfl rfl) rfl rfl rfl ?_
      refine KL.op (R.index (j := k) rfl Try.underlying28 sz63 rfl rfl hs rfl (by omega)) rfl rfl rfl ?_
      refine KL.op (R.loadAgg rfl Try.underlying63 rfl sz63 rfl hcx rfl) rfl rfl rfl ?_
      refine KL.call rfl rfl rfl rfl Try.call43 rfl rfl rfl (of1_2 (l.getD k default) bg) ?_
      rintro _ H2 ⟨rfl, ox⟩
      have zc_H2 := (ox).1
      have o0 := o0.trans ox
      have hs := hs.old ox
      have bg := (ox).blk bg
      refine KL.nil ?_
      refine KQ.seq ?_
      refine KC.iteL rfl ?_ ?_
      · intro hc16
        try simp only [decide_eq_true_eq, decide_eq_false_iff_not, Bool.not_eq_true', Bool.not_eq_false', Bool.and_eq_true, Bool.or_eq_false_iff] at hc16
        refine KC.seq ?_
        refine KC.region ?_
        refine KL.op (R.move rfl rfl) rfl rfl rfl ?_
        refine KL.op (R.assign rfl rfl) rfl rfl rfl ?_
        refine KL.nil ?_
        refine KQ.seq ?_
        refine KC.ret ?_
        refine KQ.retBlock ?_
        refine KQ.retThen ?_
        refine KQ.retThen ?_
        refine KQ.retBlock ?_
        refine KQ.retThen ?_
        refine KQ.ofRet ?_
        refine KQ.fin1 Try.results44 rfl ?_
        first
          | exact ⟨.inr ⟨k, rfl, by omega, hall, by simpa using hc16⟩, o0⟩
          | exact ⟨.inl ⟨rfl, fun i hi => hall i (by omega)⟩, o0⟩
      · intro hc16
        try simp only [decide_eq_true_eq, decide_eq_false_iff_not, Bool.not_eq_true', Bool.not_eq_false', Bool.and_eq_true, Bool.or_eq_false_iff] at hc16
        refine KC.skip ?_
        refine KQ.normBlock ?_
        refine KQ.seq ?_
        refine KC.region ?_
        refine KL.op ((R.add rfl rfl rfl (by dsimp only [InR]; omega)).val (congrArg (Value.int .i64) (show (k : Int) + 1 = ((k + 1 : Nat) : Int) by omega))) rfl rfl rfl ?_
        refine KL.op (R.move rfl rfl) rfl rfl rfl ?_
        refine KL.nil ?_
        refine KQ.again (k + 1) ?_ ?_ ?_
        · exact (Sub.cons rfl (Ext.sub (by repeat (first | exact Ext.refl _ _ | refine Ext.put rfl ?_ | refine Ext.drop rfl ?_))))
        · omega
        · exact ⟨by omega, o0, fun i hi => by
            by_cases e : i = k
            · subst e; simpa using hc16
            · exact hall i (by omega)⟩
    · intro hc9
      try simp only [decide_eq_true_eq, decide_eq_false_iff_not, Bool.not_eq_true', Bool.not_eq_false', Bool.and_eq_true, Bool.or_eq_false_iff] at hc9
      refine KC.exit ?_
      refine KQ.exitThen ?_
      refine KQ.exitThen ?_
      refine KQ.hit ?_
      refine KQ.seq ?_
      refine KC.seq ?_
      refine KC.region ?_
      refine KL.op (R.assign rfl rfl) rfl rfl rfl ?_
      refine KL.nil ?_
      refine KQ.seq ?_
      refine KC.ret ?_
      refine KQ.ofRet ?_
      refine KQ.fin1 Try.results44 rfl ?_
      first
        | exact ⟨.inr ⟨k, rfl, by omega, hall, by simpa using hc16⟩, o0⟩
        | exact ⟨.inl ⟨rfl, fun i hi => hall i (by omega)⟩, o0⟩

set_option maxRecDepth 100000 in
set_option maxHeartbeats 4000000 in
theorem del_2 {H : Heap} {g B : Nat} {v : Value} {l : List Imp} (ow0 : Own 8 EImp 63 #[] B H v l) (hB : B ≤ H.size) (hgv : v = .slice none 0 0 ∨ vblock v ≠ g) (hl : l.length ≤ 100000000000) (bg : H[g]? = some (.cells [.func (.func 32) #[] #[]].toArray 77 (0, 0))) : Ct Try.prog 41 [v, .func (.func 43) #[] #[.pointer (some ⟨g, 0, none⟩)]] H (fun u H' => Own 8 EImp 63 #[] B H' u (ofK 2 l) ∧ OldB B H H') := by
  refine Ct.mk Try.func41 rfl Try.ntmps41 rfl ?_
  intro W0 hW0
  have o0 : OldB B H H := OldB.refl _ H
  have ow := ow0
  have bg0 := bg
  have hgl := blk_lt bg
  refine KC.seq ?_
  refine KC.region ?_
  refine KL.op (R.assign rfl rfl) rfl rfl rfl ?_
  refine KL.nil ?_
  refine KQ.seq ?_
  refine KC.seq ?_
  refine KC.region ?_
  refine KL.op (R.move rfl rfl) rfl rfl rfl ?_
  refine KL.op (R.move rfl rfl) rfl rfl rfl ?_
  have hs := ow.sl (emptyOld _) (by omega)
  have hwl := ow.lt
  refine KL.call rfl rfl rfl rfl Try.call44 rfl rfl rfl (idx_2 hs hl bg) ?_
  rintro u H1 ⟨hR, ox⟩
  rcases hR with ⟨rfl, hall⟩ | ⟨j0, rfl, hj0, hall, hj1⟩
  · skip
    have o0 := o0.trans ((ox).b (by omega))
    have ow := ow.old ox
    have bg := (ox).blk bg
    have zox := ox.1
    refine KL.op (R.assign rfl rfl) rfl rfl rfl ?_
    refine KL.nil ?_
    refine KQ.seq ?_
    refine KC.seq ?_
    refine KC.seq ?_
    refine KC.region ?_
    refine KL.op (R.move rfl rfl) rfl rfl rfl ?_
    refine KL.op ((R.eql rfl rfl rfl).val (congrArg Value.bool (decide_eq_true (by rfl)))) rfl rfl rfl ?_
    refine KL.nil ?_
    refine KQ.seq ?_
    refine KC.condT rfl ?_
    refine KC.seq ?_
    refine KC.region ?_
    refine KL.op (R.move rfl rfl) rfl rfl rfl ?_
    refine KL.op (R.assign rfl rfl) rfl rfl rfl ?_
    refine KL.nil ?_
    refine KQ.seq ?_
    refine KC.ret ?_
    refine KQ.retThen ?_
    refine KQ.ofRet ?_
    refine KQ.fin1 Try.results41 rfl ?_
    first
      | (have e : ofK 2 l = l := by have := ofK_all (k := 2) (Nat.le_refl l.length) hall; rwa [List.take_length] at this
         rw [e]; exact ⟨ow, o0⟩)
      | (have ha := hsf.ahead
         rw [hjl, List.take_length] at ha
         rw [← ha]; exact ⟨owc, o0⟩)
  · skip
    have o0 := o0.trans ((ox).b (by omega))
    have ow := ow.old ox
    have bg := (ox).blk bg
    have zox := ox.1
    have owS := ow
    refine KL.op (R.assign rfl rfl) rfl rfl rfl ?_
    refine KL.nil ?_
    refine KQ.seq ?_
    refine KC.seq ?_
    refine KC.seq ?_
    refine KC.region ?_
    refine KL.op (R.move rfl rfl) rfl rfl rfl ?_
    refine KL.op ((R.eql rfl rfl rfl).val (congrArg Value.bool (decide_eq_false (by omega)))) rfl rfl rfl ?_
    refine KL.nil ?_
    refine KQ.seq ?_
    refine KC.condF rfl ?_
    refine KC.skip ?_
    refine KQ.seq ?_
    refine KC.seq ?_
    refine KC.seq ?_
    refine KC.region ?_
    refine KL.op (R.move rfl rfl) rfl rfl rfl ?_
    refine KL.op ((R.add rfl rfl rfl (by dsimp only [InR]; omega)).val (congrArg (Value.int .i64) (show (j0 : Int) + 1 = ((j0 + 1 : Nat) : Int) by omega))) rfl rfl rfl ?_
    refine KL.op (R.assign rfl rfl) rfl rfl rfl ?_
    refine KL.nil ?_
    refine KQ.seq ?_
    refine KC.block ?_
    refine KC.loopD (κ := Nat × Nat × List Imp) [16, 17, 18, 19, 22, 23, 24, 25, 7, 26, 27, 28, 29, 30, 31, 32, 33, 34, 35, 5, 20, 21, 6] (fun k => [(5, .int .i64 (k.1 : Nat)), (6, .int .i64 (k.2.1 : Nat))]) (fun k Hl => Own 8 EImp 63 #[] B Hl v k.2.2 ∧ Sift 2 l k.2.2 k.1 k.2.1 ∧ OldB B H Hl ∧ H.size ≤ Hl.size ∧ Hl[g]? = H[g]?) (fun k => l.length - k.2.1) (j0, j0 + 1, l) ?_ ?_ ?_
    · exact (Sub.cons rfl (Sub.cons rfl (Ext.sub (Ext.refl _ _))))
    · exact ⟨ow, Sift.start hj0 hall hj1, o0, by omega, bg.trans bg0.symm⟩
    · rintro ⟨i, j, m⟩ H2 ⟨ow, hsf, o0, hHz, hgk⟩
      have zl_H2 := o0.1
      dsimp only at ow hsf
      have hml := hsf.len
      have hle := hsf.le
      have bg := hgk.trans bg0
      have hwl := ow.lt
      refine KC.seq ?_
      refine KC.seq ?_
      refine KC.region ?_
      refine KL.op (R.move rfl rfl) rfl rfl rfl ?_
      refine KL.op (R.move rfl rfl) rfl rfl rfl ?_
      refine KL.op (R.lenO rfl Try.underlying28 rfl ow) rfl rfl rfl ?_
      refine KL.op (R.lss rfl rfl rfl) rfl rfl rfl ?_
      refine KL.nil ?_
      refine KQ.seq ?_
      refine KC.iteL rfl ?_ ?_
      · intro hc19
        try simp only [decide_eq_true_eq, decide_eq_false_iff_not, Bool.not_eq_true', Bool.not_eq_false', Bool.and_eq_true, Bool.or_eq_false_iff] at hc19
        have hs := ow.sl (emptyOld _) (by omega)
        obtain ⟨hcx, hxr⟩ := hs.impAt j (by omega)
        rw [hsf.behind j (Nat.le_refl _)] at hcx hxr
        have owP := ow
        refine KC.skip ?_
        refine KQ.seq ?_
        refine KC.seq ?_
        refine KC.block ?_
        refine KC.seq ?_
        refine KC.region ?_
        refine KL.op (R.move rfl rfl) rfl rfl rfl ?_
        refine KL.op (R.move rfl rfl) rfl rfl rfl ?_
        refine KL.op (R.index (j := j) rfl Try.underlying28 sz63 rfl rfl hs rfl (by omega)) rfl rfl rfl ?_
        refine KL.op (R.loadAgg rfl Try.underlying63 rfl sz63 rfl hcx rfl) rfl rfl rfl ?_
        have hwlP := ow.lt
        refine KL.opM (M.alloc rfl zr63 rfl) rfl rfl rfl ?_
        rintro _ H3 ⟨rfl, n3⟩
        have z3 := n3.2.1
        have o0 := o0.trans ((n3.1).b (by omega))
        have ow := ow.old n3.1
        have bg := (n3.1).blk bg
        have b3 := n3.2.2
        have b7x := b3
        refine KL.opS (S.storeAgg (us := (l.getD j default).cells) rfl sz63 rfl rfl (rfl) (by exact kind_one) b7x (by simp [Imp.cells])) rfl rfl ?_
        rintro H4 ⟨u4, b4⟩
        have o0 := o0.trans (OldB.upd u4 (by omega))
        have zu4 := u4.1
        have ow := ow.upd u4 (by first | exact .inl rfl | exact .inr (by omega) | exact hwlP.imp id (fun h => by omega) | exact ow.lt.imp id (fun h => by omega))
        have bg := ((u4).2 _ (by omega)).trans bg
        have b7x := b4
        have b7x : _ = some (Obj.cells (l.getD j default).cells.toArray 63 (0, 0)) := b7x
        have hwl := ow.lt
        refine KL.nil ?_
        refine KQ.seq ?_
        refine KC.seq ?_
        refine KC.region ?_
        refine KL.op (R.move rfl rfl) rfl rfl rfl ?_
        refine KL.op (R.loadAgg rfl Try.underlying63 rfl sz63 rfl (cells_of b7x) rfl) rfl rfl rfl ?_
        refine KL.call rfl rfl rfl rfl Try.call43 rfl rfl rfl (of1_2 (l.getD j default) bg) ?_
        rintro _ H5 ⟨rfl, ox⟩
        have zc_H5 := (ox).1
        have o0 := o0.trans ((ox).b (by omega))
        have ow := ow.old ox
        have bg := (ox).blk bg
        have b7x := (ox).blk b7x
        refine KL.op (R.not rfl rfl) rfl rfl rfl ?_
        refine KL.nil ?_
        refine KQ.seq ?_
        refine KC.iteL rfl ?_ ?_
        · intro hc29
          try simp only [decide_eq_true_eq, decide_eq_false_iff_not, Bool.not_eq_true', Bool.not_eq_false', Bool.and_eq_true, Bool.or_eq_false_iff] at hc29
          have hkj : isK 2 (l.getD j default) = true := by simpa using hc29
          refine KC.seq ?_
          refine KC.region ?_
          refine KL.op (R.move rfl rfl) rfl rfl rfl ?_
          refine KL.op (R.move rfl rfl) rfl rfl rfl ?_
          refine KL.op (R.loadAgg rfl Try.underlying63 rfl sz63 rfl (cells_of b7x) rfl) rfl rfl rfl ?_
          refine KL.op (R.index (j := i) rfl Try.underlying28 sz63 rfl rfl (ow.sl (emptyOld _) (by omega)) rfl (by omega)) rfl rfl rfl ?_
          refine KL.opS (S.ownN (j := i) (a := l.getD j default) rfl sz63 rfl rfl rfl kind_one ow (by omega) ⟨rfl, hxr⟩) rfl rfl ?_
          rintro H6 ⟨u1, ow1⟩
          have zu1 := u1.1
          have hvn := hwl.resolve_left (Own.not_nilS ow (by omega))
          have hvg := hgv.resolve_left (Own.not_nilS ow (by omega))
          have o0 := o0.trans (OldB.upd u1 (by omega))
          have bg := (u1.2 _ (by omega)).trans bg
          have ow := ow1
          refine KL.nil ?_
          refine KQ.seq ?_
          refine KC.region ?_
          refine KL.op (R.move rfl rfl) rfl rfl rfl ?_
          refine KL.op ((R.add rfl rfl rfl (by dsimp only [InR]; omega)).val (congrArg (Value.int .i64) (show (i : Int) + 1 = ((i + 1 : Nat) : Int) by omega))) rfl rfl rfl ?_
          refine KL.op (R.assign rfl rfl) rfl rfl rfl ?_
          refine KL.nil ?_
          refine KQ.normBlock ?_
          refine KQ.seq ?_
          refine KC.region ?_
          refine KL.op (R.move rfl rfl) rfl rfl rfl ?_
          refine KL.op ((R.add rfl rfl rfl (by dsimp only [InR]; omega)).val (congrArg (Value.int .i64) (show (j : Int) + 1 = ((j + 1 : Nat) : Int) by omega))) rfl rfl rfl ?_
          refine KL.op (R.assign rfl rfl) rfl rfl rfl ?_
          refine KL.nil ?_
          refine KQ.again ((i + 1, j + 1, m.set i (l.getD j default))) ?_ ?_ ?_
          · exact (Sub.cons rfl (Sub.cons rfl (Ext.sub (by repeat (first | exact Ext.refl _ _ | refine Ext.put rfl ?_ | refine Ext.drop rfl ?_)))))
          · show l.length - (j + 1) < l.length - j; omega
          · exact ⟨ow, by first | exact hsf.keep (by omega) hkj | exact hsf.drop (by omega) hkj, o0, by omega, bg.trans bg0.symm⟩
        · intro hc29
          try simp only [decide_eq_true_eq, decide_eq_false_iff_not, Bool.not_eq_true', Bool.not_eq_false', Bool.and_eq_true, Bool.or_eq_false_iff] at hc29
          have hkj : isK 2 (l.getD j default) = false := by simpa using hc29
          refine KC.skip ?_
          refine KQ.normBlock ?_
          refine KQ.seq ?_
          refine KC.region ?_
          refine KL.op (R.move rfl rfl) rfl rfl rfl ?_
          refine KL.op ((R.add rfl rfl rfl (by dsimp only [InR]; omega)).val (congrArg (Value.int .i64) (show (j : Int) + 1 = ((j + 1 : Nat) : Int) by omega))) rfl rfl rfl ?_
          refine KL.op (R.assign rfl rfl) rfl rfl rfl ?_
          refine KL.nil ?_
          refine KQ.again ((i, j + 1, m)) ?_ ?_ ?_
          · exact (Sub.cons rfl (Sub.cons rfl (Ext.sub (by repeat (first | exact Ext.refl _ _ | refine Ext.put rfl ?_ | refine Ext.drop rfl ?_)))))
          · show l.length - (j + 1) < l.length - j; omega
          · exact ⟨ow, by first | exact hsf.keep (by omega) hkj | exact hsf.drop (by omega) hkj, o0, by omega, bg.trans bg0.symm⟩
      · intro hc19
        try simp only [decide_eq_true_eq, decide_eq_false_iff_not, Bool.not_eq_true', Bool.not_eq_false', Bool.and_eq_true, Bool.or_eq_false_iff] at hc19
        have hjl : j = l.length := by omega
        refine KC.exit ?_
        refine KQ.exitThen ?_
        refine KQ.exitThen ?_
        refine KQ.hit ?_
        refine KQ.seq ?_
        refine KC.seq ?_
        refine KC.region ?_
        refine KL.op (R.move rfl rfl) rfl rfl rfl ?_
        refine KL.op (R.move rfl rfl) rfl rfl rfl ?_
        refine KL.op (R.slice (i := i) (j := m.length) rfl Try.underlying28 sz63 rfl (ow.sl (emptyOld _) (by omega)) (bnd.mk rfl rfl) bnd.no (by omega) (by omega)) rfl rfl rfl ?_
        have owE := ow
        refine KL.opZ (M.clear (j := i) rfl Try.underlying28 zr63 rfl (by decide) rfl ow (by omega)) rfl rfl ?_
        rintro H7 ⟨zc, hkc, owc⟩
        have o0 := o0.trans (⟨by omega, fun y hy => hkc y (hwl.imp id (fun h => by omega))⟩ : OldB B _ H7)
        refine KL.nil ?_
        refine KQ.seq ?_
        refine KC.seq ?_
        refine KC.region ?_
        refine KL.op (R.move rfl rfl) rfl rfl rfl ?_
        refine KL.op (R.move rfl rfl) rfl rfl rfl ?_
        refine KL.op (R.sliceTo (j := i) rfl Try.underlying28 sz63 rfl rfl owE rfl (by omega)) rfl rfl rfl ?_
        refine KL.op (R.assign rfl rfl) rfl rfl rfl ?_
        refine KL.nil ?_
        refine KQ.seq ?_
        refine KC.ret ?_
        refine KQ.ofRet ?_
        refine KQ.fin1 Try.results41 rfl ?_
        first
          | (have e : ofK 2 l = l := by have := ofK_all (k := 2) (Nat.le_refl l.length) hall; rwa [List.take_length] at this
             rw [e]; exact ⟨ow, o0⟩)
          | (have ha := hsf.ahead
             rw [hjl, List.take_length] at ha
             rw [← ha]; exact ⟨owc, o0⟩)

set_option maxRecDepth 100000 in
set_option maxHeartbeats 4000000 in
theorem kind3 {H : Heap} (x : Imp) : Ct Try.prog 33 [.agg x.cells.toArray] H (fun u H' => u = .bool (isK 3 x) ∧ Old H H') := by
  refine Ct.mk Try.func33 rfl Try.ntmps33 rfl ?_
  intro W0 hW0
  have o0 : Old H H := Old.refl H
  unfold Imp.cells
  refine KC.seq ?_
  refine KC.region ?_
  refine KL.opM (M.box rfl rfl rfl) rfl rfl rfl ?_
  rintro _ H1 ⟨rfl, n1⟩
  have z1 := n1.2.1
  have o0 := o0.trans n1.1
  have b1 := n1.2.2
  have bx := b1
  refine KL.op (R.assign rfl rfl) rfl rfl rfl ?_
  refine KL.nil ?_
  refine KQ.seq ?_
  refine KC.seq ?_
  refine KC.region ?_
  refine KL.op ((by first | exact R.fieldAddr rfl Try.underlying78 rfl rfl sz5 rfl | exact R.fieldAddrP rfl Try.underlying78 rfl rfl sz5 rfl)) rfl rfl rfl ?_
  refine KL.op (R.load rfl Try.underlying5 rfl rfl (by first | exact cell_of bx rfl | assumption)) rfl rfl rfl ?_
  refine KL.op (R.eql rfl rfl rfl) rfl rfl rfl ?_
  refine KL.op (R.assign rfl rfl) rfl rfl rfl ?_
  refine KL.nil ?_
  refine KQ.seq ?_
  refine KC.ret ?_
  refine KQ.ofRet ?_
  refine KQ.fin1 Try.results33 rfl ?_
  exact ⟨rfl, o0⟩

set_option maxRecDepth 100000 in
set_option maxHeartbeats 4000000 in
theorem of1_3 {H : Heap} {g : Nat} (x : Imp) (bg : H[g]? = some (.cells [.func (.func 33) #[] #[]].toArray 77 (0, 0))) : Ct Try.prog 43 [.agg x.cells.toArray, .pointer (some ⟨g, 0, none⟩)] H (fun u H' => u = .bool (!isK 3 x) ∧ Old H H') := by
  refine Ct.mk Try.func43 rfl Try.ntmps43 rfl ?_
  intro W0 hW0
  have o0 : Old H H := Old.refl H
  refine KC.seq ?_
  refine KC.region ?_
  refine KL.opM (M.box (cs := x.cells) rfl rfl rfl) rfl rfl rfl ?_
  rintro _ H1 ⟨rfl, n1⟩
  have z1 := n1.2.1
  have o0 := o0.trans n1.1
  have bg := (n1.1).blk bg
  have b1 := n1.2.2
  have bx := b1
  refine KL.op (R.assign rfl rfl) rfl rfl rfl ?_
  refine KL.nil ?_
  refine KQ.seq ?_
  refine KC.seq ?_
  refine KC.region ?_
  refine KL.op (R.load rfl Try.underlying77 rfl rfl (by first | exact cell_of bg rfl | exact cell_of bx rfl | assumption)) rfl rfl rfl ?_
  refine KL.op (R.loadAgg rfl Try.underlying63 rfl sz63 rfl (cells_of bx) rfl) rfl rfl rfl ?_
  refine KL.call rfl rfl rfl rfl Try.call33 rfl rfl rfl (kind3 x) ?_
  rintro _ H2 ⟨rfl, ox⟩
  have zc_H2 := (ox).1
  have o0 := o0.trans ox
  have bg := (ox).blk bg
  have bx := (ox).blk bx
  refine KL.op (R.not rfl rfl) rfl rfl rfl ?_
  refine KL.op (R.assign rfl rfl) rfl rfl rfl ?_
  refine KL.nil ?_
  refine KQ.seq ?_
  refine KC.ret ?_
  refine KQ.ofRet ?_
  refine KQ.fin1 Try.results43 rfl ?_
  exact ⟨rfl, o0⟩

set_option maxRecDepth 100000 in
set_option maxHeartbeats 4000000 in
theorem idx_3 {H : Heap} {g : Nat} {v : Value} {l : List Imp} (hs0 : Sl 8 EImp H v l) (hl : l.length ≤ 100000000000) (bg : H[g]? = some (.cells [.func (.func 33) #[] #[]].toArray 77 (0, 0))) : Ct Try.prog 44 [v, .func (.func 43) #[] #[.pointer (some ⟨g, 0, none⟩)]] H (fun u H' => ((u = .int .i64 (-1) ∧ ∀ i, i < l.length → isK 3 (l.getD i default) = true) ∨ ∃ j, u = .int .i64 (j : Nat) ∧ j < l.length ∧ (∀ i, i < j → isK 3 (l.getD i default) = true) ∧ isK 3 (l.getD j default) = false) ∧ Old H H') := by
  refine Ct.mk Try.func44 rfl Try.ntmps44 rfl ?_
  intro W0 hW0
  have o0 : Old H H := Old.refl H
  have hs := hs0
  refine KC.seq ?_
  refine KC.region ?_
  refine KL.op (R.assign rfl rfl) rfl rfl rfl ?_
  refine KL.nil ?_
  refine KQ.seq ?_
  refine KC.seq ?_
  refine KC.seq ?_
  refine KC.region ?_
  refine KL.op (R.move rfl rfl) rfl rfl rfl ?_
  refine KL.op (R.lenS rfl Try.underlying28 rfl hs) rfl rfl rfl ?_
  refine KL.op (R.move rfl rfl) rfl rfl rfl ?_
  refine KL.nil ?_
  refine KQ.seq ?_
  refine KC.block ?_
  refine KC.loopD (κ := Nat) [9, 10, 5, 11, 12, 13, 14, 15, 16, 17, 4, 18, 8] (fun k => [(8, .int .i64 (k : Nat))]) (fun k Hl => k ≤ l.length ∧ Old H Hl ∧ ∀ i, i < k → isK 3 (l.getD i default) = true) (fun k => l.length - k) 0 ?_ ?_ ?_
  · exact (Sub.cons rfl (Ext.sub (Ext.refl _ _)))
  · exact ⟨Nat.zero_le _, o0, fun i hi => by omega⟩
  · rintro k H1 ⟨hk, o0, hall⟩
    have zl_H1 := o0.1
    have zl := o0.1
    have hs := hs0.old o0
    have bg := o0.blk bg
    refine KC.seq ?_
    refine KC.region ?_
    refine KL.op (R.lss rfl rfl rfl) rfl rfl rfl ?_
    refine KL.nil ?_
    refine KQ.seq ?_
    refine KC.seq ?_
    refine KC.iteL rfl ?_ ?_
    · intro hc9
      try simp only [decide_eq_true_eq, decide_eq_false_iff_not, Bool.not_eq_true', Bool.not_eq_false', Bool.and_eq_true, Bool.or_eq_false_iff] at hc9
      obtain ⟨hcx, hxr⟩ := hs.impAt k (by omega)
      refine KC.skip ?_
      refine KQ.seq ?_
      refine KC.seq ?_
      refine KC.block ?_
      refine KC.seq ?_
      refine KC.region ?_
      refine KL.op (R.move rfl rfl) rfl rfl rfl ?_
      refine KL.op (R.assign rfl rfl) rfl rfl rfl ?_
      refine KL.nil ?_
      refine KQ.seq ?_
      refine KC.seq ?_
      refine KC.region ?_
      refine KL.op (R.move rfl rfl) rfl rfl rfl ?_
      refine KL.op (R.move rfl rfl) rfl rfl rfl ?_
      refine KL.op (R.move rfl rfl) rfl rfl rfl ?_
      refine KL.op (R.index (j := k) rfl Try.underlying28 sz63 rfl rfl hs rfl (by omega)) rfl rfl rfl ?_
      refine KL.op (R.loadAgg rfl Try.underlying63 rfl sz63 rfl hcx rfl) rfl rfl rfl ?_
      refine KL.call rfl rfl rfl rfl Try.call43 rfl rfl rfl (of1_3 (l.getD k default) bg) ?_
      rintro _ H2 ⟨rfl, ox⟩
      have zc_H2 := (ox).1
      have o0 := o0.trans ox
      have hs := hs.old ox
      have bg := (ox).blk bg
      refine KL.nil ?_
      refine KQ.seq ?_
      refine KC.iteL rfl ?_ ?_
      · intro hc16
        try simp only [decide_eq_true_eq, decide_eq_false_iff_not, Bool.not_eq_true', Bool.not_eq_false', Bool.and_eq_true, Bool.or_eq_false_iff] at hc16
        refine KC.seq ?_
        refine KC.region ?_
        refine KL.op (R.move rfl rfl) rfl rfl rfl ?_
        refine KL.op (R.assign rfl rfl) rfl rfl rfl ?_
        refine KL.nil ?_
        refine KQ.seq ?_
        refine KC.ret ?_
        refine KQ.retBlock ?_
        refine KQ.retThen ?_
        refine KQ.retThen ?_
        refine KQ.retBlock ?_
        refine KQ.retThen ?_
        refine KQ.ofRet ?_
        refine KQ.fin1 Try.results44 rfl ?_
        first
          | exact ⟨.inr ⟨k, rfl, by omega, hall, by simpa using hc16⟩, o0⟩
          | exact ⟨.inl ⟨rfl, fun i hi => hall i (by omega)⟩, o0⟩
      · intro hc16
        try simp only [decide_eq_true_eq, decide_eq_false_iff_not, Bool.not_eq_true', Bool.not_eq_false', Bool.and_eq_true, Bool.or_eq_false_iff] at hc16
        refine KC.skip ?_
        refine KQ.normBlock ?_
        refine KQ.seq ?_
        refine KC.region ?_
        refine KL.op ((R.add rfl rfl rfl (by dsimp only [InR]; omega)).val (congrArg (Value.int .i64) (show (k : Int) + 1 = ((k + 1 : Nat) : Int) by omega))) rfl rfl rfl ?_
        refine KL.op (R.move rfl rfl) rfl rfl rfl ?_
        refine KL.nil ?_
        refine KQ.again (k + 1) ?_ ?_ ?_
        · exact (Sub.cons rfl (Ext.sub (by repeat (first | exact Ext.refl _ _ | refine Ext.put rfl ?_ | refine Ext.drop rfl ?_))))
        · omega
        · exact ⟨by omega, o0, fun i hi => by
            by_cases e : i = k
            · subst e; simpa using hc16
            · exact hall i (by omega)⟩
    · intro hc9
      try simp only [decide_eq_true_eq, decide_eq_false_iff_not, Bool.not_eq_true', Bool.not_eq_false', Bool.and_eq_true, Bool.or_eq_false_iff] at hc9
      refine KC.exit ?_
      refine KQ.exitThen ?_
      refine KQ.exitThen ?_
      refine KQ.hit ?_
      refine KQ.seq ?_
      refine KC.seq ?_
      refine KC.region ?_
      refine KL.op (R.assign rfl rfl) rfl rfl rfl ?_
      refine KL.nil ?_
      refine KQ.seq ?_
      refine KC.ret ?_
      refine KQ.ofRet ?_
      refine KQ.fin1 Try.results44 rfl ?_
      first
        | exact ⟨.inr ⟨k, rfl, by omega, hall, by simpa using hc16⟩, o0⟩
        | exact ⟨.inl ⟨rfl, fun i hi => hall i (by omega)⟩, o0⟩

set_option maxRecDepth 100000 in
set_option maxHeartbeats 4000000 in
theorem del_3 {H : Heap} {g B : Nat} {v : Value} {l : List Imp} (ow0 : Own 8 EImp 63 #[] B H v l) (hB : B ≤ H.size) (hgv : v = .slice none 0 0 ∨ vblock v ≠ g) (hl : l.length ≤ 100000000000) (bg : H[g]? = some (.cells [.func (.func 33) #[] #[]].toArray 77 (0, 0))) : Ct Try.prog 41 [v, .func (.func 43) #[] #[.pointer (some ⟨g, 0, none⟩)]] H (fun u H' => Own 8 EImp 63 #[] B H' u (ofK 3 l) ∧ OldB B H H') := by
  refine Ct.mk Try.func41 rfl Try.ntmps41 rfl ?_
  intro W0 hW0
  have o0 : OldB B H H := OldB.refl _ H
  have ow := ow0
  have bg0 := bg
  have hgl := blk_lt bg
  refine KC.seq ?_
  refine KC.region ?_
  refine KL.op (R.assign rfl rfl) rfl rfl rfl ?_
  refine KL.nil ?_
  refine KQ.seq ?_
  refine KC.seq ?_
  refine KC.region ?_
  refine KL.op (R.move rfl rfl) rfl rfl rfl ?_
  refine KL.op (R.move rfl rfl) rfl rfl rfl ?_
  have hs := ow.sl (emptyOld _) (by omega)
  have hwl := ow.lt
  refine KL.call rfl rfl rfl rfl Try.call44 rfl rfl rfl (idx_3 hs hl bg) ?_
  rintro u H1 ⟨hR, ox⟩
  rcases hR with ⟨rfl, hall⟩ | ⟨j0, rfl, hj0, hall, hj1⟩
  · skip
    have o0 := o0.trans ((ox).b (by omega))
    have ow := ow.old ox
    have bg := (ox).blk bg
    have zox := ox.1
    refine KL.op (R.assign rfl rfl) rfl rfl rfl ?_
    refine KL.nil ?_
    refine KQ.seq ?_
    refine KC.seq ?_
    refine KC.seq ?_
    refine KC.region ?_
    refine KL.op (R.move rfl rfl) rfl rfl rfl ?_
    refine KL.op ((R.eql rfl rfl rfl).val (congrArg Value.bool (decide_eq_true (by rfl)))) rfl rfl rfl ?_
    refine KL.nil ?_
    refine KQ.seq ?_
    refine KC.condT rfl ?_
    refine KC.seq ?_
    refine KC.region ?_
    refine KL.op (R.move rfl rfl) rfl rfl rfl ?_
    refine KL.op (R.assign rfl rfl) rfl rfl rfl ?_
    refine KL.nil ?_
    refine KQ.seq ?_
    refine KC.ret ?_
    refine KQ.retThen ?_
    refine KQ.ofRet ?_
    refine KQ.fin1 Try.results41 rfl ?_
    first
      | (have e : ofK 3 l = l := by have := ofK_all (k := 3) (Nat.le_refl l.length) hall; rwa [List.take_length] at this
         rw [e]; exact ⟨ow, o0⟩)
      | (have ha := hsf.ahead
         rw [hjl, List.take_length] at ha
         rw [← ha]; exact ⟨owc, o0⟩)
  · skip
    have o0 := o0.trans ((ox).b (by omega))
    have ow := ow.old ox
    have bg := (ox).blk bg
    have zox := ox.1
    have owS := ow
    refine KL.op (R.assign rfl rfl) rfl rfl rfl ?_
    refine KL.nil ?_
    refine KQ.seq ?_
    refine KC.seq ?_
    refine KC.seq ?_
    refine KC.region ?_
    refine KL.op (R.move rfl rfl) rfl rfl rfl ?_
    refine KL.op ((R.eql rfl rfl rfl).val (congrArg Value.bool (decide_eq_false (by omega)))) rfl rfl rfl ?_
    refine KL.nil ?_
    refine KQ.seq ?_
    refine KC.condF rfl ?_
    refine KC.skip ?_
    refine KQ.seq ?_
    refine KC.seq ?_
    refine KC.seq ?_
    refine KC.region ?_
    refine KL.op (R.move rfl rfl) rfl rfl rfl ?_
    refine KL.op ((R.add rfl rfl rfl (by dsimp only [InR]; omega)).val (congrArg (Value.int .i64) (show (j0 : Int) + 1 = ((j0 + 1 : Nat) : Int) by omega))) rfl rfl rfl ?_
    refine KL.op (R.assign rfl rfl) rfl rfl rfl ?_
    refine KL.nil ?_
    refine KQ.seq ?_
    refine KC.block ?_
    refine KC.loopD (κ := Nat × Nat × List Imp) [16, 17, 18, 19, 22, 23, 24, 25, 7, 26, 27, 28, 29, 30, 31, 32, 33, 34, 35, 5, 20, 21, 6] (fun k => [(5, .int .i64 (k.1 : Nat)), (6, .int .i64 (k.2.1 : Nat))]) (fun k Hl => Own 8 EImp 63 #[] B Hl v k.2.2 ∧ Sift 3 l k.2.2 k.1 k.2.1 ∧ OldB B H Hl ∧ H.size ≤ Hl.size ∧ Hl[g]? = H[g]?) (fun k => l.length - k.2.1) (j0, j0 + 1, l) ?_ ?_ ?_
    · exact (Sub.cons rfl (Sub.cons rfl (Ext.sub (Ext.refl _ _))))
    · exact ⟨ow, Sift.start hj0 hall hj1, o0, by omega, bg.trans bg0.symm⟩
    · rintro ⟨i, j, m⟩ H2 ⟨ow, hsf, o0, hHz, hgk⟩
      have zl_H2 := o0.1
      dsimp only at ow hsf
      have hml := hsf.len
      have hle := hsf.le
      have bg := hgk.trans bg0
      have hwl := ow.lt
      refine KC.seq ?_
      refine KC.seq ?_
      refine KC.region ?_
      refine KL.op (R.move rfl rfl) rfl rfl rfl ?_
      refine KL.op (R.move rfl rfl) rfl rfl rfl ?_
      refine KL.op (R.lenO rfl Try.underlying28 rfl ow) rfl rfl rfl ?_
      refine KL.op (R.lss rfl rfl rfl) rfl rfl rfl ?_
      refine KL.nil ?_
      refine KQ.seq ?_
      refine KC.iteL rfl ?_ ?_
      · intro hc19
        try simp only [decide_eq_true_eq, decide_eq_false_iff_not, Bool.not_eq_true', Bool.not_eq_false', Bool.and_eq_true, Bool.or_eq_false_iff] at hc19
        have hs := ow.sl (emptyOld _) (by omega)
        obtain ⟨hcx, hxr⟩ := hs.impAt j (by omega)
        rw [hsf.behind j (Nat.le_refl _)] at hcx hxr
        have owP := ow
        refine KC.skip ?_
        refine KQ.seq ?_
        refine KC.seq ?_
        refine KC.block ?_
        refine KC.seq ?_
        refine KC.region ?_
        refine KL.op (R.move rfl rfl) rfl rfl rfl ?_
        refine KL.op (R.move rfl rfl) rfl rfl rfl ?_
        refine KL.op (R.index (j := j) rfl Try.underlying28 sz63 rfl rfl hs rfl (by omega)) rfl rfl rfl ?_
        refine KL.op (R.loadAgg rfl Try.underlying63 rfl sz63 rfl hcx rfl) rfl rfl rfl ?_
        have hwlP := ow.lt
        refine KL.opM (M.alloc rfl zr63 rfl) rfl rfl rfl ?_
        rintro _ H3 ⟨rfl, n3⟩
        have z3 := n3.2.1
        have o0 := o0.trans ((n3.1).b (by omega))
        have ow := ow.old n3.1
        have bg := (n3.1).blk bg
        have b3 := n3.2.2
        have b7x := b3
        refine KL.opS (S.storeAgg (us := (l.getD j default).cells) rfl sz63 rfl rfl (rfl) (by exact kind_one) b7x (by simp [Imp.cells])) rfl rfl ?_
        rintro H4 ⟨u4, b4⟩
        have o0 := o0.trans (OldB.upd u4 (by omega))
        have zu4 := u4.1
        have ow := ow.upd u4 (by first | exact .inl rfl | exact .inr (by omega) | exact hwlP.imp id (fun h => by omega) | exact ow.lt.imp id (fun h => by omega))
        have bg := ((u4).2 _ (by omega)).trans bg
        have b7x := b4
        have b7x : _ = some (Obj.cells (l.getD j default).cells.toArray 63 (0, 0)) := b7x
        have hwl := ow.lt
        refine KL.nil ?_
        refine KQ.seq ?_
        refine KC.seq ?_
        refine KC.region ?_
        refine KL.op (R.move rfl rfl) rfl rfl rfl ?_
        refine KL.op (R.loadAgg rfl Try.underlying63 rfl sz63 rfl (cells_of b7x) rfl) rfl rfl rfl ?_
        refine KL.call rfl rfl rfl rfl Try.call43 rfl rfl rfl (of1_3 (l.getD j default) bg) ?_
        rintro _ H5 ⟨rfl, ox⟩
        have zc_H5 := (ox).1
        have o0 := o0.trans ((ox).b (by omega))
        have ow := ow.old ox
        have bg := (ox).blk bg
        have b7x := (ox).blk b7x
        refine KL.op (R.not rfl rfl) rfl rfl rfl ?_
        refine KL.nil ?_
        refine KQ.seq ?_
        refine KC.iteL rfl ?_ ?_
        · intro hc29
          try simp only [decide_eq_true_eq, decide_eq_false_iff_not, Bool.not_eq_true', Bool.not_eq_false', Bool.and_eq_true, Bool.or_eq_false_iff] at hc29
          have hkj : isK 3 (l.getD j default) = true := by simpa using hc29
          refine KC.seq ?_
          refine KC.region ?_
          refine KL.op (R.move rfl rfl) rfl rfl rfl ?_
          refine KL.op (R.move rfl rfl) rfl rfl rfl ?_
          refine KL.op (R.loadAgg rfl Try.underlying63 rfl sz63 rfl (cells_of b7x) rfl) rfl rfl rfl ?_
          refine KL.op (R.index (j := i) rfl Try.underlying28 sz63 rfl rfl (ow.sl (emptyOld _) (by omega)) rfl (by omega)) rfl rfl rfl ?_
          refine KL.opS (S.ownN (j := i) (a := l.getD j default) rfl sz63 rfl rfl rfl kind_one ow (by omega) ⟨rfl, hxr⟩) rfl rfl ?_
          rintro H6 ⟨u1, ow1⟩
          have zu1 := u1.1
          have hvn := hwl.resolve_left (Own.not_nilS ow (by omega))
          have hvg := hgv.resolve_left (Own.not_nilS ow (by omega))
          have o0 := o0.trans (OldB.upd u1 (by omega))
          have bg := (u1.2 _ (by omega)).trans bg
          have ow := ow1
          refine KL.nil ?_
          refine KQ.seq ?_
          refine KC.region ?_
          refine KL.op (R.move rfl rfl) rfl rfl rfl ?_
          refine KL.op ((R.add rfl rfl rfl (by dsimp only [InR]; omega)).val (congrArg (Value.int .i64) (show (i : Int) + 1 = ((i + 1 : Nat) : Int) by omega))) rfl rfl rfl ?_
          refine KL.op (R.assign rfl rfl) rfl rfl rfl ?_
          refine KL.nil ?_
          refine KQ.normBlock ?_
          refine KQ.seq ?_
          refine KC.region ?_
          refine KL.op (R.move rfl rfl) rfl rfl rfl ?_
          refine KL.op ((R.add rfl rfl rfl (by dsimp only [InR]; omega)).val (congrArg (Value.int .i64) (show (j : Int) + 1 = ((j + 1 : Nat) : Int) by omega))) rfl rfl rfl ?_
          refine KL.op (R.assign rfl rfl) rfl rfl rfl ?_
          refine KL.nil ?_
          refine KQ.again ((i + 1, j + 1, m.set i (l.getD j default))) ?_ ?_ ?_
          · exact (Sub.cons rfl (Sub.cons rfl (Ext.sub (by repeat (first | exact Ext.refl _ _ | refine Ext.put rfl ?_ | refine Ext.drop rfl ?_)))))
          · show l.length - (j + 1) < l.length - j; omega
          · exact ⟨ow, by first | exact hsf.keep (by omega) hkj | exact hsf.drop (by omega) hkj, o0, by omega, bg.trans bg0.symm⟩
        · intro hc29
          try simp only [decide_eq_true_eq, decide_eq_false_iff_not, Bool.not_eq_true', Bool.not_eq_false', Bool.and_eq_true, Bool.or_eq_false_iff] at hc29
          have hkj : isK 3 (l.getD j default) = false := by simpa using hc29
          refine KC.skip ?_
          refine KQ.normBlock ?_
          refine KQ.seq ?_
          refine KC.region ?_
          refine KL.op (R.move rfl rfl) rfl rfl rfl ?_
          refine KL.op ((R.add rfl rfl rfl (by dsimp only [InR]; omega)).val (congrArg (Value.int .i64) (show (j : Int) + 1 = ((j + 1 : Nat) : Int) by omega))) rfl rfl rfl ?_
          refine KL.op (R.assign rfl rfl) rfl rfl rfl ?_
          refine KL.nil ?_
          refine KQ.again ((i, j + 1, m)) ?_ ?_ ?_
          · exact (Sub.cons rfl (Sub.cons rfl (Ext.sub (by repeat (first | exact Ext.refl _ _ | refine Ext.put rfl ?_ | refine Ext.drop rfl ?_)))))
          · show l.length - (j + 1) < l.length - j; omega
          · exact ⟨ow, by first | exact hsf.keep (by omega) hkj | exact hsf.drop (by omega) hkj, o0, by omega, bg.trans bg0.symm⟩
      · intro hc19
        try simp only [decide_eq_true_eq, decide_eq_false_iff_not, Bool.not_eq_true', Bool.not_eq_false', Bool.and_eq_true, Bool.or_eq_false_iff] at hc19
        have hjl : j = l.length := by omega
        refine KC.exit ?_
        refine KQ.exitThen ?_
        refine KQ.exitThen ?_
        refine KQ.hit ?_
        refine KQ.seq ?_
        refine KC.seq ?_
        refine KC.region ?_
        refine KL.op (R.move rfl rfl) rfl rfl rfl ?_
        refine KL.op (R.move rfl rfl) rfl rfl rfl ?_
        refine KL.op (R.slice (i := i) (j := m.length) rfl Try.underlying28 sz63 rfl (ow.sl (emptyOld _) (by omega)) (bnd.mk rfl rfl) bnd.no (by omega) (by omega)) rfl rfl rfl ?_
        have owE := ow
        refine KL.opZ (M.clear (j := i) rfl Try.underlying28 zr63 rfl (by decide) rfl ow (by omega)) rfl rfl ?_
        rintro H7 ⟨zc, hkc, owc⟩
        have o0 := o0.trans (⟨by omega, fun y hy => hkc y (hwl.imp id (fun h => by omega))⟩ : OldB B _ H7)
        refine KL.nil ?_
        refine KQ.seq ?_
        refine KC.seq ?_
        refine KC.region ?_
        refine KL.op (R.move rfl rfl) rfl rfl rfl ?_
        refine KL.op (R.move rfl rfl) rfl rfl rfl ?_
        refine KL.op (R.sliceTo (j := i) rfl Try.underlying28 sz63 rfl rfl owE rfl (by omega)) rfl rfl rfl ?_
        refine KL.op (R.assign rfl rfl) rfl rfl rfl ?_
        refine KL.nil ?_
        refine KQ.seq ?_
        refine KC.ret ?_
        refine KQ.ofRet ?_
        refine KQ.fin1 Try.results41 rfl ?_
        first
          | (have e : ofK 3 l = l := by have := ofK_all (k := 3) (Nat.le_refl l.length) hall; rwa [List.take_length] at this
             rw [e]; exact ⟨ow, o0⟩)
          | (have ha := hsf.ahead
             rw [hjl, List.take_length] at ha
             rw [← ha]; exact ⟨owc, o0⟩)

end Go.Proofs.Ytbmikddaiedhiaa
