/- The document's marks; how long bytes are. No condition but those stated. -/
import Derived.Test.YtnjodpgahbpiaaaInsH
namespace Go.Proofs.Ytnjodpgahbpiaaa
open Go Go.RowKit
set_option linter.unusedVariables false
set_option linter.unusedSimpArgs false
set_option linter.unnecessarySimpa false

namespace Isp
/-- the document's marks -/
def opn (l : List Int) (op : Int) : Option (List Int) :=
  if op = 2 ∨ op = 3 then some (l ++ [1])
  else if op = 4 then some (l ++ [2])
  else if op = 5 then (if l = [] ∨ l.getD (l.length - 1) default ≠ 2 then none else some (l.take (l.length - 1) ++ [3]))
  else if op = 11 then (if l = [] then none else some (l.take (l.length - 1)))
  else some l
def dm (m : Int) : Int := if m = 4 then 2 else if m = 5 then 3 else 1
def okm (m : List Int) : Prop := ∀ x ∈ m, x = 2 ∨ x = 3 ∨ x = 4 ∨ x = 5
theorem opn_nx {m : List Int} (hm : okm m) (op : Int) : opn (m.map dm) op = (match nx m op with | .go m' => some (m'.map dm) | _ => none) ∧ ∀ m', nx m op = .go m' → okm m' := by
  have hl : m ≠ [] → (m.map dm).getD (m.length - 1) default = dm (m.getD (m.length - 1) default) := by
    intro h
    have : m.length ≠ 0 := fun e => h (List.eq_nil_of_length_eq_zero e)
    rw [List.getD_eq_getElem?_getD, List.getElem?_map, List.getElem?_eq_getElem (by omega), List.getD_eq_getElem?_getD, List.getElem?_eq_getElem (by omega)]
    rfl
  have ht : ∀ n, okm (m.take n) := fun n x hx => hm x (List.mem_of_mem_take hx)
  have ha : ∀ (l : List Int) (x : Int), okm l → (x = 2 ∨ x = 3 ∨ x = 4 ∨ x = 5) → okm (l ++ [x]) := by
    intro l x h hx y hy
    rcases List.mem_append.1 hy with hy | hy
    · exact h y hy
    · simp at hy; subst hy; exact hx
  unfold opn nx
  by_cases h2 : op = 2
  · subst h2; simp [dm]; exact ha _ _ hm (.inl rfl)
  by_cases h3 : op = 3
  · subst h3; simp [dm]; exact ha _ _ hm (.inr (.inl rfl))
  by_cases h4 : op = 4
  · subst h4; simp [dm]; exact ha _ _ hm (.inr (.inr (.inl rfl)))
  by_cases h5 : op = 5
  · subst h5
    simp only [List.length_map, List.map_eq_nil_iff]
    by_cases he : m = []
    · subst he; simp
    · rw [hl he]
      have hmem : m.getD (m.length - 1) default = 2 ∨ m.getD (m.length - 1) default = 3 ∨ m.getD (m.length - 1) default = 4 ∨ m.getD (m.length - 1) default = 5 := by
        have : m.length ≠ 0 := fun e => he (List.eq_nil_of_length_eq_zero e)
        refine hm _ ?_
        rw [List.getD_eq_getElem?_getD, List.getElem?_eq_getElem (by omega)]
        exact List.getElem_mem _
      generalize m.getD (m.length - 1) default = y at *
      rcases hmem with rfl | rfl | rfl | rfl <;> simp [he, dm, List.map_take]
      exact ha _ _ (ht _) (.inr (.inr (.inr rfl)))
  by_cases h11 : op = 11
  · subst h11
    simp only [List.length_map, List.map_eq_nil_iff]
    by_cases he : m = []
    · subst he; simp
    · simp [he, List.map_take]; exact ht _
  · simp [h2, h3, h4, h5, h11]; exact hm
/-- how much there is -/
def bulk (l : List Ins) : Nat := (l.map fun x => 1 + x.l.length).sum
theorem bulk_mem {l : List Ins} {x : Ins} (h : x ∈ l) : 1 + x.l.length ≤ bulk l := by
  induction l with
  | nil => cases h
  | cons y l ih =>
    simp only [bulk, List.map_cons, List.sum_cons] at *
    rcases List.mem_cons.1 h with h | h
    · subst h; omega
    · have := ih h; omega
theorem bulk_len (l : List Ins) : l.length ≤ bulk l := by
  induction l with
  | nil => simp [bulk]
  | cons x l ih => simp only [bulk, List.map_cons, List.sum_cons, List.length_cons] at *; omega
theorem bulk_step {l : List Ins} {k : Nat} (hk : k < l.length) : bulk (l.take (k + 1)) = bulk (l.take k) + 1 + (l.getD k default).l.length := by
  unfold bulk
  rw [List.take_add_one, List.getElem?_eq_getElem hk, List.map_append, List.sum_append, List.getD_eq_getElem?_getD, List.getElem?_eq_getElem hk]
  simp
  omega
theorem bulk_take {l : List Ins} (k : Nat) : bulk (l.take k) ≤ bulk l := by
  have h := congrArg bulk (List.take_append_drop k l)
  unfold bulk at *
  rw [List.map_append, List.sum_append] at h
  omega
theorem bytes_len {x : Ins} (hx : InsR x) (hr : ∀ y ∈ x.l, InR .u32 y) (hl : x.l.length ≤ 100000000) : (bytes x).length ≤ 31 * (1 + x.l.length) := by
  have h1 := apL hx.2.1
  have h2 := apL hx.2.2.1
  have h3 := apS hx.2.2.2
  have h4 := apF hr
  have h5 := apL (z := ((x.l.length : Nat) : Int)) (by dsimp only [InR]; omega)
  unfold bytes bodyE rest labsE
  dsimp only
  simp only [List.length_cons]
  repeat' split
  all_goals try simp only [List.length_append, List.length_cons, List.length_nil]
  all_goals omega
theorem flat_le {l : List Ins} (h : ∀ x ∈ l, InsR x ∧ (∀ y ∈ x.l, InR .u32 y) ∧ x.l.length ≤ 100000000) : (flat l).length ≤ 31 * bulk l := by
  induction l with
  | nil => simp [flat, bulk]
  | cons x l ih =>
    have h1 := bytes_len (h x (by simp)).1 (h x (by simp)).2.1 (h x (by simp)).2.2
    have h2 := ih (fun y hy => h y (by simp [hy]))
    simp only [flat, bulk, List.flatMap_cons, List.map_cons, List.sum_cons, List.length_append] at *
    omega
theorem walk_step {l : List Ins} {k : Nat} {m m' : List Int} (hk : k < l.length) (h : walkM [] (l.take k) = some m) (hn : nx m (l.getD k default).op = .go m') : walkM [] (l.take (k + 1)) = some m' := by
  have key : ∀ (xs : List Ins) (a : List Int) (y : Ins), walkM a xs = some m → nx m y.op = .go m' → walkM a (xs ++ [y]) = some m' := by
    intro xs
    induction xs with
    | nil => intro a y h1 h2; simp only [walkM, Option.some.injEq] at h1; subst h1; simp [walkM, h2]
    | cons z xs ih =>
      intro a y h1 h2
      simp only [walkM, List.cons_append] at h1 ⊢
      split at h1
      · next a' e => exact ih _ _ h1 h2
      · cases h1
  rw [List.take_add_one, List.getElem?_eq_getElem hk]
  refine key _ _ _ h ?_
  rw [List.getD_eq_getElem?_getD, List.getElem?_eq_getElem hk] at hn
  exact hn
theorem walk_stop {l : List Ins} {k : Nat} {m : List Int} (hk : k < l.length) (h : walkM [] (l.take k) = some m) (hn : ∀ m', nx m (l.getD k default).op ≠ .go m') : walkM [] l = none := by
  have key : ∀ (xs ys : List Ins) (a : List Int) (y : Ins), walkM a xs = some m → (∀ m', nx m y.op ≠ .go m') → walkM a (xs ++ y :: ys) = none := by
    intro xs ys
    induction xs with
    | nil =>
      intro a y h1 h2
      simp only [walkM, Option.some.injEq] at h1; subst h1
      simp only [List.nil_append, walkM] <;> (cases hq : nx a y.op <;> first | rfl | exact absurd hq (h2 _))
    | cons z xs ih =>
      intro a y h1 h2
      simp only [walkM, List.cons_append] at h1 ⊢
      split at h1
      · next a' e => exact ih _ _ h1 h2
      · cases h1
  have e : l = l.take k ++ l.getD k default :: l.drop (k + 1) := by
    rw [List.getD_eq_getElem?_getD, List.getElem?_eq_getElem hk]
    conv => lhs; rw [← List.take_append_drop k l, List.drop_eq_getElem_cons hk]
    rfl
  rw [e]; exact key _ _ _ _ h hn
theorem flat_step {l : List Ins} {k : Nat} (hk : k < l.length) : flat (l.take (k + 1)) = flat (l.take k) ++ bytes (l.getD k default) := by
  unfold flat
  rw [List.take_add_one, List.getElem?_eq_getElem hk, List.flatMap_append, List.getD_eq_getElem?_getD, List.getElem?_eq_getElem hk]
  simp
end Isp

set_option maxRecDepth 100000 in
set_option maxHeartbeats 4000000 in
theorem Open_any {H : Heap} {v : Value} {l : List Int} (op : Int) (hs : Sl 1 (EInt .i64) H v l) (hl : l.length ≤ 100000000) : Ct Try.prog 25 [v, .int .u8 op] H (fun u H' => (match Isp.opn l op with | none => u = .tuple #[.slice none 0 0, .bool false] | some l' => ∃ v', u = .tuple #[v', .bool true] ∧ Own 1 (EInt .i64) 3 #[] H.size H' v' l') ∧ Old H H') := by
  refine Ct.mk Try.func25 rfl Try.ntmps25 rfl ?_
  intro W0 hW0
  have o0 : Old H H := Old.refl H
  refine KC.seq ?_
  refine KC.region ?_
  refine KL.op (R.assign rfl rfl) rfl rfl rfl ?_
  refine KL.op (R.assign rfl rfl) rfl rfl rfl ?_
  refine KL.nil ?_
  refine KQ.seq ?_
  refine KC.seq ?_
  refine KC.region ?_
  refine KL.opM (M.lit rfl Try.underlying63 zs3 (by decide) rfl rfl rfl) rfl rfl rfl ?_
  rintro _ H1 ⟨rfl, n1⟩
  have z1 := n1.2.1
  have o0 := o0.trans n1.1
  have hs := hs.old n1.1
  have b1 := n1.2.2
  have wa : Own 1 (EInt .i64) 3 #[] H.size H1 _ [] := Own.litI (l := []) n1 (Nat.le_refl _) rfl (by decide) (by intro x hx; cases hx)
  refine KL.op (R.move rfl rfl) rfl rfl rfl ?_
  have lt2 := wa.lt
  refine KL.opM (M.append rfl Try.underlying63 inf3 rfl (by decide) rfl rfl wa (by exact hs) (fun _ _ h _ => h) (by omega) (by simp; omega) (by unfold maxLen; simp; omega)) rfl rfl rfl ?_
  rintro v0 H2 ⟨w2, g2⟩
  try dsimp only at g2
  have ob2 := g2.oldB wa (by omega)
  have o0 := o0.then ob2 (by omega)
  have z2 := ob2.1
  have wa := w2
  rw [List.nil_append] at wa
  refine KL.op (R.assign rfl rfl) rfl rfl rfl ?_
  refine KL.nil ?_
  refine KQ.seq ?_
  refine KC.seq ?_
  refine KC.region ?_
  refine KL.op (R.move rfl rfl) rfl rfl rfl ?_
  refine KL.op (R.lenO rfl Try.underlying63 rfl wa) rfl rfl rfl ?_
  refine KL.op (R.assign rfl rfl) rfl rfl rfl ?_
  refine KL.nil ?_
  refine KQ.seq ?_
  refine KC.seq ?_
  refine KC.seq ?_
  refine KC.region ?_
  refine KL.op (R.move rfl rfl) rfl rfl rfl ?_
  refine KL.nil ?_
  refine KQ.seq ?_
  refine KC.block ?_
  refine KC.seq ?_
  refine KC.seq ?_
  refine KC.region ?_
  refine KL.op (R.eql rfl rfl rfl) rfl rfl rfl ?_
  refine KL.op (R.assign rfl rfl) rfl rfl rfl ?_
  refine KL.nil ?_
  refine KQ.seq ?_
  refine KC.iteL rfl ?_ ?_
  · intro hc14
    try simp only [decide_eq_true_eq, decide_eq_false_iff_not, Bool.not_eq_true', Bool.not_eq_false', Bool.and_eq_true, Bool.or_eq_false_iff] at hc14
    refine KC.skip ?_
    refine KQ.seq ?_
    refine KC.condT rfl ?_
    refine KC.seq ?_
    refine KC.region ?_
    refine KL.op (R.move rfl rfl) rfl rfl rfl ?_
    refine KL.opM (M.lit rfl Try.underlying63 zs3 (by decide) rfl rfl rfl) rfl rfl rfl ?_
    rintro _ H3 ⟨rfl, n3⟩
    have z3 := n3.2.1
    have o0 := o0.trans n3.1
    have wa := wa.old n3.1
    have b3 := n3.2.2
    have h1 : Sl 1 (EInt .i64) H3 _ [1] := Sl.lits (l := [1]) n3 rfl (by simp) (by decide)
    have lt4 := wa.lt
    refine KL.opM (M.append rfl Try.underlying63 inf3 rfl (by decide) rfl rfl wa (by exact h1) (fun _ _ h _ => h) (by omega) (by simp; omega) (by unfold maxLen; simp; omega)) rfl rfl rfl ?_
    rintro v1 H4 ⟨w4, g4⟩
    try dsimp only at g4
    have ob4 := g4.oldB wa (by omega)
    have o0 := o0.then ob4 (by omega)
    have z4 := ob4.1
    have wa := w4
    refine KL.op (R.assign rfl rfl) rfl rfl rfl ?_
    refine KL.op (R.assign rfl rfl) rfl rfl rfl ?_
    refine KL.nil ?_
    refine KQ.seq ?_
    refine KC.ret ?_
    refine KQ.retBlock ?_
    refine KQ.retThen ?_
    refine KQ.ofRet ?_
    refine KQ.fin2 Try.results25 rfl rfl ?_
    first
      | exact ⟨by unfold Isp.opn; rw [if_pos (by first | exact .inl hc14 | exact .inr hc14 | omega)]; exact ⟨_, rfl, wa⟩, o0⟩
      | exact ⟨by unfold Isp.opn; rw [if_neg (by omega), if_pos (by omega)]; exact ⟨_, rfl, wa⟩, o0⟩
      | exact ⟨by unfold Isp.opn; rw [if_neg (by omega), if_neg (by omega), if_pos (by omega), if_pos (by first | exact .inl (List.eq_nil_of_length_eq_zero (by omega)) | exact .inr (by assumption))], o0⟩
      | exact ⟨by unfold Isp.opn; rw [if_neg (by omega), if_neg (by omega), if_pos (by omega), if_neg (fun h => h.elim (fun e => absurd (congrArg List.length e) (by simp only [List.length_nil]; omega)) (fun e => e (by first | assumption | omega)))]; exact ⟨_, rfl, wa⟩, o0⟩
      | exact ⟨by unfold Isp.opn; rw [if_neg (by omega), if_neg (by omega), if_neg (by omega), if_pos (by omega), if_pos (List.eq_nil_of_length_eq_zero (by omega))], o0⟩
      | exact ⟨by unfold Isp.opn; rw [if_neg (by omega), if_neg (by omega), if_neg (by omega), if_pos (by omega), if_neg (by rintro e; subst e; simp at *)]; exact ⟨_, rfl, wt⟩, o0⟩
      | exact ⟨by unfold Isp.opn; rw [if_neg (by omega), if_neg (by omega), if_neg (by omega), if_neg (by omega)]; exact ⟨_, rfl, wa⟩, o0⟩
  · intro hc14
    try simp only [decide_eq_true_eq, decide_eq_false_iff_not, Bool.not_eq_true', Bool.not_eq_false', Bool.and_eq_true, Bool.or_eq_false_iff] at hc14
    refine KC.region ?_
    refine KL.op (R.eql rfl rfl rfl) rfl rfl rfl ?_
    refine KL.op (R.assign rfl rfl) rfl rfl rfl ?_
    refine KL.nil ?_
    refine KQ.seq ?_
    refine KC.iteL rfl ?_ ?_
    · intro hc14
      try simp only [decide_eq_true_eq, decide_eq_false_iff_not, Bool.not_eq_true', Bool.not_eq_false', Bool.and_eq_true, Bool.or_eq_false_iff] at hc14
      refine KC.seq ?_
      refine KC.region ?_
      refine KL.op (R.move rfl rfl) rfl rfl rfl ?_
      refine KL.opM (M.lit rfl Try.underlying63 zs3 (by decide) rfl rfl rfl) rfl rfl rfl ?_
      rintro _ H5 ⟨rfl, n5⟩
      have z5 := n5.2.1
      have o0 := o0.trans n5.1
      have wa := wa.old n5.1
      have b5 := n5.2.2
      have h1 : Sl 1 (EInt .i64) H5 _ [1] := Sl.lits (l := [1]) n5 rfl (by simp) (by decide)
      have lt6 := wa.lt
      refine KL.opM (M.append rfl Try.underlying63 inf3 rfl (by decide) rfl rfl wa (by exact h1) (fun _ _ h _ => h) (by omega) (by simp; omega) (by unfold maxLen; simp; omega)) rfl rfl rfl ?_
      rintro v1 H6 ⟨w6, g6⟩
      try dsimp only at g6
      have ob6 := g6.oldB wa (by omega)
      have o0 := o0.then ob6 (by omega)
      have z6 := ob6.1
      have wa := w6
      refine KL.op (R.assign rfl rfl) rfl rfl rfl ?_
      refine KL.op (R.assign rfl rfl) rfl rfl rfl ?_
      refine KL.nil ?_
      refine KQ.seq ?_
      refine KC.ret ?_
      refine KQ.retBlock ?_
      refine KQ.retThen ?_
      refine KQ.ofRet ?_
      refine KQ.fin2 Try.results25 rfl rfl ?_
      first
        | exact ⟨by unfold Isp.opn; rw [if_pos (by first | exact .inl hc14 | exact .inr hc14 | omega)]; exact ⟨_, rfl, wa⟩, o0⟩
        | exact ⟨by unfold Isp.opn; rw [if_neg (by omega), if_pos (by omega)]; exact ⟨_, rfl, wa⟩, o0⟩
        | exact ⟨by unfold Isp.opn; rw [if_neg (by omega), if_neg (by omega), if_pos (by omega), if_pos (by first | exact .inl (List.eq_nil_of_length_eq_zero (by omega)) | exact .inr (by assumption))], o0⟩
        | exact ⟨by unfold Isp.opn; rw [if_neg (by omega), if_neg (by omega), if_pos (by omega), if_neg (fun h => h.elim (fun e => absurd (congrArg List.length e) (by simp only [List.length_nil]; omega)) (fun e => e (by first | assumption | omega)))]; exact ⟨_, rfl, wa⟩, o0⟩
        | exact ⟨by unfold Isp.opn; rw [if_neg (by omega), if_neg (by omega), if_neg (by omega), if_pos (by omega), if_pos (List.eq_nil_of_length_eq_zero (by omega))], o0⟩
        | exact ⟨by unfold Isp.opn; rw [if_neg (by omega), if_neg (by omega), if_neg (by omega), if_pos (by omega), if_neg (by rintro e; subst e; simp at *)]; exact ⟨_, rfl, wt⟩, o0⟩
        | exact ⟨by unfold Isp.opn; rw [if_neg (by omega), if_neg (by omega), if_neg (by omega), if_neg (by omega)]; exact ⟨_, rfl, wa⟩, o0⟩
    · intro hc14
      try simp only [decide_eq_true_eq, decide_eq_false_iff_not, Bool.not_eq_true', Bool.not_eq_false', Bool.and_eq_true, Bool.or_eq_false_iff] at hc14
      refine KC.seq ?_
      refine KC.region ?_
      refine KL.op (R.eql rfl rfl rfl) rfl rfl rfl ?_
      refine KL.op (R.assign rfl rfl) rfl rfl rfl ?_
      refine KL.nil ?_
      refine KQ.seq ?_
      refine KC.iteL rfl ?_ ?_
      · intro hc20
        try simp only [decide_eq_true_eq, decide_eq_false_iff_not, Bool.not_eq_true', Bool.not_eq_false', Bool.and_eq_true, Bool.or_eq_false_iff] at hc20
        refine KC.seq ?_
        refine KC.region ?_
        refine KL.op (R.move rfl rfl) rfl rfl rfl ?_
        refine KL.opM (M.lit rfl Try.underlying63 zs3 (by decide) rfl rfl rfl) rfl rfl rfl ?_
        rintro _ H7 ⟨rfl, n7⟩
        have z7 := n7.2.1
        have o0 := o0.trans n7.1
        have wa := wa.old n7.1
        have b7 := n7.2.2
        have h1 : Sl 1 (EInt .i64) H7 _ [2] := Sl.lits (l := [2]) n7 rfl (by simp) (by decide)
        have lt8 := wa.lt
        refine KL.opM (M.append rfl Try.underlying63 inf3 rfl (by decide) rfl rfl wa (by exact h1) (fun _ _ h _ => h) (by omega) (by simp; omega) (by unfold maxLen; simp; omega)) rfl rfl rfl ?_
        rintro v2 H8 ⟨w8, g8⟩
        try dsimp only at g8
        have ob8 := g8.oldB wa (by omega)
        have o0 := o0.then ob8 (by omega)
        have z8 := ob8.1
        have wa := w8
        refine KL.op (R.assign rfl rfl) rfl rfl rfl ?_
        refine KL.op (R.assign rfl rfl) rfl rfl rfl ?_
        refine KL.nil ?_
        refine KQ.seq ?_
        refine KC.ret ?_
        refine KQ.retBlock ?_
        refine KQ.retThen ?_
        refine KQ.ofRet ?_
        refine KQ.fin2 Try.results25 rfl rfl ?_
        first
          | exact ⟨by unfold Isp.opn; rw [if_pos (by first | exact .inl hc14 | exact .inr hc14 | omega)]; exact ⟨_, rfl, wa⟩, o0⟩
          | exact ⟨by unfold Isp.opn; rw [if_neg (by omega), if_pos (by omega)]; exact ⟨_, rfl, wa⟩, o0⟩
          | exact ⟨by unfold Isp.opn; rw [if_neg (by omega), if_neg (by omega), if_pos (by omega), if_pos (by first | exact .inl (List.eq_nil_of_length_eq_zero (by omega)) | exact .inr (by assumption))], o0⟩
          | exact ⟨by unfold Isp.opn; rw [if_neg (by omega), if_neg (by omega), if_pos (by omega), if_neg (fun h => h.elim (fun e => absurd (congrArg List.length e) (by simp only [List.length_nil]; omega)) (fun e => e (by first | assumption | omega)))]; exact ⟨_, rfl, wa⟩, o0⟩
          | exact ⟨by unfold Isp.opn; rw [if_neg (by omega), if_neg (by omega), if_neg (by omega), if_pos (by omega), if_pos (List.eq_nil_of_length_eq_zero (by omega))], o0⟩
          | exact ⟨by unfold Isp.opn; rw [if_neg (by omega), if_neg (by omega), if_neg (by omega), if_pos (by omega), if_neg (by rintro e; subst e; simp at *)]; exact ⟨_, rfl, wt⟩, o0⟩
          | exact ⟨by unfold Isp.opn; rw [if_neg (by omega), if_neg (by omega), if_neg (by omega), if_neg (by omega)]; exact ⟨_, rfl, wa⟩, o0⟩
      · intro hc20
        try simp only [decide_eq_true_eq, decide_eq_false_iff_not, Bool.not_eq_true', Bool.not_eq_false', Bool.and_eq_true, Bool.or_eq_false_iff] at hc20
        refine KC.seq ?_
        refine KC.region ?_
        refine KL.op (R.eql rfl rfl rfl) rfl rfl rfl ?_
        refine KL.op (R.assign rfl rfl) rfl rfl rfl ?_
        refine KL.nil ?_
        refine KQ.seq ?_
        refine KC.iteL rfl ?_ ?_
        · intro hc25
          try simp only [decide_eq_true_eq, decide_eq_false_iff_not, Bool.not_eq_true', Bool.not_eq_false', Bool.and_eq_true, Bool.or_eq_false_iff] at hc25
          refine KC.seq ?_
          refine KC.seq ?_
          refine KC.region ?_
          refine KL.op (R.move rfl rfl) rfl rfl rfl ?_
          refine KL.op (R.eql rfl rfl rfl) rfl rfl rfl ?_
          refine KL.op (R.move rfl rfl) rfl rfl rfl ?_
          refine KL.case (d := 29) rfl ?_ ?_
          · intro hg29
            try simp only [decide_eq_true_eq, decide_eq_false_iff_not, Bool.not_eq_true', Bool.not_eq_false', Bool.and_eq_true, Bool.or_eq_false_iff] at hg29
            refine KL.skip rfl rfl rfl ?_
            refine KL.skip rfl rfl rfl ?_
            refine KL.skip rfl rfl rfl ?_
            refine KL.skip rfl rfl rfl ?_
            refine KL.skip rfl rfl rfl ?_
            refine KL.skip rfl rfl rfl ?_
            refine KL.op (R.pick rfl rfl rfl) rfl rfl rfl ?_
            refine KL.nil ?_
            refine KQ.seq ?_
            refine KC.condT rfl ?_
            refine KC.seq ?_
            refine KC.region ?_
            refine KL.op (R.assign rfl rfl) rfl rfl rfl ?_
            refine KL.op (R.assign rfl rfl) rfl rfl rfl ?_
            refine KL.nil ?_
            refine KQ.seq ?_
            refine KC.ret ?_
            refine KQ.retThen ?_
            refine KQ.retBlock ?_
            refine KQ.retThen ?_
            refine KQ.ofRet ?_
            refine KQ.fin2 Try.results25 rfl rfl ?_
            first
              | exact ⟨by unfold Isp.opn; rw [if_pos (by first | exact .inl hc14 | exact .inr hc14 | omega)]; exact ⟨_, rfl, wa⟩, o0⟩
              | exact ⟨by unfold Isp.opn; rw [if_neg (by omega), if_pos (by omega)]; exact ⟨_, rfl, wa⟩, o0⟩
              | exact ⟨by unfold Isp.opn; rw [if_neg (by omega), if_neg (by omega), if_pos (by omega), if_pos (by first | exact .inl (List.eq_nil_of_length_eq_zero (by omega)) | exact .inr (by assumption))], o0⟩
              | exact ⟨by unfold Isp.opn; rw [if_neg (by omega), if_neg (by omega), if_pos (by omega), if_neg (fun h => h.elim (fun e => absurd (congrArg List.length e) (by simp only [List.length_nil]; omega)) (fun e => e (by first | assumption | omega)))]; exact ⟨_, rfl, wa⟩, o0⟩
              | exact ⟨by unfold Isp.opn; rw [if_neg (by omega), if_neg (by omega), if_neg (by omega), if_pos (by omega), if_pos (List.eq_nil_of_length_eq_zero (by omega))], o0⟩
              | exact ⟨by unfold Isp.opn; rw [if_neg (by omega), if_neg (by omega), if_neg (by omega), if_pos (by omega), if_neg (by rintro e; subst e; simp at *)]; exact ⟨_, rfl, wt⟩, o0⟩
              | exact ⟨by unfold Isp.opn; rw [if_neg (by omega), if_neg (by omega), if_neg (by omega), if_neg (by omega)]; exact ⟨_, rfl, wa⟩, o0⟩
          · intro hg29
            try simp only [decide_eq_true_eq, decide_eq_false_iff_not, Bool.not_eq_true', Bool.not_eq_false', Bool.and_eq_true, Bool.or_eq_false_iff] at hg29
            refine KL.op (R.move rfl rfl) rfl rfl rfl ?_
            refine KL.op (R.move rfl rfl) rfl rfl rfl ?_
            refine KL.op ((R.sub rfl rfl rfl (by dsimp only [InR]; omega)).val (congrArg (Value.int .i64) (show (l.length : Int) - 1 = ((l.length - 1 : Nat) : Int) by omega))) rfl rfl rfl ?_
            refine KL.op (R.indexO1 (j := l.length - 1) rfl Try.underlying63 sz3 rfl rfl wa (by omega) (by omega)) rfl rfl rfl ?_
            refine KL.op (R.load rfl Try.underlying3 rfl rfl (wa.int (l.length - 1) (by omega)).1) rfl rfl rfl ?_
            refine KL.op (R.neq rfl rfl rfl) rfl rfl rfl ?_
            refine KL.op (R.pick rfl rfl rfl) rfl rfl rfl ?_
            refine KL.nil ?_
            refine KQ.seq ?_
            refine KC.iteL rfl ?_ ?_
            · intro hc36
              try simp only [decide_eq_true_eq, decide_eq_false_iff_not, Bool.not_eq_true', Bool.not_eq_false', Bool.and_eq_true, Bool.or_eq_false_iff] at hc36
              refine KC.seq ?_
              refine KC.region ?_
              refine KL.op (R.assign rfl rfl) rfl rfl rfl ?_
              refine KL.op (R.assign rfl rfl) rfl rfl rfl ?_
              refine KL.nil ?_
              refine KQ.seq ?_
              refine KC.ret ?_
              refine KQ.retThen ?_
              refine KQ.retBlock ?_
              refine KQ.retThen ?_
              refine KQ.ofRet ?_
              refine KQ.fin2 Try.results25 rfl rfl ?_
              first
                | exact ⟨by unfold Isp.opn; rw [if_pos (by first | exact .inl hc14 | exact .inr hc14 | omega)]; exact ⟨_, rfl, wa⟩, o0⟩
                | exact ⟨by unfold Isp.opn; rw [if_neg (by omega), if_pos (by omega)]; exact ⟨_, rfl, wa⟩, o0⟩
                | exact ⟨by unfold Isp.opn; rw [if_neg (by omega), if_neg (by omega), if_pos (by omega), if_pos (by first | exact .inl (List.eq_nil_of_length_eq_zero (by omega)) | exact .inr (by assumption))], o0⟩
                | exact ⟨by unfold Isp.opn; rw [if_neg (by omega), if_neg (by omega), if_pos (by omega), if_neg (fun h => h.elim (fun e => absurd (congrArg List.length e) (by simp only [List.length_nil]; omega)) (fun e => e (by first | assumption | omega)))]; exact ⟨_, rfl, wa⟩, o0⟩
                | exact ⟨by unfold Isp.opn; rw [if_neg (by omega), if_neg (by omega), if_neg (by omega), if_pos (by omega), if_pos (List.eq_nil_of_length_eq_zero (by omega))], o0⟩
                | exact ⟨by unfold Isp.opn; rw [if_neg (by omega), if_neg (by omega), if_neg (by omega), if_pos (by omega), if_neg (by rintro e; subst e; simp at *)]; exact ⟨_, rfl, wt⟩, o0⟩
                | exact ⟨by unfold Isp.opn; rw [if_neg (by omega), if_neg (by omega), if_neg (by omega), if_neg (by omega)]; exact ⟨_, rfl, wa⟩, o0⟩
            · intro hc36
              try simp only [decide_eq_true_eq, decide_eq_false_iff_not, Bool.not_eq_true', Bool.not_eq_false', Bool.and_eq_true, Bool.or_eq_false_iff] at hc36
              refine KC.skip ?_
              refine KQ.seq ?_
              refine KC.region ?_
              refine KL.op (R.move rfl rfl) rfl rfl rfl ?_
              refine KL.op (R.move rfl rfl) rfl rfl rfl ?_
              refine KL.op ((R.sub rfl rfl rfl (by dsimp only [InR]; omega)).val (congrArg (Value.int .i64) (show (l.length : Int) - 1 = ((l.length - 1 : Nat) : Int) by omega))) rfl rfl rfl ?_
              refine KL.op (R.indexO1 (j := l.length - 1) rfl Try.underlying63 sz3 rfl rfl wa (by omega) (by omega)) rfl rfl rfl ?_
              have hvb := wa.lt.resolve_left (Own.not_nil wa (by omega))
              refine KL.opS (S.own1 rfl sz3 rfl rfl rfl rfl wa (by omega) ⟨rfl, by decide⟩) rfl rfl ?_
              rintro H9 ⟨u9, w9⟩
              have o0 := o0.upd u9 (by omega)
              have zu9 := u9.1
              have wa := w9
              rw [Isp.set_last (by omega)] at wa
              refine KL.nil ?_
              refine KQ.normBlock ?_
              refine KQ.seq ?_
              refine KC.seq ?_
              refine KC.region ?_
              refine KL.op (R.move rfl rfl) rfl rfl rfl ?_
              refine KL.op (R.assign rfl rfl) rfl rfl rfl ?_
              refine KL.op (R.assign rfl rfl) rfl rfl rfl ?_
              refine KL.nil ?_
              refine KQ.seq ?_
              refine KC.ret ?_
              refine KQ.ofRet ?_
              refine KQ.fin2 Try.results25 rfl rfl ?_
              first
                | exact ⟨by unfold Isp.opn; rw [if_pos (by first | exact .inl hc14 | exact .inr hc14 | omega)]; exact ⟨_, rfl, wa⟩, o0⟩
                | exact ⟨by unfold Isp.opn; rw [if_neg (by omega), if_pos (by omega)]; exact ⟨_, rfl, wa⟩, o0⟩
                | exact ⟨by unfold Isp.opn; rw [if_neg (by omega), if_neg (by omega), if_pos (by omega), if_pos (by first | exact .inl (List.eq_nil_of_length_eq_zero (by omega)) | exact .inr (by assumption))], o0⟩
                | exact ⟨by unfold Isp.opn; rw [if_neg (by omega), if_neg (by omega), if_pos (by omega), if_neg (fun h => h.elim (fun e => absurd (congrArg List.length e) (by simp only [List.length_nil]; omega)) (fun e => e (by first | assumption | omega)))]; exact ⟨_, rfl, wa⟩, o0⟩
                | exact ⟨by unfold Isp.opn; rw [if_neg (by omega), if_neg (by omega), if_neg (by omega), if_pos (by omega), if_pos (List.eq_nil_of_length_eq_zero (by omega))], o0⟩
                | exact ⟨by unfold Isp.opn; rw [if_neg (by omega), if_neg (by omega), if_neg (by omega), if_pos (by omega), if_neg (by rintro e; subst e; simp at *)]; exact ⟨_, rfl, wt⟩, o0⟩
                | exact ⟨by unfold Isp.opn; rw [if_neg (by omega), if_neg (by omega), if_neg (by omega), if_neg (by omega)]; exact ⟨_, rfl, wa⟩, o0⟩
        · intro hc25
          try simp only [decide_eq_true_eq, decide_eq_false_iff_not, Bool.not_eq_true', Bool.not_eq_false', Bool.and_eq_true, Bool.or_eq_false_iff] at hc25
          refine KC.seq ?_
          refine KC.region ?_
          refine KL.op (R.eql rfl rfl rfl) rfl rfl rfl ?_
          refine KL.op (R.assign rfl rfl) rfl rfl rfl ?_
          refine KL.nil ?_
          refine KQ.seq ?_
          refine KC.iteL rfl ?_ ?_
          · intro hc41
            try simp only [decide_eq_true_eq, decide_eq_false_iff_not, Bool.not_eq_true', Bool.not_eq_false', Bool.and_eq_true, Bool.or_eq_false_iff] at hc41
            refine KC.seq ?_
            refine KC.seq ?_
            refine KC.region ?_
            refine KL.op (R.move rfl rfl) rfl rfl rfl ?_
            refine KL.op (R.eql rfl rfl rfl) rfl rfl rfl ?_
            refine KL.nil ?_
            refine KQ.seq ?_
            refine KC.iteL rfl ?_ ?_
            · intro hc44
              try simp only [decide_eq_true_eq, decide_eq_false_iff_not, Bool.not_eq_true', Bool.not_eq_false', Bool.and_eq_true, Bool.or_eq_false_iff] at hc44
              refine KC.seq ?_
              refine KC.region ?_
              refine KL.op (R.assign rfl rfl) rfl rfl rfl ?_
              refine KL.op (R.assign rfl rfl) rfl rfl rfl ?_
              refine KL.nil ?_
              refine KQ.seq ?_
              refine KC.ret ?_
              refine KQ.retThen ?_
              refine KQ.retBlock ?_
              refine KQ.retThen ?_
              refine KQ.ofRet ?_
              refine KQ.fin2 Try.results25 rfl rfl ?_
              first
                | exact ⟨by unfold Isp.opn; rw [if_pos (by first | exact .inl hc14 | exact .inr hc14 | omega)]; exact ⟨_, rfl, wa⟩, o0⟩
                | exact ⟨by unfold Isp.opn; rw [if_neg (by omega), if_pos (by omega)]; exact ⟨_, rfl, wa⟩, o0⟩
                | exact ⟨by unfold Isp.opn; rw [if_neg (by omega), if_neg (by omega), if_pos (by omega), if_pos (by first | exact .inl (List.eq_nil_of_length_eq_zero (by omega)) | exact .inr (by assumption))], o0⟩
                | exact ⟨by unfold Isp.opn; rw [if_neg (by omega), if_neg (by omega), if_pos (by omega), if_neg (fun h => h.elim (fun e => absurd (congrArg List.length e) (by simp only [List.length_nil]; omega)) (fun e => e (by first | assumption | omega)))]; exact ⟨_, rfl, wa⟩, o0⟩
                | exact ⟨by unfold Isp.opn; rw [if_neg (by omega), if_neg (by omega), if_neg (by omega), if_pos (by omega), if_pos (List.eq_nil_of_length_eq_zero (by omega))], o0⟩
                | exact ⟨by unfold Isp.opn; rw [if_neg (by omega), if_neg (by omega), if_neg (by omega), if_pos (by omega), if_neg (by rintro e; subst e; simp at *)]; exact ⟨_, rfl, wt⟩, o0⟩
                | exact ⟨by unfold Isp.opn; rw [if_neg (by omega), if_neg (by omega), if_neg (by omega), if_neg (by omega)]; exact ⟨_, rfl, wa⟩, o0⟩
            · intro hc44
              try simp only [decide_eq_true_eq, decide_eq_false_iff_not, Bool.not_eq_true', Bool.not_eq_false', Bool.and_eq_true, Bool.or_eq_false_iff] at hc44
              refine KC.skip ?_
              refine KQ.seq ?_
              refine KC.seq ?_
              refine KC.region ?_
              refine KL.op (R.move rfl rfl) rfl rfl rfl ?_
              refine KL.op (R.move rfl rfl) rfl rfl rfl ?_
              refine KL.op ((R.sub rfl rfl rfl (by dsimp only [InR]; omega)).val (congrArg (Value.int .i64) (show (l.length : Int) - 1 = ((l.length - 1 : Nat) : Int) by omega))) rfl rfl rfl ?_
              refine KL.op (R.sliceTo (j := l.length - 1) rfl Try.underlying63 sz3 rfl rfl wa (by omega) (by omega)) rfl rfl rfl ?_
              have wt := (wa.to (j := l.length - 1) (by omega)).1
              refine KL.op (R.assign rfl rfl) rfl rfl rfl ?_
              refine KL.op (R.assign rfl rfl) rfl rfl rfl ?_
              refine KL.nil ?_
              refine KQ.seq ?_
              refine KC.ret ?_
              refine KQ.retBlock ?_
              refine KQ.retThen ?_
              refine KQ.ofRet ?_
              refine KQ.fin2 Try.results25 rfl rfl ?_
              first
                | exact ⟨by unfold Isp.opn; rw [if_pos (by first | exact .inl hc14 | exact .inr hc14 | omega)]; exact ⟨_, rfl, wa⟩, o0⟩
                | exact ⟨by unfold Isp.opn; rw [if_neg (by omega), if_pos (by omega)]; exact ⟨_, rfl, wa⟩, o0⟩
                | exact ⟨by unfold Isp.opn; rw [if_neg (by omega), if_neg (by omega), if_pos (by omega), if_pos (by first | exact .inl (List.eq_nil_of_length_eq_zero (by omega)) | exact .inr (by assumption))], o0⟩
                | exact ⟨by unfold Isp.opn; rw [if_neg (by omega), if_neg (by omega), if_pos (by omega), if_neg (fun h => h.elim (fun e => absurd (congrArg List.length e) (by simp only [List.length_nil]; omega)) (fun e => e (by first | assumption | omega)))]; exact ⟨_, rfl, wa⟩, o0⟩
                | exact ⟨by unfold Isp.opn; rw [if_neg (by omega), if_neg (by omega), if_neg (by omega), if_pos (by omega), if_pos (List.eq_nil_of_length_eq_zero (by omega))], o0⟩
                | exact ⟨by unfold Isp.opn; rw [if_neg (by omega), if_neg (by omega), if_neg (by omega), if_pos (by omega), if_neg (by rintro e; subst e; simp at *)]; exact ⟨_, rfl, wt⟩, o0⟩
                | exact ⟨by unfold Isp.opn; rw [if_neg (by omega), if_neg (by omega), if_neg (by omega), if_neg (by omega)]; exact ⟨_, rfl, wa⟩, o0⟩
          · intro hc41
            try simp only [decide_eq_true_eq, decide_eq_false_iff_not, Bool.not_eq_true', Bool.not_eq_false', Bool.and_eq_true, Bool.or_eq_false_iff] at hc41
            refine KC.skip ?_
            refine KQ.normBlock ?_
            refine KQ.seq ?_
            refine KC.seq ?_
            refine KC.region ?_
            refine KL.op (R.move rfl rfl) rfl rfl rfl ?_
            refine KL.op (R.assign rfl rfl) rfl rfl rfl ?_
            refine KL.op (R.assign rfl rfl) rfl rfl rfl ?_
            refine KL.nil ?_
            refine KQ.seq ?_
            refine KC.ret ?_
            refine KQ.ofRet ?_
            refine KQ.fin2 Try.results25 rfl rfl ?_
            first
              | exact ⟨by unfold Isp.opn; rw [if_pos (by first | exact .inl hc14 | exact .inr hc14 | omega)]; exact ⟨_, rfl, wa⟩, o0⟩
              | exact ⟨by unfold Isp.opn; rw [if_neg (by omega), if_pos (by omega)]; exact ⟨_, rfl, wa⟩, o0⟩
              | exact ⟨by unfold Isp.opn; rw [if_neg (by omega), if_neg (by omega), if_pos (by omega), if_pos (by first | exact .inl (List.eq_nil_of_length_eq_zero (by omega)) | exact .inr (by assumption))], o0⟩
              | exact ⟨by unfold Isp.opn; rw [if_neg (by omega), if_neg (by omega), if_pos (by omega), if_neg (fun h => h.elim (fun e => absurd (congrArg List.length e) (by simp only [List.length_nil]; omega)) (fun e => e (by first | assumption | omega)))]; exact ⟨_, rfl, wa⟩, o0⟩
              | exact ⟨by unfold Isp.opn; rw [if_neg (by omega), if_neg (by omega), if_neg (by omega), if_pos (by omega), if_pos (List.eq_nil_of_length_eq_zero (by omega))], o0⟩
              | exact ⟨by unfold Isp.opn; rw [if_neg (by omega), if_neg (by omega), if_neg (by omega), if_pos (by omega), if_neg (by rintro e; subst e; simp at *)]; exact ⟨_, rfl, wt⟩, o0⟩
              | exact ⟨by unfold Isp.opn; rw [if_neg (by omega), if_neg (by omega), if_neg (by omega), if_neg (by omega)]; exact ⟨_, rfl, wa⟩, o0⟩

end Go.Proofs.Ytnjodpgahbpiaaa
