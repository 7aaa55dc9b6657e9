/- Package sect splits bytes into sections. No condition but that the library tables are laid. -/
import Derived.Test.YtnbdadjomnpcgaaDoorSectP
import Derived.Test.YtnbdadjomnpcgaaDoorNameC
import Derived.Test.YtnbdadjomnpcgaaDoorKRow
namespace Go.Proofs.YtnbdadjomnpcgaaDoor
open Go Go.RowKit
set_option linter.unusedVariables false
set_option linter.unusedSimpArgs false
set_option linter.unnecessarySimpa false

theorem bstr_eq {l m : List Int} (hl : ∀ x ∈ l, InR .u8 x) (hm : ∀ x ∈ m, InR .u8 x) : ((bstr l).toList == (bstr m).toList) = decide (l = m) := by
  rw [str_eq_ints, ints_bstr hl, ints_bstr hm]
theorem SlBool.take {l m : List Int} (h : ¬ m.length ≤ l.length) : decide (l.take m.length = m) = false := decide_eq_false (fun e => h (by have := congrArg List.length e; rw [List.length_take] at this; omega))
theorem TakeU_or {H : Heap} (v : Value) (l : List Int) (hs : Sl 1 (EInt .u8) H v l) : Ct Tryd.prog 16 [v, .int .i64 32] H (fun u H' => H = H' ∧ ((Lb.tk l 32 = none ∧ u = .tuple #[.int .u64 0, .int .i64 0, .bool false]) ∨ ∃ n k, Lb.tk l 32 = some (n, k) ∧ u = .tuple #[.int .u64 n, .int .i64 (k : Nat), .bool true])) := by
  cases h : Lb.tk l 32 with
  | none => exact (TakeU_none v l 32 hs h).mono fun u H' ⟨h1, h2⟩ => ⟨h2, .inl ⟨rfl, h1⟩⟩
  | some p => exact (TakeU_some v l 32 p.1 p.2 hs h).mono fun u H' ⟨h1, h2⟩ => ⟨h2, .inr ⟨p.1, p.2, rfl, h1⟩⟩
theorem RefTake_or {H : Heap} (v : Value) (l : List Int) (hs : Sl 1 (EInt .u8) H v l) : Ct Tryd.prog 25 [v, .int .i64 32, .bool false] H (fun u H' => H = H' ∧ ((Lb.tk l 32 = none ∧ u = .tuple #[.int .u64 0, .int .i64 0]) ∨ ∃ n k, Lb.tk l 32 = some (n, k) ∧ u = .tuple #[.int .u64 n, .int .i64 (k : Nat)])) := by
  cases h : Lb.tk l 32 with
  | none => exact (RefTake_none v l 32 hs h).mono fun u H' ⟨h1, h2⟩ => ⟨h2, .inl ⟨rfl, h1⟩⟩
  | some p => exact (RefTake_some v l p.1 p.2 hs h).mono fun u H' ⟨h1, h2⟩ => ⟨h2, .inr ⟨p.1, p.2, rfl, h1⟩⟩
theorem NTake_or {H : Heap} (v : Value) (l : List Int) (hs : Sl 1 (EInt .u8) H v l) (hT : TabU H) : Ct Tryd.prog 23 [v] H (fun u H' => Old H H' ∧ ((Nm.nt l = none ∧ u = .tuple #[.string ⟨#[]⟩, .int .i64 0, .bool false]) ∨ ∃ t k, Nm.nt l = some (t, k) ∧ u = .tuple #[.string (bstr t), .int .i64 (k : Nat), .bool true])) := by
  cases h : Nm.nt l with
  | none => exact (Take_is v l hs hT h).mono fun u H' ⟨h1, h2⟩ => ⟨h2, .inl ⟨rfl, h1⟩⟩
  | some p => exact (Take_is v l hs hT h).mono fun u H' ⟨h1, h2⟩ => ⟨h2, .inr ⟨p.1, p.2, rfl, h1⟩⟩
theorem RTake_or {H : Heap} (v : Value) (l : List Int) (hs : Sl 1 (EInt .u8) H v l) : Ct Tryd.prog 26 [v] H (fun u H' => H = H' ∧ ((Nm.nt l = none ∧ u = .tuple #[.string ⟨#[]⟩, .int .i64 0, .bool false]) ∨ ∃ t k, Nm.nt l = some (t, k) ∧ u = .tuple #[.string (bstr t), .int .i64 (k : Nat), .bool true])) := by
  cases h : Nm.nt l with
  | none => exact (RTake_is v l hs h).mono fun u H' ⟨h1, h2⟩ => ⟨h2, .inl ⟨rfl, h1⟩⟩
  | some p => exact (RTake_is v l hs h).mono fun u H' ⟨h1, h2⟩ => ⟨h2, .inr ⟨p.1, p.2, rfl, h1⟩⟩

set_option maxRecDepth 100000 in
set_option maxHeartbeats 4000000 in
theorem Equal_any {H : Heap} (va vb : Value) (la lb : List Int) (sa : Sl 1 (EInt .u8) H va la) (sb : Sl 1 (EInt .u8) H vb lb) : Ct Tryd.prog 40 [va, vb] H (fun u H' => u = .bool (decide (la = lb)) ∧ H = H') := by
  refine Ct.mk Tryd.func40 rfl Tryd.ntmps40 rfl ?_
  intro W0 hW0
  have o0 : Old H H := Old.refl H
  refine KC.seq ?_
  refine KC.region ?_
  refine KL.op (R.assign rfl rfl) rfl rfl rfl ?_
  refine KL.nil ?_
  refine KQ.seq ?_
  refine KC.seq ?_
  refine KC.region ?_
  refine KL.op (R.move rfl rfl) rfl rfl rfl ?_
  refine KL.op (R.convBS rfl Tryd.underlying22 Tryd.underlying5 Tryd.underlying9 rfl sa) rfl rfl rfl ?_
  refine KL.op (R.move rfl rfl) rfl rfl rfl ?_
  refine KL.op (R.convBS rfl Tryd.underlying22 Tryd.underlying5 Tryd.underlying9 rfl sb) rfl rfl rfl ?_
  refine KL.op ((R.eqlStr rfl rfl rfl).val (congrArg Value.bool (bstr_eq sa.int_range sb.int_range))) rfl rfl rfl ?_
  refine KL.op (R.assign rfl rfl) rfl rfl rfl ?_
  refine KL.nil ?_
  refine KQ.seq ?_
  refine KC.ret ?_
  refine KQ.ofRet ?_
  refine KQ.fin1 Tryd.results40 rfl ?_
  exact ⟨rfl, rfl⟩

set_option maxRecDepth 100000 in
set_option maxHeartbeats 4000000 in
theorem HasPrefix_any {H : Heap} (va vb : Value) (la lb : List Int) (sa : Sl 1 (EInt .u8) H va la) (sb : Sl 1 (EInt .u8) H vb lb) : Ct Tryd.prog 32 [va, vb] H (fun u H' => u = .bool (decide (la.take lb.length = lb)) ∧ H = H') := by
  refine Ct.mk Tryd.func32 rfl Tryd.ntmps32 rfl ?_
  intro W0 hW0
  have o0 : Old H H := Old.refl H
  refine KC.seq ?_
  refine KC.region ?_
  refine KL.op (R.assign rfl rfl) rfl rfl rfl ?_
  refine KL.nil ?_
  refine KQ.seq ?_
  refine KC.seq ?_
  refine KC.region ?_
  refine KL.op (R.move rfl rfl) rfl rfl rfl ?_
  refine KL.op ((by first | exact R.lenS rfl Tryd.underlying22 rfl (by first | exact sa | exact sb | assumption) | exact R.len (ty := 0) rfl Tryd.underlying22 rfl)) rfl rfl rfl ?_
  refine KL.op (R.move rfl rfl) rfl rfl rfl ?_
  refine KL.op ((by first | exact R.lenS rfl Tryd.underlying22 rfl (by first | exact sa | exact sb | assumption) | exact R.len (ty := 0) rfl Tryd.underlying22 rfl)) rfl rfl rfl ?_
  refine KL.op (R.geq rfl rfl rfl) rfl rfl rfl ?_
  refine KL.op (R.move rfl rfl) rfl rfl rfl ?_
  refine KL.case (d := 10) rfl ?_ ?_
  · intro hg10
    try simp only [decide_eq_true_eq, decide_eq_false_iff_not, Bool.not_eq_true', Bool.not_eq_false', Bool.and_eq_true, Bool.or_eq_false_iff] at hg10
    refine KL.op (R.move rfl rfl) rfl rfl rfl ?_
    refine KL.op (R.move rfl rfl) rfl rfl rfl ?_
    refine KL.op ((by first | exact R.lenS rfl Tryd.underlying22 rfl (by first | exact sa | exact sb | assumption) | exact R.len (ty := 0) rfl Tryd.underlying22 rfl)) rfl rfl rfl ?_
    refine KL.op (R.slice rfl Tryd.underlying22 sz5 rfl sa bnd.no (bnd.mk (r := lb.length) rfl rfl) (Nat.zero_le _) (by omega)) rfl rfl rfl ?_
    have sc : Sl 1 (EInt .u8) H (subV 1 va 0 lb.length) (la.take lb.length) := by
      have := sa.sub (lo := 0) (hi := lb.length) (Nat.zero_le _) (by omega)
      simpa using this
    refine KL.op (R.move rfl rfl) rfl rfl rfl ?_
    refine KL.call rfl rfl rfl rfl Tryd.call40 rfl rfl rfl (Equal_any _ _ _ _ sc sb) ?_
    rintro _ _ ⟨rfl, rfl⟩
    refine KL.op (R.pick rfl rfl rfl) rfl rfl rfl ?_
    refine KL.op (R.assign rfl rfl) rfl rfl rfl ?_
    refine KL.nil ?_
    refine KQ.seq ?_
    refine KC.ret ?_
    refine KQ.ofRet ?_
    refine KQ.fin1 Tryd.results32 rfl ?_
    first
      | exact ⟨rfl, rfl⟩
      | exact ⟨congrArg Value.bool (SlBool.take (by omega)).symm, rfl⟩
  · intro hg10
    try simp only [decide_eq_true_eq, decide_eq_false_iff_not, Bool.not_eq_true', Bool.not_eq_false', Bool.and_eq_true, Bool.or_eq_false_iff] at hg10
    refine KL.skip rfl rfl rfl ?_
    refine KL.skip rfl rfl rfl ?_
    refine KL.skip rfl rfl rfl ?_
    refine KL.skip rfl rfl rfl ?_
    refine KL.skip rfl rfl rfl ?_
    refine KL.skip rfl rfl rfl ?_
    refine KL.op (R.pick rfl rfl rfl) rfl rfl rfl ?_
    refine KL.op (R.assign rfl rfl) rfl rfl rfl ?_
    refine KL.nil ?_
    refine KQ.seq ?_
    refine KC.ret ?_
    refine KQ.ofRet ?_
    refine KQ.fin1 Tryd.results32 rfl ?_
    first
      | exact ⟨rfl, rfl⟩
      | exact ⟨congrArg Value.bool (SlBool.take (by omega)).symm, rfl⟩

set_option maxRecDepth 100000 in
set_option maxHeartbeats 4000000 in
theorem CutPrefix_yes {H : Heap} (va vb : Value) (la lb : List Int) (sa : Sl 1 (EInt .u8) H va la) (sb : Sl 1 (EInt .u8) H vb lb) (h : la.take lb.length = lb) : Ct Tryd.prog 21 [va, vb] H (fun u H' => u = .tuple #[subV 1 va lb.length la.length, .bool true] ∧ H = H') := by
  refine Ct.mk Tryd.func21 rfl Tryd.ntmps21 rfl ?_
  intro W0 hW0
  have o0 : Old H H := Old.refl H
  refine KC.seq ?_
  refine KC.region ?_
  refine KL.op (R.assign rfl rfl) rfl rfl rfl ?_
  refine KL.op (R.assign rfl rfl) rfl rfl rfl ?_
  refine KL.nil ?_
  refine KQ.seq ?_
  refine KC.seq ?_
  refine KC.seq ?_
  refine KC.region ?_
  refine KL.op (R.move rfl rfl) rfl rfl rfl ?_
  refine KL.op (R.move rfl rfl) rfl rfl rfl ?_
  refine KL.call rfl rfl rfl rfl Tryd.call32 rfl rfl rfl (((HasPrefix_any _ _ _ _ sa sb).mono (fun u H2 h2 => by rw [decide_eq_true h] at h2; exact h2))) ?_
  rintro _ _ ⟨rfl, rfl⟩
  refine KL.op (R.not rfl rfl) rfl rfl rfl ?_
  refine KL.nil ?_
  refine KQ.seq ?_
  refine KC.condF rfl ?_
  refine KC.skip ?_
  refine KQ.seq ?_
  refine KC.seq ?_
  refine KC.region ?_
  refine KL.op (R.move rfl rfl) rfl rfl rfl ?_
  refine KL.op (R.move rfl rfl) rfl rfl rfl ?_
  refine KL.op ((by first | exact R.lenS rfl Tryd.underlying22 rfl (by first | exact sa | exact sb | assumption) | exact R.len (ty := 0) rfl Tryd.underlying22 rfl)) rfl rfl rfl ?_
  refine KL.op (R.slice rfl Tryd.underlying22 sz5 rfl sa (bnd.mk (r := lb.length) rfl rfl) bnd.no (by have := congrArg List.length h; rw [List.length_take] at this; omega) (Nat.le_refl _)) rfl rfl rfl ?_
  refine KL.op (R.assign rfl rfl) rfl rfl rfl ?_
  refine KL.op (R.assign rfl rfl) rfl rfl rfl ?_
  refine KL.nil ?_
  refine KQ.seq ?_
  refine KC.ret ?_
  refine KQ.ofRet ?_
  refine KQ.fin2 Tryd.results21 rfl rfl ?_
  exact ⟨rfl, rfl⟩

set_option maxRecDepth 100000 in
set_option maxHeartbeats 4000000 in
theorem CutPrefix_no {H : Heap} (va vb : Value) (la lb : List Int) (sa : Sl 1 (EInt .u8) H va la) (sb : Sl 1 (EInt .u8) H vb lb) (h : ¬ la.take lb.length = lb) : Ct Tryd.prog 21 [va, vb] H (fun u H' => u = .tuple #[va, .bool false] ∧ H = H') := by
  refine Ct.mk Tryd.func21 rfl Tryd.ntmps21 rfl ?_
  intro W0 hW0
  have o0 : Old H H := Old.refl H
  refine KC.seq ?_
  refine KC.region ?_
  refine KL.op (R.assign rfl rfl) rfl rfl rfl ?_
  refine KL.op (R.assign rfl rfl) rfl rfl rfl ?_
  refine KL.nil ?_
  refine KQ.seq ?_
  refine KC.seq ?_
  refine KC.seq ?_
  refine KC.region ?_
  refine KL.op (R.move rfl rfl) rfl rfl rfl ?_
  refine KL.op (R.move rfl rfl) rfl rfl rfl ?_
  refine KL.call rfl rfl rfl rfl Tryd.call32 rfl rfl rfl (((HasPrefix_any _ _ _ _ sa sb).mono (fun u H2 h2 => by rw [decide_eq_false h] at h2; exact h2))) ?_
  rintro _ _ ⟨rfl, rfl⟩
  refine KL.op (R.not rfl rfl) rfl rfl rfl ?_
  refine KL.nil ?_
  refine KQ.seq ?_
  refine KC.condT rfl ?_
  refine KC.seq ?_
  refine KC.region ?_
  refine KL.op (R.move rfl rfl) rfl rfl rfl ?_
  refine KL.op (R.assign rfl rfl) rfl rfl rfl ?_
  refine KL.op (R.assign rfl rfl) rfl rfl rfl ?_
  refine KL.nil ?_
  refine KQ.seq ?_
  refine KC.ret ?_
  refine KQ.retThen ?_
  refine KQ.ofRet ?_
  refine KQ.fin2 Tryd.results21 rfl rfl ?_
  exact ⟨rfl, rfl⟩

set_option maxRecDepth 100000 in
set_option maxHeartbeats 4000000 in
theorem Clone_any {H : Heap} (v : Value) (l : List Int) (hs : Sl 1 (EInt .u8) H v l) (hl : l.length ≤ 140737488351232) : Ct Tryd.prog 24 [v] H (fun u H' => Own 1 (EInt .u8) 5 #[] H.size H' u l ∧ Old H H') := by
  refine Ct.mk Tryd.func24 rfl Tryd.ntmps24 rfl ?_
  intro W0 hW0
  have o0 : Old H H := Old.refl H
  obtain ⟨a, cap, rfl⟩ := hs.val
  refine KC.seq ?_
  refine KC.region ?_
  refine KL.op (R.assign rfl rfl) rfl rfl rfl ?_
  refine KL.nil ?_
  refine KQ.seq ?_
  refine KC.seq ?_
  refine KC.seq ?_
  refine KC.region ?_
  refine KL.op (R.move rfl rfl) rfl rfl rfl ?_
  refine KL.op (R.eqlS rfl Tryd.underlying22 rfl rfl) rfl rfl rfl ?_
  refine KL.nil ?_
  refine KQ.seq ?_
  refine KC.iteL rfl ?_ ?_
  · intro hn
    try simp only [decide_eq_true_eq, decide_eq_false_iff_not, Bool.not_eq_true', Bool.not_eq_false', Bool.and_eq_true, Bool.or_eq_false_iff] at hn
    have hl0 : l = [] := by
      cases a with
      | none => obtain ⟨_, _, hv, k1, k2, k3, _⟩ := hs; cases hv; exact List.eq_nil_of_length_eq_zero (by have := k3 rfl; omega)
      | some p => cases hn
    subst hl0
    refine KC.seq ?_
    refine KC.region ?_
    refine KL.op (R.assign rfl rfl) rfl rfl rfl ?_
    refine KL.nil ?_
    refine KQ.seq ?_
    refine KC.ret ?_
    refine KQ.retThen ?_
    refine KQ.ofRet ?_
    refine KQ.fin1 Tryd.results24 rfl ?_
    first
      | exact ⟨by simpa using wa, o0⟩
      | exact ⟨Own.nil _ _ _ _ _ _, o0⟩
  · intro hn
    try simp only [decide_eq_true_eq, decide_eq_false_iff_not, Bool.not_eq_true', Bool.not_eq_false', Bool.and_eq_true, Bool.or_eq_false_iff] at hn
    refine KC.skip ?_
    refine KQ.seq ?_
    refine KC.seq ?_
    refine KC.region ?_
    refine KL.opM (M.lit rfl Tryd.underlying22 zs5 (by decide) rfl rfl rfl) rfl rfl rfl ?_
    rintro _ H1 ⟨rfl, n1⟩
    have z1 := n1.2.1
    have o0 := o0.trans n1.1
    have b1 := n1.2.2
    have wa : Own 1 (EInt .u8) 5 #[] H.size H1 _ [] := Own.litI (l := []) n1 (Nat.le_refl _) rfl (by decide) (by intro x hx; cases hx)
    refine KL.op (R.move rfl rfl) rfl rfl rfl ?_
    have lt2 := wa.lt
    refine KL.opM (M.append rfl Tryd.underlying22 inf5 rfl (by decide) rfl rfl wa (by exact (hs.old o0)) (fun _ _ h _ => h) (by omega) (by simp; omega) (by unfold maxLen; simp; omega)) rfl rfl rfl ?_
    rintro vb H2 ⟨w2, g2⟩
    try dsimp only at g2
    have ob2 := g2.oldB wa (by omega)
    have o0 := o0.then ob2 (by omega)
    have z2 := ob2.1
    have wa := w2
    refine KL.op (R.assign rfl rfl) rfl rfl rfl ?_
    refine KL.nil ?_
    refine KQ.seq ?_
    refine KC.ret ?_
    refine KQ.ofRet ?_
    refine KQ.fin1 Tryd.results24 rfl ?_
    first
      | exact ⟨by simpa using wa, o0⟩
      | exact ⟨Own.nil _ _ _ _ _ _, o0⟩


theorem lt2 {g1 g2 B : Nat} (h1 : g1 < B) (h2 : g2 < B) : ∀ g ∈ [g1, g2], g < B := by
  intro g hg
  simp only [List.mem_cons, List.not_mem_nil, or_false] at hg
  rcases hg with rfl | rfl <;> assumption
theorem rk1 {a b : Int} (h : a < b) : decide (b ≤ 11) = decide (a < b ∧ b ≤ 11) := by simp [h]
theorem rk0 {a b : Int} (h : ¬ a < b) : false = decide (a < b ∧ b ≤ 11) := (decide_eq_false (fun k => h k.1)).symm

set_option maxRecDepth 100000 in
set_option maxHeartbeats 4000000 in
theorem rising1_any {H : Heap} (x last : Int) (b : Nat) (bl : H[b]? = some (.cells [.int .u8 last].toArray 5 (0, 0))) : Ct Tryd.prog 33 [.int .u8 x, .pointer (some ⟨b, 0, none⟩)] H (fun u H' => u = .bool (decide (last < x ∧ x ≤ 11)) ∧ Upd b H H' ∧ H'[b]? = some (.cells [.int .u8 x].toArray 5 (0, 0))) := by
  refine Ct.mk Tryd.func33 rfl Tryd.ntmps33 rfl ?_
  intro W0 hW0
  have o0 : OldB 0 H H := OldB.refl _ H
  refine KC.seq ?_
  refine KC.region ?_
  refine KL.op (R.assign rfl rfl) rfl rfl rfl ?_
  refine KL.nil ?_
  refine KQ.seq ?_
  refine KC.seq ?_
  refine KC.region ?_
  refine KL.op (R.move rfl rfl) rfl rfl rfl ?_
  refine KL.op (R.load rfl Tryd.underlying5 rfl rfl (by first | exact cell_of bl rfl | assumption)) rfl rfl rfl ?_
  refine KL.op (R.gtr rfl rfl rfl) rfl rfl rfl ?_
  refine KL.op (R.move rfl rfl) rfl rfl rfl ?_
  refine KL.case (d := 8) rfl ?_ ?_
  · intro hg8
    try simp only [decide_eq_true_eq, decide_eq_false_iff_not, Bool.not_eq_true', Bool.not_eq_false', Bool.and_eq_true, Bool.or_eq_false_iff] at hg8
    refine KL.op (R.move rfl rfl) rfl rfl rfl ?_
    refine KL.op (R.leq rfl rfl rfl) rfl rfl rfl ?_
    refine KL.op (R.pick rfl rfl rfl) rfl rfl rfl ?_
    refine KL.op (R.assign rfl rfl) rfl rfl rfl ?_
    refine KL.nil ?_
    refine KQ.seq ?_
    refine KC.seq ?_
    refine KC.region ?_
    refine KL.op (R.move rfl rfl) rfl rfl rfl ?_
    refine KL.opS (S.store rfl sz5 rfl rfl rfl rfl bl (by simp)) rfl rfl ?_
    rintro H1 ⟨u1, b1⟩
    have o0 := o0.trans (OldB.upd u1 (by omega))
    have zu1 := u1.1
    have bl := b1
    have uu := u1
    refine KL.nil ?_
    refine KQ.seq ?_
    refine KC.seq ?_
    refine KC.region ?_
    refine KL.op (R.move rfl rfl) rfl rfl rfl ?_
    refine KL.op (R.assign rfl rfl) rfl rfl rfl ?_
    refine KL.nil ?_
    refine KQ.seq ?_
    refine KC.ret ?_
    refine KQ.ofRet ?_
    refine KQ.fin1 Tryd.results33 rfl ?_
    first
      | exact ⟨congrArg Value.bool (rk1 (by assumption)), uu, bl⟩
      | exact ⟨congrArg Value.bool (rk0 (by assumption)), uu, bl⟩
      | exact ⟨congrArg Value.bool (rk1 (by omega)), uu, bl⟩
      | exact ⟨congrArg Value.bool (rk0 (by omega)), uu, bl⟩
  · intro hg8
    try simp only [decide_eq_true_eq, decide_eq_false_iff_not, Bool.not_eq_true', Bool.not_eq_false', Bool.and_eq_true, Bool.or_eq_false_iff] at hg8
    refine KL.skip rfl rfl rfl ?_
    refine KL.skip rfl rfl rfl ?_
    refine KL.op (R.pick rfl rfl rfl) rfl rfl rfl ?_
    refine KL.op (R.assign rfl rfl) rfl rfl rfl ?_
    refine KL.nil ?_
    refine KQ.seq ?_
    refine KC.seq ?_
    refine KC.region ?_
    refine KL.op (R.move rfl rfl) rfl rfl rfl ?_
    refine KL.opS (S.store rfl sz5 rfl rfl rfl rfl bl (by simp)) rfl rfl ?_
    rintro H2 ⟨u2, b2⟩
    have o0 := o0.trans (OldB.upd u2 (by omega))
    have zu2 := u2.1
    have bl := b2
    have uu := u2
    refine KL.nil ?_
    refine KQ.seq ?_
    refine KC.seq ?_
    refine KC.region ?_
    refine KL.op (R.move rfl rfl) rfl rfl rfl ?_
    refine KL.op (R.assign rfl rfl) rfl rfl rfl ?_
    refine KL.nil ?_
    refine KQ.seq ?_
    refine KC.ret ?_
    refine KQ.ofRet ?_
    refine KQ.fin1 Tryd.results33 rfl ?_
    first
      | exact ⟨congrArg Value.bool (rk1 (by assumption)), uu, bl⟩
      | exact ⟨congrArg Value.bool (rk0 (by assumption)), uu, bl⟩
      | exact ⟨congrArg Value.bool (rk1 (by omega)), uu, bl⟩
      | exact ⟨congrArg Value.bool (rk0 (by omega)), uu, bl⟩

set_option maxRecDepth 100000 in
set_option maxHeartbeats 4000000 in
theorem rising_any {H : Heap} : Ct Tryd.prog 22 [] H (fun u H' => u = .func (.func 33) #[] #[.pointer (some ⟨H.size, 0, none⟩)] ∧ Old H H' ∧ H'[H.size]? = some (.cells [.int .u8 0].toArray 5 (0, 0)) ∧ H'.size = H.size + 1) := by
  refine Ct.mk Tryd.func22 rfl Tryd.ntmps22 rfl ?_
  intro W0 hW0
  have o0 : Old H H := Old.refl H
  refine KC.seq ?_
  refine KC.region ?_
  refine KL.op (R.assign rfl rfl) rfl rfl rfl ?_
  refine KL.nil ?_
  refine KQ.seq ?_
  refine KC.seq ?_
  refine KC.region ?_
  refine KL.opM (M.alloc (cs := [.int .u8 0]) rfl zr5 rfl) rfl rfl rfl ?_
  rintro _ H1 ⟨rfl, n1⟩
  have z1 := n1.2.1
  have o0 := o0.trans n1.1
  have b1 := n1.2.2
  have bl := b1
  refine KL.opS (S.store rfl sz5 rfl rfl rfl rfl bl (by simp)) rfl rfl ?_
  rintro H2 ⟨u2, b2⟩
  have o0 := o0.upd u2 (by omega)
  have zu2 := u2.1
  have bl := b2
  refine KL.nil ?_
  refine KQ.seq ?_
  refine KC.seq ?_
  refine KC.region ?_
  refine KL.op (R.makeFunc rfl rfl rfl) rfl rfl rfl ?_
  refine KL.op (R.assign rfl rfl) rfl rfl rfl ?_
  refine KL.nil ?_
  refine KQ.seq ?_
  refine KC.ret ?_
  refine KQ.ofRet ?_
  refine KQ.fin1 Tryd.results22 rfl ?_
  exact ⟨rfl, o0, bl, by omega⟩

set_option maxRecDepth 100000 in
set_option maxHeartbeats 4000000 in
theorem Begin_any {H : Heap} : Ct Tryd.prog 20 [] H (fun u H' => Own 1 (EInt .u8) 5 #[] H.size H' u Sc.beg ∧ Old H H') := by
  refine Ct.mk Tryd.func20 rfl Tryd.ntmps20 rfl ?_
  intro W0 hW0
  have o0 : Old H H := Old.refl H
  refine KC.seq ?_
  refine KC.region ?_
  refine KL.op (R.assign rfl rfl) rfl rfl rfl ?_
  refine KL.nil ?_
  refine KQ.seq ?_
  refine KC.seq ?_
  refine KC.region ?_
  refine KL.opM (M.lit rfl Tryd.underlying22 zs5 (by decide) rfl rfl rfl) rfl rfl rfl ?_
  rintro _ H1 ⟨rfl, n1⟩
  have z1 := n1.2.1
  have o0 := o0.trans n1.1
  have b1 := n1.2.2
  have wa : Own 1 (EInt .u8) 5 #[] H.size H1 _ Sc.beg := Own.litI (l := Sc.beg) n1 (Nat.le_refl _) rfl (by decide) (by decide)
  refine KL.op (R.assign rfl rfl) rfl rfl rfl ?_
  refine KL.nil ?_
  refine KQ.seq ?_
  refine KC.ret ?_
  refine KQ.ofRet ?_
  refine KQ.fin1 Tryd.results20 rfl ?_
  exact ⟨wa, o0⟩


namespace Sc
/-- what a split hands back: no sections and an error, or sections and none -/
def Res (o : Option (List Sec)) (bad good : Value) (u : Value) (H : Heap) : Prop := match o with
  | none => u = .tuple #[.slice none 0 0, bad]
  | some m => ∃ vo, u = .tuple #[vo, good] ∧ Sl 2 ESec H vo m
theorem step_map {o : Option (List Sec)} {acc : List Sec} {s : Sec} : (o.map (s :: ·)).map (acc ++ ·) = o.map ((acc ++ [s]) ++ ·) := by cases o <;> simp
end Sc

set_option maxRecDepth 100000 in
set_option maxHeartbeats 4000000 in
theorem Split_no {H : Heap} (v : Value) (l : List Int) (hs : Sl 1 (EInt .u8) H v l) (hT : TabU H) (hl : l.length ≤ 140737488351232) (hb : ¬ l.take 8 = Sc.beg) : Ct Tryd.prog 9 [v] H (fun u H' => Old H H' ∧ Sc.Res (Sc.split l) (.int .i64 60) (.int .i64 0) u H') := by
  refine Ct.mk Tryd.func9 rfl Tryd.ntmps9 rfl ?_
  intro W0 hW0
  have o0 : Old H H := Old.refl H
  refine KC.seq ?_
  refine KC.region ?_
  refine KL.op (R.assign rfl rfl) rfl rfl rfl ?_
  refine KL.op (R.assign rfl rfl) rfl rfl rfl ?_
  refine KL.nil ?_
  refine KQ.seq ?_
  refine KC.seq ?_
  refine KC.region ?_
  refine KL.op (R.move rfl rfl) rfl rfl rfl ?_
  refine KL.opM (M.lit rfl Tryd.underlying22 zs5 (by decide) rfl rfl rfl) rfl rfl rfl ?_
  rintro _ H1 ⟨rfl, n1⟩
  have z1 := n1.2.1
  have o0 := o0.trans n1.1
  have b1 := n1.2.2
  have bm := b1
  refine KL.opM (M.mark rfl Tryd.underlying22 Tryd.underlying5 rfl bm) rfl rfl rfl ?_
  rintro _ H2 ⟨rfl, um, bmk⟩
  have zum := um.1
  have o0 := o0.upd um (by omega)
  have sm : Sl 1 (EInt .u8) H2 (.slice (some ⟨_, 0, none⟩) 8 8) Sc.beg := Sl.ofCells (l := Sc.beg) bmk (by decide) (by decide)
  refine KL.call rfl rfl rfl rfl Tryd.call21 rfl rfl rfl (CutPrefix_no _ _ _ _ (hs.old o0) sm hb) ?_
  rintro _ _ ⟨rfl, rfl⟩
  refine KL.op (R.move rfl rfl) rfl rfl rfl ?_
  refine KL.op (R.extract rfl rfl rfl) rfl rfl rfl ?_
  refine KL.op (R.extract rfl rfl rfl) rfl rfl rfl ?_
  refine KL.op (R.assign rfl rfl) rfl rfl rfl ?_
  refine KL.op (R.assign rfl rfl) rfl rfl rfl ?_
  refine KL.nil ?_
  refine KQ.seq ?_
  refine KC.seq ?_
  refine KC.seq ?_
  refine KC.region ?_
  refine KL.op (R.move rfl rfl) rfl rfl rfl ?_
  refine KL.op (R.not rfl rfl) rfl rfl rfl ?_
  refine KL.nil ?_
  refine KQ.seq ?_
  refine KC.condT rfl ?_
  refine KC.seq ?_
  refine KC.region ?_
  refine KL.op (R.assign rfl rfl) rfl rfl rfl ?_
  refine KL.op (R.assign rfl rfl) rfl rfl rfl ?_
  refine KL.nil ?_
  refine KQ.seq ?_
  refine KC.ret ?_
  refine KQ.retThen ?_
  refine KQ.ofRet ?_
  refine KQ.fin2 Tryd.results9 rfl rfl ?_
  exact ⟨o0, by unfold Sc.split; rw [if_neg hb]; rfl⟩

set_option maxRecDepth 100000 in
set_option maxHeartbeats 4000000 in
theorem Split_yes {H : Heap} (v : Value) (l : List Int) (hs : Sl 1 (EInt .u8) H v l) (hT : TabU H) (hl : l.length ≤ 140737488351232) (hb0 : l.take 8 = Sc.beg) : Ct Tryd.prog 9 [v] H (fun u H' => Old H H' ∧ Sc.Res (Sc.split l) (.int .i64 60) (.int .i64 0) u H') := by
  refine Ct.mk Tryd.func9 rfl Tryd.ntmps9 rfl ?_
  intro W0 hW0
  have o0 : Old H H := Old.refl H
  have hl8 : 8 ≤ l.length := by
    have := congrArg List.length hb0; rw [List.length_take] at this; have e8 : Sc.beg.length = 8 := rfl; omega
  have hsp0 : Sc.split l = (Sc.sp (l.drop 8) 0).map ([] ++ ·) := by unfold Sc.split; rw [if_pos hb0]; simp
  refine KC.seq ?_
  refine KC.region ?_
  refine KL.op (R.assign rfl rfl) rfl rfl rfl ?_
  refine KL.op (R.assign rfl rfl) rfl rfl rfl ?_
  refine KL.nil ?_
  refine KQ.seq ?_
  refine KC.seq ?_
  refine KC.region ?_
  refine KL.op (R.move rfl rfl) rfl rfl rfl ?_
  refine KL.opM (M.lit rfl Tryd.underlying22 zs5 (by decide) rfl rfl rfl) rfl rfl rfl ?_
  rintro _ H1 ⟨rfl, n1⟩
  have z1 := n1.2.1
  have o0 := o0.trans n1.1
  have b1 := n1.2.2
  have bm := b1
  refine KL.opM (M.mark rfl Tryd.underlying22 Tryd.underlying5 rfl bm) rfl rfl rfl ?_
  rintro _ H2 ⟨rfl, um, bmk⟩
  have zum := um.1
  have o0 := o0.upd um (by omega)
  have sm : Sl 1 (EInt .u8) H2 (.slice (some ⟨_, 0, none⟩) 8 8) Sc.beg := Sl.ofCells (l := Sc.beg) bmk (by decide) (by decide)
  refine KL.call rfl rfl rfl rfl Tryd.call21 rfl rfl rfl (CutPrefix_yes _ _ _ _ (hs.old o0) sm hb0) ?_
  rintro _ _ ⟨rfl, rfl⟩
  refine KL.op (R.move rfl rfl) rfl rfl rfl ?_
  refine KL.op (R.extract rfl rfl rfl) rfl rfl rfl ?_
  refine KL.op (R.extract rfl rfl rfl) rfl rfl rfl ?_
  refine KL.op (R.assign rfl rfl) rfl rfl rfl ?_
  refine KL.op (R.assign rfl rfl) rfl rfl rfl ?_
  refine KL.nil ?_
  refine KQ.seq ?_
  refine KC.seq ?_
  refine KC.seq ?_
  refine KC.region ?_
  refine KL.op (R.move rfl rfl) rfl rfl rfl ?_
  refine KL.op (R.not rfl rfl) rfl rfl rfl ?_
  refine KL.nil ?_
  refine KQ.seq ?_
  refine KC.condF rfl ?_
  refine KC.skip ?_
  refine KQ.seq ?_
  refine KC.seq ?_
  refine KC.region ?_
  refine KL.op (R.assign rfl rfl) rfl rfl rfl ?_
  refine KL.nil ?_
  refine KQ.seq ?_
  refine KC.seq ?_
  refine KC.region ?_
  refine KL.call rfl rfl rfl rfl Tryd.call22 rfl rfl rfl (rising_any) ?_
  rintro _ H3 ⟨rfl, ox, bl, zr⟩
  have zc_H3 := (ox).1
  have o0 := o0.trans ox
  have sm := sm.old ox
  refine KL.op (R.assign rfl rfl) rfl rfl rfl ?_
  refine KL.nil ?_
  refine KQ.seq ?_
  refine KC.seq ?_
  refine KC.block ?_
  refine KC.loopD (κ := Value × List Int × Value × List Sec × Int) [27, 28, 29, 30, 31, 32, 8, 34, 35, 36, 33, 37, 38, 39, 9, 10, 11, 40, 41, 42, 43, 44, 45, 46, 47, 48, 49, 50, 51, 2, 3, 52, 53, 12, 54, 55, 56, 57, 58, 59, 60, 13, 61, 62, 63, 64, 65, 66, 4, 67, 68, 70, 71, 69, 72, 73, 74, 14, 15, 16, 75, 76, 77, 78, 79, 80, 81, 82, 83, 84, 85, 86, 87, 6] (fun k => [(4, k.1), (6, k.2.2.1)]) (fun k Hl => Sl 1 (EInt .u8) H k.1 k.2.1 ∧ OwnE 2 ESec 35 (Array.size H3) Hl k.2.2.1 [(Array.size H2)] k.2.2.2.1 ∧ Sc.split l = (Sc.sp k.2.1 k.2.2.2.2).map (k.2.2.2.1 ++ ·) ∧ Hl[(Array.size H2)]? = some (.cells [.int .u8 k.2.2.2.2].toArray 5 (0, 0)) ∧ (k.2.1.length ≤ l.length ∧ (k.2.2.2.1.length : Int) ≤ k.2.2.2.2 ∧ k.2.2.2.2 ≤ 11) ∧ Old H Hl ∧ Array.size H3 ≤ Hl.size) (fun k => k.2.1.length) (subV 1 v 8 l.length, l.drop 8, .slice none 0 0, [], 0) ?_ ?_ ?_
  · exact (Sub.cons rfl (Sub.cons rfl (Ext.sub (Ext.refl _ _))))
  · exact ⟨hs.tail (by omega), OwnE.nil _ _ _ _ _ _, hsp0, bl, ⟨by show (l.drop 8).length ≤ _; rw [List.length_drop]; omega, Int.le_refl _, by show (0 : Int) ≤ 11; decide⟩, o0, Nat.le_refl _⟩
  · rintro ⟨va, m, vo, acc, last⟩ H4 ⟨sa, wo, hsp, bl, hle, o0, hB⟩
    have zl_H4 := o0.1
    dsimp only at sa wo hsp bl hle
    have zl := o0.1
    have hml := sa.len
    have hz := blk_lt bl
    have hvo := wo.lt
    refine KC.seq ?_
    refine KC.seq ?_
    refine KC.region ?_
    refine KL.op (R.move rfl rfl) rfl rfl rfl ?_
    refine KL.op (R.lenS rfl Tryd.underlying22 rfl sa) rfl rfl rfl ?_
    refine KL.op (R.gtr rfl rfl rfl) rfl rfl rfl ?_
    refine KL.nil ?_
    refine KQ.seq ?_
    refine KC.iteL rfl ?_ ?_
    · intro hc29
      try simp only [decide_eq_true_eq, decide_eq_false_iff_not, Bool.not_eq_true', Bool.not_eq_false', Bool.and_eq_true, Bool.or_eq_false_iff] at hc29
      refine KC.skip ?_
      refine KQ.seq ?_
      refine KC.block ?_
      refine KC.seq ?_
      refine KC.region ?_
      refine KL.op (R.move rfl rfl) rfl rfl rfl ?_
      refine KL.op (R.index1 (j := 0) rfl Tryd.underlying22 sz5 rfl rfl (sa.old o0) rfl (by omega)) rfl rfl rfl ?_
      refine KL.op (R.load rfl Tryd.underlying5 rfl rfl (((sa.old o0).int 0 (by omega)).1)) rfl rfl rfl ?_
      have q0 := (sa.int 0 (by omega)).2
      have q1 := q0
      dsimp only [InR] at q1
      refine KL.op (R.assign rfl rfl) rfl rfl rfl ?_
      refine KL.nil ?_
      refine KQ.seq ?_
      refine KC.seq ?_
      refine KC.region ?_
      refine KL.op (R.move rfl rfl) rfl rfl rfl ?_
      refine KL.op (R.slice rfl Tryd.underlying22 sz5 rfl sa (bnd.mk (r := 1) rfl rfl) bnd.no (by omega) (Nat.le_refl _)) rfl rfl rfl ?_
      have s1 := sa.tail (lo := 1) (by omega)
      refine KL.call rfl rfl rfl rfl Tryd.call16 rfl rfl rfl (TakeU_or _ _ (s1.old o0)) ?_
      rintro u9 _ ⟨rfl, hR⟩
      rcases hR with ⟨ht, rfl⟩ | ⟨n, k, ht, rfl⟩
      · skip
        refine KL.op (R.move rfl rfl) rfl rfl rfl ?_
        refine KL.op (R.extract rfl rfl rfl) rfl rfl rfl ?_
        refine KL.op (R.extract rfl rfl rfl) rfl rfl rfl ?_
        refine KL.op (R.extract rfl rfl rfl) rfl rfl rfl ?_
        refine KL.op (R.assign rfl rfl) rfl rfl rfl ?_
        refine KL.op (R.assign rfl rfl) rfl rfl rfl ?_
        refine KL.op (R.assign rfl rfl) rfl rfl rfl ?_
        refine KL.nil ?_
        refine KQ.seq ?_
        refine KC.seq ?_
        refine KC.seq ?_
        refine KC.region ?_
        refine KL.op (R.move rfl rfl) rfl rfl rfl ?_
        refine KL.op (R.not rfl rfl) rfl rfl rfl ?_
        refine KL.op (R.move rfl rfl) rfl rfl rfl ?_
        refine KL.skip rfl rfl rfl ?_
        refine KL.skip rfl rfl rfl ?_
        refine KL.skip rfl rfl rfl ?_
        refine KL.skip rfl rfl rfl ?_
        refine KL.skip rfl rfl rfl ?_
        refine KL.skip rfl rfl rfl ?_
        refine KL.skip rfl rfl rfl ?_
        refine KL.skip rfl rfl rfl ?_
        refine KL.op (R.pick rfl rfl rfl) rfl rfl rfl ?_
        refine KL.nil ?_
        refine KQ.seq ?_
        refine KC.condT rfl ?_
        refine KC.seq ?_
        refine KC.region ?_
        refine KL.op (R.assign rfl rfl) rfl rfl rfl ?_
        refine KL.op (R.assign rfl rfl) rfl rfl rfl ?_
        refine KL.nil ?_
        refine KQ.seq ?_
        refine KC.ret ?_
        refine KQ.retThen ?_
        refine KQ.retBlock ?_
        refine KQ.retThen ?_
        refine KQ.retBlock ?_
        refine KQ.retThen ?_
        refine KQ.ofRet ?_
        refine KQ.fin2 Tryd.results9 rfl rfl ?_
        first
          | exact ⟨o0, by rw [hsp, Sc.sp_nil (by omega)]; exact ⟨vo, rfl, by show Sl 2 ESec _ vo (acc ++ []); rw [List.append_nil]; exact wo.sl (by omega)⟩⟩
          | exact ⟨o0, by rw [hsp, Sc.sp_none (by omega) ht]; rfl⟩
          | exact ⟨o0, by rw [hsp, Sc.sp_long (by omega) ht (by omega)]; rfl⟩
          | exact ⟨o0, by rw [hsp, Sc.sp_cust (by omega) ht (by omega) h0, if_pos hnt]; rfl⟩
          | exact ⟨o0, by rw [hsp, Sc.sp_bad (by omega) ht (by omega) h0 (by omega)]; rfl⟩
      · skip
        have hb := Lb.tk32 ht
        rw [List.length_drop] at hb
        refine KL.op (R.move rfl rfl) rfl rfl rfl ?_
        refine KL.op (R.extract rfl rfl rfl) rfl rfl rfl ?_
        refine KL.op (R.extract rfl rfl rfl) rfl rfl rfl ?_
        refine KL.op (R.extract rfl rfl rfl) rfl rfl rfl ?_
        refine KL.op (R.assign rfl rfl) rfl rfl rfl ?_
        refine KL.op (R.assign rfl rfl) rfl rfl rfl ?_
        refine KL.op (R.assign rfl rfl) rfl rfl rfl ?_
        refine KL.nil ?_
        refine KQ.seq ?_
        refine KC.seq ?_
        refine KC.seq ?_
        refine KC.region ?_
        refine KL.op (R.move rfl rfl) rfl rfl rfl ?_
        refine KL.op (R.not rfl rfl) rfl rfl rfl ?_
        refine KL.op (R.move rfl rfl) rfl rfl rfl ?_
        refine KL.op (R.move rfl rfl) rfl rfl rfl ?_
        refine KL.op (R.move rfl rfl) rfl rfl rfl ?_
        refine KL.op (R.lenS rfl Tryd.underlying22 rfl sa) rfl rfl rfl ?_
        refine KL.op (R.sub rfl rfl rfl (by dsimp only [InR]; omega)) rfl rfl rfl ?_
        refine KL.op (R.move rfl rfl) rfl rfl rfl ?_
        refine KL.op (R.sub rfl rfl rfl (by dsimp only [InR]; omega)) rfl rfl rfl ?_
        refine KL.op (R.convI rfl Tryd.underlying3 Tryd.underlying43 rfl (by dsimp only [InR]; omega)) rfl rfl rfl ?_
        refine KL.op (R.gtr rfl rfl rfl) rfl rfl rfl ?_
        refine KL.op (R.pick rfl rfl rfl) rfl rfl rfl ?_
        refine KL.nil ?_
        refine KQ.seq ?_
        refine KC.iteL rfl ?_ ?_
        · intro hlt
          try simp only [decide_eq_true_eq, decide_eq_false_iff_not, Bool.not_eq_true', Bool.not_eq_false', Bool.and_eq_true, Bool.or_eq_false_iff] at hlt
          refine KC.seq ?_
          refine KC.region ?_
          refine KL.op (R.assign rfl rfl) rfl rfl rfl ?_
          refine KL.op (R.assign rfl rfl) rfl rfl rfl ?_
          refine KL.nil ?_
          refine KQ.seq ?_
          refine KC.ret ?_
          refine KQ.retThen ?_
          refine KQ.retBlock ?_
          refine KQ.retThen ?_
          refine KQ.retBlock ?_
          refine KQ.retThen ?_
          refine KQ.ofRet ?_
          refine KQ.fin2 Tryd.results9 rfl rfl ?_
          first
            | exact ⟨o0, by rw [hsp, Sc.sp_nil (by omega)]; exact ⟨vo, rfl, by show Sl 2 ESec _ vo (acc ++ []); rw [List.append_nil]; exact wo.sl (by omega)⟩⟩
            | exact ⟨o0, by rw [hsp, Sc.sp_none (by omega) ht]; rfl⟩
            | exact ⟨o0, by rw [hsp, Sc.sp_long (by omega) ht (by omega)]; rfl⟩
            | exact ⟨o0, by rw [hsp, Sc.sp_cust (by omega) ht (by omega) h0, if_pos hnt]; rfl⟩
            | exact ⟨o0, by rw [hsp, Sc.sp_bad (by omega) ht (by omega) h0 (by omega)]; rfl⟩
        · intro hlt
          try simp only [decide_eq_true_eq, decide_eq_false_iff_not, Bool.not_eq_true', Bool.not_eq_false', Bool.and_eq_true, Bool.or_eq_false_iff] at hlt
          refine KC.skip ?_
          refine KQ.seq ?_
          refine KC.seq ?_
          refine KC.region ?_
          refine KL.op (R.move rfl rfl) rfl rfl rfl ?_
          refine KL.op ((R.add rfl rfl rfl (by dsimp only [InR]; omega)).val (congrArg (Value.int .i64) (show _ = ((1 + k : Nat) : Int) from by omega))) rfl rfl rfl ?_
          refine KL.op (R.assign rfl rfl) rfl rfl rfl ?_
          refine KL.nil ?_
          refine KQ.seq ?_
          refine KC.seq ?_
          refine KC.region ?_
          refine KL.op (R.move rfl rfl) rfl rfl rfl ?_
          refine KL.op (R.move rfl rfl) rfl rfl rfl ?_
          refine KL.op (R.move rfl rfl) rfl rfl rfl ?_
          refine KL.op (R.move rfl rfl) rfl rfl rfl ?_
          refine KL.op (R.convI rfl Tryd.underlying43 Tryd.underlying3 rfl (by dsimp only [InR]; omega)) rfl rfl rfl ?_
          refine KL.op ((R.add rfl rfl rfl (by dsimp only [InR]; omega)).val (congrArg (Value.int .i64) (show _ = ((1 + k + n.toNat : Nat) : Int) from by omega))) rfl rfl rfl ?_
          refine KL.op (R.slice rfl Tryd.underlying22 sz5 rfl sa (bnd.mk (r := 1 + k) rfl rfl) (bnd.mk (r := 1 + k + n.toNat) rfl rfl) (by omega) (by omega)) rfl rfl rfl ?_
          have s2 : Sl 1 (EInt .u8) H (subV 1 va (1 + k) (1 + k + n.toNat)) ((m.drop (1 + k)).take n.toNat) := by
            have h9 := sa.sub (lo := 1 + k) (hi := 1 + k + n.toNat) (by omega) (by omega)
            rwa [List.drop_take, Nat.add_sub_cancel_left] at h9
          refine KL.op (R.assign rfl rfl) rfl rfl rfl ?_
          refine KL.nil ?_
          refine KQ.seq ?_
          refine KC.seq ?_
          refine KC.region ?_
          refine KL.op (R.move rfl rfl) rfl rfl rfl ?_
          refine KL.op (R.move rfl rfl) rfl rfl rfl ?_
          refine KL.op (R.move rfl rfl) rfl rfl rfl ?_
          refine KL.op (R.convI rfl Tryd.underlying43 Tryd.underlying3 rfl (by dsimp only [InR]; omega)) rfl rfl rfl ?_
          refine KL.op ((R.add rfl rfl rfl (by dsimp only [InR]; omega)).val (congrArg (Value.int .i64) (show _ = ((1 + k + n.toNat : Nat) : Int) from by omega))) rfl rfl rfl ?_
          refine KL.op (R.slice rfl Tryd.underlying22 sz5 rfl sa (bnd.mk (r := 1 + k + n.toNat) rfl rfl) bnd.no (by omega) (Nat.le_refl _)) rfl rfl rfl ?_
          refine KL.op (R.assign rfl rfl) rfl rfl rfl ?_
          refine KL.nil ?_
          refine KQ.seq ?_
          refine KC.seq ?_
          refine KC.seq ?_
          refine KC.region ?_
          refine KL.op (R.move rfl rfl) rfl rfl rfl ?_
          refine KL.op (R.eql rfl rfl rfl) rfl rfl rfl ?_
          refine KL.nil ?_
          refine KQ.seq ?_
          refine KC.iteL rfl ?_ ?_
          · intro h0
            try simp only [decide_eq_true_eq, decide_eq_false_iff_not, Bool.not_eq_true', Bool.not_eq_false', Bool.and_eq_true, Bool.or_eq_false_iff] at h0
            refine KC.seq ?_
            refine KC.seq ?_
            refine KC.region ?_
            refine KL.op (R.move rfl rfl) rfl rfl rfl ?_
            refine KL.call rfl rfl rfl rfl Tryd.call23 rfl rfl rfl (NTake_or _ _ (s2.old o0) (hT.old o0)) ?_
            rintro u8_ H5 ⟨ox, hR⟩
            have zc_H5 := (ox).1
            have o0 := o0.trans ox
            have wo := wo.old ox
            have bl := (ox).blk bl
            rcases hR with ⟨hnt, rfl⟩ | ⟨t, e, hnt, rfl⟩
            · skip
              refine KL.op (R.move rfl rfl) rfl rfl rfl ?_
              refine KL.op (R.extract rfl rfl rfl) rfl rfl rfl ?_
              refine KL.op (R.extract rfl rfl rfl) rfl rfl rfl ?_
              refine KL.op (R.extract rfl rfl rfl) rfl rfl rfl ?_
              refine KL.op (R.assign rfl rfl) rfl rfl rfl ?_
              refine KL.op (R.assign rfl rfl) rfl rfl rfl ?_
              refine KL.op (R.assign rfl rfl) rfl rfl rfl ?_
              refine KL.nil ?_
              refine KQ.seq ?_
              refine KC.seq ?_
              refine KC.region ?_
              refine KL.op (R.move rfl rfl) rfl rfl rfl ?_
              refine KL.op (R.not rfl rfl) rfl rfl rfl ?_
              refine KL.nil ?_
              refine KQ.seq ?_
              refine KC.condT rfl ?_
              refine KC.seq ?_
              refine KC.region ?_
              refine KL.op (R.assign rfl rfl) rfl rfl rfl ?_
              refine KL.op (R.assign rfl rfl) rfl rfl rfl ?_
              refine KL.nil ?_
              refine KQ.seq ?_
              refine KC.ret ?_
              refine KQ.retThen ?_
              refine KQ.retThen ?_
              refine KQ.retBlock ?_
              refine KQ.retThen ?_
              refine KQ.retBlock ?_
              refine KQ.retThen ?_
              refine KQ.ofRet ?_
              refine KQ.fin2 Tryd.results9 rfl rfl ?_
              first
                | exact ⟨o0, by rw [hsp, Sc.sp_nil (by omega)]; exact ⟨vo, rfl, by show Sl 2 ESec _ vo (acc ++ []); rw [List.append_nil]; exact wo.sl (by omega)⟩⟩
                | exact ⟨o0, by rw [hsp, Sc.sp_none (by omega) ht]; rfl⟩
                | exact ⟨o0, by rw [hsp, Sc.sp_long (by omega) ht (by omega)]; rfl⟩
                | exact ⟨o0, by rw [hsp, Sc.sp_cust (by omega) ht (by omega) h0, if_pos hnt]; rfl⟩
                | exact ⟨o0, by rw [hsp, Sc.sp_bad (by omega) ht (by omega) h0 (by omega)]; rfl⟩
            · skip
              refine KL.op (R.move rfl rfl) rfl rfl rfl ?_
              refine KL.op (R.extract rfl rfl rfl) rfl rfl rfl ?_
              refine KL.op (R.extract rfl rfl rfl) rfl rfl rfl ?_
              refine KL.op (R.extract rfl rfl rfl) rfl rfl rfl ?_
              have hspn : Sc.split l = (Sc.sp (m.drop (1 + k + n.toNat)) last).map (acc ++ ·) := by rw [hsp, Sc.sp_cust (by omega) ht (by omega) h0, if_neg (by rw [hnt]; simp)]
              have hlen : (m.drop (1 + k + n.toNat)).length ≤ l.length ∧ (acc.length : Int) ≤ last ∧ last ≤ 11 := by rw [List.length_drop]; omega
              refine KL.op (R.assign rfl rfl) rfl rfl rfl ?_
              refine KL.op (R.assign rfl rfl) rfl rfl rfl ?_
              refine KL.op (R.assign rfl rfl) rfl rfl rfl ?_
              refine KL.nil ?_
              refine KQ.seq ?_
              refine KC.seq ?_
              refine KC.region ?_
              refine KL.op (R.move rfl rfl) rfl rfl rfl ?_
              refine KL.op (R.not rfl rfl) rfl rfl rfl ?_
              refine KL.nil ?_
              refine KQ.seq ?_
              refine KC.condF rfl ?_
              refine KC.skip ?_
              refine KQ.seq ?_
              refine KC.exit ?_
              refine KQ.exitThen ?_
              refine KQ.hit ?_
              refine KQ.again ((subV 1 va (1 + k + n.toNat) m.length, (m.drop (1 + k + n.toNat)), vo, acc, last)) ?_ ?_ ?_
              · exact (Sub.cons rfl (Sub.cons rfl (Ext.sub (by repeat (first | exact Ext.refl _ _ | refine Ext.put rfl ?_ | refine Ext.drop rfl ?_)))))
              · show (m.drop (1 + k + n.toNat)).length < m.length; rw [List.length_drop]; omega
              · exact ⟨sa.tail (by omega), wo, hspn, bl, hlen, o0, by omega⟩
          · intro h0
            try simp only [decide_eq_true_eq, decide_eq_false_iff_not, Bool.not_eq_true', Bool.not_eq_false', Bool.and_eq_true, Bool.or_eq_false_iff] at h0
            refine KC.skip ?_
            refine KQ.seq ?_
            refine KC.seq ?_
            refine KC.seq ?_
            refine KC.region ?_
            refine KL.op (R.move rfl rfl) rfl rfl rfl ?_
            refine KL.op (R.move rfl rfl) rfl rfl rfl ?_
            refine KL.call rfl rfl rfl rfl Tryd.call33 rfl rfl rfl (rising1_any _ _ _ bl) ?_
            rintro _ H6 ⟨rfl, uu, bl⟩
            have o0 := o0.upd uu (by omega)
            have zuu := uu.1
            have wo := wo.upd uu (by simp) (hvo.imp id (fun h => by omega))
            refine KL.op (R.not rfl rfl) rfl rfl rfl ?_
            refine KL.nil ?_
            refine KQ.seq ?_
            refine KC.iteL rfl ?_ ?_
            · intro hc80
              try simp only [decide_eq_true_eq, decide_eq_false_iff_not, Bool.not_eq_true', Bool.not_eq_false', Bool.and_eq_true, Bool.or_eq_false_iff] at hc80
              refine KC.seq ?_
              refine KC.region ?_
              refine KL.op (R.assign rfl rfl) rfl rfl rfl ?_
              refine KL.op (R.assign rfl rfl) rfl rfl rfl ?_
              refine KL.nil ?_
              refine KQ.seq ?_
              refine KC.ret ?_
              refine KQ.retThen ?_
              refine KQ.retBlock ?_
              refine KQ.retThen ?_
              refine KQ.retBlock ?_
              refine KQ.retThen ?_
              refine KQ.ofRet ?_
              refine KQ.fin2 Tryd.results9 rfl rfl ?_
              first
                | exact ⟨o0, by rw [hsp, Sc.sp_nil (by omega)]; exact ⟨vo, rfl, by show Sl 2 ESec _ vo (acc ++ []); rw [List.append_nil]; exact wo.sl (by omega)⟩⟩
                | exact ⟨o0, by rw [hsp, Sc.sp_none (by omega) ht]; rfl⟩
                | exact ⟨o0, by rw [hsp, Sc.sp_long (by omega) ht (by omega)]; rfl⟩
                | exact ⟨o0, by rw [hsp, Sc.sp_cust (by omega) ht (by omega) h0, if_pos hnt]; rfl⟩
                | exact ⟨o0, by rw [hsp, Sc.sp_bad (by omega) ht (by omega) h0 (by omega)]; rfl⟩
            · intro hc80
              try simp only [decide_eq_true_eq, decide_eq_false_iff_not, Bool.not_eq_true', Bool.not_eq_false', Bool.and_eq_true, Bool.or_eq_false_iff] at hc80
              refine KC.skip ?_
              refine KQ.seq ?_
              refine KC.region ?_
              refine KL.op (R.move rfl rfl) rfl rfl rfl ?_
              refine KL.op (R.move rfl rfl) rfl rfl rfl ?_
              refine KL.op (R.move rfl rfl) rfl rfl rfl ?_
              have hvl := wo.blt (by omega)
              refine KL.call rfl rfl rfl rfl Tryd.call24 rfl rfl rfl (Clone_any _ _ (s2.old o0) (by rw [List.length_take, List.length_drop]; omega)) ?_
              rintro vc H7 ⟨wc, ox⟩
              have zc_H7 := (ox).1
              have o0 := o0.trans ox
              have wo := wo.old ox
              have bl := (ox).blk bl
              have hvc := wc.lt
              refine KL.op (R.buildL rfl Tryd.underlying35 zr35 [(0, 1), (1, 1)] (fun w => by kernel_rfl) rfl ⟨⟨_, rfl, rfl⟩, ⟨_, rfl, rfl⟩, trivial⟩ rfl rfl ⟨⟨_, rfl, by first | rfl | exact wc.cells1⟩, ⟨_, rfl, by first | rfl | exact wc.cells1⟩, trivial⟩ rfl) rfl rfl rfl ?_
              refine KL.opM (M.lit rfl Tryd.underlying24 zs35 (by decide) rfl rfl rfl) rfl rfl rfl ?_
              rintro _ H8 ⟨rfl, n8⟩
              have z8 := n8.2.1
              have o0 := o0.trans n8.1
              have wo := wo.old n8.1
              have bl := (n8.1).blk bl
              have wc := wc.old n8.1
              have b8 := n8.2.2
              have se : Sl 2 (FK ESec H8 (vblock vo :: [(Array.size H2)])) H8 _ [((m.getD 0 default), ((m.drop (1 + k)).take n.toNat))] := Sl.lit1N n8 rfl (by decide) (fun H2 kx => ⟨_, rfl, fk_own wc (lt2 hvl (by omega)) H2 kx, q0⟩)
              have lt9 := wo.lt
              refine KL.opM (M.appendE rfl Tryd.underlying24 inf35 rfl (by decide) rfl rfl wo (se) (by omega) (by simp; omega) (by unfold maxLen; simp; omega)) rfl rfl rfl ?_
              rintro vn H9 ⟨w9, g9, nx9⟩
              try dsimp only at g9 nx9
              have ob9 := g9.oldBE wo (by omega)
              have o0 := o0.then ob9 (by omega)
              have z9 := ob9.1
              have bl := (g9.2 _ (blk_lt bl) (by first | exact .inr (by omega) | exact .inl rfl | exact lt9.imp id (fun h => by omega))).trans bl
              have wo := w9
              have hspn : Sc.split l = (Sc.sp (m.drop (1 + k + n.toNat)) (m.getD 0 default)).map ((acc ++ [((m.getD 0 default), ((m.drop (1 + k)).take n.toNat))]) ++ ·) := by rw [hsp, Sc.sp_good (by omega) ht (by omega) h0 (by omega), Sc.step_map]
              have hlen : (m.drop (1 + k + n.toNat)).length ≤ l.length ∧ ((acc ++ [((m.getD 0 default), ((m.drop (1 + k)).take n.toNat))]).length : Int) ≤ (m.getD 0 default) ∧ (m.getD 0 default) ≤ 11 := by rw [List.length_drop, List.length_append]; simp only [List.length_cons, List.length_nil]; omega
              refine KL.op (R.assign rfl rfl) rfl rfl rfl ?_
              refine KL.nil ?_
              refine KQ.normBlock ?_
              refine KQ.again ((subV 1 va (1 + k + n.toNat) m.length, (m.drop (1 + k + n.toNat)), vn, acc ++ [((m.getD 0 default), ((m.drop (1 + k)).take n.toNat))], (m.getD 0 default))) ?_ ?_ ?_
              · exact (Sub.cons rfl (Sub.cons rfl (Ext.sub (by repeat (first | exact Ext.refl _ _ | refine Ext.put rfl ?_ | refine Ext.drop rfl ?_)))))
              · show (m.drop (1 + k + n.toNat)).length < m.length; rw [List.length_drop]; omega
              · exact ⟨sa.tail (by omega), wo, hspn, bl, hlen, o0, by omega⟩
    · intro hc29
      try simp only [decide_eq_true_eq, decide_eq_false_iff_not, Bool.not_eq_true', Bool.not_eq_false', Bool.and_eq_true, Bool.or_eq_false_iff] at hc29
      refine KC.exit ?_
      refine KQ.exitThen ?_
      refine KQ.exitThen ?_
      refine KQ.hit ?_
      refine KQ.seq ?_
      refine KC.seq ?_
      refine KC.region ?_
      refine KL.op (R.move rfl rfl) rfl rfl rfl ?_
      refine KL.op (R.assign rfl rfl) rfl rfl rfl ?_
      refine KL.op (R.assign rfl rfl) rfl rfl rfl ?_
      refine KL.nil ?_
      refine KQ.seq ?_
      refine KC.ret ?_
      refine KQ.ofRet ?_
      refine KQ.fin2 Tryd.results9 rfl rfl ?_
      first
        | exact ⟨o0, by rw [hsp, Sc.sp_nil (by omega)]; exact ⟨vo, rfl, by show Sl 2 ESec _ vo (acc ++ []); rw [List.append_nil]; exact wo.sl (by omega)⟩⟩
        | exact ⟨o0, by rw [hsp, Sc.sp_none (by omega) ht]; rfl⟩
        | exact ⟨o0, by rw [hsp, Sc.sp_long (by omega) ht (by omega)]; rfl⟩
        | exact ⟨o0, by rw [hsp, Sc.sp_cust (by omega) ht (by omega) h0, if_pos hnt]; rfl⟩
        | exact ⟨o0, by rw [hsp, Sc.sp_bad (by omega) ht (by omega) h0 (by omega)]; rfl⟩

theorem Split_any {H : Heap} (v : Value) (l : List Int) (hs : Sl 1 (EInt .u8) H v l) (hT : TabU H) (hl : l.length ≤ 140737488351232) : Ct Tryd.prog 9 [v] H (fun u H' => Old H H' ∧ Sc.Res (Sc.split l) (.int .i64 60) (.int .i64 0) u H') := by
  by_cases hb : l.take 8 = Sc.beg
  · exact Split_yes v l hs hT hl hb
  · exact Split_no v l hs hT hl hb

end Go.Proofs.YtnbdadjomnpcgaaDoor
