/- What is charged between a loop and a branch to it. No condition. -/
import Derived.Test.YtokidabnjodglaaPaG
namespace Go.Proofs.Ytokidabnjodglaa
open Go Go.RowKit
set_option linter.unusedVariables false
set_option linter.unusedSimpArgs false
set_option linter.unnecessarySimpa false

/-- what is charged by parts that begin at x, and by those that begin up to x -/
def at1 : List Pt → Nat → Int
  | [], _ => 0
  | p :: ps, x => (if p.a = x then p.c else 0) + at1 ps x
def upto : List Pt → Nat → Int
  | [], _ => 0
  | p :: ps, x => (if p.a ≤ x then p.c else 0) + upto ps x
def tot : List Pt → Int
  | [] => 0
  | p :: ps => p.c + tot ps
theorem at1_app : ∀ (ps qs : List Pt) (x : Nat), at1 (ps ++ qs) x = at1 ps x + at1 qs x
  | [], qs, x => by simp [at1]
  | p :: ps, qs, x => by simp only [List.cons_append, at1, at1_app ps qs x]; omega
theorem at1_le : ∀ (ps : List Pt) (x : Nat), (∀ p ∈ ps, 0 < p.c) → 0 ≤ at1 ps x ∧ at1 ps x ≤ tot ps
  | [], x, h => ⟨Int.le_refl _, Int.le_refl _⟩
  | p :: ps, x, h => by
    have := at1_le ps x (fun q hq => h q (List.mem_cons_of_mem _ hq))
    have := h p List.mem_cons_self
    simp only [at1, tot]
    split <;> omega
theorem upto_le : ∀ (ps : List Pt) (x : Nat), (∀ p ∈ ps, 0 < p.c) → 0 ≤ upto ps x ∧ upto ps x ≤ tot ps
  | [], x, h => ⟨Int.le_refl _, Int.le_refl _⟩
  | p :: ps, x, h => by
    have := upto_le ps x (fun q hq => h q (List.mem_cons_of_mem _ hq))
    have := h p List.mem_cons_self
    simp only [upto, tot]
    split <;> omega
theorem upto_succ : ∀ (ps : List Pt) (x : Nat), upto ps (x + 1) = upto ps x + at1 ps (x + 1)
  | [], x => rfl
  | p :: ps, x => by
    have := upto_succ ps x
    simp only [upto, at1]
    repeat' split
    all_goals omega
theorem upto_zero : ∀ (ps : List Pt), upto ps 0 = at1 ps 0
  | [] => rfl
  | p :: ps => by
    have := upto_zero ps
    simp only [upto, at1]
    repeat' split
    all_goals omega
theorem upto_mono : ∀ (ps : List Pt) (x y : Nat), x ≤ y → (∀ p ∈ ps, 0 < p.c) → upto ps x ≤ upto ps y
  | [], x, y, _, _ => Int.le_refl _
  | p :: ps, x, y, h, hp => by
    have := upto_mono ps x y h (fun q hq => hp q (List.mem_cons_of_mem _ hq))
    have := hp p List.mem_cons_self
    simp only [upto]
    repeat' split
    all_goals omega
theorem upto_lt : ∀ (ps : List Pt) (x y : Nat), x ≤ y → (∀ p ∈ ps, 0 < p.c) → (∃ p ∈ ps, x < p.a ∧ p.a ≤ y) → upto ps x < upto ps y
  | [], x, y, _, _, h => by obtain ⟨p, hp, _⟩ := h; cases hp
  | p :: ps, x, y, h, hp, he => by
    have h1 := upto_mono ps x y h (fun q hq => hp q (List.mem_cons_of_mem _ hq))
    have h2 := hp p List.mem_cons_self
    obtain ⟨q, hq, q1, q2⟩ := he
    simp only [upto]
    rcases List.mem_cons.1 hq with rfl | hq
    · rw [if_neg (by omega), if_pos q2]; omega
    · have := upto_lt ps x y h (fun q hq => hp q (List.mem_cons_of_mem _ hq)) ⟨q, hq, q1, q2⟩
      repeat' split
      all_goals omega
theorem PC.mem {l : List Ins} : ∀ {ps : List Pt} {at_ : Nat}, PC l at_ ps → ∀ p ∈ ps, p.a < l.length ∧ 0 < p.c
  | [], at_, h, p, hp => by cases hp
  | q :: ps, at_, h, p, hp => by
    obtain ⟨p1, p2, p3, p4, p5, p6, p7, p8, p9, p10⟩ := h
    rcases List.mem_cons.1 hp with rfl | hp
    · exact ⟨by omega, p4⟩
    · exact p10.mem p hp
theorem PC.tot {l : List Ins} : ∀ {ps : List Pt} {at_ : Nat}, PC l at_ ps → tot ps = csum l - csum (l.take at_)
  | [], at_, h => by
    have h : csum (l.take l.length) = csum (l.take at_) := h
    rw [List.take_length] at h
    rw [h]; show (0 : Int) = _; omega
  | q :: ps, at_, h => by
    obtain ⟨p1, p2, p3, p4, p5, p6, p7, p8, p9, p10⟩ := h
    have h1 := p10.tot
    have h2 := csum_diff l (a := q.a) (b := q.t) (by omega)
    show q.c + _ = _
    rw [h1, p5]; omega
theorem csum_mono (l : List Ins) {a b : Nat} (h : a ≤ b) : csum (l.take a) ≤ csum (l.take b) := by
  have h1 := csum_diff l h
  have h2 := (csum_le ((l.take b).drop a)).1
  omega
theorem PC.has {l : List Ins} {i to : Nat} (hi : i < l.length) (hc : 0 < Cost.of (l.getD i default).op) (ht : to < i) (he : ends (l.getD to default).op = true) : ∀ {ps : List Pt} {at_ : Nat}, PC l at_ ps → at_ ≤ i → ∃ p ∈ ps, (to < p.a ∨ p.a ≤ to ∧ False) ∧ p.a ≤ i
  | [], at_, h, hat => by
    have h : csum (l.take l.length) = csum (l.take at_) := h
    have h1 := csum_take hi
    have h2 := csum_mono l hat
    have h3 := csum_mono l (a := i + 1) (b := l.length) (by omega)
    omega
  | q :: ps, at_, h, hat => by
    obtain ⟨p1, p2, p3, p4, p5, p6, p7, p8, p9, p10⟩ := h
    by_cases h1 : i < q.a
    · have h1' := csum_take hi
      have h2 := csum_mono l hat
      have h3 := csum_mono l (a := i + 1) (b := q.a) (by omega)
      omega
    · by_cases h2 : i < q.t
      · refine ⟨q, List.mem_cons_self, .inl ?_, by omega⟩
        by_cases h3 : to < q.a
        · exact h3
        · have := p7 to (by omega) (by omega)
          rw [he] at this; cases this
      · obtain ⟨p, hp, e1, e2⟩ := PC.has hi hc ht he p10 (by omega)
        exact ⟨p, List.mem_cons_of_mem _ hp, e1, e2⟩
/-- from a loop's beginning up to a branch something is charged -/
theorem charged_ne {l : List Ins} {i to : Nat} (hi : i < l.length) (hb : (l.getD i default).op = 12 ∨ (l.getD i default).op = 13) (ht : to < i) (ho : (l.getD to default).op = 3) : upto (parts l) i ≠ upto (parts l) to := by
  have hc : 0 < Cost.of (l.getD i default).op := by
    rcases hb with h | h <;> rw [h] <;> decide
  have he : ends (l.getD to default).op = true := by rw [ho]; decide
  obtain ⟨p, hp, h1, h2⟩ := PC.has hi hc ht he (parts_PC l) (Nat.zero_le _)
  have := upto_lt (parts l) to i (by omega) (fun p hp => ((parts_PC l).mem p hp).2) ⟨p, hp, h1.resolve_right (fun h => h.2), h2⟩
  omega
theorem parts_tot (l : List Ins) : tot (parts l) ≤ 20 * l.length := by
  have h1 := (parts_PC l).tot
  have h2 := csum_le l
  have h3 : csum (l.take 0) = 0 := rfl
  omega
/-- charged, when k parts are done -/
theorem at1_part {l : List Ins} {k x : Nat} (h : k < (parts l).length) : at1 ((parts l).take (k + 1)) x = at1 ((parts l).take k) x + (if ((parts l).getD k default).a = x then ((parts l).getD k default).c else 0) := by
  rw [take_succ' h, at1_app]
  simp only [at1]; omega
theorem at1_room {l : List Ins} {k x : Nat} (h : k < (parts l).length) : 0 ≤ at1 ((parts l).take k) x ∧ 0 < ((parts l).getD k default).c ∧ at1 ((parts l).take k) x + ((parts l).getD k default).c ≤ 20 * l.length ∧ ((parts l).getD k default).a < l.length := by
  have hm : ∀ p ∈ parts l, 0 < p.c := fun p hp => ((parts_PC l).mem p hp).2
  have hk : (parts l).getD k default ∈ parts l := by rw [List.getD_eq_getElem?_getD, List.getElem?_eq_getElem h]; exact List.getElem_mem h
  have h1 := at1_le ((parts l).take k) x (fun p hp => hm p (List.mem_of_mem_take hp))
  have htot : ∀ (ps qs : List Pt), tot (ps ++ qs) = tot ps + tot qs := fun ps qs => by
    induction ps with
    | nil => simp [tot]
    | cons p ps ih => simp only [List.cons_append, tot, ih]; omega
  have h2 : tot ((parts l).take (k + 1)) = tot ((parts l).take k) + ((parts l).getD k default).c := by
    rw [take_succ' h, htot]; simp [tot]
  have h3 : tot (parts l) = tot ((parts l).take (k + 1)) + tot ((parts l).drop (k + 1)) := by rw [← htot, List.take_append_drop]
  have h4 := at1_le ((parts l).drop (k + 1)) 0 (fun p hp => hm p (List.mem_of_mem_drop hp))
  have h5 := parts_tot l
  exact ⟨h1.1, hm _ hk, by omega, ((parts_PC l).mem _ hk).1⟩
/-- charged, when k places are summed up -/
def mix (ps : List Pt) (k x : Nat) : Int := if x ≤ k then upto ps x else at1 ps x
theorem mix_zero (ps : List Pt) (x : Nat) : mix ps 0 x = at1 ps x := by
  unfold mix
  split
  · next h => have : x = 0 := by omega
              subst this; exact upto_zero ps
  · rfl
theorem mix_room (l : List Ins) (k x : Nat) : 0 ≤ mix (parts l) k x ∧ mix (parts l) k x ≤ 20 * l.length := by
  have hm : ∀ p ∈ parts l, 0 < p.c := fun p hp => ((parts_PC l).mem p hp).2
  have h1 := at1_le (parts l) x hm
  have h2 := upto_le (parts l) x hm
  have h5 := parts_tot l
  unfold mix; split <;> omega
theorem mix_step (ps : List Pt) (k : Nat) : mix ps k (k + 1) + mix ps k k = mix ps (k + 1) (k + 1) := by
  have := upto_succ ps k
  unfold mix
  rw [if_neg (by omega), if_pos (by omega), if_pos (by omega)]; omega
theorem mix_else {ps : List Pt} {k x : Nat} (h : x ≠ k + 1) : mix ps (k + 1) x = mix ps k x := by
  unfold mix
  by_cases h1 : x ≤ k
  · rw [if_pos h1, if_pos (by omega)]
  · rw [if_neg h1, if_neg (by omega)]
theorem getD_set {α : Type} {l : List α} {i j : Nat} {x d : α} (h : i < l.length) : (l.set i x).getD j d = if j = i then x else l.getD j d := by
  rw [List.getD_eq_getElem?_getD, List.getD_eq_getElem?_getD]
  split
  · next e => subst e; rw [List.getElem?_set_self h]; rfl
  · next e => rw [List.getElem?_set_ne (fun e' => e e'.symm)]
theorem getD_mem {l : List Int} {j : Nat} (h : j < l.length) : l.getD j default ∈ l := by
  rw [List.getD_eq_getElem?_getD, List.getElem?_eq_getElem h]; exact List.getElem_mem h
section
variable {e : TypeId} {H0 H : Heap} {B : Nat} {v : Value} {l : List Bool}
theorem Own.bool (h : Own 1 EBool e H0 B H v l) (j : Nat) (hj : j < l.length) : cellH H ((vbase v).add j) = some (.bool (l.getD j default)) := by
  have h' : Own 1 EBool e #[] B H v l := by
    obtain ⟨flat, h1, h2⟩ := h
    exact ⟨flat, h1, h2⟩
  have hs := h'.sl (k := keepsBool) (emptyOld H) (by omega)
  obtain ⟨cs, hl, hc, rfl⟩ := hs.at j hj
  have := hc 0 _ rfl
  rw [Nat.mul_one, add_zero] at this
  exact this
end

end Go.Proofs.Ytokidabnjodglaa
