/- How parts stand. No condition. -/
import Derived.Test.YtokidabnjodglaaPaF
namespace Go.Proofs.Ytokidabnjodglaa
open Go Go.RowKit
set_option linter.unusedVariables false
set_option linter.unusedSimpArgs false
set_option linter.unnecessarySimpa false

theorem csum_diff (l : List Ins) {a b : Nat} (h : a ≤ b) : csum (l.take b) = csum (l.take a) + csum ((l.take b).drop a) := by
  have e := List.take_append_drop a (l.take b)
  rw [List.take_take, Nat.min_eq_left h] at e
  conv => lhs; rw [← e]
  rw [csum_app]
/-- parts that stand one behind the other, from a to b -/
def Chain (l : List Ins) : Nat → List Pt → Nat → Prop
  | a, [], b => a = b
  | a, p :: ps, b => p.a = a ∧ a < p.t ∧ p.t ≤ l.length ∧ p.c = csum ((l.take p.t).drop p.a) ∧ (∀ j, p.a ≤ j → j + 1 < p.t → ends (l.getD j default).op = false) ∧ (p.t < l.length → ends (l.getD (p.t - 1) default).op = true) ∧ Chain l p.t ps b
theorem Chain.snoc {l : List Ins} {p : Pt} : ∀ {ps : List Pt} {a b : Nat}, Chain l a ps b → p.a = b → b < p.t → p.t ≤ l.length → p.c = csum ((l.take p.t).drop p.a) → (∀ j, p.a ≤ j → j + 1 < p.t → ends (l.getD j default).op = false) → (p.t < l.length → ends (l.getD (p.t - 1) default).op = true) → Chain l a (ps ++ [p]) p.t
  | [], a, b, h, h1, h2, h3, h4, h5, h6 => by
    have h : a = b := h
    subst h
    exact ⟨h1, h2, h3, h4, h5, h6, rfl⟩
  | q :: ps, a, b, h, h1, h2, h3, h4, h5, h6 => by
    obtain ⟨g1, g2, g3, g4, g5, g6, g7⟩ := h
    exact ⟨g1, g2, g3, g4, g5, g6, Chain.snoc g7 h1 h2 h3 h4 h5 h6⟩
theorem cut_chain (l : List Ins) : ∀ k, k ≤ l.length → Chain l 0 (cut l k).2 (cut l k).1 ∧ (∀ j, (cut l k).1 ≤ j → j < k → cutHere l j = false) ∧ (k = l.length → (cut l k).1 = k) := by
  intro k
  induction k with
  | zero => exact fun _ => ⟨rfl, fun j h1 h2 => by omega, fun _ => rfl⟩
  | succ k ih =>
    intro hk
    obtain ⟨h1, h2, h3⟩ := ih (by omega)
    have hle := cut_le l k
    cases h : cutHere l k with
    | true =>
      rw [cut_yes h]
      refine ⟨Chain.snoc h1 rfl (by dsimp only; omega) hk rfl (fun j hj1 hj2 => ?_) (fun hlt => ?_), fun j hj1 hj2 => by dsimp only at hj1; omega, fun _ => rfl⟩
      · have := h2 j hj1 (by dsimp only at hj2; omega)
        unfold cutHere at this
        rw [Bool.or_eq_false_iff] at this
        exact this.1
      · unfold cutHere at h
        rw [Bool.or_eq_true] at h
        dsimp only at hlt ⊢
        rcases h with h | h
        · exact h
        · have := of_decide_eq_true h; omega
    | false =>
      rw [cut_no h]
      refine ⟨h1, fun j hj1 hj2 => ?_, fun e => ?_⟩
      · by_cases e : j = k
        · subst e; exact h
        · exact h2 j hj1 (by omega)
      · unfold cutHere at h
        rw [Bool.or_eq_false_iff] at h
        have := of_decide_eq_false h.2; omega
/-- what is asked of parts -/
def PC (l : List Ins) : Nat → List Pt → Prop
  | at_, [] => csum (l.take l.length) = csum (l.take at_)
  | at_, p :: ps => at_ ≤ p.a ∧ p.a < p.t ∧ p.t ≤ l.length ∧ 0 < p.c ∧ p.c = csum ((l.take p.t).drop p.a) ∧ csum (l.take p.a) = csum (l.take at_) ∧ (∀ j, p.a ≤ j → j + 1 < p.t → ends (l.getD j default).op = false) ∧ (0 < p.a → ends (l.getD (p.a - 1) default).op = true) ∧ (p.t < l.length → ends (l.getD (p.t - 1) default).op = true) ∧ PC l p.t ps
theorem PC.of {l : List Ins} : ∀ (rs : List Pt) (at_ b : Nat), Chain l b rs l.length → at_ ≤ b → csum (l.take b) = csum (l.take at_) → (0 < b → b < l.length → ends (l.getD (b - 1) default).op = true) → PC l at_ (pos rs)
  | [], at_, b, h, h1, h2, h3 => by
    have h : b = l.length := h
    subst h
    exact h2
  | r :: rs, at_, b, h, h1, h2, h3 => by
    obtain ⟨g1, g2, g3, g4, g5, g6, g7⟩ := h
    have hd := csum_diff l (a := r.a) (b := r.t) (by omega)
    have hn := csum_sub l r.a r.t
    by_cases hc : 0 < r.c
    · have e : pos (r :: rs) = r :: pos rs := by unfold pos; rw [List.filter_cons, if_pos (decide_eq_true hc)]
      rw [e]
      exact ⟨by omega, by omega, g3, hc, g4, by rw [g1]; exact h2, g5, fun h => by rw [g1]; exact h3 (by omega) (by omega), g6, PC.of rs r.t r.t g7 (Nat.le_refl _) rfl (fun _ h => g6 h)⟩
    · have e : pos (r :: rs) = pos rs := by unfold pos; rw [List.filter_cons, if_neg (by simpa using hc)]
      rw [e]
      exact PC.of rs at_ r.t g7 (by omega) (by rw [hd, ← g4, g1, h2]; omega) (fun _ h => g6 h)
theorem parts_PC (l : List Ins) : PC l 0 (parts l) := by
  obtain ⟨h1, _, h3⟩ := cut_chain l l.length (Nat.le_refl _)
  rw [h3 rfl] at h1
  exact PC.of _ 0 0 h1 (Nat.le_refl _) rfl (fun h _ => absurd h (by omega))
theorem drop_step {ps : List Pt} {k : Nat} (h : k < ps.length) : ps.drop k = ps.getD k default :: ps.drop (k + 1) := by
  rw [List.drop_eq_getElem_cons h, List.getD_eq_getElem?_getD, List.getElem?_eq_getElem h]; rfl
theorem sub_getD {l : List Ins} {a b j : Nat} (h : a + j < b) (hb : b ≤ l.length) : ((l.take b).drop a).getD j default = l.getD (a + j) default := by
  rw [List.getD_eq_getElem?_getD, List.getElem?_drop, List.getElem?_take_of_lt h, ← List.getD_eq_getElem?_getD]

end Go.Proofs.Ytokidabnjodglaa
