/- Sections, in plain Lean: what was joined is split as it was; what is split may be joined. No condition but those that each law states. -/
import Derived.Test.YtnbdadjomnpcgaaDoorSectQ
namespace Go.Proofs.YtnbdadjomnpcgaaDoor
open Go Go.RowKit
set_option linter.unusedVariables false
set_option linter.unusedSimpArgs false
namespace Sc
theorem cut_ap {x : Int} {a b r : List Int} : ([x] ++ a ++ b ++ r).drop (1 + a.length) = b ++ r ∧ ([x] ++ a ++ b ++ r).drop (1 + a.length + b.length) = r ∧ ([x] ++ a ++ b ++ r).drop 1 = a ++ (b ++ r) ∧ ([x] ++ a ++ b ++ r).getD 0 default = x ∧ ([x] ++ a ++ b ++ r).length = 1 + a.length + b.length + r.length := by
  refine ⟨?_, ?_, by simp, by simp, by simp; omega⟩
  · rw [show [x] ++ a ++ b ++ r = ([x] ++ a) ++ (b ++ r) by simp, List.drop_left' (by simp; omega)]
  · rw [show [x] ++ a ++ b ++ r = ([x] ++ a ++ b) ++ r by simp, List.drop_left' (by simp; omega)]
theorem sp_body {l : List Sec} {last : Int} (h0 : 0 ≤ last) (hr : rise last l = true) (hb : ∀ s ∈ l, s.2.length < 4294967296) : sp (body l) last = some l := by
  induction l generalizing last with
  | nil => exact sp_nil rfl
  | cons s l ih =>
    simp only [rise, Bool.and_eq_true, decide_eq_true_eq] at hr
    have hs := hb s (List.mem_cons_self ..)
    simp only [body]
    obtain ⟨e1, e2, e3, e4, e5⟩ := cut_ap (x := s.1) (a := Lb.ap (s.2.length : Int)) (b := s.2) (r := body l)
    have hp := Lb.ap_length (z := (s.2.length : Int)) (by omega) (by omega)
    rw [sp_good (n := (s.2.length : Int)) (k := (Lb.ap (s.2.length : Int)).length) (by rw [e5]; omega) (by rw [e3]; exact Lb.tk_ap (by omega) (by omega) _) (by rw [e5]; omega) (by rw [e4]; omega) (by rw [e4]; exact hr.1), e4, Int.toNat_natCast, e2, e1, ih (by omega) hr.2 (fun s hs => hb s (List.mem_cons_of_mem _ hs))]
    simp
theorem split_join {l : List Sec} {c : List Int} (h : join l = some c) (hb : ∀ s ∈ l, s.2.length < 4294967296) : split c = some l := by
  unfold join at h
  split at h
  · next hr =>
    injection h with h
    subst h
    unfold split
    rw [if_pos (show (beg ++ body l).take 8 = beg from rfl), show (beg ++ body l).drop 8 = body l from rfl]
    exact sp_body (Int.le_refl _) hr hb
  · cases h
theorem ap_short {l : List Int} {z n : Int} {k : Nat} (h : Lb.tk l z = some (n, k)) : (Lb.ap n).length ≤ k := by
  have := Leb.tk_short h
  unfold Lb.ap; rw [uints_length]; exact this
theorem sp_facts : ∀ (f : Nat) {r : List Int} {last : Int} {m : List Sec}, r.length < f → sp r last = some m → rise last m = true ∧ (body m).length ≤ r.length ∧ ∀ s ∈ m, s.2.length < 4294967296 := by
  intro f
  induction f with
  | zero => intro r last m h; omega
  | succ f ih =>
    intro r last m hf h
    by_cases h0 : r.length = 0
    · rw [sp_nil h0] at h; injection h with h; subst h
      exact ⟨rfl, by simp [body], by simp⟩
    cases ht : Lb.tk (r.drop 1) 32 with
    | none => rw [sp_none (by omega) ht] at h; cases h
    | some p =>
      obtain ⟨n, k⟩ := p
      have hb := Lb.tk32 ht
      rw [List.length_drop] at hb
      by_cases hn : ((r.length - 1 - k : Nat) : Int) < n
      · rw [sp_long (by omega) ht hn] at h; cases h
      have hd : (r.drop (1 + k + n.toNat)).length + (1 + k + n.toNat) = r.length := by rw [List.length_drop]; omega
      by_cases hz : r.getD 0 default = 0
      · rw [sp_cust (by omega) ht hn hz] at h
        split at h
        · cases h
        · obtain ⟨a1, a2, a3⟩ := ih (by omega) h
          exact ⟨a1, by omega, a3⟩
      by_cases hi : last < r.getD 0 default ∧ r.getD 0 default ≤ 11
      · rw [sp_good (by omega) ht hn hz hi, Option.map_eq_some_iff] at h
        obtain ⟨m', hm, rfl⟩ := h
        obtain ⟨a1, a2, a3⟩ := ih (by omega) hm
        have hl : ((r.drop (1 + k)).take n.toNat).length = n.toNat := by rw [List.length_take, List.length_drop]; omega
        refine ⟨by simp only [rise, a1, Bool.and_true]; exact decide_eq_true hi, ?_, ?_⟩
        · simp only [body, List.length_append, List.length_cons, List.length_nil, hl]
          rw [show ((n.toNat : Nat) : Int) = n from by omega]
          have := ap_short ht
          omega
        · intro s hs
          rcases List.mem_cons.1 hs with rfl | hs
          · show ((r.drop (1 + k)).take n.toNat).length < _; rw [hl]; omega
          · exact a3 s hs
      · rw [sp_bad (by omega) ht hn hz hi] at h; cases h
/-- what is split may be joined, has at most as many bytes then, and is split as the same -/
theorem join_split {b : List Int} {m : List Sec} (h : split b = some m) : ∃ c, join m = some c ∧ c.length ≤ b.length ∧ split c = some m := by
  have h' := h
  unfold split at h
  split at h
  · next he =>
    obtain ⟨a1, a2, a3⟩ := sp_facts _ (Nat.lt_succ_self _) h
    have hj : join m = some (beg ++ body m) := by unfold join; rw [if_pos a1]
    have h8 : 8 ≤ b.length := by have := congrArg List.length he; rw [List.length_take, show beg.length = 8 from rfl] at this; omega
    refine ⟨_, hj, ?_, split_join hj a3⟩
    rw [List.length_append, show beg.length = 8 from rfl]
    rw [List.length_drop] at a2
    omega
  · cases h
theorem split_body {b : List Int} {m : List Sec} (h : split b = some m) : (body m).length + 8 ≤ b.length := by
  obtain ⟨c, h1, h2, _⟩ := join_split h
  unfold join at h1
  split at h1
  · injection h1 with h1; subst h1; rw [List.length_append, show beg.length = 8 from rfl] at h2; omega
  · cases h1
theorem body_len (l : List Sec) : l.length ≤ (body l).length := by
  induction l with
  | nil => simp
  | cons s l ih => simp only [body, List.length_append, List.length_cons, List.length_nil]; omega
theorem rise_len {last : Int} {m : List Sec} (h : rise last m = true) : last < 11 ∨ m = [] := by
  cases m with
  | nil => exact .inr rfl
  | cons s m => simp only [rise, Bool.and_eq_true, decide_eq_true_eq] at h; exact .inl (by omega)
theorem rise_few : ∀ {m : List Sec} {last : Int}, rise last m = true → (m.length : Int) ≤ 11 - last ∨ m = [] := by
  intro m
  induction m with
  | nil => intro last _; exact .inr rfl
  | cons s m ih =>
    intro last h
    simp only [rise, Bool.and_eq_true, decide_eq_true_eq] at h
    rcases ih h.2 with h2 | h2
    · left; simp only [List.length_cons]; omega
    · subst h2; left; simp; omega
theorem split_few {b : List Int} {m : List Sec} (h : split b = some m) : m.length ≤ 11 := by
  obtain ⟨c, h1, _⟩ := join_split h
  unfold join at h1
  split at h1
  · next hr =>
    rcases rise_few hr with h2 | h2
    · omega
    · subst h2; simp
  · cases h1
theorem join_len {l : List Sec} {c : List Int} (h : join l = some c) : c.length = 8 + (body l).length := by
  unfold join at h
  split at h
  · injection h with h; subst h; rw [List.length_append]; rfl
  · cases h
theorem wt_mem {l : List Sec} {s : Sec} (h : s ∈ l) : s.2.length < wt l := by
  induction l with
  | nil => cases h
  | cons t l ih =>
    simp only [wt]
    rcases List.mem_cons.1 h with rfl | h
    · omega
    · have := ih h; omega
end Sc
end Go.Proofs.YtnbdadjomnpcgaaDoor
