/- Sections, in plain Lean: a beginning of a binary. No condition but those that each law states. -/
import Derived.Test.YtnbdadjomnpcgaaDoorSectR
namespace Go.Proofs.YtnbdadjomnpcgaaDoor
open Go Go.RowKit
set_option linter.unusedVariables false
set_option linter.unusedSimpArgs false
theorem Leb.tk_prefix {sg : Bool} {l : List UInt8} {z n : Int} {k c : Nat} (h : Leb.tk sg l z = some (n, k)) : Leb.tk sg (l.take c) z = if k ≤ c then some (n, k) else none := by
  obtain ⟨h1, h2, h3, h4, h5, h6, h7, h8⟩ := Leb.tk_some h
  obtain ⟨j, rfl⟩ : ∃ j, k = j + 1 := ⟨k - 1, by omega⟩
  obtain ⟨g1, x, g2, g3⟩ := Leb.run_spec h3
  split
  · next hc =>
    have hr : Leb.run (l.take c) = j + 1 := Leb.run_eq (Leb.high_take g1) (by rw [List.getElem?_take, if_pos (by omega)]; exact g2) g3
    have h9 : ¬ (z + 6) / 7 < ((j + 1 : Nat) : Int) := by
      intro hh
      unfold Leb.tk at h; rw [if_pos (by right; right; right; rw [h3]; exact hh)] at h; cases h
    unfold Leb.tk
    rw [if_neg (by rw [hr]; omega), hr, List.take_take, Nat.min_eq_left hc, ← h7, if_pos h8]
  · next hc =>
    unfold Leb.tk
    rw [if_pos]
    right; right; left
    exact Leb.run_zero_take g1 (by omega)
theorem Lb.tk_prefix {l : List Int} {n : Int} {k c : Nat} (h : Lb.tk l 32 = some (n, k)) : Lb.tk (l.take c) 32 = if k ≤ c then some (n, k) else none := by
  unfold Lb.tk at *
  rw [List.map_take]
  exact Leb.tk_prefix h
theorem drop_take_comm {α : Type} (l : List α) (a c : Nat) : (l.take c).drop a = (l.drop a).take (c - a) := List.drop_take
namespace Sc
/-- sections up to a place of a binary b whose sections are l; and what its beginning of cut bytes is -/
def Cut (b : List Int) (cut : Nat) (l : List Sec) (a : Nat) (acc : List Sec) (last : Int) : Prop :=
  8 ≤ a ∧ a ≤ b.length ∧ (∃ l2, sp (b.drop a) last = some l2 ∧ l = acc ++ l2) ∧
  ((a ≤ cut ∧ split (b.take cut) = (sp ((b.take cut).drop a) last).map (acc ++ ·)) ∨ (cut < a ∧ split (b.take cut) = none))
theorem cut_start {b : List Int} {cut : Nat} {l : List Sec} (h : split b = some l) : Cut b cut l 8 [] 0 := by
  unfold split at h
  split at h
  · next he =>
    have h8 : 8 ≤ b.length := by have := congrArg List.length he; rw [List.length_take, show beg.length = 8 from rfl] at this; omega
    refine ⟨Nat.le_refl _, h8, ⟨l, h, rfl⟩, ?_⟩
    by_cases hc : 8 ≤ cut
    · refine .inl ⟨hc, ?_⟩
      unfold split
      rw [List.take_take, Nat.min_eq_left hc, if_pos he]
      simp
    · refine .inr ⟨by omega, ?_⟩
      unfold split
      rw [if_neg]
      intro e
      have := congrArg List.length e
      rw [List.length_take, List.length_take, show beg.length = 8 from rfl] at this
      omega
  · cases h
theorem getD_take0 {r : List Int} {c : Nat} (h : 0 < c) : (r.take c).getD 0 default = r.getD 0 default := by
  cases r with
  | nil => simp
  | cons x r => cases c with
    | zero => omega
    | succ c => simp
theorem cut_step {b : List Int} {cut : Nat} {l : List Sec} {a : Nat} {acc : List Sec} {last : Int} (h : Cut b cut l a acc last) (hb : a < b.length) (hc : a < cut) :
    ∃ n k, Lb.tk (b.drop (a + 1)) 32 = some (n, k) ∧ a + (1 + k + n.toNat) ≤ b.length ∧ (b.getD a default = 0 → Cut b cut l (a + (1 + k + n.toNat)) acc last) ∧ (b.getD a default ≠ 0 → ∃ s, Cut b cut l (a + (1 + k + n.toNat)) (acc ++ [s]) (b.getD a default)) := by
  obtain ⟨h8, hl, ⟨l2, hs, hacc⟩, hcut⟩ := h
  have hr : 0 < (b.drop a).length := by rw [List.length_drop]; omega
  have hd1 : (b.drop a).drop 1 = b.drop (a + 1) := by rw [List.drop_drop]
  obtain ⟨-, hsp⟩ := hcut.resolve_right (fun h => by omega)
  rw [drop_take_comm] at hsp
  have hR0 : ((b.drop a).take (cut - a)).getD 0 default = b.getD a default := by rw [getD_take0 (by omega), getD0_drop]
  have hRl : ((b.drop a).take (cut - a)).length = min (cut - a) (b.length - a) := by rw [List.length_take, List.length_drop]
  have hR1 : ((b.drop a).take (cut - a)).drop 1 = (b.drop (a + 1)).take (cut - a - 1) := by rw [List.drop_take, hd1]
  cases ht : Lb.tk ((b.drop a).drop 1) 32 with
  | none => rw [sp_none hr ht] at hs; cases hs
  | some p =>
    obtain ⟨n, k⟩ := p
    have hk := Lb.tk32 ht
    rw [List.length_drop, List.length_drop] at hk
    by_cases hn : (((b.drop a).length - 1 - k : Nat) : Int) < n
    · rw [sp_long hr ht hn] at hs; cases hs
    have hn' := hn
    rw [List.length_drop] at hn'
    have ht' := ht
    rw [hd1] at ht'
    have hpre := Lb.tk_prefix (c := cut - a - 1) ht'
    rw [← hR1] at hpre
    have hdd : (b.drop a).drop (1 + k + n.toNat) = b.drop (a + (1 + k + n.toNat)) := by rw [List.drop_drop]
    have hRd : ((b.drop a).take (cut - a)).drop (1 + k + n.toNat) = (b.take cut).drop (a + (1 + k + n.toNat)) := by
      rw [← drop_take_comm, List.drop_drop]
    have hRt : a + (1 + k + n.toNat) ≤ cut → (((b.drop a).take (cut - a)).drop (1 + k)).take n.toNat = ((b.drop a).drop (1 + k)).take n.toNat := by
      intro hle
      rw [List.drop_take, List.take_take, Nat.min_eq_left (by omega)]
    -- beyond the cut there is nothing
    have hnone : cut < a + (1 + k + n.toNat) → split (b.take cut) = none := by
      intro hlt
      rw [hsp]
      by_cases hkc : k ≤ cut - a - 1
      · rw [if_pos hkc] at hpre
        rw [sp_long (by rw [hRl]; omega) hpre (by rw [hRl]; omega)]; rfl
      · rw [if_neg hkc] at hpre
        rw [sp_none (by rw [hRl]; omega) hpre]; rfl
    refine ⟨n, k, ht', by omega, fun h0 => ?_, fun h0 => ?_⟩
    · rw [sp_cust hr ht hn (by rw [getD0_drop]; exact h0)] at hs
      split at hs
      · cases hs
      · next hnt =>
        rw [hdd] at hs
        refine ⟨by omega, by omega, ⟨l2, hs, hacc⟩, ?_⟩
        by_cases hle : a + (1 + k + n.toNat) ≤ cut
        · refine .inl ⟨hle, ?_⟩
          rw [if_pos (by omega)] at hpre
          rw [hsp, sp_cust (by rw [hRl]; omega) hpre (by rw [hRl]; omega) (by rw [hR0]; exact h0), hRt hle, if_neg hnt, hRd]
        · exact .inr ⟨by omega, hnone (by omega)⟩
    · by_cases hi : last < b.getD a default ∧ b.getD a default ≤ 11
      · rw [sp_good hr ht hn (by rw [getD0_drop]; exact h0) (by rw [getD0_drop]; exact hi), Option.map_eq_some_iff] at hs
        obtain ⟨l3, hs3, rfl⟩ := hs
        rw [hdd, getD0_drop] at hs3
        refine ⟨((b.drop a).getD 0 default, ((b.drop a).drop (1 + k)).take n.toNat), by omega, by omega, ⟨l3, hs3, by rw [hacc]; simp⟩, ?_⟩
        by_cases hle : a + (1 + k + n.toNat) ≤ cut
        · refine .inl ⟨hle, ?_⟩
          rw [if_pos (by omega)] at hpre
          rw [hsp, sp_good (by rw [hRl]; omega) hpre (by rw [hRl]; omega) (by rw [hR0]; exact h0) (by rw [hR0]; exact hi), hRt hle, hRd, hR0, getD0_drop]
          cases sp ((b.take cut).drop (a + (1 + k + n.toNat))) (b.getD a default) <;> simp
        · exact .inr ⟨by omega, hnone (by omega)⟩
      · rw [sp_bad hr ht hn (by rw [getD0_drop]; exact h0) (by rw [getD0_drop]; exact hi)] at hs; cases hs
theorem cut_end {b : List Int} {cut : Nat} {l : List Sec} {a : Nat} {acc : List Sec} {last : Int} (h : Cut b cut l a acc last) (hb : cut ≤ b.length) (hc : cut ≤ a) :
    (a = cut ∧ split (b.take cut) = some acc) ∨ (a ≠ cut ∧ split (b.take cut) = none) := by
  obtain ⟨h8, hl, ⟨l2, hs, hacc⟩, hcut⟩ := h
  rcases hcut with ⟨h1, h2⟩ | ⟨h1, h2⟩
  · refine .inl ⟨by omega, ?_⟩
    rw [h2, sp_nil (by rw [List.length_drop, List.length_take]; omega)]; simp
  · exact .inr ⟨by omega, h2⟩
theorem cut_acc {b : List Int} {cut : Nat} {l : List Sec} {a : Nat} {acc : List Sec} {last : Int} (h : Cut b cut l a acc last) : acc.length ≤ l.length ∧ ∀ k, k < acc.length → acc.getD k default = l.getD k default := by
  obtain ⟨_, _, ⟨l2, _, rfl⟩, _⟩ := h
  refine ⟨by simp, fun k hk => ?_⟩
  rw [List.getD_eq_getElem?_getD, List.getD_eq_getElem?_getD, List.getElem?_append_left hk]
end Sc
end Go.Proofs.YtnbdadjomnpcgaaDoor
