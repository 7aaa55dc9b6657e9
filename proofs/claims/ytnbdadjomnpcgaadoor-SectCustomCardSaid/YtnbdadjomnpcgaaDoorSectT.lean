/- Sections, in plain Lean: a custom section anywhere. No condition but those that each law states. -/
import Derived.Test.YtnbdadjomnpcgaaDoorSectR
namespace Go.Proofs.YtnbdadjomnpcgaaDoor
open Go Go.RowKit
set_option linter.unusedVariables false
set_option linter.unusedSimpArgs false
theorem Own.blt {α : Type} {n : Nat} {E : El α} {e : TypeId} {H0 H : Heap} {B : Nat} {v : Value} {l : List α} (h : Own n E e H0 B H v l) (h0 : 0 < H.size) : vblock v < H.size := by
  rcases h.lt with h | h
  · subst h; exact h0
  · exact h.2
namespace Sc
theorem sp_app {l : List Sec} {last : Int} {r : List Int} (h0 : 0 ≤ last) (hr : rise last l = true) (hb : ∀ s ∈ l, s.2.length < 4294967296) : sp (body l ++ r) last = (sp r (lst last l)).map (l ++ ·) := by
  induction l generalizing last with
  | nil => simp [body, lst]
  | cons s l ih =>
    simp only [rise, Bool.and_eq_true, decide_eq_true_eq] at hr
    have hs := hb s (List.mem_cons_self ..)
    simp only [body, lst]
    rw [List.append_assoc]
    obtain ⟨e1, e2, e3, e4, e5⟩ := cut_ap (x := s.1) (a := Lb.ap (s.2.length : Int)) (b := s.2) (r := body l ++ r)
    have hp := Lb.ap_length (z := (s.2.length : Int)) (by omega) (by omega)
    rw [sp_good (n := (s.2.length : Int)) (k := (Lb.ap (s.2.length : Int)).length) (by rw [e5]; omega) (by rw [e3]; exact Lb.tk_ap (by omega) (by omega) _) (by rw [e5]; omega) (by rw [e4]; omega) (by rw [e4]; exact hr.1), e4, Int.toNat_natCast, e2, e1, ih (by omega) hr.2 (fun s hs => hb s (List.mem_cons_of_mem _ hs))]
    cases sp r (lst s.1 l) <;> simp
theorem lst_nonneg {last : Int} {l : List Sec} (h0 : 0 ≤ last) (hr : rise last l = true) : 0 ≤ lst last l := by
  induction l generalizing last with
  | nil => exact h0
  | cons s l ih =>
    simp only [rise, Bool.and_eq_true, decide_eq_true_eq] at hr
    exact ih (by omega) hr.2
/-- a custom section anywhere: no difference, if it has a name; else it may not be -/
theorem cust {l : List Sec} {a : Nat} {s own : List Int} (hr : rise 0 l = true) (hb : ∀ s ∈ l, s.2.length < 4294967296) (hs : s.length < 4294967296) (hbd : (Lb.ap (s.length : Int) ++ s ++ own).length < 4294967296) :
    split (beg ++ body (l.take a) ++ [0] ++ Lb.ap ((Lb.ap (s.length : Int) ++ s ++ own).length : Int) ++ (Lb.ap (s.length : Int) ++ s ++ own) ++ body (l.drop a)) = if Utf.valid s = true then some l else none := by
  have hnt := Nm.back s own hs
  generalize hbd' : Lb.ap (s.length : Int) ++ s ++ own = bd at *
  have hr' : rise 0 (l.take a) = true ∧ rise (lst 0 (l.take a)) (l.drop a) = true := by
    rw [← List.take_append_drop a l, rise_app, Bool.and_eq_true] at hr; exact hr
  have e0 : beg ++ body (l.take a) ++ [0] ++ Lb.ap (bd.length : Int) ++ bd ++ body (l.drop a) = beg ++ (body (l.take a) ++ ([0] ++ Lb.ap (bd.length : Int) ++ bd ++ body (l.drop a))) := by simp
  rw [e0]
  unfold split
  generalize hR : body (l.take a) ++ ([0] ++ Lb.ap (bd.length : Int) ++ bd ++ body (l.drop a)) = R
  rw [if_pos (show (beg ++ R).take 8 = beg from rfl), show (beg ++ R).drop 8 = R from rfl, ← hR]
  rw [sp_app (Int.le_refl _) hr'.1 (fun s hs => hb s (List.mem_of_mem_take hs))]
  obtain ⟨e1, e2, e3, e4, e5⟩ := cut_ap (x := (0 : Int)) (a := Lb.ap (bd.length : Int)) (b := bd) (r := body (l.drop a))
  have hp := Lb.ap_length (z := (bd.length : Int)) (by omega) (by omega)
  rw [sp_cust (n := (bd.length : Int)) (k := (Lb.ap (bd.length : Int)).length) (by rw [e5]; omega) (by rw [e3]; exact Lb.tk_ap (by omega) (by omega) _) (by rw [e5]; omega) e4, Int.toNat_natCast, e2, e1, List.take_left' rfl, hnt]
  split
  · rw [if_neg (by simp), sp_body (lst_nonneg (Int.le_refl _) hr'.1) hr'.2 (fun s hs => hb s (List.mem_of_mem_drop hs))]
    simp
  · rw [if_pos rfl]; rfl
theorem all_drop {l : List Sec} {c1 c2 : List Int} {a : Nat} (h1 : join l = some c1) (h2 : join (l.take a) = some c2) : rise 0 l = true ∧ c2 = beg ++ body (l.take a) ∧ c2.length ≤ c1.length ∧ c1.drop c2.length = body (l.drop a) ∧ c1 = beg ++ body l := by
  unfold join at h1 h2
  split at h1
  · next hr =>
    split at h2
    · injection h1 with h1; injection h2 with h2
      subst h1; subst h2
      have e : beg ++ body l = (beg ++ body (l.take a)) ++ body (l.drop a) := by
        conv => lhs; rw [← List.take_append_drop a l, body_app]
        simp
      refine ⟨hr, rfl, ?_, ?_, rfl⟩
      · rw [e]; simp only [List.length_append]; omega
      · rw [e, List.drop_left' rfl]
    · cases h2
  · cases h1
end Sc
end Go.Proofs.YtnbdadjomnpcgaaDoor
