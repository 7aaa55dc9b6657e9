/- Plain laws of the document's stack. No condition. -/
import Derived.Test.YtglopfbdnpbgeaaTyJ
namespace Go.Proofs.Ytglopfbdnpbgeaa
open Go Go.RowKit
set_option linter.unusedVariables false
set_option linter.unusedSimpArgs false
set_option linter.unnecessarySimpa false

section
variable (xs : List DF) (f : DF) (lo : List Int) (m : Nat)
theorem ne_app : (⟨xs ++ [f], lo, m⟩ : DS).fr ≠ [] := by simp
theorem top_app : DS.top ⟨xs ++ [f], lo, m⟩ = f := by
  unfold DS.top
  dsimp only
  rw [List.length_append, List.getD_eq_getElem?_getD, List.getElem?_append_right (by simp)]
  simp
theorem put_app (g : DF) : DS.put ⟨xs ++ [f], lo, m⟩ g = ⟨xs ++ [g], lo, m⟩ := by
  unfold DS.put
  dsimp only
  rw [set_app xs f g _ (by simp)]
theorem push_app (l : List Int) : ∃ m', DS.push ⟨xs ++ [f], lo, m⟩ l = ⟨xs ++ [{ f with own := f.own ++ l }], lo, m'⟩ := by
  refine ⟨max m ((⟨xs ++ [f], lo, m⟩ : DS).all.length + l.length), ?_⟩
  unfold DS.push
  rw [DS.add_yes (ne_app xs f lo m), top_app, put_app]
theorem left_app (l : List Int) : DS.left ⟨xs ++ [f], lo, m⟩ l = fitN f.dead f.own f.own.length l.reverse := by rw [DS.left_fit (ne_app xs f lo m), top_app]
theorem cut_app (j : Nat) : DS.cut ⟨xs ++ [f], lo, m⟩ j = ⟨xs ++ [{ f with own := f.own.take j }], lo, m⟩ := by unfold DS.cut; rw [top_app, put_app]
theorem less_app : DS.less ⟨xs ++ [f], lo, m⟩ = ⟨xs, lo, m⟩ := by
  unfold DS.less
  dsimp only
  rw [List.take_left' (by simp)]
theorem kill_app : DS.kill ⟨xs ++ [f], lo, m⟩ = ⟨xs ++ [{ f with own := [], dead := true }], lo, m⟩ := by unfold DS.kill; rw [top_app, put_app]
theorem lab_app : DS.lab ⟨xs ++ [f], lo, m⟩ 0 = (f.label, true) := by
  have h : (0 : Nat) < (⟨xs ++ [f], lo, m⟩ : DS).fr.length := by simp
  unfold DS.lab
  rw [if_pos h]
  exact congrArg (fun g : DF => (g.label, true)) (top_app xs f lo m)
theorem pop_app0 (h : f.own = []) (hd : f.dead = false) : DS.pop ⟨xs ++ [f], lo, m⟩ = (0, false, ⟨xs ++ [f], lo, m⟩) := by rw [DS.pop_dead (ne_app xs f lo m) (by rw [top_app]; exact h), top_app, hd]
end
/-! ### frames, one within the other -/
def frOf (l : List Int) : Nat → List Int × List Int
  | 0 => ([126], [126])
  | i + 1 => ([l.getD i default], [l.getD i default, l.getD i default])
def full (l : List Int) (a : Int) (k : Nat) : List DF := (List.range k).map fun i => ⟨(frOf l i).1, (frOf l i).2, [a], false⟩
def stF (l : List Int) (a : Int) (k m : Nat) : DS := ⟨full l a k ++ [⟨(frOf l k).1, (frOf l k).2, [], false⟩], [], m⟩
section
variable (l : List Int) (a : Int) (k m : Nat)
theorem full_succ : full l a (k + 1) = full l a k ++ [⟨(frOf l k).1, (frOf l k).2, [a], false⟩] := by
  unfold full
  rw [List.range_succ, List.map_append]; rfl
theorem full_len : (full l a k).length = k := by simp [full]
theorem full_flat : (flat (full l a k)).length = k := by
  induction k with
  | zero => rfl
  | succ k ih => rw [full_succ, flat_app, List.length_append, ih]; rfl
theorem stF_all : (stF l a k m).all.length = k := by
  unfold stF DS.all
  dsimp only
  rw [flat_app]
  simp [flat]
  have := full_flat l a k
  unfold flat at this
  simpa using this
theorem stF_len : (stF l a k m).fr.length = k + 1 := by unfold stF; simp [full_len]
theorem f_push : ∃ m', (stF l a k m).push [a] = ⟨full l a (k + 1), [], m'⟩ := by
  obtain ⟨m', h⟩ := push_app (full l a k) ⟨(frOf l k).1, (frOf l k).2, [], false⟩ [] m [a]
  exact ⟨m', by unfold stF; rw [h, full_succ]; rfl⟩
theorem f_open : DS.open ⟨full l a (k + 1), [], m⟩ [l.getD k default] [l.getD k default, l.getD k default] = stF l a (k + 1) m := rfl
theorem f_pop : (stF l a k m).pop = (0, false, stF l a k m) := pop_app0 _ _ _ _ rfl rfl
theorem f_want : (stF l a k m).want [a] = (false, stF l a k m) := DS.want_no (by unfold stF; rw [left_app]; rfl)
theorem f_lab : (stF l a k m).lab 0 = ((frOf l k).1, true) := lab_app _ _ _ _
theorem f_close : (stF l a k m).close = ([], false, stF l a k m) := by
  refine DS.close_no ?_
  unfold stF
  rw [top_app, left_app]
  cases k with
  | zero => intro h; cases h
  | succ k => intro h; cases h
theorem f_push2 (x : Int) (hx : x = l.getD k default) : ∃ m', (stF l a (k + 1) m).push [x, x] = ⟨full l a (k + 1) ++ [⟨[x], [x, x], [x, x], false⟩], [], m'⟩ := by
  subst hx
  obtain ⟨m', h⟩ := push_app (full l a (k + 1)) ⟨(frOf l (k + 1)).1, (frOf l (k + 1)).2, [], false⟩ [] m [l.getD k default, l.getD k default]
  exact ⟨m', by unfold stF; rw [h]; rfl⟩
theorem f_close2 (x : Int) : DS.close ⟨full l a (k + 1) ++ [⟨[x], [x, x], [x, x], false⟩], [], m⟩ = ([x, x], true, ⟨full l a (k + 1), [], m⟩) := by
  rw [DS.close_yes, top_app, less_app]
  rw [top_app, left_app]
  exact (fit_cons (d := false) (own := [x, x]) (ts := [x]) (t := x) (m := 1) (.inl rfl)).trans (fit_cons (d := false) (own := [x, x]) (ts := []) (t := x) (m := 0) (.inl rfl))
theorem f_want2 : DS.want ⟨full l a (k + 1), [], m⟩ [a] = (true, stF l a k m) := by
  have h : DS.left ⟨full l a (k + 1), [], m⟩ [a] = some 0 := by
    rw [full_succ, left_app]
    exact fit_cons (d := false) (own := [a]) (ts := []) (t := a) (m := 0) (.inl rfl)
  rw [DS.want_yes h, full_succ, cut_app]; rfl
end
/-! ### a frame that is dead, or not -/
theorem fit_res {d : Bool} {own : List Int} : ∀ {ts : List Int} {n m : Nat}, fitN d own n ts = some m → m = n - ts.length
  | [], n, m, h => by simp [fitN] at h; simp [h]
  | t :: ts, 0, m, h => by
    simp only [fitN] at h
    split at h
    · have := fit_res h; simp at this ⊢; omega
    · cases h
  | t :: ts, n + 1, m, h => by
    simp only [fitN] at h
    split at h
    · have := fit_res h; simp; omega
    · cases h
theorem fit_app {d : Bool} (xs l : List Int) : ∀ k, k ≤ l.length → fitN d (xs ++ l) (xs.length + k) (l.take k).reverse = some xs.length := by
  intro k
  induction k with
  | zero => intro _; cases xs.length <;> rfl
  | succ k ih =>
    intro hk
    have e : l.take (k + 1) = l.take k ++ [l.getD k default] := by rw [List.take_add_one, List.getElem?_eq_getElem (by omega), List.getD_eq_getElem?_getD, List.getElem?_eq_getElem (by omega)]; rfl
    rw [e, List.reverse_append]
    show fitN d (xs ++ l) (xs.length + k + 1) (l.getD k default :: (l.take k).reverse) = _
    rw [fit_cons (.inl ?_), ih (by omega)]
    rw [List.getD_eq_getElem?_getD, List.getD_eq_getElem?_getD, List.getElem?_append_right (by omega), Nat.add_sub_cancel_left]
def okAt (a b : Int) : Prop := a = b ∨ a = 0 ∨ b = 0
theorem fit_iff {d : Bool} {own : List Int} : ∀ {ts : List Int} {n : Nat}, (fitN d own n ts).isSome = true ↔ (d = true ∨ ts.length ≤ n) ∧ ∀ j, j < n → j < ts.length → okAt (own.getD (n - 1 - j) default) (ts.getD j default)
  | [], n => by simp [fitN]
  | t :: ts, 0 => by
    have ih := @fit_iff d own ts 0
    simp only [fitN]
    split
    · next h => rw [ih]; simp [h]
    · next h =>
      constructor
      · intro h; cases h
      · rintro ⟨h1 | h1, _⟩
        · exact absurd h1 h
        · simp at h1
  | t :: ts, n + 1 => by
    have ih := @fit_iff d own ts n
    simp only [fitN]
    split
    · next h =>
      rw [ih]
      constructor
      · rintro ⟨h1, h2⟩
        refine ⟨h1.imp id (fun h => by simp; omega), fun j hj1 hj2 => ?_⟩
        cases j with
        | zero => exact h
        | succ j =>
          have := h2 j (by omega) (by simp at hj2; omega)
          rw [show n + 1 - 1 - (j + 1) = n - 1 - j by omega]
          exact this
      · rintro ⟨h1, h2⟩
        refine ⟨h1.imp id (fun h => by simp at h; omega), fun j hj1 hj2 => ?_⟩
        have := h2 (j + 1) (by omega) (by simp; omega)
        rw [show n + 1 - 1 - (j + 1) = n - 1 - j by omega] at this
        exact this
    · next h =>
      constructor
      · intro h; cases h
      · rintro ⟨h1, h2⟩
        exact absurd (h2 0 (by omega) (by simp)) h
instance (a b : Int) : Decidable (okAt a b) := by unfold okAt; infer_instance
/-- what the loop of TypingDead finds in i rounds -/
def fitsF (own l : List Int) (d : Bool) : Nat → Bool
  | 0 => d || decide (l.length ≤ own.length)
  | i + 1 => fitsF own l d i && decide (okAt (own.getD (own.length - 1 - i) default) (l.getD (l.length - 1 - i) default))
theorem fitsF_iff {own l : List Int} {d : Bool} : ∀ {i : Nat}, fitsF own l d i = true ↔ (d = true ∨ l.length ≤ own.length) ∧ ∀ j, j < i → okAt (own.getD (own.length - 1 - j) default) (l.getD (l.length - 1 - j) default)
  | 0 => by simp [fitsF]
  | i + 1 => by
    have ih := @fitsF_iff own l d i
    simp only [fitsF, Bool.and_eq_true, decide_eq_true_eq]
    rw [ih]
    constructor
    · rintro ⟨⟨h1, h2⟩, h3⟩
      refine ⟨h1, fun j hj => ?_⟩
      by_cases e : j = i
      · subst e; exact h3
      · exact h2 j (by omega)
    · rintro ⟨h1, h2⟩
      exact ⟨⟨h1, fun j hj => h2 j (by omega)⟩, h2 i (by omega)⟩
theorem fits_all {own l : List Int} {d : Bool} {i : Nat} (hi : i = min own.length l.length) : (fitN d own own.length l.reverse).isSome = fitsF own l d i := by
  rw [Bool.eq_iff_iff, fit_iff, fitsF_iff, List.length_reverse]
  have e : ∀ j, j < l.length → l.reverse.getD j default = l.getD (l.length - 1 - j) default := fun j hj => by
    rw [List.getD_eq_getElem?_getD, List.getElem?_reverse hj, List.getD_eq_getElem?_getD]
  constructor
  · rintro ⟨h1, h2⟩
    exact ⟨h1, fun j hj => by rw [← e j (by omega)]; exact h2 j (by omega) (by omega)⟩
  · rintro ⟨h1, h2⟩
    exact ⟨h1, fun j hj1 hj2 => by rw [e j hj2]; exact h2 j (by omega)⟩
def stD (l own : List Int) (d : Bool) (m : Nat) : DS := ⟨[⟨[], [], [], false⟩] ++ [⟨[], l, own, d⟩], [], m⟩
theorem stD_all (l own : List Int) (d : Bool) (m : Nat) : (stD l own d m).all = own := by simp [stD, DS.all, flat]
theorem d_push (l own : List Int) (d : Bool) (m : Nat) (x : List Int) : ∃ m', (stD l own d m).push x = stD l (own ++ x) d m' := push_app _ _ _ _ _
theorem d_kill (l own : List Int) (d : Bool) (m : Nat) : (stD l own d m).kill = stD l [] true m := kill_app _ _ _ _
theorem d_left (l own : List Int) (d : Bool) (m : Nat) (x : List Int) : (stD l own d m).left x = fitN d own own.length x.reverse := left_app _ _ _ _ _
theorem d_cut (l own : List Int) (d : Bool) (m j : Nat) : (stD l own d m).cut j = stD l (own.take j) d m := cut_app _ _ _ _ _
theorem d_top (l own : List Int) (d : Bool) (m : Nat) : (stD l own d m).top = ⟨[], l, own, d⟩ := top_app _ _ _ _
theorem d_close (l xs : List Int) (d : Bool) (m : Nat) : (stD l (xs ++ l) d m).left (stD l (xs ++ l) d m).top.ends = some xs.length := by
  rw [d_top, d_left, List.length_append]
  have := fit_app (d := d) xs l l.length (Nat.le_refl _)
  rwa [List.take_length] at this

end Go.Proofs.Ytglopfbdnpbgeaa
