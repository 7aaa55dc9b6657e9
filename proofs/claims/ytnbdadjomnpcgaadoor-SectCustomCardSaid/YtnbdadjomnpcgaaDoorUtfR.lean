/- Texts and names, in plain Lean: texts one behind the other, cut texts; the name with which bytes begin. No condition but those that each law states. -/
import Derived.Test.YtnbdadjomnpcgaaDoorUtfQ
import Derived.Test.YtnbdadjomnpcgaaDoorLebK
namespace Go.Proofs.YtnbdadjomnpcgaaDoor
open Go Go.RowKit
set_option linter.unusedVariables false
set_option linter.unusedSimpArgs false
namespace Utf
theorem chr_take {l m : List Int} {k : Nat} (hk : chr l = k) (h0 : 0 < k) (h : ∀ i, i < k → m.getD i default = l.getD i default) (hlen : k ≤ m.length) : chr m = k := by
  have e0 := h 0 h0
  unfold chr at hk ⊢
  rw [e0]
  split at hk
  · next h1 => rw [if_pos h1]; exact hk
  · next h1 =>
    rw [if_neg h1]
    split at hk
    · omega
    · next h2 =>
      rw [if_neg]
      · exact hk
      · have e1 := h 1 (by omega)
        rw [e1]
        by_cases h3 : 3 ≤ sz (l.getD 0 default)
        · have e2 := h 2 (by omega)
          rw [e2]
          by_cases h4 : 4 ≤ sz (l.getD 0 default)
          · have e3 := h 3 (by omega)
            rw [e3]; omega
          · omega
        · omega
theorem getD_app {l r : List Int} {i : Nat} (h : i < l.length) : (l ++ r).getD i default = l.getD i default := by
  rw [List.getD_eq_getElem?_getD, List.getElem?_append_left h, ← List.getD_eq_getElem?_getD]
theorem getD_take {l : List Int} {i c : Nat} (h : i < c) : (l.take c).getD i default = l.getD i default := by
  rw [List.getD_eq_getElem?_getD, List.getElem?_take, if_pos h, ← List.getD_eq_getElem?_getD]
/-- behind a text anything is a text just if it is one by itself -/
theorem valid_app (r : List Int) : ∀ (n : Nat) (l : List Int), l.length ≤ n → valid l = true → valid (l ++ r) = valid r := by
  intro n
  induction n with
  | zero =>
    intro l h _
    have : l = [] := List.eq_nil_of_length_eq_zero (by omega)
    subst this; rfl
  | succ n ih =>
    intro l h hv
    by_cases he : l.length = 0
    · have : l = [] := List.eq_nil_of_length_eq_zero he
      subst this; rfl
    · by_cases hc : chr l = 0
      · rw [valid_bad (by omega) hc] at hv; cases hv
      · have hle := chr_le (l := l) (by omega)
        have e := valid_ok (l := l) (by omega) rfl (by omega)
        rw [hv] at e
        have c2 : chr (l ++ r) = chr l := chr_take rfl (by omega) (fun i hi => getD_app (by omega)) (by rw [List.length_append]; omega)
        rw [← valid_ok (l := l ++ r) (by rw [List.length_append]; omega) c2 (by omega), List.drop_append_of_le_length hle]
        exact ih _ (by rw [List.length_drop]; omega) e
theorem chr_facts {l : List Int} (r : InR .u8 (l.getD 0 default)) (h : 0 < chr l) : ¬ (128 ≤ l.getD 0 default ∧ l.getD 0 default ≤ 191) ∧ ∀ i, 0 < i → i < chr l → 128 ≤ l.getD i default ∧ l.getD i default ≤ 191 := by
  have r2 := r
  dsimp only [InR] at r2
  have hz : l.getD 0 default < 128 ∨ (128 ≤ l.getD 0 default ∧ l.getD 0 default < 192 ∨ 248 ≤ l.getD 0 default) ∨ (192 ≤ l.getD 0 default ∧ l.getD 0 default < 224) ∨ (224 ≤ l.getD 0 default ∧ l.getD 0 default < 240) ∨ (240 ≤ l.getD 0 default ∧ l.getD 0 default < 248) := by omega
  rcases hz with hz | hz | hz | hz | hz
  · rw [chr1 hz]; exact ⟨by omega, fun i h1 h2 => by omega⟩
  · rw [chr0 r hz] at h; omega
  · rw [chr2 r hz] at h ⊢
    split at h
    · omega
    · next hb =>
      rw [if_neg hb]
      refine ⟨by omega, fun i h1 h2 => ?_⟩
      obtain rfl : i = 1 := by omega
      omega
  · rw [chr3 r hz] at h ⊢
    split at h
    · omega
    · next hb =>
      rw [if_neg hb]
      refine ⟨by omega, fun i h1 h2 => ?_⟩
      rcases (by omega : i = 1 ∨ i = 2) with rfl | rfl <;> omega
  · rw [chr4 r hz] at h ⊢
    split at h
    · omega
    · next hb =>
      rw [if_neg hb]
      refine ⟨by omega, fun i h1 h2 => ?_⟩
      rcases (by omega : i = 1 ∨ i = 2 ∨ i = 3) with rfl | rfl | rfl <;> omega
theorem chr_sz {l : List Int} (h : 0 < chr l) : chr l = sz (l.getD 0 default) := by
  unfold chr at h ⊢
  split
  · rfl
  · next h1 =>
    rw [if_neg h1] at h
    split
    · next h2 => rw [if_pos h2] at h; omega
    · rfl
theorem rg {l : List Int} (r : ∀ x ∈ l, InR .u8 x) {i : Nat} (h : i < l.length) : InR .u8 (l.getD i default) := by
  refine r _ ?_
  rw [List.getD_eq_getElem?_getD, List.getElem?_eq_getElem h]
  exact List.getElem_mem h
/-- a text that is cut -/
theorem valid_cut : ∀ (n : Nat) (l : List Int), l.length ≤ n → valid l = true → (∀ x ∈ l, InR .u8 x) → ∀ c, c < l.length →
    valid (l.take c) = !decide (128 ≤ l.getD c default ∧ l.getD c default ≤ 191) ∧ valid (l.drop c) = !decide (128 ≤ l.getD c default ∧ l.getD c default ≤ 191) := by
  intro n
  induction n with
  | zero => intro l h _ _ c hc; omega
  | succ n ih =>
    intro l h hv r c hc
    by_cases hk : chr l = 0
    · rw [valid_bad (by omega) hk] at hv; cases hv
    have hle := chr_le (l := l) (by omega)
    obtain ⟨f1, f2⟩ := chr_facts (rg r (by omega)) (by omega)
    have e := valid_ok (l := l) (by omega) rfl (by omega)
    rw [hv] at e
    by_cases h0 : c = 0
    · subst h0
      rw [decide_eq_false f1]
      exact ⟨rfl, hv⟩
    · by_cases hin : c < chr l
      · have g := f2 c (by omega) hin
        rw [decide_eq_true g]
        constructor
        · refine valid_bad (by rw [List.length_take]; omega) ?_
          by_cases hz : chr (l.take c) = 0
          · exact hz
          · have := chr_sz (l := l.take c) (by omega)
            rw [getD_take (by omega), ← chr_sz (l := l) (by omega)] at this
            have h2 := chr_le (l := l.take c) (by rw [List.length_take]; omega)
            rw [List.length_take] at h2; omega
        · refine valid_bad (by rw [List.length_drop]; omega) (chr0 ?_ ?_)
          · rw [getD_drop, Nat.add_zero]; exact rg r hc
          · rw [getD_drop, Nat.add_zero]; omega
      · have hd : (l.drop (chr l)).getD (c - chr l) default = l.getD c default := by
          rw [getD_drop, show chr l + (c - chr l) = c by omega]
        obtain ⟨i1, i2⟩ := ih (l.drop (chr l)) (by rw [List.length_drop]; omega) e (fun x hx => r x (List.mem_of_mem_drop hx)) (c - chr l) (by rw [List.length_drop]; omega)
        rw [hd] at i1 i2
        constructor
        · rw [← i1]
          have c2 : chr (l.take c) = chr l := chr_take rfl (by omega) (fun i hi => getD_take (by omega)) (by rw [List.length_take]; omega)
          rw [← valid_ok (l := l.take c) (by rw [List.length_take]; omega) c2 (by omega), List.drop_take]
        · rw [← i2, List.drop_drop, show chr l + (c - chr l) = c by omega]
end Utf
namespace Nm
/-- the name with which bytes begin, and of how many bytes that is -/
def nt (l : List Int) : Option (List Int × Nat) :=
  match Lb.tk l 32 with
  | none => none
  | some (n, k) => if n ≤ ((l.length - k : Nat) : Int) ∧ Utf.valid ((l.drop k).take n.toNat) = true then some ((l.drop k).take n.toNat, k + n.toNat) else none
def V : Option (List Int × Nat) → Value
  | none => .tuple #[.string ⟨#[]⟩, .int .i64 0, .bool false]
  | some (t, k) => .tuple #[.string (bstr t), .int .i64 (k : Nat), .bool true]
theorem none {l : List Int} (h : Lb.tk l 32 = Option.none) : nt l = Option.none := by unfold nt; rw [h]
theorem bad {l : List Int} {n : Int} {k : Nat} (h : Lb.tk l 32 = some (n, k)) (hb : ((l.length - k : Nat) : Int) < n ∨ Utf.valid ((l.drop k).take n.toNat) = false) : nt l = Option.none := by
  unfold nt; rw [h]
  simp only []
  rw [if_neg]
  rintro ⟨h1, h2⟩
  rcases hb with hb | hb
  · omega
  · rw [hb] at h2; cases h2
theorem good {l : List Int} {n : Int} {k : Nat} (h : Lb.tk l 32 = some (n, k)) (h1 : n ≤ ((l.length - k : Nat) : Int)) (h2 : Utf.valid ((l.drop k).take n.toNat) = true) : nt l = some ((l.drop k).take n.toNat, k + n.toNat) := by
  unfold nt; rw [h]
  simp only []
  rw [if_pos ⟨h1, h2⟩]
/-- a name that was appended, whatever stands behind -/
theorem back (s r : List Int) (hs : s.length < 4294967296) : nt (Lb.ap (s.length : Int) ++ s ++ r) = if Utf.valid s = true then some (s, (Lb.ap (s.length : Int)).length + s.length) else Option.none := by
  have ht := Lb.tk_ap (n := (s.length : Int)) (by omega) (by omega) (s ++ r)
  rw [← List.append_assoc] at ht
  have e : ((Lb.ap (s.length : Int) ++ s ++ r).drop (Lb.ap (s.length : Int)).length).take ((s.length : Int)).toNat = s := by
    rw [List.append_assoc, List.drop_left, Int.toNat_natCast, List.take_left]
  split
  · next hv =>
    rw [good ht (by simp; omega) (by rw [e]; exact hv), e, Int.toNat_natCast]
  · next hv => exact bad ht (.inr (by rw [e]; simpa using hv))
theorem range {l t : List Int} {k : Nat} (r : ∀ x ∈ l, InR .u8 x) (h : nt l = some (t, k)) : ∀ x ∈ t, InR .u8 x := by
  unfold nt at h
  split at h
  · cases h
  · split at h
    · injection h with h; injection h with h1 h2
      subst h1
      exact fun x hx => r x (List.mem_of_mem_drop (List.mem_of_mem_take hx))
    · cases h
end Nm
theorem TakeU_none {H : Heap} (v : Value) (l : List Int) (z : Int) (hs : Sl 1 (EInt .u8) H v l) (h : Lb.tk l z = none) : Ct Tryd.prog 16 [v, .int .i64 z] H (fun u H' => u = .tuple #[.int .u64 0, .int .i64 0, .bool false] ∧ H = H') := by
  have := TakeU_k v l z hs
  rw [h] at this; exact this
theorem TakeU_some {H : Heap} (v : Value) (l : List Int) (z n : Int) (k : Nat) (hs : Sl 1 (EInt .u8) H v l) (h : Lb.tk l z = some (n, k)) : Ct Tryd.prog 16 [v, .int .i64 z] H (fun u H' => u = .tuple #[.int .u64 n, .int .i64 (k : Nat), .bool true] ∧ H = H') := by
  have := TakeU_k v l z hs
  rw [h] at this; exact this
theorem RefTake_none {H : Heap} (v : Value) (l : List Int) (z : Int) (hs : Sl 1 (EInt .u8) H v l) (h : Lb.tk l z = none) : Ct Tryd.prog 25 [v, .int .i64 z, .bool false] H (fun u H' => u = .tuple #[.int .u64 0, .int .i64 0] ∧ H = H') := by
  have := RefTake_k v l z hs
  rw [h] at this; exact this
theorem RefTake_some {H : Heap} (v : Value) (l : List Int) (n : Int) (k : Nat) (hs : Sl 1 (EInt .u8) H v l) (h : Lb.tk l 32 = some (n, k)) : Ct Tryd.prog 25 [v, .int .i64 32, .bool false] H (fun u H' => u = .tuple #[.int .u64 n, .int .i64 (k : Nat)] ∧ H = H') := by
  have := RefTake_k v l 32 hs
  have hb := Lb.tk32 h
  rw [h] at this
  have e : rfT (some (n, k)) = .tuple #[.int .u64 n, .int .i64 (k : Nat)] := by
    simp only [rfT]; rw [Int.emod_eq_of_lt (by omega) (by omega)]
  rw [e] at this; exact this
end Go.Proofs.YtnbdadjomnpcgaaDoor
