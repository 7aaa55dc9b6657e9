/- The reference of layer 1: all and Fewest: new slices of a number's bytes; nothing that was there is changed. No condition but the ranges of the number and of n. -/
import Derived.Test.YtnjodpgahbpiaaaLebApp
import Derived.Test.YtnjodpgahbpiaaaLebRef
namespace Go.Proofs.Ytnjodpgahbpiaaa
open Go.RowKit
set_option linter.unusedVariables false

/-- the number z, as an unsigned one below p -/
def Uns (sg : Bool) (p x z : Int) : Prop := 0 ≤ x ∧ x < p ∧ z = if sg = true ∧ p ≤ 2 * x then x - p else x

theorem Uns.step {sg : Bool} {r x z : Int} (h : Uns sg (256 * r) x z) : Uns sg (2 * r) (x / 128) (z / 128) ∧ z % 128 = x % 128 := by
  obtain ⟨h0, h1, h2⟩ := h
  unfold Uns
  cases sg
  · simp at h2; subst h2; simp; omega
  · simp only [true_and] at h2 ⊢
    split at h2
    · rw [if_pos (by omega)]; omega
    · rw [if_neg (by omega)]; omega

theorem pow7 (k : Nat) (hk : k ≤ 8) : (2 : Int) ^ (64 - 7 * k) = 256 * 2 ^ (56 - 7 * k) ∧ (2 : Int) ^ (64 - 7 * (k + 1)) = 2 * 2 ^ (56 - 7 * k) := by
  constructor
  · rw [show 64 - 7 * k = (56 - 7 * k) + 8 by omega, Int.pow_add, Int.mul_comm]; rfl
  · rw [show 64 - 7 * (k + 1) = (56 - 7 * k) + 1 by omega, Int.pow_add, Int.mul_comm]; rfl

/-- what has been laid of n bytes, and what is left -/
def Alls (sg : Bool) (n : Nat) (z : Int) (k : Nat) (x : Int) (l' : List UInt8) : Prop :=
  k ≤ n ∧ n ≤ 10 ∧ (k ≤ 9 → ∃ y, Uns sg (2 ^ (64 - 7 * k)) x y ∧ l' ++ Leb.digs (n - k) y = Leb.digs n z) ∧ (k = 10 → l' = Leb.digs n z) ∧ l'.length = k

theorem digs_more (m : Nat) (y : Int) (hm : m ≠ 0) : Leb.digs (m + 1) y = UInt8.ofNat ((y % 128).toNat + 128) :: Leb.digs m (y / 128) := by
  obtain ⟨j, rfl⟩ : ∃ j, m = j + 1 := ⟨m - 1, by omega⟩
  rfl

theorem Alls.done {sg : Bool} {n : Nat} {z : Int} {k : Nat} {x : Int} {l' : List UInt8} (h : Alls sg n z k x l') (hk : n = k) : l' = Leb.digs n z := by
  obtain ⟨h1, h2, h3, h4, h5⟩ := h
  subst hk
  by_cases e : n = 10
  · exact h4 e
  · obtain ⟨y, _, hy⟩ := h3 (by omega)
    simpa [Leb.digs] using hy

theorem Alls.more {sg : Bool} {n : Nat} {z : Int} {k : Nat} {x : Int} {l' : List UInt8} (h : Alls sg n z k x l') (hk : k + 1 < n) :
    Alls sg n z (k + 1) (x / 128) (l' ++ [UInt8.ofNat ((x % 128).toNat + 128)]) := by
  obtain ⟨h1, h2, h3, h4, h5⟩ := h
  obtain ⟨y, hu, hy⟩ := h3 (by omega)
  obtain ⟨p1, p2⟩ := pow7 k (by omega)
  rw [p1] at hu
  obtain ⟨hu, hm⟩ := hu.step
  rw [show n - k = (n - (k + 1)) + 1 by omega, digs_more _ _ (by omega)] at hy
  refine ⟨by omega, h2, fun _ => ⟨y / 128, by rw [p2]; exact hu, ?_⟩, fun e => by omega, by simp; omega⟩
  rw [List.append_assoc, ← hm]; exact hy

theorem Alls.last {sg : Bool} {n : Nat} {z : Int} {k : Nat} {x : Int} {l' : List UInt8} (h : Alls sg n z k x l') (hk : k + 1 = n) (hk8 : k ≤ 8) :
    Alls sg n z (k + 1) (x / 128) (l' ++ [UInt8.ofNat (x % 128).toNat]) := by
  obtain ⟨h1, h2, h3, h4, h5⟩ := h
  obtain ⟨y, hu, hy⟩ := h3 (by omega)
  obtain ⟨p1, p2⟩ := pow7 k (by omega)
  rw [p1] at hu
  obtain ⟨hu, hm⟩ := hu.step
  rw [show n - k = 1 by omega] at hy
  refine ⟨by omega, h2, fun _ => ⟨y / 128, by rw [p2]; exact hu, ?_⟩, fun e => by omega, by simp; omega⟩
  rw [show n - (k + 1) = 0 by omega, ← hm]
  simpa [Leb.digs] using hy

theorem Alls.tenth {sg : Bool} {n : Nat} {z : Int} {x : Int} {l' : List UInt8} (h : Alls sg n z 9 x l') (hk : 10 = n) (c : Nat)
    (hc : c = if sg = true ∧ x % 128 = 1 then 127 else (x % 128).toNat) : Alls sg n z 10 (x / 128) (l' ++ [UInt8.ofNat c]) := by
  obtain ⟨h1, h2, h3, h4, h5⟩ := h
  obtain ⟨y, hu, hy⟩ := h3 (by omega)
  subst hk
  have hy' : l' ++ [UInt8.ofNat (y % 128).toNat] = Leb.digs 10 z := hy
  obtain ⟨a, b, d⟩ := hu
  have e : (2 : Int) ^ (64 - 7 * 9) = 2 := by decide
  rw [e] at b d
  have : (y % 128).toNat = c := by
    cases sg
    · simp at d hc; omega
    · simp only [true_and] at d hc
      split at d <;> split at hc <;> omega
  rw [this] at hy'
  exact ⟨by omega, by omega, fun e => by omega, fun _ => hy', by simp; omega⟩

theorem Alls.tenth' {sg : Bool} {n : Nat} {z : Int} {k : Nat} {x : Int} {l' : List UInt8} (h : Alls sg n z k x l') (hk9 : k = 9) (hk : k < n) (c : Nat)
    (hc : c = if sg = true ∧ x % 128 = 1 then 127 else (x % 128).toNat) : Alls sg n z (k + 1) (x / 128) (l' ++ [UInt8.ofNat c]) := by
  subst hk9
  exact h.tenth (by have := h.2.1; omega) c hc

theorem Alls.room {sg : Bool} {n : Nat} {z : Int} {k : Nat} {x : Int} {l' : List UInt8} (h : Alls sg n z k x l') (hk : k < n) : 0 ≤ x ∧ x < 18446744073709551616 ∧ (k = 9 → x < 2) := by
  obtain ⟨h1, h2, h3, h4, h5⟩ := h
  obtain ⟨y, hu, hy⟩ := h3 (by omega)
  have := hu.2.1
  have hp := Leb.pow_le (show 64 - 7 * k ≤ 64 by omega)
  have e64 : (2 : Int) ^ 64 = 18446744073709551616 := by decide
  refine ⟨hu.1, by omega, fun e => ?_⟩
  subst e
  have e : (2 : Int) ^ (64 - 7 * 9) = 2 := by decide
  omega

theorem byte_lo (x : Int) (h : 0 ≤ x) : x % 128 = ((UInt8.ofNat (x % 128).toNat).toNat : Int) := by rw [Leb.toNat_lo]; omega
theorem byte_hi (x : Int) (h : 0 ≤ x) : x % 128 + 128 = ((UInt8.ofNat ((x % 128).toNat + 128)).toNat : Int) := by rw [Leb.toNat_hi]; omega

set_option maxRecDepth 100000 in
set_option maxHeartbeats 1000000 in
theorem all_any (x z : Int) (n : Nat) (sg : Bool) (w : World) (hu : Uns sg (2 ^ 64) x z) (hn : 1 ≤ n) (hn10 : n ≤ 10) :
    Calls Try.prog 37 #[.int .u64 x, .int .i64 n, .bool sg] w fun e w' => ∃ v', e = .returned v' ∧ Fresh w w' v' (Leb.digs n z) := by
  have hst : Alls sg n z 0 x [] := ⟨by omega, hn10, fun _ => ⟨z, hu, by simp⟩, fun e => by omega, rfl⟩
  have HS := Lib.hid hst; clear hst
  have HU := Lib.hid hu; clear hu
  go_enter Try.func37, Try.ntmps37
  go_wp2
  go_loopw [0, 7, 8] (fun x' v' i wr => ∃ (k : Nat) (y : Int) (l' : List UInt8), x' = .int .u64 y ∧ i = .int .i64 k ∧ wr.ownsRow w.heap.size 5 1 v' l'.length (l'.map B8) ∧ Alls sg n z k y l' ∧ Below w.heap.size w wr)
    (fun _ _ i _ => n - (intOf i).toNat)
  case atStart => exact ⟨0, x, [], rfl, rfl, ownNil w _, HS.out, Below.refl _ _⟩
  case round =>
    obtain ⟨k, y, l', rfl, rfl, hown, hal, hb⟩ := hrel
    have hkn : k ≤ n := hal.1
    have hll : l'.length ≤ 10 := by have := hal.2.2.2.2; omega
    have hsz := hb.size
    have HA := Lib.hid hal; clear hal
    by_cases hlt : k < n
    · obtain ⟨hy0, hyt, hy9⟩ := HA.out.room hlt
      have HY9 := Lib.hid hy9; clear hy9
      by_cases hk9 : k = 9
      · have hy2 := HY9.out hk9
        have hk9' : ((k : Int) == 9) = true := by simp; omega
        have hka : 9 ≤ k := by omega
        have hn2 : n ≤ 10 := hn10
        have HK := Lib.hid hk9; clear hk9
        by_cases hs : sg = true ∧ y % 128 = 1
        · obtain ⟨rfl, h1⟩ := hs
          have hte := HA.out.tenth' HK.out hlt 127 (by simp [h1])
          have h2 : (y % 128 == 1) = true := by simpa using h1
          have HT := Lib.hid hte; clear hte h1
          go_wp2_with (at_builtin; refine app1 rfl _ _ rfl w.heap.size _ _ l' rfl hown _ (UInt8.ofNat 127) (by decide) rfl (by omega) hsz ?_; intro v1 w1 hown1 hgrow1)
          go_roundw
          case rel => exact ⟨k + 1, _, _, rfl, by go_num, by simpa using hown1, HT.out, below_grown hb hgrow1 hown hsz⟩
          case measure => simp [intOf]; omega
        · have ho := byte_lo y hy0
          have hte := HA.out.tenth' HK.out hlt (y % 128).toNat (by rw [if_neg hs])
          have HT := Lib.hid hte; clear hte
          have HO := Lib.hid ho; clear ho
          cases sg
          · clear hs
            go_wp2_with (at_builtin; refine app1 rfl _ _ rfl w.heap.size _ _ l' rfl hown _ (UInt8.ofNat (y % 128).toNat) HO.out rfl (by omega) hsz ?_; intro v1 w1 hown1 hgrow1)
            go_roundw
            case rel => exact ⟨k + 1, _, _, rfl, by go_num, by simpa using hown1, HT.out, below_grown hb hgrow1 hown hsz⟩
            case measure => simp [intOf]; omega
          · have hs' : (y % 128 == 1) = false := by simpa using hs
            clear hs
            go_wp2_with (at_builtin; refine app1 rfl _ _ rfl w.heap.size _ _ l' rfl hown _ (UInt8.ofNat (y % 128).toNat) HO.out rfl (by omega) hsz ?_; intro v1 w1 hown1 hgrow1)
            go_roundw
            case rel => exact ⟨k + 1, _, _, rfl, by go_num, by simpa using hown1, HT.out, below_grown hb hgrow1 hown hsz⟩
            case measure => simp [intOf]; omega
      · have hk9' : ((k : Int) == 9) = false := by simp; omega
        by_cases hl : k + 1 < n
        · have ho := byte_hi y hy0
          have HO := Lib.hid ho; clear ho
          go_wp2_with (at_builtin; refine app1 rfl _ _ rfl w.heap.size _ _ l' rfl hown _ (UInt8.ofNat ((y % 128).toNat + 128)) HO.out rfl (by omega) hsz ?_; intro v1 w1 hown1 hgrow1)
          go_roundw
          case rel => exact ⟨k + 1, _, _, rfl, by go_num, by simpa using hown1, HA.out.more hl, below_grown hb hgrow1 hown hsz⟩
          case measure => simp [intOf]; omega
        · have ho := byte_lo y hy0
          have HO := Lib.hid ho; clear ho
          go_wp2_with (at_builtin; refine app1 rfl _ _ rfl w.heap.size _ _ l' rfl hown _ (UInt8.ofNat (y % 128).toNat) HO.out rfl (by omega) hsz ?_; intro v1 w1 hown1 hgrow1)
          go_roundw
          case rel => exact ⟨k + 1, _, _, rfl, by go_num, by simpa using hown1, HA.out.last (by omega) (by omega), below_grown hb hgrow1 hown hsz⟩
          case measure => simp [intOf]; omega
    · go_wp2
      go_ret
      exact ⟨_, rfl, by rw [← HA.out.done (by omega)]; exact hown, hb⟩
theorem own_mono {w : World} {B B' e size n : Nat} {v : Value} {xs : List Value} (h : w.ownsRow B e size v n xs) (hB : B' ≤ B) : w.ownsRow B' e size v n xs := by
  obtain ⟨h1, h2⟩ := h
  refine ⟨h1, ?_⟩
  rcases h2 with h2 | ⟨g, cap, cur, hv, hg, r⟩
  · exact .inl h2
  · exact .inr ⟨g, cap, cur, hv, Nat.le_trans hB hg, r⟩

theorem Fresh.later {W w w' : World} {v : Value} {l : List UInt8} (h : Fresh w w' v l) (hb : Below W.heap.size W w) : Fresh W w' v l :=
  ⟨own_mono h.1 hb.size, hb.trans (h.2.mono hb.size)⟩

/-- the number of k bytes of z, as 64 bits -/
def fewQ (sg : Bool) (k : Nat) (z : Int) : Int := Leb.num sg (Leb.digs k z) % 18446744073709551616

theorem tk_digs (sg : Bool) (k : Nat) (z : Int) (h1 : 1 ≤ k) (h2 : k ≤ 9) : Leb.tk sg (Leb.digs k z) 64 = some (Leb.num sg (Leb.digs k z), k) := by
  obtain ⟨j, rfl⟩ : ∃ j, k = j + 1 := ⟨k - 1, by omega⟩
  have hr := Leb.digs_run j z []
  rw [List.append_nil] at hr
  have hl := Leb.digs_length (j + 1) z
  have hf := Leb.num_fit sg (Leb.digs (j + 1) z)
  rw [hl] at hf
  have ht : (Leb.digs (j + 1) z).take (j + 1) = Leb.digs (j + 1) z := List.take_of_length_le (by omega)
  rw [tk_yes (by omega), hr, ht, if_pos]
  rw [Leb.fits_iff (by omega) (by decide) hf]
  intro a b c
  simp at b; omega

theorem fewQ_lt (sg : Bool) (k : Nat) (z : Int) : 0 ≤ fewQ sg k z ∧ fewQ sg k z < 18446744073709551616 := by unfold fewQ; omega

theorem fewQ_eq {sg : Bool} {k : Nat} {x z : Int} (h1 : 1 ≤ k) (h2 : k ≤ 9) (hu : Uns sg (2 ^ 64) x z) : fewQ sg k z = x ↔ Leb.fit7 sg k z := by
  obtain ⟨j, rfl⟩ : ∃ j, k = j + 1 := ⟨k - 1, by omega⟩
  have e64 : (2 : Int) ^ 64 = 18446744073709551616 := by decide
  obtain ⟨a, b, c⟩ := hu
  rw [e64] at b c
  have hz : z % 18446744073709551616 = x := by split at c <;> omega
  constructor
  · intro h
    have hf := Leb.num_fit sg (Leb.digs (j + 1) z)
    rw [Leb.digs_length] at hf
    unfold fewQ at h
    have hb : (128 : Int) ^ (j + 1) ≤ 9223372036854775808 := by
      have := Leb.pow9 h2
      have c1 := Leb.cast_pow (j + 1)
      omega
    have : Leb.num sg (Leb.digs (j + 1) z) = z := by
      unfold Leb.fit7 at hf
      cases sg
      · simp at hf c; omega
      · simp at hf c; split at c <;> omega
    rw [this] at hf; exact hf
  · intro h
    unfold fewQ
    rw [Leb.digs_num sg j z h, hz]

set_option maxRecDepth 100000 in
theorem Take_digs (v : Value) (k : Nat) (z : Int) (sg : Bool) (w : World) (hv : IsBs w v (Leb.digs k z)) (h1 : 1 ≤ k) (h2 : k ≤ 9) :
    Calls Try.prog 38 #[v, .int .i64 64, .bool sg] w fun e w' => e = .returned (.tuple #[.int .u64 (fewQ sg k z), .int .i64 k]) ∧ w = w' := by
  refine (Take_any v _ 64 sg w hv).mono ?_
  rw [tk_digs sg k z h1 h2]
  rintro e w' ⟨rfl, rfl⟩
  exact ⟨rfl, rfl⟩

theorem ap_first {sg : Bool} {k : Nat} {z : Int} (h1 : 1 ≤ k) (h10 : k ≤ 10) (hz : Leb.fit7 sg 10 z) (hno : ∀ j, 1 ≤ j → j < k → ¬ Leb.fit7 sg j z) (hk : k = 10 ∨ Leb.fit7 sg k z) : Leb.ap sg 10 z = Leb.digs k z := by
  rw [Leb.ap_digs sg 9 z hz]
  have hn := Leb.need_fit sg 9 z hz
  have hp := Leb.need_pos sg 9 z
  have hl := Leb.need_le sg 10 z
  have hm := fun h => Leb.need_min sg 10 k z (Leb.fit7_nonneg hz) h1 h
  generalize Leb.need sg (9 + 1) z = m at *
  have : m = k := by
    by_cases h : m < k
    · exact absurd hn (hno m hp h)
    · by_cases h' : k < m
      · rcases hk with rfl | hk
        · omega
        · exact absurd hk (hm h')
      · omega
  rw [this]

theorem Uns.fit {sg : Bool} {x z : Int} (h : Uns sg (2 ^ 64) x z) : Leb.fit7 sg 10 z := by
  obtain ⟨a, b, c⟩ := h
  have e64 : (2 : Int) ^ 64 = 18446744073709551616 := by decide
  have e10 : (128 : Int) ^ 10 = 1180591620717411303424 := by decide
  unfold Leb.fit7
  rw [e64] at b c
  rw [e10]
  cases sg
  · simp at c ⊢; omega
  · simp at c ⊢; split at c <;> omega

set_option maxRecDepth 100000 in
set_option maxHeartbeats 1000000 in
theorem Fewest_any (x z : Int) (sg : Bool) (w : World) (hu : Uns sg (2 ^ 64) x z) :
    Calls Try.prog 24 #[.int .u64 x, .bool sg] w fun e w' => ∃ v', e = .returned v' ∧ Fresh w w' v' (Leb.ap sg 10 z) := by
  have HU := Lib.hid hu; clear hu
  go_enter Try.func24, Try.ntmps24
  go_wp2
  go_loopw [5] (fun i wr => ∃ k : Nat, 1 ≤ k ∧ k ≤ 10 ∧ i = .int .i64 k ∧ (∀ j, 1 ≤ j → j < k → ¬ Leb.fit7 sg j z) ∧ Below w.heap.size w wr) (fun i _ => 10 - (intOf i).toNat)
  case atStart => exact ⟨1, by omega, by omega, rfl, by omega, Below.refl _ _⟩
  case round =>
    obtain ⟨k, hk1, hk10, rfl, hno, hb⟩ := hrel
    have HN := Lib.hid hno; clear hno
    have hsz := hb.size
    by_cases hlt : k < 10
    · by_cases hf : Leb.fit7 sg k z
      · have hq : (fewQ sg k z == x) = true := by rw [beq_iff_eq]; exact (fewQ_eq hk1 (by omega) HU.out).2 hf
        have HF := Lib.hid hf; clear hf
        go_wp2_with (first | (go_at_call 37; refine (all_any x z k sg _ HU.out hk1 (by omega)).mono ?_; rintro e w1 ⟨v1, rfl, hfr⟩) | (go_at_call 38; refine (Take_digs _ k z sg _ hfr.is hk1 (by omega)).mono ?_; rintro e w' ⟨rfl, rfl⟩))
        go_ret
        exact ⟨_, rfl, by rw [ap_first hk1 hk10 HU.out.fit HN.out (.inr HF.out)]; exact hfr.later hb⟩
      · have hq : (fewQ sg k z == x) = false := by rw [beq_eq_false_iff_ne]; exact fun h => hf ((fewQ_eq hk1 (by omega) HU.out).1 h)
        have HF := Lib.hid hf; clear hf
        go_wp2_with (first | (go_at_call 37; refine (all_any x z k sg _ HU.out hk1 (by omega)).mono ?_; rintro e w1 ⟨v1, rfl, hfr⟩) | (go_at_call 38; refine (Take_digs _ k z sg _ hfr.is hk1 (by omega)).mono ?_; rintro e w' ⟨rfl, rfl⟩))
        go_roundw
        case rel =>
          refine ⟨k + 1, by omega, by omega, by go_num, ?_, hb.trans (hfr.2.mono hsz)⟩
          intro j h1 h2
          by_cases e : j = k
          · subst e; exact HF.out
          · exact HN.out j h1 (by omega)
        case measure => simp [intOf]; omega
    · go_wp2_with (first | (go_at_call 37; refine (all_any x z 10 sg _ HU.out (by omega) (by omega)).mono ?_; rintro e w1 ⟨v1, rfl, hfr⟩))
      go_ret
      obtain rfl : k = 10 := by omega
      exact ⟨_, rfl, by rw [ap_first hk1 hk10 HU.out.fit HN.out (.inl rfl)]; exact hfr.later hb⟩
end Go.Proofs.Ytnjodpgahbpiaaa
