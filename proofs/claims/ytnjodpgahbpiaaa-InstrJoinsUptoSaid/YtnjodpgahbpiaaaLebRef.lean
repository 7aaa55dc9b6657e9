/- The reference of layer 1: run, most, bit, Take: what each answers; nothing is changed. Condition of bit: at most a million bytes. -/
import Derived.Test.YtnjodpgahbpiaaaMem
import Derived.Test.YtnjodpgahbpiaaaLebRefPlain
namespace Go.Proofs.Ytnjodpgahbpiaaa
open Go.RowKit
set_option linter.unusedVariables false

set_option maxRecDepth 100000 in
theorem most_any (n : Int) (w : World) (h0 : 1 ≤ n) (h1 : n ≤ 1000000) :
    Calls Try.prog 48 #[.int .i64 n] w fun e w' => e = .returned (.int .i64 ((n + 6) / 7)) ∧ w = w' := by
  go_enter Try.func48, Try.ntmps48
  go_wp2
  go_ret
  exact ⟨rfl, rfl⟩

set_option maxRecDepth 100000 in
theorem run_any (v : Value) (l : List UInt8) (w : World) (hv : IsBs w v l) :
    Calls Try.prog 47 #[v] w fun e w' => e = .returned (.int .i64 (Leb.run l)) ∧ w = w' := by
  obtain ⟨a, cap, rfl, hs⟩ := hv
  have hlen := hs.len
  go_enter Try.func47, Try.ntmps47
  go_wp2
  go_loop [3] (fun i => ∃ k : Nat, k ≤ l.length ∧ i = .int .i64 k ∧ Leb.high l k) (fun i => l.length - (intOf i).toNat)
  case atStart => exact ⟨0, by omega, rfl, Leb.high_zero _⟩
  case round =>
    obtain ⟨k, hk, rfl, hh⟩ := hrel
    have HH := Lib.hid hh; clear hh
    by_cases hlt : k < l.length
    · obtain ⟨b, off, c, rfl, hc, hc2, hcell⟩ := hs.at k hlt
      by_cases hb : c.toNat < 128
      · go_wp2
        go_ret
        exact ⟨retI (by rw [Leb.run_eq HH.out hc.out hb]; simp), rfl⟩
      · go_wp2
        go_round
        case rel => exact ⟨k + 1, hlt, by go_num, Leb.high_succ HH.out hc.out (by omega)⟩
        case measure => simp [intOf]; omega
    · go_wp2
      go_ret
      have e : k = l.length := by omega
      subst e
      exact ⟨retI (by rw [Leb.run_end HH.out]; rfl), rfl⟩

theorem halves (c : Nat) (j : Nat) : ((c / 2 ^ j : Nat) : Int) / 2 = ((c / 2 ^ (j + 1) : Nat) : Int) := by
  rw [Nat.pow_succ, ← Nat.div_div_eq_div_mul]; omega

theorem bit_end (sg : Bool) (l : List UInt8) (n : Nat) (c : UInt8) (h : l[n / 7]? = some c) (k : Nat) (hk : k = n % 7) : ((c.toNat / 2 ^ k : Nat) : Int) % 2 = Leb.zbit (Leb.num sg l) n := by
  subst hk; rw [Leb.zbit_at sg l n c h]; omega

set_option maxRecDepth 100000 in
theorem bit_any (v : Value) (l : List UInt8) (n : Nat) (sg : Bool) (w : World) (hv : IsBs w v l) (hl : l ≠ []) (hl2 : l.length ≤ 1000000) (hn : n ≤ 100000000) :
    Calls Try.prog 49 #[v, .int .i64 (n : Int), .bool sg] w fun e w' => e = .returned (.int .i64 (Leb.zbit (Leb.num sg l) n)) ∧ w = w' := by
  obtain ⟨a, cap, rfl, hs⟩ := hv
  have hlp : 0 < l.length := by have : l.length ≠ 0 := by simpa using hl
                                omega
  by_cases hb : n < 7 * l.length
  · obtain ⟨b, off, c, rfl, hc, hc2, hcell⟩ := hs.at (n / 7) (by omega)
    have fin := bit_end sg l n c hc.out
    have FIN := Lib.hid fin; clear fin hl
    go_enter Try.func49, Try.ntmps49
    go_wp2
    go_loop [7, 8] (fun x i => ∃ k : Nat, k ≤ n % 7 ∧ i = .int .i64 k ∧ x = .int .i64 ((c.toNat / 2 ^ k : Nat) : Int)) (fun _ i => n % 7 - (intOf i).toNat)
    case atStart => exact ⟨0, by omega, rfl, by simp⟩
    case round =>
      obtain ⟨k, hk, rfl, rfl⟩ := hrel
      have hh := halves c.toNat k
      have hx : c.toNat / 2 ^ k ≤ 255 := Nat.le_trans (Nat.div_le_self _ _) (by omega)
      have he := FIN.out k
      generalize c.toNat / 2 ^ k = x at *
      have HH := Lib.hid hh; clear hh
      have HE := Lib.hid he; clear he
      by_cases hlt : k < n % 7
      · go_wp2
        go_round
        case rel => exact ⟨k + 1, hlt, by go_num, congrArg _ HH.out⟩
        case measure => simp [intOf]; omega
      · go_wp2
        go_ret
        exact ⟨retI (HE.out (by omega)), rfl⟩
  · cases sg
    · have fin := Leb.zbit_out (sg := false) hl (by omega : 7 * l.length ≤ n)
      have FIN := Lib.hid fin; clear fin hl
      go_enter Try.func49, Try.ntmps49
      go_wp2
      go_ret
      exact ⟨retI (by rw [FIN.out]; rfl), rfl⟩
    · obtain ⟨b, off, c, rfl, hc, hc2, hcell⟩ := hs.at ((7 * l.length - 1) / 7) (by omega)
      have fin := bit_end true l (7 * l.length - 1) c hc.out
      have fin2 := Leb.zbit_out (sg := true) hl (by omega : 7 * l.length ≤ n)
      have FIN := Lib.hid fin; clear fin
      have FIN2 := Lib.hid fin2; clear fin2 hl
      go_enter Try.func49, Try.ntmps49
      go_wp2
      go_loop [7, 8] (fun x i => ∃ k : Nat, k ≤ 6 ∧ i = .int .i64 k ∧ x = .int .i64 ((c.toNat / 2 ^ k : Nat) : Int)) (fun _ i => 6 - (intOf i).toNat)
      case atStart => exact ⟨0, by omega, rfl, by simp⟩
      case round =>
        obtain ⟨k, hk, rfl, rfl⟩ := hrel
        have hh := halves c.toNat k
        have hx : c.toNat / 2 ^ k ≤ 255 := Nat.le_trans (Nat.div_le_self _ _) (by omega)
        have he := FIN.out k
        generalize c.toNat / 2 ^ k = x at *
        have HH := Lib.hid hh; clear hh
        have HE := Lib.hid he; clear he
        by_cases hlt : k < 6
        · go_wp2
          go_round
          case rel => exact ⟨k + 1, hlt, by go_num, congrArg _ HH.out⟩
          case measure => simp [intOf]; omega
        · go_wp2
          go_ret
          exact ⟨retI ((HE.out (by omega)).trans (by rw [FIN2.out]; simp)), rfl⟩
/-- what the reference answers -/
def rfT (o : Option (Int × Nat)) : Value := match o with | some (z, k) => .tuple #[.int .u64 (z % 18446744073709551616), .int .i64 k] | none => .tuple #[.int .u64 0, .int .i64 0]

theorem tk_no {sg : Bool} {l : List UInt8} {z : Int} (h : z < 1 ∨ 64 < z ∨ Leb.run l = 0 ∨ (z + 6) / 7 < Leb.run l) : Leb.tk sg l z = none := by
  unfold Leb.tk; rw [if_pos h]

theorem tk_yes {sg : Bool} {l : List UInt8} {z : Int} (h : ¬ (z < 1 ∨ 64 < z ∨ Leb.run l = 0 ∨ (z + 6) / 7 < Leb.run l)) :
    Leb.tk sg l z = if Leb.fits sg z.toNat (Leb.num sg (l.take (Leb.run l))) then some (Leb.num sg (l.take (Leb.run l)), Leb.run l) else none := by
  unfold Leb.tk; rw [if_neg h]

set_option maxRecDepth 100000 in
set_option maxHeartbeats 400000 in
/-- where there is no number at all -/
theorem Take_no (v : Value) (l : List UInt8) (z : Int) (sg : Bool) (w : World) (hv : IsBs w v l) (h : z < 1 ∨ 64 < z ∨ Leb.run l = 0 ∨ (z + 6) / 7 < Leb.run l) :
    Calls Try.prog 38 #[v, .int .i64 z, .bool sg] w fun e w' => e = .returned (rfT (Leb.tk sg l z)) ∧ w = w' := by
  rw [tk_no h]
  obtain ⟨n, hn⟩ : ∃ n, n = Leb.run l := ⟨_, rfl⟩
  have hle := Leb.run_le l
  obtain ⟨a, cap, rfl, hs⟩ := hv
  have hlen := hs.len
  rw [← hn] at hle h
  have HN := Lib.hid hn; clear hn
  have H := Lib.hid h; clear h
  by_cases h1 : z < 1
  · go_enter Try.func38, Try.ntmps38
    go_wp2_with (first | (go_at_call 47; refine (run_any _ l _ ⟨a, cap, rfl, hs⟩).mono ?_; rw [← HN.out]; rintro e w' ⟨rfl, rfl⟩))
    go_ret2
    exact ⟨rfl, rfl⟩
  by_cases h2 : 64 < z
  · go_enter Try.func38, Try.ntmps38
    go_wp2_with (first | (go_at_call 47; refine (run_any _ l _ ⟨a, cap, rfl, hs⟩).mono ?_; rw [← HN.out]; rintro e w' ⟨rfl, rfl⟩))
    go_ret2
    exact ⟨rfl, rfl⟩
  by_cases h3 : n = 0
  · have h3' : ((n : Int) == 0) = true := by simp; omega
    clear h3
    go_enter Try.func38, Try.ntmps38
    go_wp2_with (first | (go_at_call 47; refine (run_any _ l _ ⟨a, cap, rfl, hs⟩).mono ?_; rw [← HN.out]; rintro e w' ⟨rfl, rfl⟩))
    go_ret2
    exact ⟨rfl, rfl⟩
  have h4 : (z + 6) / 7 < n := by have := H.out; omega
  have h3' : ((n : Int) == 0) = false := by simp; omega
  go_enter Try.func38, Try.ntmps38
  go_wp2_with (first | (go_at_call 47; refine (run_any _ l _ ⟨a, cap, rfl, hs⟩).mono ?_; rw [← HN.out]; rintro e w' ⟨rfl, rfl⟩) | (go_at_call 48; refine (most_any _ _ (by omega) (by omega)).mono ?_; rintro e w' ⟨rfl, rfl⟩))
  go_ret2
  exact ⟨rfl, rfl⟩

theorem good_next {sg : Bool} {b k : Nat} {z : Int} (h : Hid (∀ j, b ≤ j → j < k → Leb.good sg b z j)) (hk : Leb.good sg b z k) : ∀ j, b ≤ j → j < k + 1 → Leb.good sg b z j := by
  intro j h1 h2
  by_cases e : j = k
  · subst e; exact hk
  · exact h.out j h1 (by omega)

set_option maxRecDepth 100000 in
set_option maxHeartbeats 1000000 in
theorem Take_yes (v : Value) (l : List UInt8) (b : Nat) (sg : Bool) (w : World) (hv : IsBs w v l) (hb : b ≤ 63) (hr : Leb.run l ≠ 0) (hr2 : 7 * Leb.run l ≤ b + 7) :
    Calls Try.prog 38 #[v, .int .i64 (b + 1), .bool sg] w fun e w' => e = .returned (rfT (Leb.tk sg l (b + 1))) ∧ w = w' := by
  have ht := tk_yes (sg := sg) (l := l) (z := b + 1) (by omega)
  rw [show ((b : Int) + 1).toNat = b + 1 by omega] at ht
  have hle := Leb.run_le l
  generalize hn : Leb.run l = n at *
  obtain ⟨a, cap, rfl, hs⟩ := hv
  have hlen := hs.len
  have hfit := hs.fits
  have hs' := hs.take n
  have hll : (l.take n).length = n := by simp; omega
  have hf := Leb.num_fit sg (l.take n)
  rw [hll] at hf
  generalize l.take n = l' at *
  have hv' : IsBs w (.slice a n cap) l' := ⟨a, cap, by rw [hll], hs'⟩
  have hne : l' ≠ [] := by intro e; subst e; simp at hll; omega
  have hlm : l'.length ≤ 1000000 := by omega
  have hfi := Leb.fits_iff (sg := sg) (n := n) (b := b + 1) (z := Leb.num sg l') (by omega) (by omega) hf
  have HT := Lib.hid ht; clear ht
  have HN := Lib.hid hn; clear hn
  have HFI := Lib.hid hfi; clear hfi hf hll hs'
  have HNE := Lib.hid hne; clear hne
  have h3' : ((n : Int) == 0) = false := by simp; omega
  have HS := Lib.hid hs; clear hs
  clear hr
  go_enter Try.func38, Try.ntmps38
  go_wp2_with (first | (go_at_call 47; refine (run_any _ l _ ⟨a, cap, rfl, HS.out⟩).mono ?_; rw [HN.out]; rintro e w' ⟨rfl, rfl⟩) | (go_at_call 48; refine (most_any _ _ (by omega) (by omega)).mono ?_; rintro e w' ⟨rfl, rfl⟩))
  go_loop [10] (fun i => ∃ k : Nat, b + 1 ≤ k ∧ k ≤ 1000 ∧ i = .int .i64 k ∧ ∀ j, b + 1 ≤ j → j < k → Leb.good sg (b + 1) (Leb.num sg l') j) (fun i => 7 * n - (intOf i).toNat)
  case atStart => exact ⟨b + 1, by omega, by omega, by simp, fun j _ _ => by omega⟩
  case round =>
    obtain ⟨k, hk, hk2, rfl, hg⟩ := hrel
    have HG := Lib.hid hg; clear hg
    by_cases hlt : k < 7 * n
    · cases sg
      · by_cases hgd : Leb.zbit (Leb.num false l') k = 0
        · go_wp2_with (first | (go_at_call 49; refine (bit_any _ l' _ _ _ hv' HNE.out hlm (by omega)).mono ?_; rintro e w' ⟨rfl, rfl⟩))
          go_round
          case rel => exact ⟨k + 1, by omega, by omega, by go_num, good_next HG hgd⟩
          case measure => simp [intOf]; omega
        · go_wp2_with (first | (go_at_call 49; refine (bit_any _ l' _ _ _ hv' HNE.out hlm (by omega)).mono ?_; rintro e w' ⟨rfl, rfl⟩))
          go_ret2
          exact ⟨fin3 (by rw [HT.out, if_neg (fun h => hgd (HFI.out.1 h k hk hlt))]; rfl), rfl⟩
      · by_cases hgd : Leb.zbit (Leb.num true l') k = Leb.zbit (Leb.num true l') b
        · go_wp2_with (first | (go_at_call 49; refine (bit_any _ l' _ _ _ hv' HNE.out hlm (by omega)).mono ?_; rintro e w' ⟨rfl, rfl⟩))
          go_round
          case rel => exact ⟨k + 1, by omega, by omega, by go_num, good_next HG hgd⟩
          case measure => simp [intOf]; omega
        · go_wp2_with (first | (go_at_call 49; refine (bit_any _ l' _ _ _ hv' HNE.out hlm (by omega)).mono ?_; rintro e w' ⟨rfl, rfl⟩))
          go_ret2
          exact ⟨fin3 (by rw [HT.out, if_neg (fun h => hgd (HFI.out.1 h k hk hlt))]; rfl), rfl⟩
    · have hyes : Leb.fits sg (b + 1) (Leb.num sg l') = true := HFI.out.2 fun j h1 h2 => HG.out j h1 (by omega)
      have ht2 := HT.out
      rw [if_pos hyes] at ht2
      have HT2 := Lib.hid ht2
      clear ht2 hyes HG HFI HT HN HS
      generalize hZ : Leb.num sg l' = Z at *
      have HZ := Lib.hid hZ; clear hZ
      go_wp2
      go_loop [11, 12] (fun v i => ∃ (k : Nat) (y x : Int), k ≤ 64 ∧ y + 1 = k ∧ i = .int .i64 y ∧ v = .int .u64 x ∧ x = Z / 2 ^ k % 2 ^ (64 - k)) (fun _ i => (intOf i + 1).toNat)
      case atStart => exact ⟨64, 63, 0, by omega, by omega, rfl, rfl, by simp [Int.emod_one]⟩
      case round =>
        obtain ⟨k, y, x, hk, hy, rfl, rfl, hx⟩ := hrel
        cases k with
        | zero =>
          obtain rfl : y = -1 := by omega
          have HX := Lib.hid hx; clear hx
          go_wp2
          go_ret2
          exact ⟨fin3 (by rw [HT2.out, HX.out]; simp [rfT]), rfl⟩
        | succ j =>
          obtain rfl : y = (j : Int) := by omega
          have hb := bit_any _ l' j sg w hv' HNE.out hlm (by omega)
          have hn := Leb.horner Z j (63 - j)
          have h0 : 0 ≤ x := by rw [hx]; exact Int.emod_nonneg _ (by have := Int.pow_pos (n := 2) (m := 64 - (j + 1)) (by omega); omega)
          have h1 : x < 9223372036854775808 := by
            have a1 := Int.emod_lt_of_pos (Z / 2 ^ (j + 1)) (Int.pow_pos (n := 2) (m := 64 - (j + 1)) (by omega))
            have a2 := Leb.pow_le (show 64 - (j + 1) ≤ 63 by omega)
            rw [← hx] at a1
            have a3 : (2 : Int) ^ 63 = 9223372036854775808 := by decide
            omega
          rw [HZ.out] at hb
          rw [show 63 - j + 1 = 64 - j by omega, show 63 - j = 64 - (j + 1) by omega, ← hx] at hn
          have ht : Leb.zbit Z j = 0 ∨ Leb.zbit Z j = 1 := Leb.zbit_01 _ _
          generalize Leb.zbit Z j = t at *
          have ht0 : 0 ≤ t := by omega
          have ht1 : t ≤ 1 := by omega
          clear ht
          have HB := Lib.hid hb; clear hb
          have HX := Lib.hid hx; clear hx
          have HH := Lib.hid hn; clear hn hy
          go_wp2_with (first | (go_at_call 49; refine HB.out.mono ?_; rintro e w' ⟨rfl, rfl⟩))
          go_round
          case rel => exact ⟨j, (j : Int) - 1, 2 * x + t, by omega, by omega, rfl, by go_num, HH.out.symm⟩
          case measure => simp [intOf]

theorem Take_any (v : Value) (l : List UInt8) (z : Int) (sg : Bool) (w : World) (hv : IsBs w v l) :
    Calls Try.prog 38 #[v, .int .i64 z, .bool sg] w fun e w' => e = .returned (rfT (Leb.tk sg l z)) ∧ w = w' := by
  by_cases h : z < 1 ∨ 64 < z ∨ Leb.run l = 0 ∨ (z + 6) / 7 < Leb.run l
  · exact Take_no v l z sg w hv h
  · obtain ⟨b, rfl⟩ : ∃ b : Nat, z = b + 1 := ⟨(z - 1).toNat, by omega⟩
    exact Take_yes v l b sg w hv (by omega) (by omega) (by omega)
end Go.Proofs.Ytnjodpgahbpiaaa
