/- LebShort: the law's walk. No condition. -/
import Derived.Test.YtikbioakngkogaaLebKnown
import Derived.Test.YtikbioakngkogaaLebMore
import Derived.Test.YtikbioakngkogaaLebTakesWalk
namespace Go.Proofs.Ytikbioakngkogaa
open Go.RowKit
set_option linter.unusedVariables false

theorem AppendU_nil (z : Int) (w : World) (h0 : 0 ≤ z) (h1 : z < 18446744073709551616) :
    Calls Try.prog 11 #[.slice none 0 0, .int .u64 z] w fun e w' => ∃ a L cap, e = .returned (.slice a L cap) ∧ L = (Leb.ap false 10 z).length ∧ Fresh w w' (.slice a L cap) (Leb.ap false 10 z) := by
  refine (AppendU_any _ [] z w (IsBs.nil w) (by decide) h0 h1).mono ?_
  rintro e w' ⟨v, rfl, h⟩
  rw [List.nil_append] at h
  obtain ⟨a, cap, rfl, _⟩ := h.is
  exact ⟨a, _, cap, rfl, rfl, h⟩
theorem AppendS_nil (z : Int) (w : World) (h0 : -9223372036854775808 ≤ z) (h1 : z < 9223372036854775808) :
    Calls Try.prog 12 #[.slice none 0 0, .int .i64 z] w fun e w' => ∃ a L cap, e = .returned (.slice a L cap) ∧ L = (Leb.ap true 10 z).length ∧ Fresh w w' (.slice a L cap) (Leb.ap true 10 z) := by
  refine (AppendS_any _ [] z w (IsBs.nil w) (by decide) h0 h1).mono ?_
  rintro e w' ⟨v, rfl, h⟩
  rw [List.nil_append] at h
  obtain ⟨a, cap, rfl, _⟩ := h.is
  exact ⟨a, _, cap, rfl, rfl, h⟩

theorem shr_of {l : List UInt8} {z m : Int} {j : Nat} (h : Leb.tk true l z = some (m, j)) : m / 2 ^ (z.toNat - 1) = 0 ∨ m / 2 ^ (z.toNat - 1) = -1 := by
  obtain ⟨h1, _, _, _, _, _, _, h2⟩ := Leb.tk_some h
  exact Leb.fits_shr' (by omega) h2

/-- what is taken once more of its own bytes -/
theorem cut_is {w : World} {a : Option Addr} {cap k : Nat} {l : List UInt8} (h : Bs w a cap l) (h1 : 1 ≤ k) (h2 : k ≤ l.length) : IsBs w (.slice a k k) (l.take k) := by
  have hf := h.fits
  refine ⟨a, k, by simp [Nat.min_eq_left h2], ⟨by simp; omega, by have := h.max; omega, fun hn => by have := h.none hn; omega, (h.take k).cell⟩⟩

set_option maxRecDepth 100000 in
set_option maxHeartbeats 400000 in
theorem LebShort_yy (a : Option Addr) (cap : Nat) (l : List UInt8) (z : Int) (w : World) (hs : Bs w a cap l) (hl : l.length ≤ 1000) (n : Int) (k : Nat) (hU : Leb.tk false l z = some (n, k)) (m : Int) (j : Nat) (hS : Leb.tk true l z = some (m, j)) (h64 : z < 64) (hq : m / 2 ^ (z.toNat - 1) = 0) :
    Calls Try.prog 5 #[.slice a l.length cap, .int .i64 z] w fun e w' => e = .returned (.bool true) ∧ Below w.heap.size w w' := by
  have hfit := hs.fits
  obtain ⟨hk1, hk2, hn, -⟩ := tk_range hU
  obtain ⟨hn0, hn1⟩ := hn rfl
  have hsh := Leb.tk_short hU
  have hag := Leb.tk_again hU
  obtain ⟨hz1, hz2, -, -, hk10, -, -, hft⟩ := Leb.tk_some hU
  have hsr := Leb.fits_shr hn0 hft
  have hsr' : (n / 2 ^ z.toNat != 0) = false := by simp [hsr]
  have HSH := Lib.hid hsh; have HAG := Lib.hid hag
  clear hsh hag hsr hft hn
  obtain ⟨hj1, hj2, -, hm⟩ := tk_range hS
  obtain ⟨hm0, hm1⟩ := hm rfl
  have hshS := Leb.tk_short hS
  have hagS := Leb.tk_again hS
  obtain ⟨hz1S, hz2S, -, -, hj10, -, -, hftS⟩ := Leb.tk_some hS
  have HSHS := Lib.hid hshS; have HAGS := Lib.hid hagS
  clear hshS hagS hftS hm
  have hq0 : (m / 2 ^ (z.toNat - 1) != 0) = false := by simp [hq]
  clear hq
  have HU := Lib.hid hU; have HS := Lib.hid hS; have H0 := Lib.hid hs
  clear hU hS hs
  go_enter Try.func5, Try.ntmps5
  go_wp2_with fail
  refine (known_any _).mono ?_
  rintro e w1 ⟨rfl, hb1⟩
  have H1 := Lib.hid (H0.out.below hb1 (Nat.le_refl _))
  go_wp2_with fail
  refine (TakeU_some _ l z n k _ ⟨a, cap, rfl, H1.out⟩ HU.out).mono ?_
  rintro e w2 ⟨rfl, rfl⟩
  go_wp2_with fail
  refine (AppendU_nil n _ hn0 hn1).mono ?_
  rintro e w2 ⟨a2, L2, c2, rfl, hL2, f2⟩
  have hL2' : L2 ≤ k := by rw [hL2]; exact HSH.out
  have F2 := Lib.hid f2; clear f2 hL2
  have B2 := Lib.hid (hb1.trans (F2.out.2.mono hb1.size))
  have H2 := Lib.hid (H1.out.below F2.out.2 (Nat.le_refl _))
  go_wp2_with fail
  refine (TakeU_some _ (l.take k) z n k _ (cut_is H2.out hk1 hk2) HAG.out).mono ?_
  rintro e w3 ⟨rfl, rfl⟩
  go_wp2_with fail
  refine (TakeS_some _ l z m j _ ⟨a, cap, rfl, H2.out⟩ HS.out).mono ?_
  rintro e w4 ⟨rfl, rfl⟩
  go_wp2_with fail
  refine (AppendS_nil m _ hm0 hm1).mono ?_
  rintro e w4 ⟨a4, L4, c4, rfl, hL4, f4⟩
  have hL4' : L4 ≤ j := by rw [hL4]; exact HSHS.out
  have F4 := Lib.hid f4; clear f4 hL4
  have B4 := Lib.hid (B2.out.trans (F4.out.2.mono B2.out.size))
  have H4 := Lib.hid (H2.out.below F4.out.2 (Nat.le_refl _))
  go_wp2_with fail
  refine (TakeS_some _ (l.take j) z m j _ (cut_is H4.out hj1 hj2) HAGS.out).mono ?_
  rintro e w5 ⟨rfl, rfl⟩
  go_wp2_with fail
  go_ret
  exact ⟨rfl, B4.out⟩

set_option maxRecDepth 100000 in
set_option maxHeartbeats 400000 in
theorem LebShort_ym (a : Option Addr) (cap : Nat) (l : List UInt8) (z : Int) (w : World) (hs : Bs w a cap l) (hl : l.length ≤ 1000) (n : Int) (k : Nat) (hU : Leb.tk false l z = some (n, k)) (m : Int) (j : Nat) (hS : Leb.tk true l z = some (m, j)) (h64 : z < 64) (hq : m / 2 ^ (z.toNat - 1) = -1) :
    Calls Try.prog 5 #[.slice a l.length cap, .int .i64 z] w fun e w' => e = .returned (.bool true) ∧ Below w.heap.size w w' := by
  have hfit := hs.fits
  obtain ⟨hk1, hk2, hn, -⟩ := tk_range hU
  obtain ⟨hn0, hn1⟩ := hn rfl
  have hsh := Leb.tk_short hU
  have hag := Leb.tk_again hU
  obtain ⟨hz1, hz2, -, -, hk10, -, -, hft⟩ := Leb.tk_some hU
  have hsr := Leb.fits_shr hn0 hft
  have hsr' : (n / 2 ^ z.toNat != 0) = false := by simp [hsr]
  have HSH := Lib.hid hsh; have HAG := Lib.hid hag
  clear hsh hag hsr hft hn
  obtain ⟨hj1, hj2, -, hm⟩ := tk_range hS
  obtain ⟨hm0, hm1⟩ := hm rfl
  have hshS := Leb.tk_short hS
  have hagS := Leb.tk_again hS
  obtain ⟨hz1S, hz2S, -, -, hj10, -, -, hftS⟩ := Leb.tk_some hS
  have HSHS := Lib.hid hshS; have HAGS := Lib.hid hagS
  clear hshS hagS hftS hm
  have hq0 : (m / 2 ^ (z.toNat - 1) != 0) = true := by simp [hq]
  have hq1 : (m / 2 ^ (z.toNat - 1) != -1) = false := by simp [hq]
  clear hq
  have HU := Lib.hid hU; have HS := Lib.hid hS; have H0 := Lib.hid hs
  clear hU hS hs
  go_enter Try.func5, Try.ntmps5
  go_wp2_with fail
  refine (known_any _).mono ?_
  rintro e w1 ⟨rfl, hb1⟩
  have H1 := Lib.hid (H0.out.below hb1 (Nat.le_refl _))
  go_wp2_with fail
  refine (TakeU_some _ l z n k _ ⟨a, cap, rfl, H1.out⟩ HU.out).mono ?_
  rintro e w2 ⟨rfl, rfl⟩
  go_wp2_with fail
  refine (AppendU_nil n _ hn0 hn1).mono ?_
  rintro e w2 ⟨a2, L2, c2, rfl, hL2, f2⟩
  have hL2' : L2 ≤ k := by rw [hL2]; exact HSH.out
  have F2 := Lib.hid f2; clear f2 hL2
  have B2 := Lib.hid (hb1.trans (F2.out.2.mono hb1.size))
  have H2 := Lib.hid (H1.out.below F2.out.2 (Nat.le_refl _))
  go_wp2_with fail
  refine (TakeU_some _ (l.take k) z n k _ (cut_is H2.out hk1 hk2) HAG.out).mono ?_
  rintro e w3 ⟨rfl, rfl⟩
  go_wp2_with fail
  refine (TakeS_some _ l z m j _ ⟨a, cap, rfl, H2.out⟩ HS.out).mono ?_
  rintro e w4 ⟨rfl, rfl⟩
  go_wp2_with fail
  refine (AppendS_nil m _ hm0 hm1).mono ?_
  rintro e w4 ⟨a4, L4, c4, rfl, hL4, f4⟩
  have hL4' : L4 ≤ j := by rw [hL4]; exact HSHS.out
  have F4 := Lib.hid f4; clear f4 hL4
  have B4 := Lib.hid (B2.out.trans (F4.out.2.mono B2.out.size))
  have H4 := Lib.hid (H2.out.below F4.out.2 (Nat.le_refl _))
  go_wp2_with fail
  refine (TakeS_some _ (l.take j) z m j _ (cut_is H4.out hj1 hj2) HAGS.out).mono ?_
  rintro e w5 ⟨rfl, rfl⟩
  go_wp2_with fail
  go_ret
  exact ⟨rfl, B4.out⟩

set_option maxRecDepth 100000 in
set_option maxHeartbeats 400000 in
theorem LebShort_ey (a : Option Addr) (cap : Nat) (l : List UInt8) (z : Int) (w : World) (hs : Bs w a cap l) (hl : l.length ≤ 1000) (n : Int) (k : Nat) (hU : Leb.tk false l z = some (n, k)) (m : Int) (j : Nat) (hS : Leb.tk true l z = some (m, j)) (h64 : ¬ z < 64) (hq : m / 2 ^ (z.toNat - 1) = 0) :
    Calls Try.prog 5 #[.slice a l.length cap, .int .i64 z] w fun e w' => e = .returned (.bool true) ∧ Below w.heap.size w w' := by
  have hfit := hs.fits
  obtain ⟨hk1, hk2, hn, -⟩ := tk_range hU
  obtain ⟨hn0, hn1⟩ := hn rfl
  have hsh := Leb.tk_short hU
  have hag := Leb.tk_again hU
  obtain ⟨hz1, hz2, -, -, hk10, -, -, hft⟩ := Leb.tk_some hU
  have hsr := Leb.fits_shr hn0 hft
  have hsr' : (n / 2 ^ z.toNat != 0) = false := by simp [hsr]
  have HSH := Lib.hid hsh; have HAG := Lib.hid hag
  clear hsh hag hsr hft hn
  obtain ⟨hj1, hj2, -, hm⟩ := tk_range hS
  obtain ⟨hm0, hm1⟩ := hm rfl
  have hshS := Leb.tk_short hS
  have hagS := Leb.tk_again hS
  obtain ⟨hz1S, hz2S, -, -, hj10, -, -, hftS⟩ := Leb.tk_some hS
  have HSHS := Lib.hid hshS; have HAGS := Lib.hid hagS
  clear hshS hagS hftS hm
  have hq0 : (m / 2 ^ (z.toNat - 1) != 0) = false := by simp [hq]
  clear hq
  have HU := Lib.hid hU; have HS := Lib.hid hS; have H0 := Lib.hid hs
  clear hU hS hs
  go_enter Try.func5, Try.ntmps5
  go_wp2_with fail
  refine (known_any _).mono ?_
  rintro e w1 ⟨rfl, hb1⟩
  have H1 := Lib.hid (H0.out.below hb1 (Nat.le_refl _))
  go_wp2_with fail
  refine (TakeU_some _ l z n k _ ⟨a, cap, rfl, H1.out⟩ HU.out).mono ?_
  rintro e w2 ⟨rfl, rfl⟩
  go_wp2_with fail
  refine (AppendU_nil n _ hn0 hn1).mono ?_
  rintro e w2 ⟨a2, L2, c2, rfl, hL2, f2⟩
  have hL2' : L2 ≤ k := by rw [hL2]; exact HSH.out
  have F2 := Lib.hid f2; clear f2 hL2
  have B2 := Lib.hid (hb1.trans (F2.out.2.mono hb1.size))
  have H2 := Lib.hid (H1.out.below F2.out.2 (Nat.le_refl _))
  go_wp2_with fail
  refine (TakeU_some _ (l.take k) z n k _ (cut_is H2.out hk1 hk2) HAG.out).mono ?_
  rintro e w3 ⟨rfl, rfl⟩
  go_wp2_with fail
  refine (TakeS_some _ l z m j _ ⟨a, cap, rfl, H2.out⟩ HS.out).mono ?_
  rintro e w4 ⟨rfl, rfl⟩
  go_wp2_with fail
  refine (AppendS_nil m _ hm0 hm1).mono ?_
  rintro e w4 ⟨a4, L4, c4, rfl, hL4, f4⟩
  have hL4' : L4 ≤ j := by rw [hL4]; exact HSHS.out
  have F4 := Lib.hid f4; clear f4 hL4
  have B4 := Lib.hid (B2.out.trans (F4.out.2.mono B2.out.size))
  have H4 := Lib.hid (H2.out.below F4.out.2 (Nat.le_refl _))
  go_wp2_with fail
  refine (TakeS_some _ (l.take j) z m j _ (cut_is H4.out hj1 hj2) HAGS.out).mono ?_
  rintro e w5 ⟨rfl, rfl⟩
  go_wp2_with fail
  go_ret
  exact ⟨rfl, B4.out⟩

set_option maxRecDepth 100000 in
set_option maxHeartbeats 400000 in
theorem LebShort_em (a : Option Addr) (cap : Nat) (l : List UInt8) (z : Int) (w : World) (hs : Bs w a cap l) (hl : l.length ≤ 1000) (n : Int) (k : Nat) (hU : Leb.tk false l z = some (n, k)) (m : Int) (j : Nat) (hS : Leb.tk true l z = some (m, j)) (h64 : ¬ z < 64) (hq : m / 2 ^ (z.toNat - 1) = -1) :
    Calls Try.prog 5 #[.slice a l.length cap, .int .i64 z] w fun e w' => e = .returned (.bool true) ∧ Below w.heap.size w w' := by
  have hfit := hs.fits
  obtain ⟨hk1, hk2, hn, -⟩ := tk_range hU
  obtain ⟨hn0, hn1⟩ := hn rfl
  have hsh := Leb.tk_short hU
  have hag := Leb.tk_again hU
  obtain ⟨hz1, hz2, -, -, hk10, -, -, hft⟩ := Leb.tk_some hU
  have hsr := Leb.fits_shr hn0 hft
  have hsr' : (n / 2 ^ z.toNat != 0) = false := by simp [hsr]
  have HSH := Lib.hid hsh; have HAG := Lib.hid hag
  clear hsh hag hsr hft hn
  obtain ⟨hj1, hj2, -, hm⟩ := tk_range hS
  obtain ⟨hm0, hm1⟩ := hm rfl
  have hshS := Leb.tk_short hS
  have hagS := Leb.tk_again hS
  obtain ⟨hz1S, hz2S, -, -, hj10, -, -, hftS⟩ := Leb.tk_some hS
  have HSHS := Lib.hid hshS; have HAGS := Lib.hid hagS
  clear hshS hagS hftS hm
  have hq0 : (m / 2 ^ (z.toNat - 1) != 0) = true := by simp [hq]
  have hq1 : (m / 2 ^ (z.toNat - 1) != -1) = false := by simp [hq]
  clear hq
  have HU := Lib.hid hU; have HS := Lib.hid hS; have H0 := Lib.hid hs
  clear hU hS hs
  go_enter Try.func5, Try.ntmps5
  go_wp2_with fail
  refine (known_any _).mono ?_
  rintro e w1 ⟨rfl, hb1⟩
  have H1 := Lib.hid (H0.out.below hb1 (Nat.le_refl _))
  go_wp2_with fail
  refine (TakeU_some _ l z n k _ ⟨a, cap, rfl, H1.out⟩ HU.out).mono ?_
  rintro e w2 ⟨rfl, rfl⟩
  go_wp2_with fail
  refine (AppendU_nil n _ hn0 hn1).mono ?_
  rintro e w2 ⟨a2, L2, c2, rfl, hL2, f2⟩
  have hL2' : L2 ≤ k := by rw [hL2]; exact HSH.out
  have F2 := Lib.hid f2; clear f2 hL2
  have B2 := Lib.hid (hb1.trans (F2.out.2.mono hb1.size))
  have H2 := Lib.hid (H1.out.below F2.out.2 (Nat.le_refl _))
  go_wp2_with fail
  refine (TakeU_some _ (l.take k) z n k _ (cut_is H2.out hk1 hk2) HAG.out).mono ?_
  rintro e w3 ⟨rfl, rfl⟩
  go_wp2_with fail
  refine (TakeS_some _ l z m j _ ⟨a, cap, rfl, H2.out⟩ HS.out).mono ?_
  rintro e w4 ⟨rfl, rfl⟩
  go_wp2_with fail
  refine (AppendS_nil m _ hm0 hm1).mono ?_
  rintro e w4 ⟨a4, L4, c4, rfl, hL4, f4⟩
  have hL4' : L4 ≤ j := by rw [hL4]; exact HSHS.out
  have F4 := Lib.hid f4; clear f4 hL4
  have B4 := Lib.hid (B2.out.trans (F4.out.2.mono B2.out.size))
  have H4 := Lib.hid (H2.out.below F4.out.2 (Nat.le_refl _))
  go_wp2_with fail
  refine (TakeS_some _ (l.take j) z m j _ (cut_is H4.out hj1 hj2) HAGS.out).mono ?_
  rintro e w5 ⟨rfl, rfl⟩
  go_wp2_with fail
  go_ret
  exact ⟨rfl, B4.out⟩

set_option maxRecDepth 100000 in
set_option maxHeartbeats 400000 in
theorem LebShort_yn (a : Option Addr) (cap : Nat) (l : List UInt8) (z : Int) (w : World) (hs : Bs w a cap l) (hl : l.length ≤ 1000) (n : Int) (k : Nat) (hU : Leb.tk false l z = some (n, k)) (hS : Leb.tk true l z = none) (h64 : z < 64)  :
    Calls Try.prog 5 #[.slice a l.length cap, .int .i64 z] w fun e w' => e = .returned (.bool true) ∧ Below w.heap.size w w' := by
  have hfit := hs.fits
  obtain ⟨hk1, hk2, hn, -⟩ := tk_range hU
  obtain ⟨hn0, hn1⟩ := hn rfl
  have hsh := Leb.tk_short hU
  have hag := Leb.tk_again hU
  obtain ⟨hz1, hz2, -, -, hk10, -, -, hft⟩ := Leb.tk_some hU
  have hsr := Leb.fits_shr hn0 hft
  have hsr' : (n / 2 ^ z.toNat != 0) = false := by simp [hsr]
  have HSH := Lib.hid hsh; have HAG := Lib.hid hag
  clear hsh hag hsr hft hn
  have HU := Lib.hid hU; have HS := Lib.hid hS; have H0 := Lib.hid hs
  clear hU hS hs
  go_enter Try.func5, Try.ntmps5
  go_wp2_with fail
  refine (known_any _).mono ?_
  rintro e w1 ⟨rfl, hb1⟩
  have H1 := Lib.hid (H0.out.below hb1 (Nat.le_refl _))
  go_wp2_with fail
  refine (TakeU_some _ l z n k _ ⟨a, cap, rfl, H1.out⟩ HU.out).mono ?_
  rintro e w2 ⟨rfl, rfl⟩
  go_wp2_with fail
  refine (AppendU_nil n _ hn0 hn1).mono ?_
  rintro e w2 ⟨a2, L2, c2, rfl, hL2, f2⟩
  have hL2' : L2 ≤ k := by rw [hL2]; exact HSH.out
  have F2 := Lib.hid f2; clear f2 hL2
  have B2 := Lib.hid (hb1.trans (F2.out.2.mono hb1.size))
  have H2 := Lib.hid (H1.out.below F2.out.2 (Nat.le_refl _))
  go_wp2_with fail
  refine (TakeU_some _ (l.take k) z n k _ (cut_is H2.out hk1 hk2) HAG.out).mono ?_
  rintro e w3 ⟨rfl, rfl⟩
  go_wp2_with fail
  refine (TakeS_none _ l z _ ⟨a, cap, rfl, H2.out⟩ HS.out).mono ?_
  rintro e w4 ⟨rfl, rfl⟩
  go_wp2_with fail
  go_ret
  exact ⟨rfl, B2.out⟩

set_option maxRecDepth 100000 in
set_option maxHeartbeats 400000 in
theorem LebShort_en (a : Option Addr) (cap : Nat) (l : List UInt8) (z : Int) (w : World) (hs : Bs w a cap l) (hl : l.length ≤ 1000) (n : Int) (k : Nat) (hU : Leb.tk false l z = some (n, k)) (hS : Leb.tk true l z = none) (h64 : ¬ z < 64)  :
    Calls Try.prog 5 #[.slice a l.length cap, .int .i64 z] w fun e w' => e = .returned (.bool true) ∧ Below w.heap.size w w' := by
  have hfit := hs.fits
  obtain ⟨hk1, hk2, hn, -⟩ := tk_range hU
  obtain ⟨hn0, hn1⟩ := hn rfl
  have hsh := Leb.tk_short hU
  have hag := Leb.tk_again hU
  obtain ⟨hz1, hz2, -, -, hk10, -, -, hft⟩ := Leb.tk_some hU
  have hsr := Leb.fits_shr hn0 hft
  have hsr' : (n / 2 ^ z.toNat != 0) = false := by simp [hsr]
  have HSH := Lib.hid hsh; have HAG := Lib.hid hag
  clear hsh hag hsr hft hn
  have HU := Lib.hid hU; have HS := Lib.hid hS; have H0 := Lib.hid hs
  clear hU hS hs
  go_enter Try.func5, Try.ntmps5
  go_wp2_with fail
  refine (known_any _).mono ?_
  rintro e w1 ⟨rfl, hb1⟩
  have H1 := Lib.hid (H0.out.below hb1 (Nat.le_refl _))
  go_wp2_with fail
  refine (TakeU_some _ l z n k _ ⟨a, cap, rfl, H1.out⟩ HU.out).mono ?_
  rintro e w2 ⟨rfl, rfl⟩
  go_wp2_with fail
  refine (AppendU_nil n _ hn0 hn1).mono ?_
  rintro e w2 ⟨a2, L2, c2, rfl, hL2, f2⟩
  have hL2' : L2 ≤ k := by rw [hL2]; exact HSH.out
  have F2 := Lib.hid f2; clear f2 hL2
  have B2 := Lib.hid (hb1.trans (F2.out.2.mono hb1.size))
  have H2 := Lib.hid (H1.out.below F2.out.2 (Nat.le_refl _))
  go_wp2_with fail
  refine (TakeU_some _ (l.take k) z n k _ (cut_is H2.out hk1 hk2) HAG.out).mono ?_
  rintro e w3 ⟨rfl, rfl⟩
  go_wp2_with fail
  refine (TakeS_none _ l z _ ⟨a, cap, rfl, H2.out⟩ HS.out).mono ?_
  rintro e w4 ⟨rfl, rfl⟩
  go_wp2_with fail
  go_ret
  exact ⟨rfl, B2.out⟩

set_option maxRecDepth 100000 in
set_option maxHeartbeats 400000 in
theorem LebShort_ny (a : Option Addr) (cap : Nat) (l : List UInt8) (z : Int) (w : World) (hs : Bs w a cap l) (hl : l.length ≤ 1000) (hU : Leb.tk false l z = none) (m : Int) (j : Nat) (hS : Leb.tk true l z = some (m, j)) (hq : m / 2 ^ (z.toNat - 1) = 0) :
    Calls Try.prog 5 #[.slice a l.length cap, .int .i64 z] w fun e w' => e = .returned (.bool true) ∧ Below w.heap.size w w' := by
  have hfit := hs.fits
  obtain ⟨hj1, hj2, -, hm⟩ := tk_range hS
  obtain ⟨hm0, hm1⟩ := hm rfl
  have hshS := Leb.tk_short hS
  have hagS := Leb.tk_again hS
  obtain ⟨hz1S, hz2S, -, -, hj10, -, -, hftS⟩ := Leb.tk_some hS
  have HSHS := Lib.hid hshS; have HAGS := Lib.hid hagS
  clear hshS hagS hftS hm
  have hq0 : (m / 2 ^ (z.toNat - 1) != 0) = false := by simp [hq]
  clear hq
  have HU := Lib.hid hU; have HS := Lib.hid hS; have H0 := Lib.hid hs
  clear hU hS hs
  go_enter Try.func5, Try.ntmps5
  go_wp2_with fail
  refine (known_any _).mono ?_
  rintro e w1 ⟨rfl, hb1⟩
  have H1 := Lib.hid (H0.out.below hb1 (Nat.le_refl _))
  go_wp2_with fail
  refine (TakeU_none _ l z _ ⟨a, cap, rfl, H1.out⟩ HU.out).mono ?_
  rintro e w2 ⟨rfl, rfl⟩
  go_wp2_with fail
  refine (TakeS_some _ l z m j _ ⟨a, cap, rfl, H1.out⟩ HS.out).mono ?_
  rintro e w4 ⟨rfl, rfl⟩
  go_wp2_with fail
  refine (AppendS_nil m _ hm0 hm1).mono ?_
  rintro e w4 ⟨a4, L4, c4, rfl, hL4, f4⟩
  have hL4' : L4 ≤ j := by rw [hL4]; exact HSHS.out
  have F4 := Lib.hid f4; clear f4 hL4
  have B4 := Lib.hid (hb1.trans (F4.out.2.mono hb1.size))
  have H4 := Lib.hid (H1.out.below F4.out.2 (Nat.le_refl _))
  go_wp2_with fail
  refine (TakeS_some _ (l.take j) z m j _ (cut_is H4.out hj1 hj2) HAGS.out).mono ?_
  rintro e w5 ⟨rfl, rfl⟩
  go_wp2_with fail
  go_ret
  exact ⟨rfl, B4.out⟩

set_option maxRecDepth 100000 in
set_option maxHeartbeats 400000 in
theorem LebShort_nm (a : Option Addr) (cap : Nat) (l : List UInt8) (z : Int) (w : World) (hs : Bs w a cap l) (hl : l.length ≤ 1000) (hU : Leb.tk false l z = none) (m : Int) (j : Nat) (hS : Leb.tk true l z = some (m, j)) (hq : m / 2 ^ (z.toNat - 1) = -1) :
    Calls Try.prog 5 #[.slice a l.length cap, .int .i64 z] w fun e w' => e = .returned (.bool true) ∧ Below w.heap.size w w' := by
  have hfit := hs.fits
  obtain ⟨hj1, hj2, -, hm⟩ := tk_range hS
  obtain ⟨hm0, hm1⟩ := hm rfl
  have hshS := Leb.tk_short hS
  have hagS := Leb.tk_again hS
  obtain ⟨hz1S, hz2S, -, -, hj10, -, -, hftS⟩ := Leb.tk_some hS
  have HSHS := Lib.hid hshS; have HAGS := Lib.hid hagS
  clear hshS hagS hftS hm
  have hq0 : (m / 2 ^ (z.toNat - 1) != 0) = true := by simp [hq]
  have hq1 : (m / 2 ^ (z.toNat - 1) != -1) = false := by simp [hq]
  clear hq
  have HU := Lib.hid hU; have HS := Lib.hid hS; have H0 := Lib.hid hs
  clear hU hS hs
  go_enter Try.func5, Try.ntmps5
  go_wp2_with fail
  refine (known_any _).mono ?_
  rintro e w1 ⟨rfl, hb1⟩
  have H1 := Lib.hid (H0.out.below hb1 (Nat.le_refl _))
  go_wp2_with fail
  refine (TakeU_none _ l z _ ⟨a, cap, rfl, H1.out⟩ HU.out).mono ?_
  rintro e w2 ⟨rfl, rfl⟩
  go_wp2_with fail
  refine (TakeS_some _ l z m j _ ⟨a, cap, rfl, H1.out⟩ HS.out).mono ?_
  rintro e w4 ⟨rfl, rfl⟩
  go_wp2_with fail
  refine (AppendS_nil m _ hm0 hm1).mono ?_
  rintro e w4 ⟨a4, L4, c4, rfl, hL4, f4⟩
  have hL4' : L4 ≤ j := by rw [hL4]; exact HSHS.out
  have F4 := Lib.hid f4; clear f4 hL4
  have B4 := Lib.hid (hb1.trans (F4.out.2.mono hb1.size))
  have H4 := Lib.hid (H1.out.below F4.out.2 (Nat.le_refl _))
  go_wp2_with fail
  refine (TakeS_some _ (l.take j) z m j _ (cut_is H4.out hj1 hj2) HAGS.out).mono ?_
  rintro e w5 ⟨rfl, rfl⟩
  go_wp2_with fail
  go_ret
  exact ⟨rfl, B4.out⟩

set_option maxRecDepth 100000 in
set_option maxHeartbeats 400000 in
theorem LebShort_nn (a : Option Addr) (cap : Nat) (l : List UInt8) (z : Int) (w : World) (hs : Bs w a cap l) (hl : l.length ≤ 1000) (hU : Leb.tk false l z = none) (hS : Leb.tk true l z = none)  :
    Calls Try.prog 5 #[.slice a l.length cap, .int .i64 z] w fun e w' => e = .returned (.bool true) ∧ Below w.heap.size w w' := by
  have hfit := hs.fits
  have HU := Lib.hid hU; have HS := Lib.hid hS; have H0 := Lib.hid hs
  clear hU hS hs
  go_enter Try.func5, Try.ntmps5
  go_wp2_with fail
  refine (known_any _).mono ?_
  rintro e w1 ⟨rfl, hb1⟩
  have H1 := Lib.hid (H0.out.below hb1 (Nat.le_refl _))
  go_wp2_with fail
  refine (TakeU_none _ l z _ ⟨a, cap, rfl, H1.out⟩ HU.out).mono ?_
  rintro e w2 ⟨rfl, rfl⟩
  go_wp2_with fail
  refine (TakeS_none _ l z _ ⟨a, cap, rfl, H1.out⟩ HS.out).mono ?_
  rintro e w4 ⟨rfl, rfl⟩
  go_wp2_with fail
  go_ret
  exact ⟨rfl, hb1⟩

set_option maxRecDepth 100000 in
set_option maxHeartbeats 1000000 in
theorem LebShort_walk (v : Value) (l : List UInt8) (z : Int) (w : World) (hv : IsBs w v l) :
    Calls Try.prog 5 #[v, .int .i64 z] w fun e w' => e = .returned (.bool true) ∧ Below w.heap.size w w' := by
  obtain ⟨a, cap, rfl, hs⟩ := hv
  by_cases hl : 1000 < l.length
  · go_enter Try.func5, Try.ntmps5
    go_wp2_with fail
    refine (known_any _).mono ?_
    rintro e w1 ⟨rfl, hb⟩
    go_wp2_with fail
    go_ret
    exact ⟨rfl, hb⟩
  · cases hU : Leb.tk false l z with
    | none =>
      cases hS : Leb.tk true l z with
      | none => exact LebShort_nn a cap l z w hs (by omega) hU hS
      | some q =>
        rcases shr_of hS with hq | hq
        · exact LebShort_ny a cap l z w hs (by omega) hU q.1 q.2 hS hq
        · exact LebShort_nm a cap l z w hs (by omega) hU q.1 q.2 hS hq
    | some p =>
      by_cases h64 : z < 64
      · cases hS : Leb.tk true l z with
        | none => exact LebShort_yn a cap l z w hs (by omega) p.1 p.2 hU hS h64
        | some q =>
          rcases shr_of hS with hq | hq
          · exact LebShort_yy a cap l z w hs (by omega) p.1 p.2 hU q.1 q.2 hS h64 hq
          · exact LebShort_ym a cap l z w hs (by omega) p.1 p.2 hU q.1 q.2 hS h64 hq
      · cases hS : Leb.tk true l z with
        | none => exact LebShort_en a cap l z w hs (by omega) p.1 p.2 hU hS h64
        | some q =>
          rcases shr_of hS with hq | hq
          · exact LebShort_ey a cap l z w hs (by omega) p.1 p.2 hU q.1 q.2 hS h64 hq
          · exact LebShort_em a cap l z w hs (by omega) p.1 p.2 hU q.1 q.2 hS h64 hq
end Go.Proofs.Ytikbioakngkogaa
