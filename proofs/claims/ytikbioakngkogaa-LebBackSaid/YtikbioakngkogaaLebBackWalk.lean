/- LebBack: the law's walk. No condition. -/
import Derived.Test.YtikbioakngkogaaLebKnown
import Derived.Test.YtikbioakngkogaaLebBackPlain
import Derived.Test.YtikbioakngkogaaLebTakesWalk
import Derived.Test.YtikbioakngkogaaLebNil
import Derived.Test.YtikbioakngkogaaShelf
namespace Go.Proofs.Ytikbioakngkogaa
open Go.RowKit
set_option linter.unusedVariables false

theorem bits_Len64' (x : Int) (w : World) (h0 : 0 ≤ x) (h1 : x ≤ 18446744073709551615) :
    Calls Try.prog 14 #[.int .u64 x] w fun e w' => e = .returned (.int .i64 (Lib.bitLen x.toNat)) ∧ w = w' :=
  (Try.bits_Len64 x w h0 h1).mono fun _ _ ⟨a, b⟩ => ⟨a, b.symm⟩

theorem IsBs.room {w : World} {a : Option Addr} {n c : Nat} {l : List UInt8} (h : IsBs w (.slice a n c) l) : n ≤ c := by
  obtain ⟨a', c', e, hb⟩ := h
  injection e with e1 e2 e3
  subst e2; subst e3
  exact hb.fits
theorem IsBs.cut {w : World} {a : Option Addr} {n c k : Nat} {l : List UInt8} (h : IsBs w (.slice a n c) l) (hk : k ≤ n) : IsBs w (.slice a k c) (l.take k) := by
  obtain ⟨a', c', e, hb⟩ := h
  injection e with e1 e2 e3
  subst e1; subst e2; subst e3
  exact ⟨a, c, by simp [Nat.min_eq_left hk], hb.take k⟩

theorem own_lit0 (w : World) (cs : Array Value) (g : Nat) (hc : cs = #[]) (hg : g = w.heap.size) (B : Nat) (hB : B ≤ g) : (w.alloc (.cells cs 5)).ownsRow B 5 1 (.slice (some ⟨g, 0, none⟩) 0 0) 0 (([] : List UInt8).map B8) := by
  subst hc; subst hg
  exact World.ownsRow_made w #[] 0 hB (by unfold maxLen; omega) (by simp)

theorem xor_sign (x z : Int) (h : Uns true (2 ^ 64) x z) : ∃ n : Nat, (n : Int) = (if 0 ≤ z then z else -z - 1) ∧ n < 2 ^ 64 ∧ bits BinOp.xor IntKind.u64 x (IntKind.u64.wrap (z / 9223372036854775808)) = (n : Int) := by
  obtain ⟨h0, h1, h2⟩ := h
  have e64 : (2 : Int) ^ 64 = 18446744073709551616 := by decide
  have e64' : 2 ^ 64 = 18446744073709551616 := by decide
  rw [e64] at h1 h2
  obtain ⟨m, rfl⟩ : ∃ m : Nat, x = m := ⟨x.toNat, by omega⟩
  simp only [true_and] at h2
  split at h2
  · refine ⟨18446744073709551615 - m, by rw [if_neg (by omega)]; omega, by omega, ?_⟩
    have : IntKind.u64.wrap (z / 9223372036854775808) = ((18446744073709551615 : Nat) : Int) := by rw [IntKind.wrap_u64]; omega
    rw [this, u64_xor_nat m _ (by omega) (by omega)]
    congr 1
    have hx := BitVec.toNat_xor (BitVec.ofNat 64 m) (BitVec.allOnes 64)
    rw [BitVec.xor_allOnes, BitVec.toNat_not, BitVec.toNat_ofNat, BitVec.toNat_allOnes, Nat.mod_eq_of_lt (by omega)] at hx
    have e : 2 ^ 64 - 1 = 18446744073709551615 := by decide
    rw [e] at hx
    exact hx.symm
  · refine ⟨m, by rw [if_pos (by omega)]; omega, by omega, ?_⟩
    have : IntKind.u64.wrap (z / 9223372036854775808) = ((0 : Nat) : Int) := by rw [IntKind.wrap_u64]; omega
    rw [this, u64_xor_nat m _ (by omega) (by omega)]
    simp

set_option maxRecDepth 100000 in
set_option maxHeartbeats 400000 in
theorem LebBack_yy (x z : Int) (lb : List UInt8) (a : Option Addr) (cap : Nat) (b : Nat) (w : World) (hs : Bs w a cap lb) (hl : lb.length ≤ 1000) (hb1 : 1 ≤ b) (hb2 : b ≤ 64) (h0 : 0 ≤ x) (h1 : x < 18446744073709551616)
    (z0 : -9223372036854775808 ≤ z) (z1 : z < 9223372036854775808) (hw : wrap64 x = z) (hfu : Leb.fit7 false 10 x) (hfs : Leb.fit7 true 10 z) (n : Nat) (hx : bits BinOp.xor IntKind.u64 x (IntKind.u64.wrap (z / 9223372036854775808)) = (n : Int)) (hn64 : n < 18446744073709551616)
    (hu : Leb.fits false b x = true) (hu2 : Lib.bitLen x.toNat ≤ b) (hs' : Leb.fits true b z = true) (hs2 : Lib.bitLen n + 1 ≤ b) (hM : Lib.bitLen x.toNat ≤ 64) (hN : Lib.bitLen n ≤ 64) :
    Calls Try.prog 6 #[.int .u64 x, .slice a lb.length cap, .int .i64 b] w fun e w' => e = .returned (.bool true) ∧ Below w.heap.size w w' := by
  have tu := Leb.tk_ap hfu lb hb1 hb2
  have ts := Leb.tk_ap hfs lb hb1 hb2
  rw [hu] at tu; rw [hs'] at ts
  have hl1 := Leb.ap_le hfu
  have hl2 := Leb.ap_le hfs
  have tc := fun i hi => Leb.tk_cut hfu i hi 64
  have cu := fun W => bits_Len64' x W h0 (by omega)
  have cn := fun W => bits_Len64' n W (by omega) (by omega)
  rw [Int.toNat_natCast] at cn
  generalize Lib.bitLen x.toNat = M at *
  generalize Lib.bitLen n = N at *
  have TU := Lib.hid tu; have TS := Lib.hid ts; have HX := Lib.hid hx; have HW := Lib.hid hw; have H0 := Lib.hid hs; have TC := Lib.hid tc; have CU := Lib.hid cu; have CN := Lib.hid cn
  have HL1 := Lib.hid hl1; have HL2 := Lib.hid hl2
  clear tu ts hx hw hs tc cu cn hu hs' hfu hfs hl1 hl2
  go_enter Try.func6, Try.ntmps6
  go_wp2_with fail
  refine (known_any _).mono ?_
  rintro e w1 ⟨rfl, hb⟩
  go_wp2_with fail
  refine (AppendU_nl x _ h0 h1).mono ?_
  rintro e w2 ⟨a2, L2, c2, rfl, hL2, f2⟩
  have hL2' : L2 ≤ 10 := by rw [hL2]; exact HL1.out
  have EL2 := Lib.hid hL2; have F2 := Lib.hid f2; clear hL2 f2
  go_wp2_with fail
  rw [HW.out]
  refine (AppendS_nl z _ z0 z1).mono ?_
  rintro e w3 ⟨a3, L3, c3, rfl, hL3, f3⟩
  have hL3' : L3 ≤ 10 := by rw [hL3]; exact HL2.out
  have B3 := Lib.hid ((hb.trans (F2.out.2.mono hb.size)).trans (f3.2.mono (hb.trans (F2.out.2.mono hb.size)).size))
  have U3 := Lib.hid (F2.out.is.below f3.2 (Nat.le_refl _))
  have S3 := Lib.hid f3.is
  have R3 := Lib.hid (H0.out.below B3.out (Nat.le_refl _))
  have EL3 := Lib.hid hL3
  clear hL3 f3 hb
  go_wp2_with (first
    | (at_builtin; refine appS rfl (.tmp 39) _ rfl w3.heap.size _ _ [] rfl (own_lit0 w3 _ _ rfl rfl _ (Nat.le_refl _)) _ (Leb.ap false 10 x) rfl (U3.out.below ((Below.refl _ _).alloc (Nat.le_refl _) _) (Nat.le_refl _)) (by have := HL1.out; omega) (by simp) ?_; intro v4 w4 hown4 hg4; have b4 := below_grown (W := w3) (B := w3.heap.size) ((Below.refl _ _).alloc (Nat.le_refl _) _) hg4 (own_lit0 w3 _ _ rfl rfl _ (Nat.le_refl _)) (by simp))
    | (at_builtin; refine appS rfl (.tmp 41) _ rfl w3.heap.size _ _ _ rfl hown4 _ lb rfl ⟨a, cap, rfl, R3.out.below b4 (Nat.le_refl _)⟩ (by have := HL1.out; simp; omega) b4.size ?_; intro v5 w5 hown5 hg5))
  have b5 := below_grown b4 hg5 hown4 b4.size
  have I5 := Lib.hid (show IsBs w5 v5 (Leb.ap false 10 x ++ lb) by simpa using IsBs.own hown5)
  have B5 := Lib.hid (B3.out.trans (b5.mono B3.out.size))
  have BB5 := Lib.hid b5
  clear hown4 hg4 b4 hown5 hg5 b5
  refine (TakeU_some _ _ b x L2 _ I5.out (by rw [TU.out, EL2.out]; rfl)).mono ?_
  rintro e w6 ⟨rfl, rfl⟩
  go_wp2_with fail
  refine (CU.out _).mono ?_
  rintro e w6 ⟨rfl, rfl⟩
  have U5 := Lib.hid (U3.out.below BB5.out (Nat.le_refl _))
  have S5 := Lib.hid (S3.out.below BB5.out (Nat.le_refl _))
  have R5 := Lib.hid (R3.out.below BB5.out (Nat.le_refl _))
  clear I5 BB5
  go_wp2_with (first
    | (at_builtin; refine appS rfl (.tmp 72) _ rfl w5.heap.size _ _ [] rfl (own_lit0 w5 _ _ rfl rfl _ (Nat.le_refl _)) _ (Leb.ap true 10 z) rfl (S5.out.below ((Below.refl _ _).alloc (Nat.le_refl _) _) (Nat.le_refl _)) (by have := HL2.out; simp; omega) (by simp) ?_; intro v7 w7 hown7 hg7; have b7 := below_grown (W := w5) (B := w5.heap.size) ((Below.refl _ _).alloc (Nat.le_refl _) _) hg7 (own_lit0 w5 _ _ rfl rfl _ (Nat.le_refl _)) (by simp))
    | (at_builtin; refine appS rfl (.tmp 74) _ rfl w5.heap.size _ _ _ rfl hown7 _ lb rfl ⟨a, cap, rfl, R5.out.below b7 (Nat.le_refl _)⟩ (by have := HL2.out; simp; omega) b7.size ?_; intro v8 w8 hown8 hg8))
  have b8 := below_grown b7 hg8 hown7 b7.size
  have I8 := Lib.hid (show IsBs w8 v8 (Leb.ap true 10 z ++ lb) by simpa using IsBs.own hown8)
  have B8' := Lib.hid (B5.out.trans (b8.mono B5.out.size))
  have U8 := Lib.hid (U5.out.below b8 (Nat.le_refl _))
  clear hown7 hg7 b7 hown8 hg8 b8
  refine (TakeS_some _ _ b z L3 _ I8.out (by rw [TS.out, EL3.out]; rfl)).mono ?_
  rintro e w9 ⟨rfl, rfl⟩
  go_wp2_with fail
  rw [HW.out, HX.out]
  refine (CN.out _).mono ?_
  rintro e w9 ⟨rfl, rfl⟩
  have hzw : (z != wrap64 x) = false := by rw [HW.out]; simp
  go_wp2_with fail
  have hc2 : L2 ≤ c2 := IsBs.room U8.out
  go_loop [112] (fun i => ∃ k : Nat, k ≤ L2 ∧ i = .int .i64 k) (fun i => L2 - (intOf i).toNat)
  case atStart => exact ⟨0, by omega, rfl⟩
  case round =>
    obtain ⟨k, hk, rfl⟩ := hrel
    by_cases hlt : k < L2
    · go_wp2_with fail
      refine (TakeU_none _ _ 64 _ (IsBs.cut U8.out (k := k) (by omega)) (TC.out k (by rw [← EL2.out]; exact hlt))).mono ?_
      rintro e w10 ⟨rfl, rfl⟩
      go_wp2_with fail
      go_round
      case rel => exact ⟨k + 1, by omega, by go_num⟩
      case measure => simp [intOf]; omega
    · go_wp2_with fail
      go_ret
      have hd : decide ((L3 : Int) ≤ 10) = true := by simp; omega
      exact ⟨congrArg (fun b => Ending.returned (.bool b)) hd, B8'.out⟩

set_option maxRecDepth 100000 in
set_option maxHeartbeats 400000 in
theorem LebBack_yn (x z : Int) (lb : List UInt8) (a : Option Addr) (cap : Nat) (b : Nat) (w : World) (hs : Bs w a cap lb) (hl : lb.length ≤ 1000) (hb1 : 1 ≤ b) (hb2 : b ≤ 64) (h0 : 0 ≤ x) (h1 : x < 18446744073709551616)
    (z0 : -9223372036854775808 ≤ z) (z1 : z < 9223372036854775808) (hw : wrap64 x = z) (hfu : Leb.fit7 false 10 x) (hfs : Leb.fit7 true 10 z) (n : Nat) (hx : bits BinOp.xor IntKind.u64 x (IntKind.u64.wrap (z / 9223372036854775808)) = (n : Int)) (hn64 : n < 18446744073709551616)
    (hu : Leb.fits false b x = true) (hu2 : Lib.bitLen x.toNat ≤ b) (hs' : Leb.fits true b z = false) (hs2 : b < Lib.bitLen n + 1) (hM : Lib.bitLen x.toNat ≤ 64) (hN : Lib.bitLen n ≤ 64) :
    Calls Try.prog 6 #[.int .u64 x, .slice a lb.length cap, .int .i64 b] w fun e w' => e = .returned (.bool true) ∧ Below w.heap.size w w' := by
  have tu := Leb.tk_ap hfu lb hb1 hb2
  have ts := Leb.tk_ap hfs lb hb1 hb2
  rw [hu] at tu; rw [hs'] at ts
  have hl1 := Leb.ap_le hfu
  have hl2 := Leb.ap_le hfs
  have tc := fun i hi => Leb.tk_cut hfu i hi 64
  have cu := fun W => bits_Len64' x W h0 (by omega)
  have cn := fun W => bits_Len64' n W (by omega) (by omega)
  rw [Int.toNat_natCast] at cn
  generalize Lib.bitLen x.toNat = M at *
  generalize Lib.bitLen n = N at *
  have TU := Lib.hid tu; have TS := Lib.hid ts; have HX := Lib.hid hx; have HW := Lib.hid hw; have H0 := Lib.hid hs; have TC := Lib.hid tc; have CU := Lib.hid cu; have CN := Lib.hid cn
  have HL1 := Lib.hid hl1; have HL2 := Lib.hid hl2
  clear tu ts hx hw hs tc cu cn hu hs' hfu hfs hl1 hl2
  go_enter Try.func6, Try.ntmps6
  go_wp2_with fail
  refine (known_any _).mono ?_
  rintro e w1 ⟨rfl, hb⟩
  go_wp2_with fail
  refine (AppendU_nl x _ h0 h1).mono ?_
  rintro e w2 ⟨a2, L2, c2, rfl, hL2, f2⟩
  have hL2' : L2 ≤ 10 := by rw [hL2]; exact HL1.out
  have EL2 := Lib.hid hL2; have F2 := Lib.hid f2; clear hL2 f2
  go_wp2_with fail
  rw [HW.out]
  refine (AppendS_nl z _ z0 z1).mono ?_
  rintro e w3 ⟨a3, L3, c3, rfl, hL3, f3⟩
  have hL3' : L3 ≤ 10 := by rw [hL3]; exact HL2.out
  have B3 := Lib.hid ((hb.trans (F2.out.2.mono hb.size)).trans (f3.2.mono (hb.trans (F2.out.2.mono hb.size)).size))
  have U3 := Lib.hid (F2.out.is.below f3.2 (Nat.le_refl _))
  have S3 := Lib.hid f3.is
  have R3 := Lib.hid (H0.out.below B3.out (Nat.le_refl _))
  have EL3 := Lib.hid hL3
  clear hL3 f3 hb
  go_wp2_with (first
    | (at_builtin; refine appS rfl (.tmp 39) _ rfl w3.heap.size _ _ [] rfl (own_lit0 w3 _ _ rfl rfl _ (Nat.le_refl _)) _ (Leb.ap false 10 x) rfl (U3.out.below ((Below.refl _ _).alloc (Nat.le_refl _) _) (Nat.le_refl _)) (by have := HL1.out; omega) (by simp) ?_; intro v4 w4 hown4 hg4; have b4 := below_grown (W := w3) (B := w3.heap.size) ((Below.refl _ _).alloc (Nat.le_refl _) _) hg4 (own_lit0 w3 _ _ rfl rfl _ (Nat.le_refl _)) (by simp))
    | (at_builtin; refine appS rfl (.tmp 41) _ rfl w3.heap.size _ _ _ rfl hown4 _ lb rfl ⟨a, cap, rfl, R3.out.below b4 (Nat.le_refl _)⟩ (by have := HL1.out; simp; omega) b4.size ?_; intro v5 w5 hown5 hg5))
  have b5 := below_grown b4 hg5 hown4 b4.size
  have I5 := Lib.hid (show IsBs w5 v5 (Leb.ap false 10 x ++ lb) by simpa using IsBs.own hown5)
  have B5 := Lib.hid (B3.out.trans (b5.mono B3.out.size))
  have BB5 := Lib.hid b5
  clear hown4 hg4 b4 hown5 hg5 b5
  refine (TakeU_some _ _ b x L2 _ I5.out (by rw [TU.out, EL2.out]; rfl)).mono ?_
  rintro e w6 ⟨rfl, rfl⟩
  go_wp2_with fail
  refine (CU.out _).mono ?_
  rintro e w6 ⟨rfl, rfl⟩
  have U5 := Lib.hid (U3.out.below BB5.out (Nat.le_refl _))
  have S5 := Lib.hid (S3.out.below BB5.out (Nat.le_refl _))
  have R5 := Lib.hid (R3.out.below BB5.out (Nat.le_refl _))
  clear I5 BB5
  go_wp2_with (first
    | (at_builtin; refine appS rfl (.tmp 72) _ rfl w5.heap.size _ _ [] rfl (own_lit0 w5 _ _ rfl rfl _ (Nat.le_refl _)) _ (Leb.ap true 10 z) rfl (S5.out.below ((Below.refl _ _).alloc (Nat.le_refl _) _) (Nat.le_refl _)) (by have := HL2.out; simp; omega) (by simp) ?_; intro v7 w7 hown7 hg7; have b7 := below_grown (W := w5) (B := w5.heap.size) ((Below.refl _ _).alloc (Nat.le_refl _) _) hg7 (own_lit0 w5 _ _ rfl rfl _ (Nat.le_refl _)) (by simp))
    | (at_builtin; refine appS rfl (.tmp 74) _ rfl w5.heap.size _ _ _ rfl hown7 _ lb rfl ⟨a, cap, rfl, R5.out.below b7 (Nat.le_refl _)⟩ (by have := HL2.out; simp; omega) b7.size ?_; intro v8 w8 hown8 hg8))
  have b8 := below_grown b7 hg8 hown7 b7.size
  have I8 := Lib.hid (show IsBs w8 v8 (Leb.ap true 10 z ++ lb) by simpa using IsBs.own hown8)
  have B8' := Lib.hid (B5.out.trans (b8.mono B5.out.size))
  have U8 := Lib.hid (U5.out.below b8 (Nat.le_refl _))
  clear hown7 hg7 b7 hown8 hg8 b8
  refine (TakeS_none _ _ b _ I8.out (by rw [TS.out]; rfl)).mono ?_
  rintro e w9 ⟨rfl, rfl⟩
  go_wp2_with fail
  rw [HW.out, HX.out]
  refine (CN.out _).mono ?_
  rintro e w9 ⟨rfl, rfl⟩
  have hzw : (z != wrap64 x) = false := by rw [HW.out]; simp
  go_wp2_with fail
  have hc2 : L2 ≤ c2 := IsBs.room U8.out
  go_loop [112] (fun i => ∃ k : Nat, k ≤ L2 ∧ i = .int .i64 k) (fun i => L2 - (intOf i).toNat)
  case atStart => exact ⟨0, by omega, rfl⟩
  case round =>
    obtain ⟨k, hk, rfl⟩ := hrel
    by_cases hlt : k < L2
    · go_wp2_with fail
      refine (TakeU_none _ _ 64 _ (IsBs.cut U8.out (k := k) (by omega)) (TC.out k (by rw [← EL2.out]; exact hlt))).mono ?_
      rintro e w10 ⟨rfl, rfl⟩
      go_wp2_with fail
      go_round
      case rel => exact ⟨k + 1, by omega, by go_num⟩
      case measure => simp [intOf]; omega
    · go_wp2_with fail
      go_ret
      have hd : decide ((L3 : Int) ≤ 10) = true := by simp; omega
      exact ⟨congrArg (fun b => Ending.returned (.bool b)) hd, B8'.out⟩

set_option maxRecDepth 100000 in
set_option maxHeartbeats 400000 in
theorem LebBack_ny (x z : Int) (lb : List UInt8) (a : Option Addr) (cap : Nat) (b : Nat) (w : World) (hs : Bs w a cap lb) (hl : lb.length ≤ 1000) (hb1 : 1 ≤ b) (hb2 : b ≤ 64) (h0 : 0 ≤ x) (h1 : x < 18446744073709551616)
    (z0 : -9223372036854775808 ≤ z) (z1 : z < 9223372036854775808) (hw : wrap64 x = z) (hfu : Leb.fit7 false 10 x) (hfs : Leb.fit7 true 10 z) (n : Nat) (hx : bits BinOp.xor IntKind.u64 x (IntKind.u64.wrap (z / 9223372036854775808)) = (n : Int)) (hn64 : n < 18446744073709551616)
    (hu : Leb.fits false b x = false) (hu2 : b < Lib.bitLen x.toNat) (hs' : Leb.fits true b z = true) (hs2 : Lib.bitLen n + 1 ≤ b) (hM : Lib.bitLen x.toNat ≤ 64) (hN : Lib.bitLen n ≤ 64) :
    Calls Try.prog 6 #[.int .u64 x, .slice a lb.length cap, .int .i64 b] w fun e w' => e = .returned (.bool true) ∧ Below w.heap.size w w' := by
  have tu := Leb.tk_ap hfu lb hb1 hb2
  have ts := Leb.tk_ap hfs lb hb1 hb2
  rw [hu] at tu; rw [hs'] at ts
  have hl1 := Leb.ap_le hfu
  have hl2 := Leb.ap_le hfs
  have tc := fun i hi => Leb.tk_cut hfu i hi 64
  have cu := fun W => bits_Len64' x W h0 (by omega)
  have cn := fun W => bits_Len64' n W (by omega) (by omega)
  rw [Int.toNat_natCast] at cn
  generalize Lib.bitLen x.toNat = M at *
  generalize Lib.bitLen n = N at *
  have TU := Lib.hid tu; have TS := Lib.hid ts; have HX := Lib.hid hx; have HW := Lib.hid hw; have H0 := Lib.hid hs; have TC := Lib.hid tc; have CU := Lib.hid cu; have CN := Lib.hid cn
  have HL1 := Lib.hid hl1; have HL2 := Lib.hid hl2
  clear tu ts hx hw hs tc cu cn hu hs' hfu hfs hl1 hl2
  go_enter Try.func6, Try.ntmps6
  go_wp2_with fail
  refine (known_any _).mono ?_
  rintro e w1 ⟨rfl, hb⟩
  go_wp2_with fail
  refine (AppendU_nl x _ h0 h1).mono ?_
  rintro e w2 ⟨a2, L2, c2, rfl, hL2, f2⟩
  have hL2' : L2 ≤ 10 := by rw [hL2]; exact HL1.out
  have EL2 := Lib.hid hL2; have F2 := Lib.hid f2; clear hL2 f2
  go_wp2_with fail
  rw [HW.out]
  refine (AppendS_nl z _ z0 z1).mono ?_
  rintro e w3 ⟨a3, L3, c3, rfl, hL3, f3⟩
  have hL3' : L3 ≤ 10 := by rw [hL3]; exact HL2.out
  have B3 := Lib.hid ((hb.trans (F2.out.2.mono hb.size)).trans (f3.2.mono (hb.trans (F2.out.2.mono hb.size)).size))
  have U3 := Lib.hid (F2.out.is.below f3.2 (Nat.le_refl _))
  have S3 := Lib.hid f3.is
  have R3 := Lib.hid (H0.out.below B3.out (Nat.le_refl _))
  have EL3 := Lib.hid hL3
  clear hL3 f3 hb
  go_wp2_with (first
    | (at_builtin; refine appS rfl (.tmp 39) _ rfl w3.heap.size _ _ [] rfl (own_lit0 w3 _ _ rfl rfl _ (Nat.le_refl _)) _ (Leb.ap false 10 x) rfl (U3.out.below ((Below.refl _ _).alloc (Nat.le_refl _) _) (Nat.le_refl _)) (by have := HL1.out; omega) (by simp) ?_; intro v4 w4 hown4 hg4; have b4 := below_grown (W := w3) (B := w3.heap.size) ((Below.refl _ _).alloc (Nat.le_refl _) _) hg4 (own_lit0 w3 _ _ rfl rfl _ (Nat.le_refl _)) (by simp))
    | (at_builtin; refine appS rfl (.tmp 41) _ rfl w3.heap.size _ _ _ rfl hown4 _ lb rfl ⟨a, cap, rfl, R3.out.below b4 (Nat.le_refl _)⟩ (by have := HL1.out; simp; omega) b4.size ?_; intro v5 w5 hown5 hg5))
  have b5 := below_grown b4 hg5 hown4 b4.size
  have I5 := Lib.hid (show IsBs w5 v5 (Leb.ap false 10 x ++ lb) by simpa using IsBs.own hown5)
  have B5 := Lib.hid (B3.out.trans (b5.mono B3.out.size))
  have BB5 := Lib.hid b5
  clear hown4 hg4 b4 hown5 hg5 b5
  refine (TakeU_none _ _ b _ I5.out (by rw [TU.out]; rfl)).mono ?_
  rintro e w6 ⟨rfl, rfl⟩
  go_wp2_with fail
  refine (CU.out _).mono ?_
  rintro e w6 ⟨rfl, rfl⟩
  have U5 := Lib.hid (U3.out.below BB5.out (Nat.le_refl _))
  have S5 := Lib.hid (S3.out.below BB5.out (Nat.le_refl _))
  have R5 := Lib.hid (R3.out.below BB5.out (Nat.le_refl _))
  clear I5 BB5
  go_wp2_with (first
    | (at_builtin; refine appS rfl (.tmp 72) _ rfl w5.heap.size _ _ [] rfl (own_lit0 w5 _ _ rfl rfl _ (Nat.le_refl _)) _ (Leb.ap true 10 z) rfl (S5.out.below ((Below.refl _ _).alloc (Nat.le_refl _) _) (Nat.le_refl _)) (by have := HL2.out; simp; omega) (by simp) ?_; intro v7 w7 hown7 hg7; have b7 := below_grown (W := w5) (B := w5.heap.size) ((Below.refl _ _).alloc (Nat.le_refl _) _) hg7 (own_lit0 w5 _ _ rfl rfl _ (Nat.le_refl _)) (by simp))
    | (at_builtin; refine appS rfl (.tmp 74) _ rfl w5.heap.size _ _ _ rfl hown7 _ lb rfl ⟨a, cap, rfl, R5.out.below b7 (Nat.le_refl _)⟩ (by have := HL2.out; simp; omega) b7.size ?_; intro v8 w8 hown8 hg8))
  have b8 := below_grown b7 hg8 hown7 b7.size
  have I8 := Lib.hid (show IsBs w8 v8 (Leb.ap true 10 z ++ lb) by simpa using IsBs.own hown8)
  have B8' := Lib.hid (B5.out.trans (b8.mono B5.out.size))
  have U8 := Lib.hid (U5.out.below b8 (Nat.le_refl _))
  clear hown7 hg7 b7 hown8 hg8 b8
  refine (TakeS_some _ _ b z L3 _ I8.out (by rw [TS.out, EL3.out]; rfl)).mono ?_
  rintro e w9 ⟨rfl, rfl⟩
  go_wp2_with fail
  rw [HW.out, HX.out]
  refine (CN.out _).mono ?_
  rintro e w9 ⟨rfl, rfl⟩
  have hzw : (z != wrap64 x) = false := by rw [HW.out]; simp
  go_wp2_with fail
  have hc2 : L2 ≤ c2 := IsBs.room U8.out
  go_loop [112] (fun i => ∃ k : Nat, k ≤ L2 ∧ i = .int .i64 k) (fun i => L2 - (intOf i).toNat)
  case atStart => exact ⟨0, by omega, rfl⟩
  case round =>
    obtain ⟨k, hk, rfl⟩ := hrel
    by_cases hlt : k < L2
    · go_wp2_with fail
      refine (TakeU_none _ _ 64 _ (IsBs.cut U8.out (k := k) (by omega)) (TC.out k (by rw [← EL2.out]; exact hlt))).mono ?_
      rintro e w10 ⟨rfl, rfl⟩
      go_wp2_with fail
      go_round
      case rel => exact ⟨k + 1, by omega, by go_num⟩
      case measure => simp [intOf]; omega
    · go_wp2_with fail
      go_ret
      have hd : decide ((L3 : Int) ≤ 10) = true := by simp; omega
      exact ⟨congrArg (fun b => Ending.returned (.bool b)) hd, B8'.out⟩

set_option maxRecDepth 100000 in
set_option maxHeartbeats 400000 in
theorem LebBack_nn (x z : Int) (lb : List UInt8) (a : Option Addr) (cap : Nat) (b : Nat) (w : World) (hs : Bs w a cap lb) (hl : lb.length ≤ 1000) (hb1 : 1 ≤ b) (hb2 : b ≤ 64) (h0 : 0 ≤ x) (h1 : x < 18446744073709551616)
    (z0 : -9223372036854775808 ≤ z) (z1 : z < 9223372036854775808) (hw : wrap64 x = z) (hfu : Leb.fit7 false 10 x) (hfs : Leb.fit7 true 10 z) (n : Nat) (hx : bits BinOp.xor IntKind.u64 x (IntKind.u64.wrap (z / 9223372036854775808)) = (n : Int)) (hn64 : n < 18446744073709551616)
    (hu : Leb.fits false b x = false) (hu2 : b < Lib.bitLen x.toNat) (hs' : Leb.fits true b z = false) (hs2 : b < Lib.bitLen n + 1) (hM : Lib.bitLen x.toNat ≤ 64) (hN : Lib.bitLen n ≤ 64) :
    Calls Try.prog 6 #[.int .u64 x, .slice a lb.length cap, .int .i64 b] w fun e w' => e = .returned (.bool true) ∧ Below w.heap.size w w' := by
  have tu := Leb.tk_ap hfu lb hb1 hb2
  have ts := Leb.tk_ap hfs lb hb1 hb2
  rw [hu] at tu; rw [hs'] at ts
  have hl1 := Leb.ap_le hfu
  have hl2 := Leb.ap_le hfs
  have tc := fun i hi => Leb.tk_cut hfu i hi 64
  have cu := fun W => bits_Len64' x W h0 (by omega)
  have cn := fun W => bits_Len64' n W (by omega) (by omega)
  rw [Int.toNat_natCast] at cn
  generalize Lib.bitLen x.toNat = M at *
  generalize Lib.bitLen n = N at *
  have TU := Lib.hid tu; have TS := Lib.hid ts; have HX := Lib.hid hx; have HW := Lib.hid hw; have H0 := Lib.hid hs; have TC := Lib.hid tc; have CU := Lib.hid cu; have CN := Lib.hid cn
  have HL1 := Lib.hid hl1; have HL2 := Lib.hid hl2
  clear tu ts hx hw hs tc cu cn hu hs' hfu hfs hl1 hl2
  go_enter Try.func6, Try.ntmps6
  go_wp2_with fail
  refine (known_any _).mono ?_
  rintro e w1 ⟨rfl, hb⟩
  go_wp2_with fail
  refine (AppendU_nl x _ h0 h1).mono ?_
  rintro e w2 ⟨a2, L2, c2, rfl, hL2, f2⟩
  have hL2' : L2 ≤ 10 := by rw [hL2]; exact HL1.out
  have EL2 := Lib.hid hL2; have F2 := Lib.hid f2; clear hL2 f2
  go_wp2_with fail
  rw [HW.out]
  refine (AppendS_nl z _ z0 z1).mono ?_
  rintro e w3 ⟨a3, L3, c3, rfl, hL3, f3⟩
  have hL3' : L3 ≤ 10 := by rw [hL3]; exact HL2.out
  have B3 := Lib.hid ((hb.trans (F2.out.2.mono hb.size)).trans (f3.2.mono (hb.trans (F2.out.2.mono hb.size)).size))
  have U3 := Lib.hid (F2.out.is.below f3.2 (Nat.le_refl _))
  have S3 := Lib.hid f3.is
  have R3 := Lib.hid (H0.out.below B3.out (Nat.le_refl _))
  have EL3 := Lib.hid hL3
  clear hL3 f3 hb
  go_wp2_with (first
    | (at_builtin; refine appS rfl (.tmp 39) _ rfl w3.heap.size _ _ [] rfl (own_lit0 w3 _ _ rfl rfl _ (Nat.le_refl _)) _ (Leb.ap false 10 x) rfl (U3.out.below ((Below.refl _ _).alloc (Nat.le_refl _) _) (Nat.le_refl _)) (by have := HL1.out; omega) (by simp) ?_; intro v4 w4 hown4 hg4; have b4 := below_grown (W := w3) (B := w3.heap.size) ((Below.refl _ _).alloc (Nat.le_refl _) _) hg4 (own_lit0 w3 _ _ rfl rfl _ (Nat.le_refl _)) (by simp))
    | (at_builtin; refine appS rfl (.tmp 41) _ rfl w3.heap.size _ _ _ rfl hown4 _ lb rfl ⟨a, cap, rfl, R3.out.below b4 (Nat.le_refl _)⟩ (by have := HL1.out; simp; omega) b4.size ?_; intro v5 w5 hown5 hg5))
  have b5 := below_grown b4 hg5 hown4 b4.size
  have I5 := Lib.hid (show IsBs w5 v5 (Leb.ap false 10 x ++ lb) by simpa using IsBs.own hown5)
  have B5 := Lib.hid (B3.out.trans (b5.mono B3.out.size))
  have BB5 := Lib.hid b5
  clear hown4 hg4 b4 hown5 hg5 b5
  refine (TakeU_none _ _ b _ I5.out (by rw [TU.out]; rfl)).mono ?_
  rintro e w6 ⟨rfl, rfl⟩
  go_wp2_with fail
  refine (CU.out _).mono ?_
  rintro e w6 ⟨rfl, rfl⟩
  have U5 := Lib.hid (U3.out.below BB5.out (Nat.le_refl _))
  have S5 := Lib.hid (S3.out.below BB5.out (Nat.le_refl _))
  have R5 := Lib.hid (R3.out.below BB5.out (Nat.le_refl _))
  clear I5 BB5
  go_wp2_with (first
    | (at_builtin; refine appS rfl (.tmp 72) _ rfl w5.heap.size _ _ [] rfl (own_lit0 w5 _ _ rfl rfl _ (Nat.le_refl _)) _ (Leb.ap true 10 z) rfl (S5.out.below ((Below.refl _ _).alloc (Nat.le_refl _) _) (Nat.le_refl _)) (by have := HL2.out; simp; omega) (by simp) ?_; intro v7 w7 hown7 hg7; have b7 := below_grown (W := w5) (B := w5.heap.size) ((Below.refl _ _).alloc (Nat.le_refl _) _) hg7 (own_lit0 w5 _ _ rfl rfl _ (Nat.le_refl _)) (by simp))
    | (at_builtin; refine appS rfl (.tmp 74) _ rfl w5.heap.size _ _ _ rfl hown7 _ lb rfl ⟨a, cap, rfl, R5.out.below b7 (Nat.le_refl _)⟩ (by have := HL2.out; simp; omega) b7.size ?_; intro v8 w8 hown8 hg8))
  have b8 := below_grown b7 hg8 hown7 b7.size
  have I8 := Lib.hid (show IsBs w8 v8 (Leb.ap true 10 z ++ lb) by simpa using IsBs.own hown8)
  have B8' := Lib.hid (B5.out.trans (b8.mono B5.out.size))
  have U8 := Lib.hid (U5.out.below b8 (Nat.le_refl _))
  clear hown7 hg7 b7 hown8 hg8 b8
  refine (TakeS_none _ _ b _ I8.out (by rw [TS.out]; rfl)).mono ?_
  rintro e w9 ⟨rfl, rfl⟩
  go_wp2_with fail
  rw [HW.out, HX.out]
  refine (CN.out _).mono ?_
  rintro e w9 ⟨rfl, rfl⟩
  have hzw : (z != wrap64 x) = false := by rw [HW.out]; simp
  go_wp2_with fail
  have hc2 : L2 ≤ c2 := IsBs.room U8.out
  go_loop [112] (fun i => ∃ k : Nat, k ≤ L2 ∧ i = .int .i64 k) (fun i => L2 - (intOf i).toNat)
  case atStart => exact ⟨0, by omega, rfl⟩
  case round =>
    obtain ⟨k, hk, rfl⟩ := hrel
    by_cases hlt : k < L2
    · go_wp2_with fail
      refine (TakeU_none _ _ 64 _ (IsBs.cut U8.out (k := k) (by omega)) (TC.out k (by rw [← EL2.out]; exact hlt))).mono ?_
      rintro e w10 ⟨rfl, rfl⟩
      go_wp2_with fail
      go_round
      case rel => exact ⟨k + 1, by omega, by go_num⟩
      case measure => simp [intOf]; omega
    · go_wp2_with fail
      go_ret
      have hd : decide ((L3 : Int) ≤ 10) = true := by simp; omega
      exact ⟨congrArg (fun b => Ending.returned (.bool b)) hd, B8'.out⟩

set_option maxRecDepth 100000 in
set_option maxHeartbeats 400000 in
theorem LebBack_out (x : Int) (l : List UInt8) (a : Option Addr) (cap : Nat) (z : Int) (w : World) (hs : Bs w a cap l) (h : 1000 < l.length ∨ z < 1 ∨ 64 < z) :
    Calls Try.prog 6 #[.int .u64 x, .slice a l.length cap, .int .i64 z] w fun e w' => e = .returned (.bool true) ∧ Below w.heap.size w w' := by
  have H := Lib.hid h; clear h hs
  by_cases h1 : 1000 < l.length
  · go_enter Try.func6, Try.ntmps6
    go_wp2_with fail
    refine (known_any _).mono ?_
    rintro e w1 ⟨rfl, hb⟩
    go_wp2_with fail
    go_ret
    exact ⟨rfl, hb⟩
  by_cases h2 : z < 1
  · go_enter Try.func6, Try.ntmps6
    go_wp2_with fail
    refine (known_any _).mono ?_
    rintro e w1 ⟨rfl, hb⟩
    go_wp2_with fail
    go_ret
    exact ⟨rfl, hb⟩
  have h3 : 64 < z := by have := H.out; omega
  go_enter Try.func6, Try.ntmps6
  go_wp2_with fail
  refine (known_any _).mono ?_
  rintro e w1 ⟨rfl, hb⟩
  go_wp2_with fail
  go_ret
  exact ⟨rfl, hb⟩

theorem LebBack_walk (x : Int) (v : Value) (l : List UInt8) (z : Int) (w : World) (hv : IsBs w v l) (h0 : 0 ≤ x) (h1 : x < 18446744073709551616) :
    Calls Try.prog 6 #[.int .u64 x, v, .int .i64 z] w fun e w' => e = .returned (.bool true) ∧ Below w.heap.size w w' := by
  obtain ⟨a, cap, rfl, hs⟩ := hv
  by_cases h : 1000 < l.length ∨ z < 1 ∨ 64 < z
  · exact LebBack_out x l a cap z w hs h
  obtain ⟨b, rfl⟩ : ∃ b : Nat, z = b := ⟨z.toNat, by omega⟩
  have e64 : (2 : Int) ^ 64 = 18446744073709551616 := by decide
  have e64' : 2 ^ 64 = 18446744073709551616 := by decide
  obtain ⟨y, hy⟩ : ∃ y, Uns true (2 ^ 64) x y := ⟨_, h0, by rw [e64]; exact h1, rfl⟩
  have huf : Uns false (2 ^ 64) x x := ⟨h0, by rw [e64]; exact h1, by simp⟩
  have hzw : wrap64 x = y ∧ -9223372036854775808 ≤ y ∧ y < 9223372036854775808 := by
    obtain ⟨a1, a2, a3⟩ := hy
    rw [e64] at a2 a3
    unfold wrap64
    simp at a3
    split at a3 <;> omega
  obtain ⟨n, hn, hn64, hx⟩ := xor_sign x y hy
  have f1 := Leb.fits_len (n := x.toNat) (b := b) (by omega) (by omega)
  rw [Int.toNat_of_nonneg h0] at f1
  have f2 := Leb.fits_len' (z := y) (n := n) (b := b) (by omega) hn64 hn
  have m1 := Lib.bitLen_le x.toNat 64 (by omega) (by omega)
  have m2 := Lib.bitLen_le n 64 (by omega) hn64
  have nx : n < 18446744073709551616 := by omega
  cases hu : Leb.fits false b x <;> cases hs' : Leb.fits true b y
  · rw [hu] at f1; rw [hs'] at f2
    exact LebBack_nn x y l a cap b w hs (by omega) (by omega) (by omega) h0 h1 hzw.2.1 hzw.2.2 hzw.1 huf.fit hy.fit n hx nx hu (by have := f1.symm; simp at this; omega) hs' (by have := f2.symm; simp at this; omega) m1 m2
  · rw [hu] at f1; rw [hs'] at f2
    exact LebBack_ny x y l a cap b w hs (by omega) (by omega) (by omega) h0 h1 hzw.2.1 hzw.2.2 hzw.1 huf.fit hy.fit n hx nx hu (by have := f1.symm; simp at this; omega) hs' (by have := f2.symm; simp at this; omega) m1 m2
  · rw [hu] at f1; rw [hs'] at f2
    exact LebBack_yn x y l a cap b w hs (by omega) (by omega) (by omega) h0 h1 hzw.2.1 hzw.2.2 hzw.1 huf.fit hy.fit n hx nx hu (by have := f1.symm; simp at this; omega) hs' (by have := f2.symm; simp at this; omega) m1 m2
  · rw [hu] at f1; rw [hs'] at f2
    exact LebBack_yy x y l a cap b w hs (by omega) (by omega) (by omega) h0 h1 hzw.2.1 hzw.2.2 hzw.1 huf.fit hy.fit n hx nx hu (by have := f1.symm; simp at this; omega) hs' (by have := f2.symm; simp at this; omega) m1 m2
end Go.Proofs.Ytikbioakngkogaa
