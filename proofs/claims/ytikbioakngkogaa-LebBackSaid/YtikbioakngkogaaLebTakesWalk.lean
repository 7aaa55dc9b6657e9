/- LebTakes: the law's walk. No condition. -/
import Derived.Test.YtikbioakngkogaaLebKnown
import Derived.Test.YtikbioakngkogaaLebFew
namespace Go.Proofs.Ytikbioakngkogaa
open Go.RowKit
set_option linter.unusedVariables false

theorem tk_range {sg : Bool} {l : List UInt8} {z n : Int} {k : Nat} (h : Leb.tk sg l z = some (n, k)) : 1 ≤ k ∧ k ≤ l.length ∧ (sg = false → 0 ≤ n ∧ n < 18446744073709551616) ∧ (sg = true → -9223372036854775808 ≤ n ∧ n < 9223372036854775808) := by
  unfold Leb.tk at h
  split at h
  · cases h
  split at h
  · next h1 h2 =>
    injection h with h; injection h with h3 h4
    subst h3; subst h4
    have hp := Leb.pow_le (show z.toNat ≤ 64 by omega)
    have e64 : (2 : Int) ^ 64 = 18446744073709551616 := by decide
    have := Leb.run_le l
    have hf := Leb.num_fit sg (l.take (Leb.run l))
    unfold Leb.fits at h2; unfold Leb.fit7 at hf
    refine ⟨by omega, this, ?_, ?_⟩
    · rintro rfl; simp at h2 hf; omega
    · rintro rfl; simp at h2 hf; omega
  · cases h

/-- what is taken, told as the reference tells it -/
def tkN (o : Option (Int × Nat)) : Int := match o with | some (n, _) => n | none => 0
def tkK (o : Option (Int × Nat)) : Nat := match o with | some (_, k) => k | none => 0
def tkB (o : Option (Int × Nat)) : Bool := match o with | some _ => true | none => false

theorem tkU_eq (o : Option (Int × Nat)) : tkU o = .tuple #[.int .u64 (tkN o), .int .i64 (tkK o), .bool (tkB o)] := by cases o <;> rfl
theorem tkS_eq (o : Option (Int × Nat)) : tkS o = .tuple #[.int .i64 (tkN o), .int .i64 (tkK o), .bool (tkB o)] := by cases o <;> rfl
theorem rfT_eq (o : Option (Int × Nat)) : rfT o = .tuple #[.int .u64 (tkN o % 18446744073709551616), .int .i64 (tkK o)] := by cases o <;> rfl

theorem tkK_pos {sg : Bool} {l : List UInt8} {z : Int} : tkB (Leb.tk sg l z) = decide (0 < (tkK (Leb.tk sg l z) : Int)) := by
  cases h : Leb.tk sg l z with
  | none => rfl
  | some p => obtain ⟨n, k⟩ := p; have := (tk_range h).1; simp [tkB, tkK]; omega

theorem tkN_u {l : List UInt8} {z : Int} : 0 ≤ tkN (Leb.tk false l z) ∧ tkN (Leb.tk false l z) < 18446744073709551616 := by
  cases h : Leb.tk false l z with
  | none => simp [tkN]
  | some p => obtain ⟨n, k⟩ := p; exact (tk_range h).2.2.1 rfl
theorem tkN_s {l : List UInt8} {z : Int} : -9223372036854775808 ≤ tkN (Leb.tk true l z) ∧ tkN (Leb.tk true l z) < 9223372036854775808 := by
  cases h : Leb.tk true l z with
  | none => simp [tkN]
  | some p => obtain ⟨n, k⟩ := p; exact (tk_range h).2.2.2 rfl

theorem takes_u (l : List UInt8) (z : Int) : ∃ (x : Int) (k : Nat), (∀ v w, IsBs w v l → Calls Try.prog 8 #[v, .int .i64 z] w fun e w' => e = .returned (.tuple #[.int .u64 x, .int .i64 k, .bool (decide (0 < (k : Int)))]) ∧ w = w') ∧
    (∀ v w, IsBs w v l → Calls Try.prog 9 #[v, .int .i64 z, .bool false] w fun e w' => e = .returned (.tuple #[.int .u64 x, .int .i64 k]) ∧ w = w') := by
  refine ⟨tkN (Leb.tk false l z), tkK (Leb.tk false l z), fun v w h => ?_, fun v w h => ?_⟩
  · have := TakeU_any v l z w h
    rw [tkU_eq, tkK_pos] at this; exact this
  · have := Take_any v l z false w h
    rw [rfT_eq, Int.emod_eq_of_lt tkN_u.1 tkN_u.2] at this; exact this

theorem takes_s (l : List UInt8) (z : Int) : ∃ (x : Int) (k : Nat), (∀ v w, IsBs w v l → Calls Try.prog 10 #[v, .int .i64 z] w fun e w' => e = .returned (.tuple #[.int .i64 x, .int .i64 k, .bool (decide (0 < (k : Int)))]) ∧ w = w') ∧
    (∀ v w, IsBs w v l → Calls Try.prog 9 #[v, .int .i64 z, .bool true] w fun e w' => e = .returned (.tuple #[.int .u64 (IntKind.u64.wrap x), .int .i64 k]) ∧ w = w') := by
  refine ⟨tkN (Leb.tk true l z), tkK (Leb.tk true l z), fun v w h => ?_, fun v w h => ?_⟩
  · have := TakeS_any v l z w h
    rw [tkS_eq, tkK_pos] at this; exact this
  · have := Take_any v l z true w h
    rw [rfT_eq, ← IntKind.wrap_u64] at this; exact this

set_option maxRecDepth 100000 in
set_option maxHeartbeats 1000000 in
theorem LebTakes_walk (v : Value) (l : List UInt8) (z : Int) (w : World) (hv : IsBs w v l) :
    Calls Try.prog 3 #[v, .int .i64 z] w fun e w' => e = .returned (.bool true) ∧ Below w.heap.size w w' := by
  have hv0 := hv
  obtain ⟨a, cap, rfl, hs⟩ := hv
  by_cases hl : 5000 < l.length
  · go_enter Try.func3, Try.ntmps3
    go_wp2_with fail
    refine (known_any _).mono ?_
    rintro e w1 ⟨rfl, hb⟩
    go_wp2_with fail
    go_ret
    exact ⟨rfl, hb⟩
  · obtain ⟨x, k, cU, cR⟩ := takes_u l z
    obtain ⟨y, j, cS, cT⟩ := takes_s l z
    have CU := Lib.hid cU; have CR := Lib.hid cR; have CS := Lib.hid cS; have CT := Lib.hid cT
    clear cU cR cS cT hs
    have HV := Lib.hid hv0; clear hv0
    go_enter Try.func3, Try.ntmps3
    go_wp2_with fail
    refine (known_any _).mono ?_
    rintro e w1 ⟨rfl, hb⟩
    have H1 := Lib.hid (HV.out.below hb (Nat.le_refl _))
    go_wp2_with fail
    refine (CU.out _ _ H1.out).mono ?_
    rintro e w2 ⟨rfl, rfl⟩
    go_wp2_with fail
    refine (CR.out _ _ H1.out).mono ?_
    rintro e w2 ⟨rfl, rfl⟩
    go_wp2_with fail
    refine (CS.out _ _ H1.out).mono ?_
    rintro e w2 ⟨rfl, rfl⟩
    go_wp2_with fail
    refine (CT.out _ _ H1.out).mono ?_
    rintro e w2 ⟨rfl, rfl⟩
    go_wp2_with fail
    go_ret
    exact ⟨rfl, hb⟩
end Go.Proofs.Ytikbioakngkogaa
