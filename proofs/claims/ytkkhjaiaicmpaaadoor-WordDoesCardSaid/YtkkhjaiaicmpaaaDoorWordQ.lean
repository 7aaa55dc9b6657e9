/- Numbers of 32 and 64 bits: a is b times the quotient and the rest; where the operations lie. No condition. -/
import Derived.Test.YtkkhjaiaicmpaaaDoorWordD
import Derived.Test.YtkkhjaiaicmpaaaDoorKStr
namespace Go.Proofs.YtkkhjaiaicmpaaaDoor
open Go Go.RowKit
set_option linter.unusedVariables false
set_option linter.unusedSimpArgs false
namespace Wd
theorem u32e (x : Int) : u32 x = x % 4294967296 := w32 x
theorem u64e (x : Int) : u64 x = x % 18446744073709551616 := w64 x
theorem u64u32 (x : Int) : u64 (u32 x) = x % 4294967296 := by rw [u64e, u32e]; omega
theorem dvR (op s t : Int) {a b mn : Int} (ra : InR .u64 a) (rb : InR .u64 b) : InR .u64 (dv op s t a b mn).1 := by
  unfold dv
  repeat' (first | exact r64 _ | split)
  all_goals dsimp only [InR] at ra rb ⊢
  all_goals first
    | omega
    | exact ⟨Int.ediv_nonneg ra.1 rb.1, Int.le_trans (Int.ediv_le_self _ ra.1) ra.2⟩
    | exact ⟨Int.emod_nonneg _ (by omega), by have := Int.emod_lt_of_pos a (show 0 < b by omega); omega⟩
theorem D_R {op a b : Int} (s : Sup op) (ra : InR .u64 a) (rb : InR .u64 b) : InR .u64 (D op a b).1 := by
  unfold D
  repeat' (first | exact r64 _ | exact pl64R _ ra | exact dvR _ _ _ ra rb | split)
  dsimp only [InR]; omega
theorem parts {M q b r a q' t r' s : Int} (hq : q % M = q' % M) (hb : b % M = t % M) (hr : r % M = r' % M) (ha : a % M = s % M) (h : q' * t + r' = s) : (q * b + r) % M = a % M := by
  rw [Int.add_emod, Int.mul_emod, hq, hb, hr, ← Int.mul_emod, ← Int.add_emod, h, ha]
/-- quotient and rest of one kind: k is 0 for signed ones, 1 for plain ones -/
theorem dv_parts {k s t a b mn M : Int} (hk : k = 0 ∨ k = 1) (hs : s % M = a % M) (ht : t % M = b % M) (hM : M ∣ 18446744073709551616) (h0 : (dv k s t a b mn).2 = 0) :
    (dv (k + 2) s t a b mn).2 = 0 ∧ ((dv k s t a b mn).1 * b + (dv (k + 2) s t a b mn).1) % M = a % M := by
  have m64 : ∀ x : Int, IntKind.u64.wrap x % M = x % M := fun x => by rw [w64]; exact Int.emod_emod_of_dvd _ hM
  have i64 : ∀ x : Int, IntKind.i64.wrap x % M = x % M := fun x => by
    obtain ⟨c, hc⟩ := hM
    have e : ∃ y, IntKind.i64.wrap x = x + 18446744073709551616 * y := by
      rw [wi64]; split
      · exact ⟨-(x / 18446744073709551616), by omega⟩
      · exact ⟨-(x / 18446744073709551616) - 1, by omega⟩
    obtain ⟨y, hy⟩ := e
    rw [hy, hc, Int.mul_assoc, Int.add_mul_emod_self_left]
  rcases hk with rfl | rfl
  · have hb : b ≠ 0 := by intro h; simp [dv, h] at h0
    by_cases h1 : t = -1
    · have e1 : (dv 0 s t a b mn).1 = IntKind.u64.wrap (IntKind.i64.wrap (0 - s)) := by
        by_cases hmn : s = mn
        · simp [dv, hb, h1, hmn] at h0
        · simp [dv, hb, h1, hmn]
      have e2 : dv (0 + 2) s t a b mn = (0, 0) := by simp [dv, hb, h1]
      rw [e1, e2]
      refine ⟨rfl, parts (q' := -s) (t := t) (r' := 0) (s := s) ?_ ht.symm rfl hs.symm (by rw [h1]; omega)⟩
      rw [m64, i64]; congr 1; omega
    · have e1 : dv 0 s t a b mn = (IntKind.u64.wrap (IntKind.i64.wrap (s.tdiv t)), 0) := by simp [dv, hb, h1]
      have e2 : dv (0 + 2) s t a b mn = (IntKind.u64.wrap (s.tmod t), 0) := by simp [dv, hb, h1]
      rw [e1, e2]
      refine ⟨rfl, parts (q' := s.tdiv t) (t := t) (r' := s.tmod t) (s := s) ?_ ht.symm ?_ hs.symm ?_⟩
      · rw [m64, i64]
      · rw [m64]
      · rw [Int.mul_comm]; exact Int.mul_tdiv_add_tmod s t
  · have hb : b ≠ 0 := by intro h; simp [dv, h] at h0
    have e1 : dv 1 s t a b mn = (a / b, 0) := by simp [dv, hb]
    have e2 : dv (1 + 2) s t a b mn = (a % b, 0) := by simp [dv, hb]
    rw [e1, e2]
    refine ⟨rfl, parts (q' := a / b) (t := b) (r' := a % b) (s := a) rfl rfl rfl rfl ?_⟩
    rw [Int.mul_comm]; exact Int.mul_ediv_add_emod a b
theorem s32 (x : Int) : IntKind.i64.wrap (IntKind.i32.wrap x) % 4294967296 = u64 (u32 x) % 4294967296 := by
  rw [u64u32, wi64, wi32]; split <;> split <;> omega
theorem s64 (x : Int) : IntKind.i64.wrap x % 18446744073709551616 = x % 18446744073709551616 := by
  rw [wi64]; split <;> omega
theorem D106 (a b : Int) : D 106 a b = (p32 0 a b, 0) := rfl
theorem D108 (a b : Int) : D 108 a b = (p32 2 a b, 0) := rfl
theorem D109 (a b : Int) : D 109 a b = (u64 (u32 (d32 0 a b).1), (d32 0 a b).2) := rfl
theorem D110 (a b : Int) : D 110 a b = (u64 (u32 (d32 1 a b).1), (d32 1 a b).2) := rfl
theorem D111 (a b : Int) : D 111 a b = (u64 (u32 (d32 2 a b).1), (d32 2 a b).2) := rfl
theorem D112 (a b : Int) : D 112 a b = (u64 (u32 (d32 3 a b).1), (d32 3 a b).2) := rfl
theorem D124 (a b : Int) : D 124 a b = (p64 0 a b, 0) := rfl
theorem D126 (a b : Int) : D 126 a b = (p64 2 a b, 0) := rfl
theorem D127 (a b : Int) : D 127 a b = (d64 0 a b) := rfl
theorem D128 (a b : Int) : D 128 a b = (d64 1 a b) := rfl
theorem D129 (a b : Int) : D 129 a b = (d64 2 a b) := rfl
theorem D130 (a b : Int) : D 130 a b = (d64 3 a b) := rfl
theorem p32_0 (a b : Int) : p32 0 a b = (a + b) % 4294967296 := by
  show u64 (u32 (u32 a + u32 b)) = _
  rw [u64u32, u32e, u32e]; omega
theorem p32_2 (a b : Int) : p32 2 a b = (a * b) % 4294967296 := by
  show u64 (u32 (u32 a * u32 b)) = _
  rw [u64u32, u32e, u32e, ← Int.mul_emod]
theorem p64_0 (a b : Int) : p64 0 a b = (a + b) % 18446744073709551616 := by
  show IntKind.u64.wrap (a + b) = _
  rw [w64]
theorem p64_2 (a b : Int) : p64 2 a b = (a * b) % 18446744073709551616 := by
  show IntKind.u64.wrap (a * b) = _
  rw [w64]
theorem muladd (M x y z : Int) : ((x * y) % M + z) % M = (x * y + z) % M := by
  rw [Int.add_emod, Int.emod_emod_of_dvd _ (Int.dvd_refl M), ← Int.add_emod]
theorem mulL (M x y : Int) : ((x % M) * y) % M = (x * y) % M := by
  rw [Int.mul_emod, Int.emod_emod_of_dvd _ (Int.dvd_refl M), ← Int.mul_emod]
theorem addR (M x y : Int) : (x + y % M) % M = (x + y) % M := by
  rw [Int.add_emod, Int.emod_emod_of_dvd _ (Int.dvd_refl M), ← Int.add_emod]
/-- the statement: a is b times the quotient, and the rest -/
theorem law {B m a b : Int} (hB : B = 106 ∨ B = 124) (hm : m = 0 ∨ m = 1) (ra : InR .u64 a) (rb : InR .u64 b) (h0 : (D (B + 3 + m) a b).2 = 0) :
    (D (B + 5 + m) a b).2 = 0 ∧ (D B (D (B + 2) (D (B + 3 + m) a b).1 b).1 (D (B + 5 + m) a b).1).1 = (D B a 0).1 ∧ (m = 1 → (D (B + 5 + m) a b).1 < (D B b 0).1) := by
  rcases hB with rfl | rfl
  · rcases hm with rfl | rfl
    · change (D 109 a b).2 = 0 at h0
      change (D 111 a b).2 = 0 ∧ (D 106 (D 108 (D 109 a b).1 b).1 (D 111 a b).1).1 = (D 106 a 0).1 ∧ _
      simp only [D109, D111, D106, D108] at h0 ⊢
      obtain ⟨h1, h2⟩ := dv_parts (k := 0) (M := 4294967296) (.inl rfl) (s32 a) (s32 b) (by decide) h0
      refine ⟨h1, ?_, fun h => absurd h (by decide)⟩
      simp only [p32_0, p32_2, u64u32, muladd, Int.add_zero, addR]
      rw [Int.add_emod, mulL, ← Int.add_emod]
      simp only [u64u32] at h2
      rw [Int.emod_emod_of_dvd _ (Int.dvd_refl _), Int.add_emod, Int.mul_comm, mulL, Int.mul_comm, ← Int.add_emod] at h2
      unfold d32; simp only [u64u32]
      exact h2
    · change (D 110 a b).2 = 0 at h0
      change (D 112 a b).2 = 0 ∧ (D 106 (D 108 (D 110 a b).1 b).1 (D 112 a b).1).1 = (D 106 a 0).1 ∧ (_ → (D 112 a b).1 < (D 106 b 0).1)
      simp only [D110, D112, D106, D108] at h0 ⊢
      obtain ⟨h1, h2⟩ := dv_parts (k := 1) (M := 4294967296) (.inr rfl) (s32 a) (s32 b) (by decide) h0
      refine ⟨h1, ?_, fun _ => ?_⟩
      · simp only [p32_0, p32_2, u64u32, muladd, Int.add_zero, addR]
        rw [Int.add_emod, mulL, ← Int.add_emod]
        simp only [u64u32] at h2
        rw [Int.emod_emod_of_dvd _ (Int.dvd_refl _), Int.add_emod, Int.mul_comm, mulL, Int.mul_comm, ← Int.add_emod] at h2
        unfold d32; simp only [u64u32]
        exact h2
      · have hb : u64 (u32 b) ≠ 0 := by intro h; unfold d32 at h0; simp [dv, h] at h0
        have e : (d32 3 a b).1 = u64 (u32 a) % u64 (u32 b) := by unfold d32; simp [dv, hb]
        rw [e, p32_0]
        simp only [u64u32] at hb ⊢
        have h1 := Int.emod_lt_of_pos (a % 4294967296) (show 0 < b % 4294967296 by omega)
        have h2 := Int.emod_nonneg (a % 4294967296) hb
        generalize a % 4294967296 % (b % 4294967296) = z at *
        omega
  · rcases hm with rfl | rfl
    · change (D 127 a b).2 = 0 at h0
      change (D 129 a b).2 = 0 ∧ (D 124 (D 126 (D 127 a b).1 b).1 (D 129 a b).1).1 = (D 124 a 0).1 ∧ _
      simp only [D127, D129, D124, D126] at h0 ⊢
      obtain ⟨h1, h2⟩ := dv_parts (k := 0) (M := 18446744073709551616) (.inl rfl) (s64 a) (s64 b) (by decide) h0
      refine ⟨h1, ?_, fun h => absurd h (by decide)⟩
      simp only [p64_0, p64_2, muladd, Int.add_zero]
      exact h2
    · change (D 128 a b).2 = 0 at h0
      change (D 130 a b).2 = 0 ∧ (D 124 (D 126 (D 128 a b).1 b).1 (D 130 a b).1).1 = (D 124 a 0).1 ∧ (_ → (D 130 a b).1 < (D 124 b 0).1)
      simp only [D128, D130, D124, D126] at h0 ⊢
      obtain ⟨h1, h2⟩ := dv_parts (k := 1) (M := 18446744073709551616) (.inr rfl) (s64 a) (s64 b) (by decide) h0
      refine ⟨h1, ?_, fun _ => ?_⟩
      · simp only [p64_0, p64_2, muladd, Int.add_zero]
        exact h2
      · have hb : b ≠ 0 := by intro h; unfold d64 at h0; simp [dv, h] at h0
        have e : (d64 3 a b).1 = a % b := by unfold d64; simp [dv, hb]
        rw [e, p64_0]
        dsimp only [InR] at ra rb
        have h1 := Int.emod_lt_of_pos a (show 0 < b by omega)
        generalize a % b = z at *
        omega
theorem base {k : Nat} (hk : k < 2) : ∃ B, ([106, 124] : List Int).getD k default = B ∧ (B = 106 ∨ B = 124) := by
  refine ⟨_, rfl, ?_⟩
  rcases (by omega : k = 0 ∨ k = 1) with rfl | rfl
  · exact .inl rfl
  · exact .inr rfl
theorem mk {m : Nat} (h : m < 2) : (m : Int) = 0 ∨ (m : Int) = 1 := by omega
end Wd
end Go.Proofs.YtkkhjaiaicmpaaaDoor
