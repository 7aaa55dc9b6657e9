/- The bits that are set, as the library counts them, are the bits that are set. No condition. -/
import Derived.Test.YtkkhjaiaicmpaaaDoorWordG
namespace Go.Proofs.YtkkhjaiaicmpaaaDoor
open Go Go.RowKit
set_option linter.unusedVariables false
set_option linter.unusedSimpArgs false
namespace Wb
theorem andN {a b : Nat} (ha : a < 2 ^ 64) (hb : b < 2 ^ 64) : bits .and .u64 (a : Int) (b : Int) = ((a &&& b : Nat) : Int) := by
  show IntKind.u64.wrap ((BitVec.ofInt 64 (a : Int) &&& BitVec.ofInt 64 (b : Int)).toNat : Int) = _
  have e1 : (BitVec.ofInt 64 (a : Int)).toNat = a := by rw [BitVec.toNat_ofInt]; have : (2 : Nat) ^ 64 = 18446744073709551616 := by decide
                                                        omega
  have e2 : (BitVec.ofInt 64 (b : Int)).toNat = b := by rw [BitVec.toNat_ofInt]; have : (2 : Nat) ^ 64 = 18446744073709551616 := by decide
                                                        omega
  rw [BitVec.toNat_and, e1, e2, Wd.w64]
  have h : a &&& b ≤ a := Nat.and_le_left
  have : (2 : Nat) ^ 64 = 18446744073709551616 := by decide
  omega
/-- a byte again and again -/
def rep (c : Nat) : Nat → Nat
  | 0 => 0
  | k + 1 => 256 * rep c k + c
/-- of each byte g -/
def mapB (g : Nat → Nat) : Nat → Nat → Nat
  | 0, _ => 0
  | k + 1, x => 256 * mapB g k (x / 256) + g (x % 256)
theorem and_split (x y : Nat) : x &&& y = 256 * ((x / 256) &&& (y / 256)) + ((x % 256) &&& (y % 256)) := by
  have h1 : (x &&& y) / 256 = (x / 256) &&& (y / 256) := by
    have := Nat.and_div_two_pow (a := x) (b := y) (n := 8)
    simpa using this
  have h2 : (x &&& y) % 256 = (x % 256) &&& (y % 256) := by
    have := Nat.and_mod_two_pow (a := x) (b := y) (n := 8)
    simpa using this
  omega
theorem rep_div (c k : Nat) (hc : c < 256) : rep c (k + 1) / 256 = rep c k ∧ rep c (k + 1) % 256 = c := by
  show (256 * rep c k + c) / 256 = rep c k ∧ (256 * rep c k + c) % 256 = c
  omega
def g1 (b : Nat) : Nat := (b / 2 &&& 85) + (b &&& 85)
def g2 (b : Nat) : Nat := (b / 4 &&& 51) + (b &&& 51)
theorem t1 : ∀ b : Fin 256, ∀ q : Fin 2, (128 * q.1 + b.1 / 2) &&& 85 = b.1 / 2 &&& 85 := by decide +kernel
theorem t2 : ∀ b : Fin 256, ∀ q : Fin 4, (64 * q.1 + b.1 / 4) &&& 51 = b.1 / 4 &&& 51 := by decide +kernel
theorem s1 : ∀ k x, (x / 2 &&& rep 85 k) + (x &&& rep 85 k) = mapB g1 k x
  | 0, x => by simp [rep, mapB]
  | k + 1, x => by
    have h := s1 k (x / 256)
    obtain ⟨r1, r2⟩ := rep_div 85 k (by omega)
    rw [and_split (x / 2), and_split x, r1, r2]
    have e1 : x / 2 / 256 = x / 256 / 2 := by omega
    have e2 : x / 2 % 256 = 128 * (x / 256 % 2) + x % 256 / 2 := by omega
    have e3 := t1 ⟨x % 256, by omega⟩ ⟨x / 256 % 2, by omega⟩
    simp only at e3
    rw [e1, e2, e3]
    simp only [mapB, ← h, g1]
    omega
theorem s2 : ∀ k x, (x / 4 &&& rep 51 k) + (x &&& rep 51 k) = mapB g2 k x
  | 0, x => by simp [rep, mapB]
  | k + 1, x => by
    have h := s2 k (x / 256)
    obtain ⟨r1, r2⟩ := rep_div 51 k (by omega)
    rw [and_split (x / 4), and_split x, r1, r2]
    have e1 : x / 4 / 256 = x / 256 / 4 := by omega
    have e2 : x / 4 % 256 = 64 * (x / 256 % 4) + x % 256 / 4 := by omega
    have e3 := t2 ⟨x % 256, by omega⟩ ⟨x / 256 % 4, by omega⟩
    simp only at e3
    rw [e1, e2, e3]
    simp only [mapB, ← h, g2]
    omega
theorem mapB_comp (f g : Nat → Nat) (hg : ∀ b, b < 256 → g b < 256) : ∀ k x, mapB f k (mapB g k x) = mapB (fun b => f (g b)) k x
  | 0, x => rfl
  | k + 1, x => by
    have hb := hg (x % 256) (by omega)
    have e1 : (256 * mapB g k (x / 256) + g (x % 256)) / 256 = mapB g k (x / 256) := by omega
    have e2 : (256 * mapB g k (x / 256) + g (x % 256)) % 256 = g (x % 256) := by omega
    simp only [mapB, e1, e2, mapB_comp f g hg k]
/-- nibbles up to 4 -/
def Nib : Nat → Nat → Prop
  | 0, z => z = 0
  | k + 1, z => z % 16 ≤ 4 ∧ z % 256 / 16 ≤ 4 ∧ Nib k (z / 256)
theorem nib_low : ∀ {k z}, Nib k z → z % 16 ≤ 4
  | 0, z, h => by have h : z = 0 := h
                  subst h; decide
  | k + 1, z, h => h.1
theorem t3 : ∀ e : Fin 256, ∀ q : Fin 16, e.1 % 16 ≤ 4 → e.1 / 16 ≤ 4 → (16 * q.1 + e.1 / 16 + e.1) % 256 &&& 15 = e.1 / 16 + e.1 % 16 := by decide +kernel
def g3 (e : Nat) : Nat := e / 16 + e % 16
theorem s3 : ∀ k z, Nib k z → (z / 16 + z) &&& rep 15 k = mapB g3 k z
  | 0, z, h => by simp [rep, mapB]
  | k + 1, z, h => by
    obtain ⟨h1, h2, h3⟩ := h
    have ih := s3 k (z / 256) h3
    have hl := nib_low h3
    obtain ⟨r1, r2⟩ := rep_div 15 k (by omega)
    rw [and_split, r1, r2]
    have e1 : (z / 16 + z) / 256 = z / 256 / 16 + z / 256 := by omega
    have e2 : (z / 16 + z) % 256 = (16 * (z / 256 % 16) + z % 256 / 16 + z % 256) % 256 := by omega
    have e3 := t3 ⟨z % 256, by omega⟩ ⟨z / 256 % 16, by omega⟩ (by simp only; omega) (by simp only; omega)
    simp only at e3
    rw [e1, e2, e3, ih]
    simp only [mapB, g3]
theorem nib_map (g : Nat → Nat) (hg : ∀ b : Fin 256, g b.1 < 256 ∧ g b.1 % 16 ≤ 4 ∧ g b.1 / 16 ≤ 4) : ∀ k x, Nib k (mapB g k x)
  | 0, x => rfl
  | k + 1, x => by
    obtain ⟨h1, h2, h3⟩ := hg ⟨x % 256, by omega⟩
    simp only at h1 h2 h3
    have ih := nib_map g hg k (x / 256)
    have e1 : (256 * mapB g k (x / 256) + g (x % 256)) / 256 = mapB g k (x / 256) := by omega
    refine ⟨by simp only [mapB]; omega, by simp only [mapB]; omega, ?_⟩
    simp only [mapB]
    rw [e1]; exact ih
def pop8 (b : Nat) : Nat := Lib.popAux 8 b
theorem t4 : ∀ b : Fin 256, g3 (g2 (g1 b.1)) = pop8 b.1 ∧ g1 b.1 < 256 ∧ g2 (g1 b.1) < 256 ∧ g2 (g1 b.1) % 16 ≤ 4 ∧ g2 (g1 b.1) / 16 ≤ 4 ∧ pop8 b.1 ≤ 8 := by decide +kernel
/-- the sum of the bytes' counts -/
def sumB : Nat → Nat → Nat
  | 0, _ => 0
  | k + 1, x => pop8 (x % 256) + sumB k (x / 256)
theorem popAux_zero : ∀ f, Lib.popAux f 0 = 0
  | 0 => rfl
  | f + 1 => by simp [Lib.popAux, popAux_zero f]
theorem popAux_8 (f x : Nat) : Lib.popAux (f + 8) x = pop8 (x % 256) + Lib.popAux f (x / 256) := by
  simp only [pop8, Lib.popAux]
  have e : x / 2 / 2 / 2 / 2 / 2 / 2 / 2 / 2 = x / 256 := by omega
  rw [e]
  omega
theorem pop_sum : ∀ k x, Lib.popAux (8 * k) x = sumB k x
  | 0, x => rfl
  | k + 1, x => by
    rw [show 8 * (k + 1) = 8 * k + 8 by omega, popAux_8, pop_sum k]; rfl
def val : List Nat → Nat
  | [] => 0
  | d :: ds => d + 256 * val ds
theorem val_div {d : Nat} {ds : List Nat} (h : d < 256) : val (d :: ds) / 256 = val ds := by
  show (d + 256 * val ds) / 256 = val ds
  omega
theorem fold8 {c0 c1 c2 c3 c4 c5 c6 c7 : Nat} (h0 : c0 ≤ 8) (h1 : c1 ≤ 8) (h2 : c2 ≤ 8) (h3 : c3 ≤ 8) (h4 : c4 ≤ 8) (h5 : c5 ≤ 8) (h6 : c6 ≤ 8) (h7 : c7 ≤ 8) (y y1 y2 y3 : Nat)
    (hy : y = val [c0, c1, c2, c3, c4, c5, c6, c7]) (e1 : y1 = y + y / 256) (e2 : y2 = y1 + y1 / 65536) (e3 : y3 = y2 + y2 / 4294967296) : y3 % 128 = c0 + (c1 + (c2 + (c3 + (c4 + (c5 + (c6 + c7)))))) ∧ y3 < 18446744073709551616 ∧ y1 < 18446744073709551616 ∧ y2 < 18446744073709551616 := by
  have d1 : y / 256 = val [c1, c2, c3, c4, c5, c6, c7] := by rw [hy]; exact val_div (by omega)
  have f1 : y1 = val [c0 + c1, c1 + c2, c2 + c3, c3 + c4, c4 + c5, c5 + c6, c6 + c7, c7] := by rw [e1, d1, hy]; simp only [val]; omega
  have d2 : y1 / 65536 = val [c2 + c3, c3 + c4, c4 + c5, c5 + c6, c6 + c7, c7] := by
    rw [f1, show 65536 = 256 * 256 from rfl, ← Nat.div_div_eq_div_mul, val_div (by omega), val_div (by omega)]
  have f2 : y2 = val [c0 + c1 + c2 + c3, c1 + c2 + c3 + c4, c2 + c3 + c4 + c5, c3 + c4 + c5 + c6, c4 + c5 + c6 + c7, c5 + c6 + c7, c6 + c7, c7] := by rw [e2, d2, f1]; simp only [val]; omega
  have d3 : y2 / 4294967296 = val [c4 + c5 + c6 + c7, c5 + c6 + c7, c6 + c7, c7] := by
    rw [f2, show 4294967296 = 256 * (256 * (256 * 256)) from rfl, ← Nat.div_div_eq_div_mul, ← Nat.div_div_eq_div_mul, ← Nat.div_div_eq_div_mul, val_div (by omega), val_div (by omega), val_div (by omega), val_div (by omega)]
  have f3 : y3 = val [c0 + c1 + c2 + c3 + c4 + c5 + c6 + c7, c1 + c2 + c3 + c4 + c5 + c6 + c7, c2 + c3 + c4 + c5 + c6 + c7, c3 + c4 + c5 + c6 + c7, c4 + c5 + c6 + c7, c5 + c6 + c7, c6 + c7, c7] := by rw [e3, d3, f2]; simp only [val]; omega
  clear d1 d2 d3 e1 e2 e3 hy
  refine ⟨?_, ?_, ?_, ?_⟩
  · rw [f3]
    show ((c0 + c1 + c2 + c3 + c4 + c5 + c6 + c7) + 256 * val _) % 128 = _
    clear f1 f2 f3
    omega
  · rw [f3]; clear f1 f2 f3; simp only [val]; omega
  · rw [f1]; clear f1 f2 f3; simp only [val]; omega
  · rw [f2]; clear f1 f2 f3; simp only [val]; omega
end Wb
end Go.Proofs.YtkkhjaiaicmpaaaDoor
