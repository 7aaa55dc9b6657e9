/- The sum (SHA-256), in plain Lean: words, rounds, blocks, what is written. No condition. -/
import Derived.Test.YtgpbdimccbimnaaKArr
import Derived.Lib.EndianBits
namespace Go.Proofs.Ytgpbdimccbimnaa
open Go Go.RowKit
set_option linter.unusedVariables false
set_option linter.unusedSimpArgs false
namespace Sha
/-- of 32 bits -/
def W (x : Int) : Int := IntKind.u32.wrap x
theorem W_eq (x : Int) : W x = x % 4294967296 := by simp [W, IntKind.wrap, IntKind.bits, IntKind.signed]
theorem W_add (x y : Int) : W (W x + y) = W (x + y) := by simp only [W_eq]; omega
theorem W_range (x : Int) : 0 ≤ W x ∧ W x ≤ 4294967295 := by rw [W_eq]; omega
/-- a word, turned right -/
def td (x n : Int) : Int := bits .or .u32 (x / 2 ^ (min n.toNat 32)) (W (x * 2 ^ (min (32 - n).toNat 32)))
def sg (x a b c : Int) : Int := bits .xor .u32 (bits .xor .u32 (td x a) (td x b)) (td x c)
def sm (x a b c : Int) : Int := bits .xor .u32 (bits .xor .u32 (td x a) (td x b)) (x / 2 ^ (min c.toNat 32))
def ch (e f g : Int) : Int := bits .xor .u32 (bits .and .u32 e f) (bits .and .u32 (4294967295 - e) g)
def mj (a b c : Int) : Int := bits .xor .u32 (bits .xor .u32 (bits .and .u32 a b) (bits .and .u32 a c)) (bits .and .u32 b c)
def g8 (v : List Int) (i : Nat) : Int := v.getD i default
/-- a round -/
def rnd (v : List Int) (k w : Int) : List Int :=
  let one := W (g8 v 7 + sg (g8 v 4) 6 11 25 + ch (g8 v 4) (g8 v 5) (g8 v 6) + k + w)
  let two := W (sg (g8 v 0) 2 13 22 + mj (g8 v 0) (g8 v 1) (g8 v 2))
  [W (one + two), g8 v 0, g8 v 1, g8 v 2, W (g8 v 3 + one), g8 v 4, g8 v 5, g8 v 6]
/-- a word of a block -/
def wd (b : List Int) (t : Nat) : Int := ((b.getD (4 * t) default * 256 + b.getD (4 * t + 1) default) * 256 + b.getD (4 * t + 2) default) * 256 + b.getD (4 * t + 3) default
/-- the next word -/
def nw (b w : List Int) (t : Nat) : Int := if t < 16 then wd b t else W (W (W (w.getD (t - 16) default + sm (w.getD (t - 15) default) 7 18 3) + w.getD (t - 7) default) + sm (w.getD (t - 2) default) 17 19 10)
def ws (b : List Int) : Nat → List Int
  | 0 => []
  | t + 1 => ws b t ++ [nw b (ws b t) t]
theorem ws_length (b : List Int) (t : Nat) : (ws b t).length = t := by induction t with
  | zero => rfl
  | succ t ih => simp [ws, ih]
theorem ws_getD (b : List Int) {t : Nat} : ∀ {n : Nat}, t < n → (ws b n).getD t default = nw b (ws b t) t := by
  intro n
  induction n with
  | zero => intro h; omega
  | succ n ih =>
    intro h
    rw [ws]
    by_cases e : t = n
    · subst e
      have := ws_length b t
      rw [List.getD_eq_getElem?_getD, List.getElem?_append_right (by omega), this, Nat.sub_self]; rfl
    · rw [List.getD_eq_getElem?_getD, List.getElem?_append_left (by rw [ws_length]; omega), ← List.getD_eq_getElem?_getD]; exact ih (by omega)
def K : List Int := [0x428a2f98, 0x71374491, 0xb5c0fbcf, 0xe9b5dba5, 0x3956c25b, 0x59f111f1, 0x923f82a4, 0xab1c5ed5,
  0xd807aa98, 0x12835b01, 0x243185be, 0x550c7dc3, 0x72be5d74, 0x80deb1fe, 0x9bdc06a7, 0xc19bf174,
  0xe49b69c1, 0xefbe4786, 0x0fc19dc6, 0x240ca1cc, 0x2de92c6f, 0x4a7484aa, 0x5cb0a9dc, 0x76f988da,
  0x983e5152, 0xa831c66d, 0xb00327c8, 0xbf597fc7, 0xc6e00bf3, 0xd5a79147, 0x06ca6351, 0x14292967,
  0x27b70a85, 0x2e1b2138, 0x4d2c6dfc, 0x53380d13, 0x650a7354, 0x766a0abb, 0x81c2c92e, 0x92722c85,
  0xa2bfe8a1, 0xa81a664b, 0xc24b8b70, 0xc76c51a3, 0xd192e819, 0xd6990624, 0xf40e3585, 0x106aa070,
  0x19a4c116, 0x1e376c08, 0x2748774c, 0x34b0bcb5, 0x391c0cb3, 0x4ed8aa4a, 0x5b9cca4f, 0x682e6ff3,
  0x748f82ee, 0x78a5636f, 0x84c87814, 0x8cc70208, 0x90befffa, 0xa4506ceb, 0xbef9a3f7, 0xc67178f2]
def I0 : List Int := [0x6a09e667, 0xbb67ae85, 0x3c6ef372, 0xa54ff53a, 0x510e527f, 0x9b05688c, 0x1f83d9ab, 0x5be0cd19]
theorem K_length : K.length = 64 := rfl
def rnds (b h : List Int) : Nat → List Int
  | 0 => h
  | t + 1 => rnd (rnds b h t) (K.getD t default) ((ws b 64).getD t default)
theorem rnds_length {b h : List Int} (hl : h.length = 8) (t : Nat) : (rnds b h t).length = 8 := by
  cases t with
  | zero => exact hl
  | succ t => rfl
/-- a block taken in -/
def comp (h b : List Int) : List Int := (List.range 8).map fun i => W (h.getD i default + (rnds b h 64).getD i default)
theorem comp_length (h b : List Int) : (comp h b).length = 8 := by simp [comp]
/-- the state behind so many blocks -/
def hs (m : List Int) : Nat → List Int
  | 0 => I0
  | j + 1 => comp (hs m j) ((m.drop (64 * j)).take 64)
theorem hs_length (m : List Int) (j : Nat) : (hs m j).length = 8 := by
  cases j with
  | zero => rfl
  | succ j => exact comp_length _ _
theorem hs_app (m x : List Int) : ∀ j, 64 * j ≤ m.length → hs (m ++ x) j = hs m j := by
  intro j
  induction j with
  | zero => intro _; rfl
  | succ j ih =>
    intro h
    rw [hs, hs, ih (by omega), List.drop_append_of_le_length (by omega), List.take_append_of_le_length (by rw [List.length_drop]; omega)]
/-- the state, and what is left, of a text -/
def st (m : List Int) : List Int := hs m (m.length / 64)
def rest (m : List Int) : List Int := m.drop (64 * (m.length / 64))
theorem rest_length (m : List Int) : (rest m).length = m.length % 64 := by unfold rest; rw [List.length_drop]; omega
theorem st_length (m : List Int) : (st m).length = 8 := hs_length _ _
theorem st_less {m c : List Int} (h : (rest m).length + c.length < 64) : st (m ++ c) = st m ∧ rest (m ++ c) = rest m ++ c := by
  rw [rest_length] at h
  have hl : (m ++ c).length / 64 = m.length / 64 := by rw [List.length_append]; omega
  unfold st rest
  rw [hl]
  exact ⟨hs_app _ _ _ (by omega), List.drop_append_of_le_length (by omega)⟩
theorem st_full {m c : List Int} (h : (rest m).length + c.length = 64) (hc : c ≠ []) : st (m ++ c) = comp (st m) (rest m ++ c) ∧ rest (m ++ c) = [] := by
  rw [rest_length] at h
  have hl : (m ++ c).length / 64 = m.length / 64 + 1 := by rw [List.length_append]; omega
  unfold st rest
  rw [hl]
  refine ⟨?_, List.drop_eq_nil_of_le (by rw [List.length_append]; omega)⟩
  rw [hs, hs_app _ _ _ (by omega), List.drop_append_of_le_length (by omega), List.take_of_length_le]
  rw [List.length_append, List.length_drop]; omega
/-- what is put behind a text of n bytes -/
def u8 (x : Int) : Int := IntKind.u8.wrap x
def lenb (n : Int) : List Int := [u8 (n / 2 ^ 56), u8 (n / 2 ^ 48), u8 (n / 2 ^ 40), u8 (n / 2 ^ 32), u8 (n / 2 ^ 24), u8 (n / 2 ^ 16), u8 (n / 2 ^ 8), u8 (n / 2 ^ 0)]
def zs (n : Nat) : Nat := (119 - n % 64) % 64
def pad (n : Nat) : List Int := (128 :: List.replicate (zs n) 0) ++ lenb (8 * n)
theorem pad_length (n : Nat) : (n + (pad n).length) % 64 = 0 := by
  simp only [pad, lenb, zs, List.length_append, List.length_cons, List.length_replicate, List.length_nil]; omega
/-- the bytes of a word -/
def bs4 (x : Int) : List Int := [u8 (x / 2 ^ 24), u8 (x / 2 ^ 16), u8 (x / 2 ^ 8), u8 x]
def digest (m : List Int) : List Int := (st (m ++ pad m.length)).flatMap bs4
theorem flat_length : ∀ (l : List Int), (l.flatMap bs4).length = 4 * l.length := by
  intro l
  induction l with
  | nil => rfl
  | cons a l ih => rw [List.flatMap_cons, List.length_append, ih, List.length_cons]; simp [bs4]; omega
theorem digest_length (m : List Int) : (digest m).length = 32 := by
  unfold digest; rw [flat_length, st_length]
/-! ranges -/
def R8 (x : Int) : Prop := 0 ≤ x ∧ x ≤ 255
def R32 (x : Int) : Prop := 0 ≤ x ∧ x ≤ 4294967295
theorem u8_range (x : Int) : R8 (u8 x) := by unfold R8 u8; simp [IntKind.wrap, IntKind.bits, IntKind.signed]; omega
theorem or_comm32 (a b : Int) (ha : R32 a) (hb : R32 b) : bits .or .u32 a b = bits .or .u32 b a := by
  simp only [bits, BitVec.or_comm]
theorem rnd_range {v : List Int} {k w : Int} (hv : ∀ x ∈ v, R32 x) (hl : v.length = 8) : ∀ x ∈ rnd v k w, R32 x := by
  have hg : ∀ i, i < 8 → R32 (g8 v i) := fun i hi => hv _ (by unfold g8; rw [List.getD_eq_getElem?_getD, List.getElem?_eq_getElem (by omega)]; exact List.getElem_mem _)
  intro x hx
  simp only [rnd, List.mem_cons, List.not_mem_nil, or_false] at hx
  rcases hx with rfl | rfl | rfl | rfl | rfl | rfl | rfl | rfl
  · exact W_range _
  · exact hg 0 (by omega)
  · exact hg 1 (by omega)
  · exact hg 2 (by omega)
  · exact W_range _
  · exact hg 4 (by omega)
  · exact hg 5 (by omega)
  · exact hg 6 (by omega)
theorem rnds_range {b h : List Int} (hh : ∀ x ∈ h, R32 x) (hl : h.length = 8) : ∀ t, ∀ x ∈ rnds b h t, R32 x := by
  intro t
  induction t with
  | zero => exact hh
  | succ t ih => exact rnd_range ih (rnds_length hl t)
theorem comp_range (h b : List Int) : ∀ x ∈ comp h b, R32 x := by
  intro x hx
  simp only [comp, List.mem_map] at hx
  obtain ⟨i, _, rfl⟩ := hx
  exact W_range _
theorem hs_range (m : List Int) (j : Nat) : ∀ x ∈ hs m j, R32 x := by
  cases j with
  | zero => intro x hx; simp only [hs, I0, List.mem_cons, List.not_mem_nil, or_false] at hx; unfold R32; omega
  | succ j => exact comp_range _ _
theorem st_range (m : List Int) : ∀ x ∈ st m, R32 x := hs_range _ _
theorem wd_range {b : List Int} (hb : ∀ x ∈ b, R8 x) {t : Nat} (ht : 4 * t + 3 < b.length) : R32 (wd b t) := by
  have h : ∀ i, i < b.length → R8 (b.getD i default) := fun i hi => hb _ (by rw [List.getD_eq_getElem?_getD, List.getElem?_eq_getElem hi]; exact List.getElem_mem _)
  have h0 := h (4 * t) (by omega); have h1 := h (4 * t + 1) (by omega); have h2 := h (4 * t + 2) (by omega); have h3 := h (4 * t + 3) (by omega)
  unfold R8 at h0 h1 h2 h3
  unfold R32 wd
  omega
theorem ws_range {b : List Int} (hb : ∀ x ∈ b, R8 x) (hl : b.length = 64) : ∀ t, ∀ x ∈ ws b t, R32 x := by
  intro t
  induction t with
  | zero => intro x hx; cases hx
  | succ t ih =>
    intro x hx
    rw [ws, List.mem_append, List.mem_singleton] at hx
    rcases hx with hx | rfl
    · exact ih x hx
    · unfold nw
      split
      · exact wd_range hb (by omega)
      · exact W_range _
/-- the bytes of a word, one or'ed to the other -/
theorem word_or {a b c d : Int} (ha : R8 a) (hb : R8 b) (hc : R8 c) (hd : R8 d) :
    bits .or .u32 (bits .or .u32 (bits .or .u32 (W (a * 2 ^ 24)) (W (b * 2 ^ 16))) (W (c * 2 ^ 8))) d = ((a * 256 + b) * 256 + c) * 256 + d := by
  unfold R8 at ha hb hc hd
  have e1 : W (a * 2 ^ 24) = a * 16777216 := by rw [W_eq]; omega
  have e2 : W (b * 2 ^ 16) = b * 65536 := by rw [W_eq]; omega
  have e3 : W (c * 2 ^ 8) = c * 256 := by rw [W_eq]; omega
  rw [e1, e2, e3]
  have j1 : bits .or .u32 (a * 16777216) (b * 65536) = a * 16777216 + b * 65536 := bits_join .u32 32 (by decide) wraps_u32 24 _ _ (by omega) (by omega) (by omega) (by omega) (by omega) (by omega)
  rw [j1]
  have j2 : bits .or .u32 (a * 16777216 + b * 65536) (c * 256) = a * 16777216 + b * 65536 + c * 256 := bits_join .u32 32 (by decide) wraps_u32 16 _ _ (by omega) (by omega) (by omega) (by omega) (by omega) (by omega)
  rw [j2]
  have j3 : bits .or .u32 (a * 16777216 + b * 65536 + c * 256) d = a * 16777216 + b * 65536 + c * 256 + d := bits_join .u32 32 (by decide) wraps_u32 8 _ _ (by omega) (by omega) (by omega) (by omega) (by omega) (by omega)
  rw [j3]
  omega
theorem bits_range32 (op : BinOp) (a b : Int) : R32 (bits op .u32 a b) := by
  unfold R32 bits
  simp only [IntKind.wrap, IntKind.bits, IntKind.signed]
  simp
  omega
theorem ones32 : BitVec.ofInt 32 4294967295 = BitVec.allOnes 32 := by decide +kernel
theorem inv32 {x : Int} (h : R32 x) : bits .xor .u32 4294967295 x = 4294967295 - x := by
  unfold R32 at h
  obtain ⟨n, rfl⟩ := Int.eq_ofNat_of_zero_le h.1
  have hn : n < 2 ^ 32 := by omega
  have h0 : bits .xor .u32 4294967295 (n : Int) = IntKind.u32.wrap (((BitVec.ofInt 32 4294967295) ^^^ (BitVec.ofInt 32 (n : Int))).toNat : Int) := rfl
  have e3 : ((BitVec.ofInt 32 4294967295) ^^^ (BitVec.ofInt 32 (n : Int))).toNat = 4294967295 - n := by
    rw [ones32, BitVec.allOnes_xor, BitVec.toNat_not, BitVec.toNat_ofInt]
    have : ((n : Int) % ((2 ^ 32 : Nat) : Int)).toNat = n := by omega
    rw [this]
  have hw : ∀ y, IntKind.u32.wrap y = y % 4294967296 := W_eq
  rw [h0, e3, hw]
  omega
end Sha
end Go.Proofs.Ytgpbdimccbimnaa
