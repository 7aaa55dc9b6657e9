/- Texts (UTF-8), in plain Lean: of how many bytes is the character with which bytes begin; whether bytes are a text. No condition. -/
import Derived.Test.YtnbdadjomnpcgaaDoorKText
import Derived.Lib.DecodeN
import Derived.Lib.ValidLaws
import Derived.Lib.EndianBits
namespace Go.Proofs.YtnbdadjomnpcgaaDoor
open Go Go.RowKit
set_option linter.unusedVariables false
set_option linter.unusedSimpArgs false
namespace Utf
/-- the library's tables -/
def ft (c : Int) : Nat := Lib.firstT c.toNat
def sz (c : Int) : Nat := if c < 128 then 1 else if ft c % 8 = 1 then 0 else ft c % 8
def lo (c : Int) : Int := (Lib.accLo (ft c / 16) : Nat)
def hi (c : Int) : Int := (Lib.accHi (ft c / 16) : Nat)
/-- of how many bytes is the character with which l begins; 0: it begins with none -/
def chr (l : List Int) : Nat :=
  if sz (l.getD 0 default) ≤ 1 then sz (l.getD 0 default)
  else if l.length < sz (l.getD 0 default) ∨ l.getD 1 default < lo (l.getD 0 default) ∨ hi (l.getD 0 default) < l.getD 1 default ∨ (3 ≤ sz (l.getD 0 default) ∧ (l.getD 2 default < 128 ∨ 191 < l.getD 2 default)) ∨ (4 ≤ sz (l.getD 0 default) ∧ (l.getD 3 default < 128 ∨ 191 < l.getD 3 default)) then 0
  else sz (l.getD 0 default)
theorem sz_cases (c : Int) : sz c ≤ 7 := by unfold sz; split <;> (try split) <;> omega
theorem chr_le {l : List Int} (h : 0 < l.length) : chr l ≤ l.length := by
  unfold chr; split
  · omega
  · split
    · omega
    · omega
def vf : Nat → List Int → Bool
  | 0, _ => true
  | n + 1, l => if l.length = 0 then true else if chr l = 0 then false else vf n (l.drop (chr l))
/-- are bytes a text? -/
def valid (l : List Int) : Bool := vf l.length l
theorem vf_eq : ∀ (n m : Nat) (l : List Int), l.length ≤ n → l.length ≤ m → vf n l = vf m l := by
  intro n
  induction n with
  | zero =>
    intro m l h1 h2
    have e : l.length = 0 := by omega
    cases m with
    | zero => rfl
    | succ m => simp only [vf]; rw [if_pos e]
  | succ n ih =>
    intro m l h1 h2
    cases m with
    | zero => have e : l.length = 0 := by omega
              simp only [vf]; rw [if_pos e]
    | succ m =>
      simp only [vf]
      split
      · rfl
      · split
        · rfl
        · have := chr_le (l := l) (by omega)
          exact ih m _ (by rw [List.length_drop]; omega) (by rw [List.length_drop]; omega)
theorem valid_nil {l : List Int} (h : l.length = 0) : valid l = true := by unfold valid; rw [h]; rfl
theorem valid_bad {l : List Int} (h : 0 < l.length) (hc : chr l = 0) : valid l = false := by
  obtain ⟨n, hn⟩ : ∃ n, l.length = n + 1 := ⟨l.length - 1, by omega⟩
  unfold valid; rw [hn]; simp only [vf]; rw [if_neg (by omega), if_pos hc]
theorem valid_ok {l : List Int} {k : Nat} (h : 0 < l.length) (hc : chr l = k) (hk : 0 < k) : valid (l.drop k) = valid l := by
  obtain ⟨n, hn⟩ : ∃ n, l.length = n + 1 := ⟨l.length - 1, by omega⟩
  have e : valid l = vf n (l.drop (chr l)) := by
    unfold valid; rw [hn]; simp only [vf]; rw [if_neg (by omega), if_neg (by omega)]
  have hle := chr_le h
  rw [e, ← hc]
  unfold valid
  exact vf_eq _ _ _ (by omega) (by rw [List.length_drop]; omega)
theorem ok1 {l : List Int} (h : 0 < l.length) (hs : l.getD 0 default < 128) : valid (l.drop 1) = valid l := by
  refine valid_ok h ?_ (by omega)
  have e : sz (l.getD 0 default) = 1 := by unfold sz; rw [if_pos hs]
  unfold chr; rw [e]; rfl
theorem getD_drop (l : List Int) (i j : Nat) : (l.drop i).getD j default = l.getD (i + j) default := by
  rw [List.getD_eq_getElem?_getD, List.getElem?_drop, ← List.getD_eq_getElem?_getD]
theorem okAsc {l : List Int} : ∀ {k : Nat}, k ≤ l.length → (∀ j, j < k → l.getD j default < 128) → valid (l.drop k) = valid l := by
  intro k
  induction k with
  | zero => intro _ _; rfl
  | succ k ih =>
    intro h1 h2
    rw [← ih (by omega) (fun j hj => h2 j (by omega)), show l.drop (k + 1) = (l.drop k).drop 1 by rw [List.drop_drop]]
    exact ok1 (by rw [List.length_drop]; omega) (by rw [getD_drop]; exact h2 k (by omega))
section
variable {l : List Int} (h : 0 < l.length) (hc : ¬ l.getD 0 default < 128)
include h hc
omit h in
theorem sz_of {k : Nat} (hk : 2 ≤ k) (hs : ft (l.getD 0 default) % 8 = k) : sz (l.getD 0 default) = k := by
  unfold sz; rw [if_neg hc, hs, if_neg (by omega)]
theorem bad1 (hs : ft (l.getD 0 default) % 8 = 1) : valid l = false := by
  refine valid_bad h ?_
  have e : sz (l.getD 0 default) = 0 := by unfold sz; rw [if_neg hc, if_pos hs]
  unfold chr; rw [e]; rfl
theorem bad2 (hs : ft (l.getD 0 default) % 8 = 2) (hb : l.length < 2 ∨ l.getD 1 default < lo (l.getD 0 default) ∨ hi (l.getD 0 default) < l.getD 1 default) : valid l = false := by
  refine valid_bad h ?_
  unfold chr; rw [sz_of hc (by omega) hs, if_neg (by omega), if_pos (by omega)]
theorem good2 (hs : ft (l.getD 0 default) % 8 = 2) (hb : ¬ (l.length < 2 ∨ l.getD 1 default < lo (l.getD 0 default) ∨ hi (l.getD 0 default) < l.getD 1 default)) : valid (l.drop 2) = valid l := by
  refine valid_ok h ?_ (by omega)
  unfold chr; rw [sz_of hc (by omega) hs, if_neg (by omega), if_neg (by omega)]
theorem bad3 (hs : ft (l.getD 0 default) % 8 = 3) (hb : l.length < 3 ∨ l.getD 1 default < lo (l.getD 0 default) ∨ hi (l.getD 0 default) < l.getD 1 default ∨ l.getD 2 default < 128 ∨ 191 < l.getD 2 default) : valid l = false := by
  refine valid_bad h ?_
  unfold chr; rw [sz_of hc (by omega) hs, if_neg (by omega), if_pos (by omega)]
theorem good3 (hs : ft (l.getD 0 default) % 8 = 3) (hb : ¬ (l.length < 3 ∨ l.getD 1 default < lo (l.getD 0 default) ∨ hi (l.getD 0 default) < l.getD 1 default ∨ l.getD 2 default < 128 ∨ 191 < l.getD 2 default)) : valid (l.drop 3) = valid l := by
  refine valid_ok h ?_ (by omega)
  unfold chr; rw [sz_of hc (by omega) hs, if_neg (by omega), if_neg (by omega)]
theorem bad4 (hs : ft (l.getD 0 default) % 8 = 4) (hb : l.length < 4 ∨ l.getD 1 default < lo (l.getD 0 default) ∨ hi (l.getD 0 default) < l.getD 1 default ∨ l.getD 2 default < 128 ∨ 191 < l.getD 2 default ∨ l.getD 3 default < 128 ∨ 191 < l.getD 3 default) : valid l = false := by
  refine valid_bad h ?_
  unfold chr; rw [sz_of hc (by omega) hs, if_neg (by omega), if_pos (by omega)]
theorem good4 (hs : ft (l.getD 0 default) % 8 = 4) (hb : ¬ (l.length < 4 ∨ l.getD 1 default < lo (l.getD 0 default) ∨ hi (l.getD 0 default) < l.getD 1 default ∨ l.getD 2 default < 128 ∨ 191 < l.getD 2 default ∨ l.getD 3 default < 128 ∨ 191 < l.getD 3 default)) : valid (l.drop 4) = valid l := by
  refine valid_ok h ?_ (by omega)
  unfold chr; rw [sz_of hc (by omega) hs, if_neg (by omega), if_neg (by omega)]
end
theorem ft_cases : ∀ c : Fin 256, 128 ≤ c.1 → (Lib.firstT c.1 % 8 = 1 ∨ Lib.firstT c.1 % 8 = 2 ∨ Lib.firstT c.1 % 8 = 3 ∨ Lib.firstT c.1 % 8 = 4) ∧ Lib.firstT c.1 / 16 < 16 := by decide +kernel
theorem ft_lt : ∀ c : Fin 256, Lib.firstT c.1 < 256 := by decide +kernel
theorem and7 : ∀ c : Fin 256, bits .and .u8 (c.1 : Int) 7 = ((c.1 % 8 : Nat) : Int) := by decide +kernel
theorem ftc {c : Int} (r : InR .u8 c) : ft c < 256 ∧ bits .and .u8 (ft c : Int) 7 = ((ft c % 8 : Nat) : Int) := by
  dsimp only [InR] at r
  have h := ft_lt ⟨c.toNat, by omega⟩
  exact ⟨h, and7 ⟨_, h⟩⟩
theorem ftk {c : Int} (r : InR .u8 c) (h : ¬ c < 128) : (ft c % 8 = 1 ∨ ft c % 8 = 2 ∨ ft c % 8 = 3 ∨ ft c % 8 = 4) ∧ ft c / 16 < 16 := by
  dsimp only [InR] at r
  exact ft_cases ⟨c.toNat, by omega⟩ (by show 128 ≤ c.toNat; omega)
theorem shr4 (n : Nat) : ((n : Int) / 2 ^ (min (4 : Int).toNat IntKind.u8.bits)) = ((n / 16 : Nat) : Int) := by
  rw [show (2 : Int) ^ (min (4 : Int).toNat IntKind.u8.bits) = 16 by decide +kernel]; omega
/-! ### eight bytes as a word -/
def byt (l : List Int) (i : Nat) : Int := l.getD i default
def wd8 (l : List Int) : Int := Lib.leZ ((List.range 8).map fun i => l.getD i default)
theorem wd8_eq (l : List Int) : wd8 l = l.getD 0 default + 256 * (l.getD 1 default + 256 * (l.getD 2 default + 256 * (l.getD 3 default + 256 * (l.getD 4 default + 256 * (l.getD 5 default + 256 * (l.getD 6 default + 256 * l.getD 7 default)))))) := by
  show Lib.leZ [_, _, _, _, _, _, _, _] = _
  simp only [Lib.leZ]; omega
theorem hi8 {l : List Int} (hr : ∀ i, i < 8 → InR .u8 (l.getD i default)) : ∃ n : Nat, wd8 l = (n : Int) ∧ n < 2 ^ 64 ∧ (n &&& 9259542123273814144 = 0 → ∀ i, i < 8 → l.getD i default < 128) := by
  have hm : ∀ z ∈ (List.range 8).map (fun i => l.getD i default), 0 ≤ z ∧ z ≤ 255 := by
    intro z hz
    simp only [List.mem_map, List.mem_range] at hz
    obtain ⟨i, hi, rfl⟩ := hz
    exact hr i hi
  refine ⟨_, (Lib.leNat_byteOf _ hm).symm, ?_, ?_⟩
  · have := Lib.leNat_lt (((List.range 8).map fun i => l.getD i default).map Lib.byteOf)
    simpa using this
  · intro h i hi
    have h2 := (Lib.leNat_mask (((List.range 8).map fun i => l.getD i default).map Lib.byteOf)).1 (by
      rw [show (((List.range 8).map fun i => l.getD i default).map Lib.byteOf).length = 8 by simp, Lib.maskN8]; exact h)
    have h3 := h2 (Lib.byteOf (l.getD i default)) (by simp only [List.mem_map, List.mem_range]; exact ⟨_, ⟨i, hi, rfl⟩, rfl⟩)
    have h4 := Lib.byteOf_toNat (hr i hi)
    omega
theorem word_or {b0 b1 b2 b3 b4 b5 b6 b7 : Int} (h0 : InR .u8 b0) (h1 : InR .u8 b1) (h2 : InR .u8 b2) (h3 : InR .u8 b3) (h4 : InR .u8 b4) (h5 : InR .u8 b5) (h6 : InR .u8 b6) (h7 : InR .u8 b7) :
    bits .or .u64 (bits .or .u64 (bits .or .u64 (bits .or .u64 (bits .or .u64 (bits .or .u64 (bits .or .u64 b0 (IntKind.u64.wrap (b1 * 2 ^ (min (8 : Int).toNat IntKind.u64.bits)))) (IntKind.u64.wrap (b2 * 2 ^ (min (16 : Int).toNat IntKind.u64.bits))))
      (IntKind.u64.wrap (b3 * 2 ^ (min (24 : Int).toNat IntKind.u64.bits)))) (IntKind.u64.wrap (b4 * 2 ^ (min (32 : Int).toNat IntKind.u64.bits)))) (IntKind.u64.wrap (b5 * 2 ^ (min (40 : Int).toNat IntKind.u64.bits)))) (IntKind.u64.wrap (b6 * 2 ^ (min (48 : Int).toNat IntKind.u64.bits))))
      (IntKind.u64.wrap (b7 * 2 ^ (min (56 : Int).toNat IntKind.u64.bits))) = b0 + 256 * (b1 + 256 * (b2 + 256 * (b3 + 256 * (b4 + 256 * (b5 + 256 * (b6 + 256 * b7)))))) := by
  dsimp only [InR] at h0 h1 h2 h3 h4 h5 h6 h7
  rw [show (2 : Int) ^ (min (8 : Int).toNat IntKind.u64.bits) = 256 by decide +kernel, show (2 : Int) ^ (min (16 : Int).toNat IntKind.u64.bits) = 65536 by decide +kernel, show (2 : Int) ^ (min (24 : Int).toNat IntKind.u64.bits) = 16777216 by decide +kernel,
    show (2 : Int) ^ (min (32 : Int).toNat IntKind.u64.bits) = 4294967296 by decide +kernel, show (2 : Int) ^ (min (40 : Int).toNat IntKind.u64.bits) = 1099511627776 by decide +kernel, show (2 : Int) ^ (min (48 : Int).toNat IntKind.u64.bits) = 281474976710656 by decide +kernel, show (2 : Int) ^ (min (56 : Int).toNat IntKind.u64.bits) = 72057594037927936 by decide +kernel]
  rw [u64_wrap_id (x := b1 * 256) (by omega) (by omega), u64_wrap_id (x := b2 * 65536) (by omega) (by omega), u64_wrap_id (x := b3 * 16777216) (by omega) (by omega), u64_wrap_id (x := b4 * 4294967296) (by omega) (by omega),
    u64_wrap_id (x := b5 * 1099511627776) (by omega) (by omega), u64_wrap_id (x := b6 * 281474976710656) (by omega) (by omega), u64_wrap_id (x := b7 * 72057594037927936) (by omega) (by omega)]
  rw [u64_or8 (y := b0) (x := b1 * 256) (by omega) (by omega) (by omega) (by omega) (by omega)]
  rw [u64_or16 (y := b0 + b1 * 256) (x := b2 * 65536) (by omega) (by omega) (by omega) (by omega) (by omega)]
  rw [u64_or24 (y := b0 + b1 * 256 + b2 * 65536) (x := b3 * 16777216) (by omega) (by omega) (by omega) (by omega) (by omega)]
  rw [u64_or32 (y := b0 + b1 * 256 + b2 * 65536 + b3 * 16777216) (x := b4 * 4294967296) (by omega) (by omega) (by omega) (by omega) (by omega)]
  rw [u64_or40 (y := b0 + b1 * 256 + b2 * 65536 + b3 * 16777216 + b4 * 4294967296) (x := b5 * 1099511627776) (by omega) (by omega) (by omega) (by omega) (by omega)]
  rw [u64_or48 (y := b0 + b1 * 256 + b2 * 65536 + b3 * 16777216 + b4 * 4294967296 + b5 * 1099511627776) (x := b6 * 281474976710656) (by omega) (by omega) (by omega) (by omega) (by omega)]
  rw [u64_or56 (y := b0 + b1 * 256 + b2 * 65536 + b3 * 16777216 + b4 * 4294967296 + b5 * 1099511627776 + b6 * 281474976710656) (x := b7 * 72057594037927936) (by omega) (by omega) (by omega) (by omega) (by omega)]
  omega
theorem and64 {a b : Nat} (ha : a < 2 ^ 64) (hb : b < 2 ^ 64) : bits .and .u64 (a : Int) (b : Int) = ((a &&& b : Nat) : Int) := by
  unfold bits
  have e : (BitVec.ofInt IntKind.u64.bits (a : Int) &&& BitVec.ofInt IntKind.u64.bits (b : Int)).toNat = a &&& b := by
    rw [BitVec.toNat_and, BitVec.ofInt_natCast, BitVec.ofInt_natCast, BitVec.toNat_ofNat, BitVec.toNat_ofNat]
    rw [Nat.mod_eq_of_lt (show a < 2 ^ IntKind.u64.bits from ha), Nat.mod_eq_of_lt (show b < 2 ^ IntKind.u64.bits from hb)]
  simp only []
  have hlt : a &&& b < 2 ^ 64 := Nat.lt_of_le_of_lt Nat.and_le_left ha
  rw [show (BitVec.ofInt IntKind.u64.bits (a : Int) &&& BitVec.ofInt IntKind.u64.bits (b : Int)).toNat = a &&& b from e]
  rw [IntKind.wrap_u64]
  have : (2 : Nat) ^ 64 = 18446744073709551616 := by decide
  omega
theorem or64 {a b : Nat} (ha : a < 2 ^ 64) (hb : b < 2 ^ 64) : bits .or .u64 (a : Int) (b : Int) = ((a ||| b : Nat) : Int) ∧ a ||| b < 2 ^ 64 := by
  have hlt : a ||| b < 2 ^ 64 := Nat.or_lt_two_pow ha hb
  refine ⟨?_, hlt⟩
  unfold bits
  have e : (BitVec.ofInt IntKind.u64.bits (a : Int) ||| BitVec.ofInt IntKind.u64.bits (b : Int)).toNat = a ||| b := by
    rw [BitVec.toNat_or, BitVec.ofInt_natCast, BitVec.ofInt_natCast, BitVec.toNat_ofNat, BitVec.toNat_ofNat]
    rw [Nat.mod_eq_of_lt (show a < 2 ^ IntKind.u64.bits from ha), Nat.mod_eq_of_lt (show b < 2 ^ IntKind.u64.bits from hb)]
  simp only []
  rw [show (BitVec.ofInt IntKind.u64.bits (a : Int) ||| BitVec.ofInt IntKind.u64.bits (b : Int)).toNat = a ||| b from e]
  rw [IntKind.wrap_u64]
  have : (2 : Nat) ^ 64 = 18446744073709551616 := by decide
  omega
theorem mk64 : (9259542123273814144 : Nat) < 2 ^ 64 := by decide
theorem asc1 {l : List Int} (hr : ∀ i, i < 8 → InR .u8 (l.getD i default)) (h : bits .and .u64 (wd8 l) 9259542123273814144 = 0) : ∀ i, i < 8 → l.getD i default < 128 := by
  obtain ⟨n, e, hn, k⟩ := hi8 hr
  rw [e, show (9259542123273814144 : Int) = ((9259542123273814144 : Nat) : Int) from rfl, and64 hn mk64] at h
  exact k (by omega)
theorem asc2 {l m : List Int} (hl : ∀ i, i < 8 → InR .u8 (l.getD i default)) (hm : ∀ i, i < 8 → InR .u8 (m.getD i default)) (h : bits .and .u64 (bits .or .u64 (wd8 l) (wd8 m)) 9259542123273814144 = 0) :
    (∀ i, i < 8 → l.getD i default < 128) ∧ (∀ i, i < 8 → m.getD i default < 128) := by
  obtain ⟨n, e, hn, k⟩ := hi8 hl
  obtain ⟨n', e', hn', k'⟩ := hi8 hm
  obtain ⟨o1, o2⟩ := or64 hn hn'
  rw [e, e', o1, show (9259542123273814144 : Int) = ((9259542123273814144 : Nat) : Int) from rfl, and64 o2 mk64] at h
  have h2 := (Lib.or_mask n n' 9259542123273814144).1 (by omega)
  exact ⟨k h2.1, k' h2.2⟩
theorem asc4 {l m p q : List Int} (hl : ∀ i, i < 8 → InR .u8 (l.getD i default)) (hm : ∀ i, i < 8 → InR .u8 (m.getD i default)) (hp : ∀ i, i < 8 → InR .u8 (p.getD i default)) (hq : ∀ i, i < 8 → InR .u8 (q.getD i default))
    (h : bits .and .u64 (bits .or .u64 (bits .or .u64 (wd8 l) (wd8 m)) (bits .or .u64 (wd8 p) (wd8 q))) 9259542123273814144 = 0) :
    ((∀ i, i < 8 → l.getD i default < 128) ∧ (∀ i, i < 8 → m.getD i default < 128)) ∧ ((∀ i, i < 8 → p.getD i default < 128) ∧ (∀ i, i < 8 → q.getD i default < 128)) := by
  obtain ⟨n1, e1, g1, k1⟩ := hi8 hl
  obtain ⟨n2, e2, g2, k2⟩ := hi8 hm
  obtain ⟨n3, e3, g3, k3⟩ := hi8 hp
  obtain ⟨n4, e4, g4, k4⟩ := hi8 hq
  obtain ⟨a1, a2⟩ := or64 g1 g2
  obtain ⟨b1, b2⟩ := or64 g3 g4
  obtain ⟨c1, c2⟩ := or64 a2 b2
  rw [e1, e2, e3, e4, a1, b1, c1, show (9259542123273814144 : Int) = ((9259542123273814144 : Nat) : Int) from rfl, and64 c2 mk64] at h
  have h2 := (Lib.or_mask _ _ _).1 (show ((n1 ||| n2) ||| (n3 ||| n4)) &&& 9259542123273814144 = 0 by omega)
  have h3 := (Lib.or_mask _ _ _).1 h2.1
  have h4 := (Lib.or_mask _ _ _).1 h2.2
  exact ⟨⟨k1 h3.1, k2 h3.2⟩, ⟨k3 h4.1, k4 h4.2⟩⟩
theorem okAsc8 {l : List Int} (h : 8 ≤ l.length) (k : ∀ i, i < 8 → l.getD i default < 128) : valid (l.drop 8) = valid l := okAsc h k
end Utf
theorem Sl.tail {α : Type} {m : Nat} {F : El α} {H : Heap} {v : Value} {l : List α} {lo : Nat} (hs : Sl m F H v l) (h : lo ≤ l.length) : Sl m F H (subV m v lo l.length) (l.drop lo) := by
  have := hs.sub (lo := lo) (hi := l.length) h (Nat.le_refl _)
  rwa [List.take_length] at this
theorem Sl.r8 {H : Heap} {v : Value} {l : List Int} (hs : Sl 1 (EInt .u8) H v l) (h : 8 ≤ l.length) : ∀ i, i < 8 → InR .u8 (l.getD i default) := fun i hi => (hs.int i (by omega)).2
end Go.Proofs.YtnbdadjomnpcgaaDoor
