/- gabelleref13.in, Of: what each answers of any opcode; nothing that was there is changed. No condition. -/
import Derived.Test.YtokidabnjodglaaCostOf
namespace Go.Proofs.Ytokidabnjodglaa
open Go.RowKit
set_option linter.unusedVariables false

/-- is it in one of so many ranges? -/
def hit (op : Int) (f : Nat → Int) : Nat → Bool
  | 0 => false
  | k + 1 => hit op f k || (decide (f (2 * k) ≤ op) && decide (op ≤ f (2 * k + 1)))
theorem hit_up (op : Int) (f : Nat → Int) {k m : Nat} (h : hit op f k = true) (hm : k ≤ m) : hit op f m = true := by
  induction m with
  | zero => have : k = 0 := by omega
            subst this; exact h
  | succ m ih =>
    by_cases e : k = m + 1
    · rw [← e]; exact h
    · rw [hit, ih (by omega)]; rfl

set_option maxRecDepth 100000 in
set_option maxHeartbeats 1000000 in
theorem refIn_any (op : Int) (b off m : Nat) (hm : m ≤ 1000) (f : Nat → Int) (w : World) (hc : ∀ j, j < 2 * m → w.cell? ⟨b, off + j, none⟩ = some (.int .u8 (f j))) :
    Calls Try.prog 21 #[.int .u8 op, .slice (some ⟨b, off, none⟩) (2 * m) (2 * m)] w fun e w' => e = .returned (.bool (hit op f m)) ∧ Below w.heap.size w w' := by
  have HC := Lib.hid hc
  clear hc
  go_enter Try.func21, Try.ntmps21
  go_wp2
  go_loopw [5] (fun i wr => ∃ k : Nat, k ≤ m ∧ i = .int .i64 ((2 * k : Nat) : Int) ∧ wr = w ∧ hit op f k = false) (fun i _ => 2 * m - (intOf i).toNat)
  case atStart => exact ⟨0, by omega, rfl, rfl, rfl⟩
  case round =>
    obtain ⟨k, hk, rfl, rfl, hh⟩ := hrel
    have HH := Lib.hid hh
    clear hh
    by_cases hlt : 2 * k < 2 * m
    · have c0 := HC.out (2 * k) hlt
      have c1 := HC.out (2 * k + 1) (by omega)
      by_cases h1 : f (2 * k) ≤ op
      · by_cases h2 : op ≤ f (2 * k + 1)
        · go_wp2
          go_ret
          exact ⟨retB (hit_up op f (k := k + 1) (by rw [hit, HH.out, decide_eq_true h1, decide_eq_true h2]; rfl) (by omega)).symm, Below.refl _ _⟩
        · have H2 := Lib.hid h2
          have h2' : decide (op ≤ f (2 * k + 1)) = false := decide_eq_false h2
          clear h2
          go_wp2
          go_roundw
          case rel => exact ⟨k + 1, by omega, by go_num, trivial, by rw [hit, HH.out, h2']; simp⟩
          case measure => simp [intOf]; omega
      · have h1' : decide (f (2 * k) ≤ op) = false := decide_eq_false h1
        go_wp2
        go_roundw
        case rel => exact ⟨k + 1, by omega, by go_num, trivial, by rw [hit, HH.out, h1']; simp⟩
        case measure => simp [intOf]; omega
    · go_wp2
      go_ret
      exact ⟨retB (by rw [show m = k by omega]; exact HH.out.symm), Below.refl _ _⟩

-- behind 'in'
def rng1 (j : Nat) : Int := [40, 41, 44, 55, 58, 62].getD j 0
theorem rng1_at (j : Nat) (hj : j < 2 * 3) : (#[Value.int .u8 40, Value.int .u8 41, Value.int .u8 44, Value.int .u8 55, Value.int .u8 58, Value.int .u8 62] : Array Value)[j]? = some (.int .u8 (rng1 j)) := by
  match j, hj with
  | 0, _ => rfl
  | 1, _ => rfl
  | 2, _ => rfl
  | 3, _ => rfl
  | 4, _ => rfl
  | 5, _ => rfl
  | n + 6, h => exact absurd h (by omega)
def rng2 (j : Nat) : Int := [0, 1, 26, 27, 32, 36, 63, 63, 65, 66, 69, 90, 103, 138, 167, 167, 172, 173].getD j 0
theorem rng2_at (j : Nat) (hj : j < 2 * 9) : (#[Value.int .u8 0, Value.int .u8 1, Value.int .u8 26, Value.int .u8 27, Value.int .u8 32, Value.int .u8 36, Value.int .u8 63, Value.int .u8 63, Value.int .u8 65, Value.int .u8 66, Value.int .u8 69, Value.int .u8 90, Value.int .u8 103, Value.int .u8 138, Value.int .u8 167, Value.int .u8 167, Value.int .u8 172, Value.int .u8 173] : Array Value)[j]? = some (.int .u8 (rng2 j)) := by
  match j, hj with
  | 0, _ => rfl
  | 1, _ => rfl
  | 2, _ => rfl
  | 3, _ => rfl
  | 4, _ => rfl
  | 5, _ => rfl
  | 6, _ => rfl
  | 7, _ => rfl
  | 8, _ => rfl
  | 9, _ => rfl
  | 10, _ => rfl
  | 11, _ => rfl
  | 12, _ => rfl
  | 13, _ => rfl
  | 14, _ => rfl
  | 15, _ => rfl
  | 16, _ => rfl
  | 17, _ => rfl
  | n + 18, h => exact absurd h (by omega)
theorem cells_of_lit {w : World} {g : Nat} {A : Array Value} {t : TypeId} {f : Nat → Int} {m : Nat} (hA : ∀ j, j < 2 * m → A[j]? = some (.int .u8 (f j))) (hg : g = w.heap.size) (j : Nat) (hj : j < 2 * m) :
    (w.alloc (.cells A t)).cell? ⟨g, 0 + j, none⟩ = some (.int .u8 (f j)) := by
  subst hg
  rw [cell_of_row _ _ _ _ _ (0, 0) (heap_alloc_new w _), Nat.zero_add]; exact hA j hj
set_option maxRecDepth 100000 in
set_option maxHeartbeats 1000000 in
theorem refOf_lit2 (a b c v : Value) (w : World) : Calls Try.prog 15 #[.agg #[.int .u8 2, a, b, c, v]] w fun e w' => e = .returned (.int .u64 0) ∧ Below w.heap.size w w' := by
  go_enter Try.func15, Try.ntmps15
  go_wp2
  go_ret
  exact ⟨rfl, (Below.refl _ _).alloc (Nat.le_refl _) _⟩
set_option maxRecDepth 100000 in
set_option maxHeartbeats 1000000 in
theorem refOf_lit3 (a b c v : Value) (w : World) : Calls Try.prog 15 #[.agg #[.int .u8 3, a, b, c, v]] w fun e w' => e = .returned (.int .u64 0) ∧ Below w.heap.size w w' := by
  go_enter Try.func15, Try.ntmps15
  go_wp2
  go_ret
  exact ⟨rfl, (Below.refl _ _).alloc (Nat.le_refl _) _⟩
set_option maxRecDepth 100000 in
set_option maxHeartbeats 1000000 in
theorem refOf_lit5 (a b c v : Value) (w : World) : Calls Try.prog 15 #[.agg #[.int .u8 5, a, b, c, v]] w fun e w' => e = .returned (.int .u64 0) ∧ Below w.heap.size w w' := by
  go_enter Try.func15, Try.ntmps15
  go_wp2
  go_ret
  exact ⟨rfl, (Below.refl _ _).alloc (Nat.le_refl _) _⟩
set_option maxRecDepth 100000 in
set_option maxHeartbeats 1000000 in
theorem refOf_lit11 (a b c v : Value) (w : World) : Calls Try.prog 15 #[.agg #[.int .u8 11, a, b, c, v]] w fun e w' => e = .returned (.int .u64 0) ∧ Below w.heap.size w w' := by
  go_enter Try.func15, Try.ntmps15
  go_wp2
  go_ret
  exact ⟨rfl, (Below.refl _ _).alloc (Nat.le_refl _) _⟩
set_option maxRecDepth 100000 in
set_option maxHeartbeats 1000000 in
theorem refOf_lit4 (a b c v : Value) (w : World) : Calls Try.prog 15 #[.agg #[.int .u8 4, a, b, c, v]] w fun e w' => e = .returned (.int .u64 2) ∧ Below w.heap.size w w' := by
  go_enter Try.func15, Try.ntmps15
  go_wp2
  go_ret
  exact ⟨rfl, (Below.refl _ _).alloc (Nat.le_refl _) _⟩
set_option maxRecDepth 100000 in
set_option maxHeartbeats 1000000 in
theorem refOf_lit12 (a b c v : Value) (w : World) : Calls Try.prog 15 #[.agg #[.int .u8 12, a, b, c, v]] w fun e w' => e = .returned (.int .u64 2) ∧ Below w.heap.size w w' := by
  go_enter Try.func15, Try.ntmps15
  go_wp2
  go_ret
  exact ⟨rfl, (Below.refl _ _).alloc (Nat.le_refl _) _⟩
set_option maxRecDepth 100000 in
set_option maxHeartbeats 1000000 in
theorem refOf_lit13 (a b c v : Value) (w : World) : Calls Try.prog 15 #[.agg #[.int .u8 13, a, b, c, v]] w fun e w' => e = .returned (.int .u64 2) ∧ Below w.heap.size w w' := by
  go_enter Try.func15, Try.ntmps15
  go_wp2
  go_ret
  exact ⟨rfl, (Below.refl _ _).alloc (Nat.le_refl _) _⟩
set_option maxRecDepth 100000 in
set_option maxHeartbeats 1000000 in
theorem refOf_lit15 (a b c v : Value) (w : World) : Calls Try.prog 15 #[.agg #[.int .u8 15, a, b, c, v]] w fun e w' => e = .returned (.int .u64 2) ∧ Below w.heap.size w w' := by
  go_enter Try.func15, Try.ntmps15
  go_wp2
  go_ret
  exact ⟨rfl, (Below.refl _ _).alloc (Nat.le_refl _) _⟩
set_option maxRecDepth 100000 in
set_option maxHeartbeats 1000000 in
theorem refOf_lit108 (a b c v : Value) (w : World) : Calls Try.prog 15 #[.agg #[.int .u8 108, a, b, c, v]] w fun e w' => e = .returned (.int .u64 2) ∧ Below w.heap.size w w' := by
  go_enter Try.func15, Try.ntmps15
  go_wp2
  go_ret
  exact ⟨rfl, (Below.refl _ _).alloc (Nat.le_refl _) _⟩
set_option maxRecDepth 100000 in
set_option maxHeartbeats 1000000 in
theorem refOf_lit126 (a b c v : Value) (w : World) : Calls Try.prog 15 #[.agg #[.int .u8 126, a, b, c, v]] w fun e w' => e = .returned (.int .u64 2) ∧ Below w.heap.size w w' := by
  go_enter Try.func15, Try.ntmps15
  go_wp2
  go_ret
  exact ⟨rfl, (Below.refl _ _).alloc (Nat.le_refl _) _⟩
set_option maxRecDepth 100000 in
set_option maxHeartbeats 1000000 in
theorem refOf_lit14 (a b c v : Value) (w : World) : Calls Try.prog 15 #[.agg #[.int .u8 14, a, b, c, v]] w fun e w' => e = .returned (.int .u64 3) ∧ Below w.heap.size w w' := by
  go_enter Try.func15, Try.ntmps15
  go_wp2
  go_ret
  exact ⟨rfl, (Below.refl _ _).alloc (Nat.le_refl _) _⟩
set_option maxRecDepth 100000 in
set_option maxHeartbeats 1000000 in
theorem refOf_lit16 (a b c v : Value) (w : World) : Calls Try.prog 15 #[.agg #[.int .u8 16, a, b, c, v]] w fun e w' => e = .returned (.int .u64 8) ∧ Below w.heap.size w w' := by
  go_enter Try.func15, Try.ntmps15
  go_wp2
  go_ret
  exact ⟨rfl, (Below.refl _ _).alloc (Nat.le_refl _) _⟩
set_option maxRecDepth 100000 in
set_option maxHeartbeats 1000000 in
theorem refOf_lit17 (a b c v : Value) (w : World) : Calls Try.prog 15 #[.agg #[.int .u8 17, a, b, c, v]] w fun e w' => e = .returned (.int .u64 10) ∧ Below w.heap.size w w' := by
  go_enter Try.func15, Try.ntmps15
  go_wp2
  go_ret
  exact ⟨rfl, (Below.refl _ _).alloc (Nat.le_refl _) _⟩
set_option maxRecDepth 100000 in
set_option maxHeartbeats 1000000 in
theorem refOf_lit64 (a b c v : Value) (w : World) : Calls Try.prog 15 #[.agg #[.int .u8 64, a, b, c, v]] w fun e w' => e = .returned (.int .u64 20) ∧ Below w.heap.size w w' := by
  go_enter Try.func15, Try.ntmps15
  go_wp2
  go_ret
  exact ⟨rfl, (Below.refl _ _).alloc (Nat.le_refl _) _⟩
set_option maxRecDepth 100000 in
set_option maxHeartbeats 1000000 in
theorem refOf_lit109 (a b c v : Value) (w : World) : Calls Try.prog 15 #[.agg #[.int .u8 109, a, b, c, v]] w fun e w' => e = .returned (.int .u64 5) ∧ Below w.heap.size w w' := by
  go_enter Try.func15, Try.ntmps15
  go_wp2
  go_ret
  exact ⟨rfl, (Below.refl _ _).alloc (Nat.le_refl _) _⟩
set_option maxRecDepth 100000 in
set_option maxHeartbeats 1000000 in
theorem refOf_lit110 (a b c v : Value) (w : World) : Calls Try.prog 15 #[.agg #[.int .u8 110, a, b, c, v]] w fun e w' => e = .returned (.int .u64 5) ∧ Below w.heap.size w w' := by
  go_enter Try.func15, Try.ntmps15
  go_wp2
  go_ret
  exact ⟨rfl, (Below.refl _ _).alloc (Nat.le_refl _) _⟩
set_option maxRecDepth 100000 in
set_option maxHeartbeats 1000000 in
theorem refOf_lit111 (a b c v : Value) (w : World) : Calls Try.prog 15 #[.agg #[.int .u8 111, a, b, c, v]] w fun e w' => e = .returned (.int .u64 5) ∧ Below w.heap.size w w' := by
  go_enter Try.func15, Try.ntmps15
  go_wp2
  go_ret
  exact ⟨rfl, (Below.refl _ _).alloc (Nat.le_refl _) _⟩
set_option maxRecDepth 100000 in
set_option maxHeartbeats 1000000 in
theorem refOf_lit112 (a b c v : Value) (w : World) : Calls Try.prog 15 #[.agg #[.int .u8 112, a, b, c, v]] w fun e w' => e = .returned (.int .u64 5) ∧ Below w.heap.size w w' := by
  go_enter Try.func15, Try.ntmps15
  go_wp2
  go_ret
  exact ⟨rfl, (Below.refl _ _).alloc (Nat.le_refl _) _⟩
set_option maxRecDepth 100000 in
set_option maxHeartbeats 1000000 in
theorem refOf_lit127 (a b c v : Value) (w : World) : Calls Try.prog 15 #[.agg #[.int .u8 127, a, b, c, v]] w fun e w' => e = .returned (.int .u64 5) ∧ Below w.heap.size w w' := by
  go_enter Try.func15, Try.ntmps15
  go_wp2
  go_ret
  exact ⟨rfl, (Below.refl _ _).alloc (Nat.le_refl _) _⟩
set_option maxRecDepth 100000 in
set_option maxHeartbeats 1000000 in
theorem refOf_lit128 (a b c v : Value) (w : World) : Calls Try.prog 15 #[.agg #[.int .u8 128, a, b, c, v]] w fun e w' => e = .returned (.int .u64 5) ∧ Below w.heap.size w w' := by
  go_enter Try.func15, Try.ntmps15
  go_wp2
  go_ret
  exact ⟨rfl, (Below.refl _ _).alloc (Nat.le_refl _) _⟩
set_option maxRecDepth 100000 in
set_option maxHeartbeats 1000000 in
theorem refOf_lit129 (a b c v : Value) (w : World) : Calls Try.prog 15 #[.agg #[.int .u8 129, a, b, c, v]] w fun e w' => e = .returned (.int .u64 5) ∧ Below w.heap.size w w' := by
  go_enter Try.func15, Try.ntmps15
  go_wp2
  go_ret
  exact ⟨rfl, (Below.refl _ _).alloc (Nat.le_refl _) _⟩
set_option maxRecDepth 100000 in
set_option maxHeartbeats 1000000 in
theorem refOf_lit130 (a b c v : Value) (w : World) : Calls Try.prog 15 #[.agg #[.int .u8 130, a, b, c, v]] w fun e w' => e = .returned (.int .u64 5) ∧ Below w.heap.size w w' := by
  go_enter Try.func15, Try.ntmps15
  go_wp2
  go_ret
  exact ⟨rfl, (Below.refl _ _).alloc (Nat.le_refl _) _⟩

end Go.Proofs.Ytokidabnjodglaa
