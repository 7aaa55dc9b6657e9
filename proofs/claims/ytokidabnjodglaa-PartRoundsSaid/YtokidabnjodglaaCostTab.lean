/- cost.special: the table of the costs that are other than 1. Nothing that was there is changed. No condition. -/
import Derived.Test.YtokidabnjodglaaArr
import Derived.Test.YtokidabnjodglaaOpcK
namespace Go.Proofs.Ytokidabnjodglaa
open Go.RowKit
set_option linter.unusedVariables false

namespace Cost
/-- what the table holds -/
def tab (j : Nat) : Int :=
  if j = 2 ∨ j = 3 ∨ j = 5 ∨ j = 11 then 0 else if j = 4 ∨ j = 12 ∨ j = 13 ∨ j = 15 ∨ j = 108 ∨ j = 126 then 2 else if j = 14 then 3 else if j = 16 then 8 else if j = 17 then 10 else if j = 64 then 20
  else if (109 ≤ j ∧ j ≤ 112) ∨ (127 ≤ j ∧ j ≤ 130) then 5 else 1
end Cost

theorem info256 : (Try.prog.info? 53).map (fun i => i.zero) = some (some (.agg (Array.replicate 256 (.int .u64 0)))) := by kernel_rfl
theorem size256 : (Try.prog.info? 53).map (·.size) = some 256 := by kernel_rfl

theorem und256 : Try.prog.underlying 53 = some (.array 256 29) := by kernel_rfl

/-- the table's block and the result's -/
structure Two (w wr : World) (F : Nat → Int) : Prop where
  tab : Arr wr (w.heap.size + 1) 53 256 (fun j => .int .u64 (F j))
  res : Arr wr w.heap.size 53 256 (fun _ => .int .u64 0)
  below : Below w.heap.size w wr

/-- one more place set -/
def up (F : Nat → Int) (j : Nat) (v : Int) : Nat → Int := fun i => if i = j then v else F i
/-- so many places set, one behind the other -/
def ups (idx : Nat → Nat) (v : Int) (F : Nat → Int) : Nat → (Nat → Int)
  | 0 => F
  | k + 1 => up (ups idx v F k) (idx k) v

theorem Two.set {w wr : World} {F : Nat → Int} (h : Two w wr F) (j : Nat) (hj : j < 256) (v : Int) : Two w (wr.setCell ⟨w.heap.size + 1, j, none⟩ (.int .u64 v)) (up F j v) :=
  ⟨(h.tab.set j hj (.int .u64 v)).congr fun i _ => by unfold up; split <;> rfl, h.res.other _ (by simp) _, h.below.setCell (by simp) _⟩

theorem Two.congr {w wr : World} {F G : Nat → Int} (h : Two w wr F) (he : ∀ j, j < 256 → F j = G j) : Two w wr G :=
  ⟨h.tab.congr fun j hj => by rw [he j hj], h.res, h.below⟩

theorem Two.at {w wr : World} {F : Nat → Int} (h : Two w wr F) (j : Nat) (hj : j < 256) (v : Int) :
    wr.cell? ⟨w.heap.size + 1, j, none⟩ = some (.int .u64 (F j)) ∧ wr.frozen? ⟨w.heap.size + 1, j, none⟩ = false ∧ Hid (Two w (wr.setCell ⟨w.heap.size + 1, j, none⟩ (.int .u64 v)) (up F j v)) :=
  ⟨h.tab.cell j hj, h.tab.free j, Lib.hid (h.set j hj v)⟩

def idx1 (k : Nat) : Nat := [2, 3, 5, 11].getD k 0
theorem idx1_0 (w : World) : (Instr.index 59 (.agg #[.int .u8 2, .int .u8 3, .int .u8 5, .int .u8 11]) (.int .i64 0)).run Try.prog w = .ok (.int .u8 2) w := by kernel_rfl
theorem idx1_1 (w : World) : (Instr.index 59 (.agg #[.int .u8 2, .int .u8 3, .int .u8 5, .int .u8 11]) (.int .i64 1)).run Try.prog w = .ok (.int .u8 3) w := by kernel_rfl
theorem idx1_2 (w : World) : (Instr.index 59 (.agg #[.int .u8 2, .int .u8 3, .int .u8 5, .int .u8 11]) (.int .i64 2)).run Try.prog w = .ok (.int .u8 5) w := by kernel_rfl
theorem idx1_3 (w : World) : (Instr.index 59 (.agg #[.int .u8 2, .int .u8 3, .int .u8 5, .int .u8 11]) (.int .i64 3)).run Try.prog w = .ok (.int .u8 11) w := by kernel_rfl
theorem idx1_at (k : Nat) (h : k < 4) (w : World) : (Instr.index 59 (.agg #[.int .u8 2, .int .u8 3, .int .u8 5, .int .u8 11]) (.int .i64 (k : Int))).run Try.prog w = .ok (.int .u8 ((idx1 k : Nat) : Int)) w := by
  match k, h with
  | 0, _ => exact idx1_0 w
  | 1, _ => exact idx1_1 w
  | 2, _ => exact idx1_2 w
  | 3, _ => exact idx1_3 w
theorem idx1_lt (k : Nat) (h : k < 4) : idx1 k < 256 := by
  match k, h with
  | 0, _ => decide
  | 1, _ => decide
  | 2, _ => decide
  | 3, _ => decide
def idx2 (k : Nat) : Nat := [12, 13, 4, 15].getD k 0
theorem idx2_0 (w : World) : (Instr.index 59 (.agg #[.int .u8 12, .int .u8 13, .int .u8 4, .int .u8 15]) (.int .i64 0)).run Try.prog w = .ok (.int .u8 12) w := by kernel_rfl
theorem idx2_1 (w : World) : (Instr.index 59 (.agg #[.int .u8 12, .int .u8 13, .int .u8 4, .int .u8 15]) (.int .i64 1)).run Try.prog w = .ok (.int .u8 13) w := by kernel_rfl
theorem idx2_2 (w : World) : (Instr.index 59 (.agg #[.int .u8 12, .int .u8 13, .int .u8 4, .int .u8 15]) (.int .i64 2)).run Try.prog w = .ok (.int .u8 4) w := by kernel_rfl
theorem idx2_3 (w : World) : (Instr.index 59 (.agg #[.int .u8 12, .int .u8 13, .int .u8 4, .int .u8 15]) (.int .i64 3)).run Try.prog w = .ok (.int .u8 15) w := by kernel_rfl
theorem idx2_at (k : Nat) (h : k < 4) (w : World) : (Instr.index 59 (.agg #[.int .u8 12, .int .u8 13, .int .u8 4, .int .u8 15]) (.int .i64 (k : Int))).run Try.prog w = .ok (.int .u8 ((idx2 k : Nat) : Int)) w := by
  match k, h with
  | 0, _ => exact idx2_0 w
  | 1, _ => exact idx2_1 w
  | 2, _ => exact idx2_2 w
  | 3, _ => exact idx2_3 w
theorem idx2_lt (k : Nat) (h : k < 4) : idx2 k < 256 := by
  match k, h with
  | 0, _ => decide
  | 1, _ => decide
  | 2, _ => decide
  | 3, _ => decide

/-- where the two runs begin -/
def idx3 (k : Nat) : Nat := [106, 124].getD k 0
/-- so many of a run of fives -/
def five (F : Nat → Int) (o : Nat) : Nat → (Nat → Int)
  | 0 => F
  | i + 1 => up (five F o i) (o + 3 + i) 5
/-- so many of the runs -/
def upB (F : Nat → Int) : Nat → (Nat → Int)
  | 0 => F
  | k + 1 => five (up (upB F k) (idx3 k + 2) 2) (idx3 k) 4
theorem idx3_0 (w : World) : (Instr.index 60 (.agg #[.int .u8 106, .int .u8 124]) (.int .i64 0)).run Try.prog w = .ok (.int .u8 106) w := by kernel_rfl
theorem idx3_1 (w : World) : (Instr.index 60 (.agg #[.int .u8 106, .int .u8 124]) (.int .i64 1)).run Try.prog w = .ok (.int .u8 124) w := by kernel_rfl
theorem idx3_at (k : Nat) (h : k < 2) (w : World) : (Instr.index 60 (.agg #[.int .u8 106, .int .u8 124]) (.int .i64 (k : Int))).run Try.prog w = .ok (.int .u8 ((idx3 k : Nat) : Int)) w := by
  match k, h with
  | 0, _ => exact idx3_0 w
  | 1, _ => exact idx3_1 w
theorem idx3_lt (k : Nat) (h : k < 2) : idx3 k < 126 := by
  match k, h with
  | 0, _ => decide
  | 1, _ => decide
theorem tab_all (j : Nat) (h : j < 256) : upB (up (up (up (up (ups idx2 2 (ups idx1 0 (fun _ => 1) 4) 4) 14 3) 16 8) 17 10) 64 20) 2 j = Cost.tab j := by
  have H : ∀ j : Fin 256, upB (up (up (up (up (ups idx2 2 (ups idx1 0 (fun _ => 1) 4) 4) 14 3) 16 8) 17 10) 64 20) 2 j.1 = Cost.tab j.1 := by decide +kernel
  exact H ⟨j, h⟩
theorem rel1 (k j : Nat) : up (fun j => if j < k then 1 else 0) k 1 j = if j < k + 1 then 1 else 0 := by
  show (if j = k then (1 : Int) else if j < k then 1 else 0) = _
  by_cases h1 : j = k
  · rw [if_pos h1, if_pos (by omega)]
  · rw [if_neg h1]
    by_cases h2 : j < k
    · rw [if_pos h2, if_pos (by omega)]
    · rw [if_neg h2, if_neg (by omega)]

set_option maxRecDepth 100000 in
set_option maxHeartbeats 1000000 in
theorem special_any (w : World) : Calls Try.prog 18 #[] w fun e w' => ∃ cs : Array Value, e = .returned (.agg cs) ∧ cs.size = 256 ∧ (∀ j, j < 256 → cs[j]? = some (.int .u64 (Cost.tab j))) ∧ Below w.heap.size w w' := by
  go_enter Try.func18, Try.ntmps18
  go_wp2_with (first | (with_reducible refine allocArr (w := w) rfl 53 rfl _ 256 info256 ?_; intro w1 h1 b1 z1) | (with_reducible refine allocArr (w := w1) rfl 53 rfl _ 256 info256 ?_; intro w2 h2 b2 z2))
  have ht : Two w w2 (fun _ => 0) := ⟨by rw [z1] at h2; exact h2, h1.below b2 (by omega), b1.trans (b2.mono b1.size)⟩
  have HT := Lib.hid ht
  clear ht h1 b1 z1 h2 b2 z2
  go_loopw [10] (fun i wr => ∃ k : Nat, k ≤ 256 ∧ i = .int .i64 k ∧ Two w wr (fun j => if j < k then 1 else 0)) (fun i _ => 256 - (intOf i).toNat)
  case atStart => exact ⟨0, by omega, rfl, by simpa using HT.out⟩
  case round =>
    obtain ⟨k, hk, rfl, ht⟩ := hrel
    by_cases hlt : k < 256
    · obtain ⟨hc, hf, HS⟩ := ht.at k hlt 1
      clear ht
      go_wp2
      go_roundw
      case rel => exact ⟨k + 1, by omega, by go_num, HS.out.congr fun j hj => rel1 k j⟩
      case measure => simp [intOf]; omega
    · have ht1 : Two w wr (fun _ => 1) := ht.congr fun j hj => if_pos (by omega)
      have HT1 := Lib.hid ht1
      clear ht1 ht
      go_wp2
      go_loopw [17] (fun i wr => ∃ k : Nat, k ≤ 4 ∧ i = .int .i64 k ∧ Two w wr (ups idx1 0 (fun _ => 1) k)) (fun i _ => 4 - (intOf i).toNat)
      case atStart => exact ⟨0, by omega, rfl, HT1.out⟩
      case round =>
        obtain ⟨k, hk, rfl, ht⟩ := hrel
        by_cases hlt : k < 4
        · have hix := idx1_at k hlt
          obtain ⟨hc, hf, HS⟩ := ht.at (idx1 k) (idx1_lt k hlt) 0
          have hlt2 := idx1_lt k hlt
          generalize hj : idx1 k = j at *
          have HJ := Lib.hid hj; clear hj
          clear ht
          go_wp2
          go_roundw
          case rel => exact ⟨k + 1, by omega, by go_num, by rw [ups, HJ.out]; exact HS.out⟩
          case measure => simp [intOf]; omega
        · have HT2 := Lib.hid (show Two w wr (ups idx1 0 (fun _ => 1) 4) by rw [show k = 4 by omega] at ht; exact ht)
          clear ht
          go_wp2
          go_loopw [24] (fun i wr => ∃ k : Nat, k ≤ 4 ∧ i = .int .i64 k ∧ Two w wr (ups idx2 2 (ups idx1 0 (fun _ => 1) 4) k)) (fun i _ => 4 - (intOf i).toNat)
          case atStart => exact ⟨0, by omega, rfl, HT2.out⟩
          case round =>
            obtain ⟨k, hk, rfl, ht⟩ := hrel
            by_cases hlt : k < 4
            · have hix := idx2_at k hlt
              obtain ⟨hc, hf, HS⟩ := ht.at (idx2 k) (idx2_lt k hlt) 2
              have hlt2 := idx2_lt k hlt
              generalize hj : idx2 k = j at *
              have HJ := Lib.hid hj; clear hj
              clear ht
              go_wp2
              go_roundw
              case rel => exact ⟨k + 1, by omega, by go_num, by rw [ups, HJ.out]; exact HS.out⟩
              case measure => simp [intOf]; omega
            · have ht3 : Two w wr (ups idx2 2 (ups idx1 0 (fun _ => 1) 4) 4) := by rw [show k = 4 by omega] at ht; exact ht
              clear ht
              obtain ⟨c1, f1, S1⟩ := ht3.at 14 (by omega) 3
              obtain ⟨c2, f2, S2⟩ := S1.out.at 16 (by omega) 8
              obtain ⟨c3, f3, S3⟩ := S2.out.at 17 (by omega) 10
              obtain ⟨c4, f4, S4⟩ := S3.out.at 64 (by omega) 20
              clear ht3 S1 S2 S3
              go_wp2
              go_loopw [35] (fun i wr => ∃ k : Nat, k ≤ 2 ∧ i = .int .i64 k ∧ Two w wr (upB (up (up (up (up (ups idx2 2 (ups idx1 0 (fun _ => 1) 4) 4) 14 3) 16 8) 17 10) 64 20) k)) (fun i _ => 2 - (intOf i).toNat)
              case atStart => exact ⟨0, by omega, rfl, S4.out⟩
              case round =>
                obtain ⟨k, hk, rfl, ht⟩ := hrel
                by_cases hlt : k < 2
                · have hix := idx3_at k hlt
                  have hlt2 := idx3_lt k hlt
                  obtain ⟨hc, hf, HS⟩ := ht.at (idx3 k + 2) (by omega) 2
                  have hT : idx3 k + 2 < 256 := by omega
                  have hF : upB (up (up (up (up (ups idx2 2 (ups idx1 0 (fun _ => 1) 4) 4) 14 3) 16 8) 17 10) 64 20) (k + 1) = five (up (upB (up (up (up (up (ups idx2 2 (ups idx1 0 (fun _ => 1) 4) 4) 14 3) 16 8) 17 10) 64 20) k) (idx3 k + 2) 2) (idx3 k) 4 := rfl
                  have HF := Lib.hid hF
                  clear hF ht
                  generalize hj : idx3 k = j at *
                  clear hj
                  go_wp2
                  go_loopw [41] (fun i wr => ∃ m : Nat, m ≤ 4 ∧ i = .int .u8 m ∧ Two w wr (five (up (upB (up (up (up (up (ups idx2 2 (ups idx1 0 (fun _ => 1) 4) 4) 14 3) 16 8) 17 10) 64 20) k) (j + 2) 2) j m)) (fun i _ => 4 - (intOf i).toNat)
                  case atStart => exact ⟨0, by omega, rfl, HS.out⟩
                  case round =>
                    obtain ⟨m, hm, rfl, ht⟩ := hrel
                    by_cases hlm : m < 4
                    · obtain ⟨hc, hf, HS⟩ := ht.at (j + 3 + m) (by omega) 5
                      clear ht
                      go_wp2
                      go_roundw
                      case rel => exact ⟨m + 1, by omega, by go_num, HS.out⟩
                      case measure => simp [intOf]; omega
                    · have HT2 := Lib.hid (show Two w wr (five (up (upB (up (up (up (up (ups idx2 2 (ups idx1 0 (fun _ => 1) 4) 4) 14 3) 16 8) 17 10) 64 20) k) (j + 2) 2) j 4) by rw [show m = 4 by omega] at ht; exact ht)
                      clear ht
                      go_wp2
                      go_roundw
                      case rel => exact ⟨k + 1, by omega, by go_num, by rw [HF.out]; exact HT2.out⟩
                      case measure => simp [intOf]; omega
                · have ht5 : Two w wr Cost.tab := by rw [show k = 2 by omega] at ht; exact ht.congr tab_all
                  clear ht
                  have hr0 : w.heap.size < wr.heap.size := ht5.res.lt
                  go_wp2_with (first | (refine loadArr (w := wr) rfl 53 _ rfl (w.heap.size + 1) 256 _ 29 _ rfl ht5.tab und256 size256 ?_; intro cs1 s1 c1) | (refine storeArr (w := wr) rfl 53 _ _ rfl w.heap.size 256 _ _ (fun j => .int .u64 (Cost.tab j)) rfl ht5.res cs1 rfl s1 c1 (fun _ => rfl) size256 ?_; intro w9 h9 b9 z9 o9))
                  obtain ⟨cs2, g9, s2, c2⟩ := h9
                  exact bodyPost_ret (results_cell_row (p := 0) rfl _ _ w.heap.size _ cs2 _ _ rfl g9 und256 rfl (by rw [s2]; exact size256)) rfl ⟨cs2, rfl, s2, c2, ht5.below.trans (b9.mono (by omega))⟩
end Go.Proofs.Ytokidabnjodglaa
