/- leb.AppendU and leb.AppendS: a new slice of the bytes ahead and the number's fewest bytes; nothing that was there is changed. Condition: at most a million bytes ahead. -/
import Derived.Test.YtnjodpgahbpiaaaMem
import Derived.Test.YtnjodpgahbpiaaaLebPlain
namespace Go.Proofs.Ytnjodpgahbpiaaa
open Go.RowKit

theorem or128 (z : Int) : bits BinOp.or IntKind.u8 (z % 256) 128 = ((UInt8.ofNat ((z % 128).toNat + 128)).toNat : Int) := by
  obtain ⟨m, hm⟩ : ∃ m : Nat, z % 256 = m := ⟨(z % 256).toNat, by omega⟩
  rw [Leb.toNat_hi, hm, show (128 : Int) = ((128 : Nat) : Int) from rfl, u8_or_nat m 128 (by omega) (by omega)]
  have h : ∀ m, m < 256 → m ||| 128 = m % 128 + 128 := by decide +kernel
  rw [h m (by omega)]; omega
theorem and127 (z : Int) : bits BinOp.and IntKind.u8 (z % 256) 127 = ((UInt8.ofNat (z % 128).toNat).toNat : Int) := by
  obtain ⟨m, hm⟩ : ∃ m : Nat, z % 256 = m := ⟨(z % 256).toNat, by omega⟩
  rw [Leb.toNat_lo, hm, show (127 : Int) = ((127 : Nat) : Int) from rfl, u8_and_nat m 127 (by omega) (by omega), nat_mask7]; omega
theorem low7 (z : Int) (h : 0 ≤ z) (h1 : z < 128) : z = ((UInt8.ofNat (z % 128).toNat).toNat : Int) := by rw [Leb.toNat_lo]; omega

theorem ap_step {sg : Bool} {f : Nat} {z : Int} (h : Leb.small sg z = false) : Leb.ap sg (f + 1) z = UInt8.ofNat ((z % 128).toNat + 128) :: Leb.ap sg f (z / 128) := by rw [Leb.ap, if_neg (by simp [h])]
theorem ap_last {sg : Bool} {f : Nat} {z : Int} (h : Leb.small sg z = true) : Leb.ap sg (f + 1) z = [UInt8.ofNat (z % 128).toNat] := by rw [Leb.ap, if_pos h]

/-- what has been laid, and what is left to lay -/
def Laying (sg : Bool) (l : List UInt8) (z : Int) (k : Nat) (y : Int) (l' : List UInt8) : Prop :=
  k ≤ 9 ∧ Leb.fit7 sg (10 - k) y ∧ l' ++ Leb.ap sg (10 - k) y = l ++ Leb.ap sg 10 z ∧ l'.length = l.length + k

theorem Laying.step {sg : Bool} {l : List UInt8} {z : Int} {k : Nat} {y : Int} {l' : List UInt8} (h : Laying sg l z k y l') (hs : Leb.small sg y = false) :
    Laying sg l z (k + 1) (y / 128) (l' ++ [UInt8.ofNat ((y % 128).toNat + 128)]) := by
  obtain ⟨h1, h2, h3, h4⟩ := h
  obtain ⟨f, hf⟩ : ∃ f, 10 - k = f + 1 := ⟨9 - k, by omega⟩
  rw [hf] at h2 h3
  have h5 : f ≠ 0 := by
    intro e; subst e
    rw [(Leb.small_iff (Leb.fit7_nonneg h2)).2 h2] at hs; cases hs
  rw [ap_step hs] at h3
  rw [Leb.fit7_succ _ _ _ (by omega)] at h2
  refine ⟨by omega, ?_, ?_, by simp; omega⟩
  · rw [show 10 - (k + 1) = f from by omega]; exact h2
  · rw [show 10 - (k + 1) = f from by omega, List.append_assoc]; exact h3

theorem Laying.last {sg : Bool} {l : List UInt8} {z : Int} {k : Nat} {y : Int} {l' : List UInt8} (h : Laying sg l z k y l') (hs : Leb.small sg y = true) :
    l' ++ [UInt8.ofNat (y % 128).toNat] = l ++ Leb.ap sg 10 z := by
  obtain ⟨h1, h2, h3, h4⟩ := h
  obtain ⟨f, hf⟩ : ∃ f, 10 - k = f + 1 := ⟨9 - k, by omega⟩
  rw [hf, ap_last hs] at h3; exact h3

/-- a new slice that reads as l, of the call's own -/
def Fresh (w w' : World) (v : Value) (l : List UInt8) : Prop := w'.ownsRow w.heap.size 5 1 v l.length (l.map B8) ∧ Below w.heap.size w w'

theorem Fresh.is {w w' : World} {v : Value} {l : List UInt8} (h : Fresh w w' v l) : IsBs w' v l := IsBs.own h.1

set_option maxRecDepth 100000 in
set_option maxHeartbeats 400000 in
theorem AppendU_any (v : Value) (l : List UInt8) (z : Int) (w : World) (hv : IsBs w v l) (hl : l.length ≤ 1000000) (h0 : 0 ≤ z) (h1 : z < 18446744073709551616) :
    Calls Try.prog 31 #[v, .int .u64 z] w fun e w' => ∃ v', e = .returned v' ∧ Fresh w w' v' (l ++ Leb.ap false 10 z) := by
  have hst : Laying false l z 0 z l := ⟨by omega, by simp [Leb.fit7]; omega, rfl, rfl⟩
  have HS := Lib.hid hst; clear hst h1
  go_enter Try.func31, Try.ntmps31
  go_wp2_with (at_builtin; refine appS rfl _ _ rfl w.heap.size _ _ [] rfl (ownNil w _) v l rfl hv (by omega) (by omega) ?_; intro v1 w1 hown1 hgrow1)
  go_loopw [1, 5] (fun n' v' wr => ∃ (k : Nat) (y : Int) (l' : List UInt8), 0 ≤ y ∧ n' = .int .u64 y ∧ wr.ownsRow w.heap.size 5 1 v' l'.length (l'.map B8) ∧ Laying false l z k y l' ∧ Below w.heap.size w wr)
    (fun n' _ _ => (intOf n').toNat)
  case atStart => exact ⟨0, z, l, h0, rfl, by simpa using hown1, HS.out, below_grown (Below.refl _ _) hgrow1 (ownNil w _) (by omega)⟩
  case round =>
    obtain ⟨k, y, l', hy, rfl, hown, hlay, hb⟩ := hrel
    have HA := Lib.hid hlay; clear hlay
    have hsz := hb.size
    have hll : l'.length ≤ 1000010 := by have := HA.out.2.2.2; have := HA.out.1; omega
    by_cases hlt : y < 128
    · have HO := Lib.hid (low7 y hy hlt)
      go_wp2_with (at_builtin; refine app1 rfl _ _ rfl w.heap.size _ _ l' rfl hown _ (UInt8.ofNat (y % 128).toNat) HO.out rfl (by omega) hsz ?_; intro v1 w1 hown1 hgrow1)
      go_ret
      refine ⟨_, rfl, ?_, below_grown hb hgrow1 hown hsz⟩
      rw [← HA.out.last (by simp [Leb.small, hlt])]; simpa using hown1
    · have HO := Lib.hid (or128 y)
      go_wp2_with (at_builtin; refine app1 rfl _ _ rfl w.heap.size _ _ l' rfl hown _ (UInt8.ofNat ((y % 128).toNat + 128)) HO.out rfl (by omega) hsz ?_; intro v1 w1 hown1 hgrow1)
      go_roundw
      case rel => exact ⟨k + 1, y / 128, _, by omega, rfl, by simpa using hown1, HA.out.step (by simp [Leb.small, hlt]), below_grown hb hgrow1 hown hsz⟩
      case measure => simp [intOf]; omega

set_option maxRecDepth 100000 in
set_option maxHeartbeats 400000 in
theorem AppendS_any (v : Value) (l : List UInt8) (z : Int) (w : World) (hv : IsBs w v l) (hl : l.length ≤ 1000000) (h0 : -9223372036854775808 ≤ z) (h1 : z < 9223372036854775808) :
    Calls Try.prog 32 #[v, .int .i64 z] w fun e w' => ∃ v', e = .returned v' ∧ Fresh w w' v' (l ++ Leb.ap true 10 z) := by
  have hst : Laying true l z 0 z l := ⟨by omega, by simp [Leb.fit7]; omega, rfl, rfl⟩
  have HS := Lib.hid hst; clear hst h1 h0
  go_enter Try.func32, Try.ntmps32
  go_wp2_with (at_builtin; refine appS rfl _ _ rfl w.heap.size _ _ [] rfl (ownNil w _) v l rfl hv (by omega) (by omega) ?_; intro v1 w1 hown1 hgrow1)
  go_loopw [1, 5] (fun n' v' wr => ∃ (k : Nat) (y : Int) (l' : List UInt8), n' = .int .i64 y ∧ wr.ownsRow w.heap.size 5 1 v' l'.length (l'.map B8) ∧ Laying true l z k y l' ∧ Below w.heap.size w wr)
    (fun n' _ _ => (intOf n').natAbs)
  case atStart => exact ⟨0, z, l, rfl, by simpa using hown1, HS.out, below_grown (Below.refl _ _) hgrow1 (ownNil w _) (by omega)⟩
  case round =>
    obtain ⟨k, y, l', rfl, hown, hlay, hb⟩ := hrel
    have HA := Lib.hid hlay; clear hlay
    have hsz := hb.size
    have hll : l'.length ≤ 1000010 := by have := HA.out.2.2.2; have := HA.out.1; omega
    by_cases hlt : -64 ≤ y
    · by_cases hlt2 : y ≤ 63
      · have HO := Lib.hid (and127 y)
        go_wp2_with (at_builtin; refine app1 rfl _ _ rfl w.heap.size _ _ l' rfl hown _ (UInt8.ofNat (y % 128).toNat) HO.out rfl (by omega) hsz ?_; intro v1 w1 hown1 hgrow1)
        go_ret
        refine ⟨_, rfl, ?_, below_grown hb hgrow1 hown hsz⟩
        rw [← HA.out.last (by simp [Leb.small]; omega)]; simpa using hown1
      · have HO := Lib.hid (or128 y)
        go_wp2_with (at_builtin; refine app1 rfl _ _ rfl w.heap.size _ _ l' rfl hown _ (UInt8.ofNat ((y % 128).toNat + 128)) HO.out rfl (by omega) hsz ?_; intro v1 w1 hown1 hgrow1)
        go_roundw
        case rel => exact ⟨k + 1, y / 128, _, rfl, by simpa using hown1, HA.out.step (by simp [Leb.small]; omega), below_grown hb hgrow1 hown hsz⟩
        case measure => simp [intOf]; omega
    · have HO := Lib.hid (or128 y)
      go_wp2_with (at_builtin; refine app1 rfl _ _ rfl w.heap.size _ _ l' rfl hown _ (UInt8.ofNat ((y % 128).toNat + 128)) HO.out rfl (by omega) hsz ?_; intro v1 w1 hown1 hgrow1)
      go_roundw
      case rel => exact ⟨k + 1, y / 128, _, rfl, by simpa using hown1, HA.out.step (by simp [Leb.small]; omega), below_grown hb hgrow1 hown hsz⟩
      case measure => simp [intOf]; omega

end Go.Proofs.Ytnjodpgahbpiaaa
