/- LebAppends: the law's walk. No condition. -/
import Derived.Test.YtikbioakngkogaaLebKnown
import Derived.Test.YtikbioakngkogaaLebFew
import Derived.Test.YtikbioakngkogaaRoom
import Derived.Test.YtikbioakngkogaaOrders
namespace Go.Proofs.Ytikbioakngkogaa
open Go.RowKit
set_option linter.unusedVariables false

/-- what each of the last line's operations comes to -/
def Vals (vu vs vb : Value) (x : Int) (l u s : List UInt8) (i : Nat) (v : Value) (w : World) : Prop :=
  match i with
  | 0 => v = vu
  | 1 => v = .string ⟨(l ++ u).toArray⟩
  | 2 => v = vb
  | 3 => v = .string ⟨l.toArray⟩
  | 4 => v = .int .u64 x
  | 5 => IsBs w v u
  | 6 => v = .string ⟨u.toArray⟩
  | 7 => v = .string ⟨(l ++ u).toArray⟩
  | 8 => v = .bool true
  | 9 => v = .bool true
  | 10 => v = vs
  | 11 => v = .string ⟨(l ++ s).toArray⟩
  | 12 => v = vb
  | 13 => v = .string ⟨l.toArray⟩
  | 14 => v = .int .u64 x
  | 15 => IsBs w v s
  | 16 => v = .string ⟨s.toArray⟩
  | 17 => v = .string ⟨(l ++ s).toArray⟩
  | _ => v = .bool true

theorem Vals_mono (vu vs vb : Value) (x : Int) (l u s : List UInt8) (j : Nat) (v : Value) (w w' : World) (hb : Below w.heap.size w w') (h : Vals vu vs vb x l u s j v w) : Vals vu vs vb x l u s j v w' := by
  unfold Vals at *
  split at h <;> first | exact h | exact h.below hb (Nat.le_refl _)

theorem run_add_lists {P : Program} (w : World) (t : TypeId) (x y : Operand) (a b : List UInt8) (ha : a.length ≤ 1000000) (hb : b.length ≤ 1000000) :
    Sem.run P (do eqGuard BinOp.add t x y (Value.string ⟨a.toArray⟩) (Value.string ⟨b.toArray⟩); binOp BinOp.add t (Value.string ⟨a.toArray⟩) (Value.string ⟨b.toArray⟩)) w = .ok (.string ⟨(a ++ b).toArray⟩) w := by
  have := run_string_add_lists (P := P) w a b (by omega) (by omega)
  simp [eqGuard, binOp, this]

theorem run_eql_same {P : Program} (w : World) (t : TypeId) (x y : Operand) (a : ByteArray) :
    Sem.run P (do eqGuard BinOp.eql t x y (Value.string a) (Value.string a); binOp BinOp.eql t (Value.string a) (Value.string a)) w = .ok (.bool true) w := by
  simp [eqGuard, binOp_string_eql]

theorem few_call {V : Nat → Value → World → Prop} {W w : World} {i : Nat} {f : FuncId} {args : Array Value} {l : List UInt8} (hC : Below W.heap.size W w) (h : Calls Try.prog f args w fun e w' => ∃ v', e = .returned v' ∧ Fresh w w' v' l) (hV : V i = fun v w => IsBs w v l) (hm : ∀ j u w w', Below w.heap.size w w' → V j u w → V j u w') :
    Calls Try.prog f args w fun e w'' => ∃ v, e = .returned v ∧ V i v w'' ∧ Below W.heap.size W w'' ∧ ∀ j u, V j u w → V j u w'' := by
  refine h.mono ?_
  rintro e w' ⟨v, rfl, hf⟩
  refine ⟨v, rfl, by rw [hV]; exact hf.is, hC.trans (hf.2.mono hC.size), fun j u => hm j u _ _ hf.2⟩

set_option maxRecDepth 100000 in
set_option maxHeartbeats 2000000 in
theorem LebAppends_walk (v : Value) (l : List UInt8) (x : Int) (w : World) (hv : IsBs w v l) (h0 : 0 ≤ x) (h1 : x < 18446744073709551616) :
    Calls Try.prog 4 #[v, .int .u64 x] w fun e w' => e = .returned (.bool true) ∧ Below w.heap.size w w' := by
  have hv0 := hv
  obtain ⟨a, cap, rfl, hs⟩ := hv
  have HV := Lib.hid hv0
  clear hv0 hs
  by_cases hl : 1000 < l.length
  · go_enter Try.func4, Try.ntmps4
    go_wp2_with fail
    refine (known_any _).mono ?_
    rintro e w1 ⟨rfl, hb⟩
    go_wp2_with fail
    go_ret
    exact ⟨rfl, hb⟩
  · obtain ⟨z, hz⟩ : ∃ z, Uns true (2 ^ 64) x z := ⟨_, h0, by rw [show (2 : Int) ^ 64 = 18446744073709551616 by decide]; exact h1, rfl⟩
    have huf : Uns false (2 ^ 64) x x := ⟨h0, by rw [show (2 : Int) ^ 64 = 18446744073709551616 by decide]; exact h1, by simp⟩
    have hzw : wrap64 x = z ∧ -9223372036854775808 ≤ z ∧ z < 9223372036854775808 := by
      obtain ⟨a1, a2, a3⟩ := hz
      rw [show (2 : Int) ^ 64 = 18446744073709551616 by decide] at a2 a3
      unfold wrap64
      simp at a3
      split at a3 <;> omega
    have HZ := Lib.hid hz; have HU := Lib.hid huf; have HW := Lib.hid hzw
    clear hz huf hzw
    go_enter Try.func4, Try.ntmps4
    go_wp2_with fail
    refine (known_any _).mono ?_
    rintro e w1 ⟨rfl, hb1⟩
    have H1 := Lib.hid (HV.out.below hb1 (Nat.le_refl _))
    go_wp2_with (first
      | (at_make; refine make8 rfl _ _ rfl _ _ _ _ (l.length + 20) rfl rfl (by omega) (by omega) (by omega) (by omega) ?_; intro w2 hk2 hb2 hz2)
      | (at_builtin; refine appRoom rfl _ _ rfl w1.heap.size 0 (l.length + 20) _ hk2 (by simp) rfl _ l rfl (H1.out.below hb2 (Nat.le_refl _)) (by simp) (by simp; omega) ?_; intro w3 hk3 hb3 hz3))
    have hk3' : Blk w3 w1.heap.size (l ++ List.replicate 20 0) := by simpa using hk3
    have K3 := Lib.hid hk3'
    clear hk3 hk3' hk2
    have hb13 := hb2.trans hb3
    have hb14 := hb1.trans (hb13.mono hb1.size)
    have hz13 : w3.heap.size = w1.heap.size + 1 := by omega
    have i3 : IsBs w3 (.slice (some ⟨w1.heap.size, 0, none⟩) l.length (l.length + 20)) l := by
      have := K3.out.is l.length (by simp) (by simp; omega)
      simpa using this
    have i3a := (H1.out.below hb13 (Nat.le_refl _))
    have I3 := Lib.hid i3; have I3a := Lib.hid i3a; have B14 := Lib.hid hb14
    clear i3 i3a hb14 hb1 hb13 hb2 hb3 hz2 hz3
    refine (AppendU_any _ l x _ I3.out (by omega) h0 h1).mono ?_
    rintro e w4 ⟨v4, rfl, f4⟩
    have F4 := Lib.hid f4; clear f4
    go_wp2_with fail
    rw [HW.out.1]
    refine (AppendS_any _ l z _ (I3.out.below F4.out.2 (Nat.le_refl _)) (by omega) HW.out.2.1 HW.out.2.2).mono ?_
    rintro e w5 ⟨v5, rfl, f5⟩
    have F5 := Lib.hid f5; clear f5
    have hb35 := F4.out.2.trans (F5.out.2.mono F4.out.2.size)
    have hk5 : Blk w5 w1.heap.size (l ++ List.replicate 20 0) := K3.out.below hb35 (Nat.le_refl _)
    have K5 := Lib.hid hk5; have B35 := Lib.hid hb35
    have B15 := Lib.hid (B14.out.trans (hb35.mono B14.out.size))
    clear hk5 hb35
    go_wp2_with fail
    go_loop [39] (fun i => ∃ k : Nat, k ≤ 20 ∧ i = .int .i64 k) (fun i => 20 - (intOf i).toNat)
    case atStart => exact ⟨0, by omega, rfl⟩
    case round =>
      obtain ⟨k, hk, rfl⟩ := hrel
      by_cases hlt : k < 20
      · have hc : w5.cell? ⟨w1.heap.size, l.length + k, none⟩ = some (.int .u8 0) := by
          rw [K5.out.cell, List.getElem?_append_right (by omega), List.getElem?_replicate]
          rw [if_pos (by omega)]; rfl
        go_wp2
        go_round
        case rel => exact ⟨k + 1, by omega, by go_num⟩
        case measure => simp [intOf]; omega
      · go_wp2_with fail
        have A4 := Lib.hid (F4.out.is.below F5.out.2 (Nat.le_refl _))
        have A5 := Lib.hid F5.out.is
        have A0 := Lib.hid (I3a.out.below B35.out (Nat.le_refl _))
        have L6 := Lib.hid (show (Leb.ap false 10 x).length ≤ 10 by rw [Leb.ap_digs false 9 x HU.out.fit, Leb.digs_length]; exact Leb.need_le false 10 x)
        have L7 := Lib.hid (show (Leb.ap true 10 z).length ≤ 10 by rw [Leb.ap_digs true 9 z HZ.out.fit, Leb.digs_length]; exact Leb.need_le true 10 z)
        refine Ord.wp_region_vals (by kernel_rfl) (by kernel_rfl) (Vals v4 v5 (.slice a l.length cap) x l (Leb.ap false 10 x) (Leb.ap true 10 z)) (fun w' => Below w5.heap.size w5 w') (Below.refl _ _).drew ?_ ?_
        · intro i hi
          have I4 := A4; have I5 := A5; have I0 := A0
          match i, hi with
          | 0, _ =>
            refine Ord.does_of _ rfl rfl (.inl rfl) fun ρ w hk => ?_
            exact ⟨hk.old 6 (by kernel_rfl), hk.cls, fun _ _ h => h⟩
          | 1, _ =>
            refine Ord.does_of _ rfl rfl (.inl rfl) fun ρ w hk => ?_
            have h0 : ρ (.tmp 46) = _ := hk.val 0 (by kernel_rfl)
            exact Ord.upon_v (by rw [h0]; exact str_of (I4.out.below hk.cls (Nat.le_refl _))) rfl hk.cls
          | 2, _ =>
            refine Ord.does_of _ rfl rfl (.inl rfl) fun ρ w hk => ?_
            exact ⟨hk.old 0 (by kernel_rfl), hk.cls, fun _ _ h => h⟩
          | 3, _ =>
            refine Ord.does_of _ rfl rfl (.inl rfl) fun ρ w hk => ?_
            have h0 : ρ (.tmp 48) = _ := hk.val 2 (by kernel_rfl)
            exact Ord.upon_v (by rw [h0]; exact str_of (I0.out.below hk.cls (Nat.le_refl _))) rfl hk.cls
          | 4, _ =>
            refine Ord.does_of _ rfl rfl (.inl rfl) fun ρ w hk => ?_
            exact ⟨hk.old 1 (by kernel_rfl), hk.cls, fun _ _ h => h⟩
          | 5, _ =>
            refine Ord.does_of _ rfl rfl (.inl rfl) fun ρ w hk => ?_
            have h0 : ρ (.tmp 50) = .int .u64 x := hk.val 4 (by kernel_rfl)
            have h1 := hk.func 13
            have h2 := hk.const (.bool false)
            simp [execOp, resolve, invoke, h0, h1, h2, go_sem]
            exact ⟨rfl, few_call hk.cls (Fewest_any x x false w HU.out) rfl (Vals_mono _ _ _ _ _ _ _)⟩
          | 6, _ =>
            refine Ord.does_of _ rfl rfl (.inl rfl) fun ρ w hk => ?_
            have h0 : IsBs w (ρ (.tmp 51)) _ := hk.val 5 (by kernel_rfl)
            exact Ord.upon_v (str_of h0) rfl hk.cls
          | 7, _ =>
            refine Ord.does_of _ rfl rfl (.inl rfl) fun ρ w hk => ?_
            have h0 : ρ (.tmp 49) = _ := hk.val 3 (by kernel_rfl)
            have h1 : ρ (.tmp 52) = _ := hk.val 6 (by kernel_rfl)
            refine Ord.upon_v (v := .string ⟨(l ++ Leb.ap false 10 x).toArray⟩) ?_ rfl hk.cls
            simp only [h0, h1]
            exact run_add_lists w _ _ _ _ _ (by omega) (by have := L6.out; omega)
          | 8, _ =>
            refine Ord.does_of _ rfl rfl (.inl rfl) fun ρ w hk => ?_
            have h0 : ρ (.tmp 47) = _ := hk.val 1 (by kernel_rfl)
            have h1 : ρ (.tmp 53) = _ := hk.val 7 (by kernel_rfl)
            refine Ord.upon_v (v := .bool true) ?_ rfl hk.cls
            simp only [h0, h1]
            exact run_eql_same w _ _ _ _
          | 9, _ =>
            refine Ord.does_of _ rfl rfl (.inl rfl) fun ρ w hk => ?_
            exact ⟨hk.val 8 (by kernel_rfl), hk.cls, fun _ _ h => h⟩
          | 10, _ =>
            refine Ord.does_of _ rfl rfl (.inr ⟨9, true, rfl, by kernel_rfl, rfl, fun _ _ h => h⟩) fun ρ w hk => ?_
            exact ⟨hk.old 7 (by kernel_rfl), hk.cls, fun _ _ h => h⟩
          | 11, _ =>
            refine Ord.does_of _ rfl rfl (.inr ⟨9, true, rfl, by kernel_rfl, rfl, fun _ _ h => h⟩) fun ρ w hk => ?_
            have h0 : ρ (.tmp 56) = _ := hk.val 10 (by kernel_rfl)
            exact Ord.upon_v (by rw [h0]; exact str_of (I5.out.below hk.cls (Nat.le_refl _))) rfl hk.cls
          | 12, _ =>
            refine Ord.does_of _ rfl rfl (.inr ⟨9, true, rfl, by kernel_rfl, rfl, fun _ _ h => h⟩) fun ρ w hk => ?_
            exact ⟨hk.old 0 (by kernel_rfl), hk.cls, fun _ _ h => h⟩
          | 13, _ =>
            refine Ord.does_of _ rfl rfl (.inr ⟨9, true, rfl, by kernel_rfl, rfl, fun _ _ h => h⟩) fun ρ w hk => ?_
            have h0 : ρ (.tmp 58) = _ := hk.val 12 (by kernel_rfl)
            exact Ord.upon_v (by rw [h0]; exact str_of (I0.out.below hk.cls (Nat.le_refl _))) rfl hk.cls
          | 14, _ =>
            refine Ord.does_of _ rfl rfl (.inr ⟨9, true, rfl, by kernel_rfl, rfl, fun _ _ h => h⟩) fun ρ w hk => ?_
            exact ⟨hk.old 1 (by kernel_rfl), hk.cls, fun _ _ h => h⟩
          | 15, _ =>
            refine Ord.does_of _ rfl rfl (.inr ⟨9, true, rfl, by kernel_rfl, rfl, fun _ _ h => h⟩) fun ρ w hk => ?_
            have h0 : ρ (.tmp 60) = .int .u64 x := hk.val 14 (by kernel_rfl)
            have h1 := hk.func 13
            have h2 := hk.const (.bool true)
            simp [execOp, resolve, invoke, h0, h1, h2, go_sem]
            exact ⟨rfl, few_call hk.cls (Fewest_any x z true w HZ.out) rfl (Vals_mono _ _ _ _ _ _ _)⟩
          | 16, _ =>
            refine Ord.does_of _ rfl rfl (.inr ⟨9, true, rfl, by kernel_rfl, rfl, fun _ _ h => h⟩) fun ρ w hk => ?_
            have h0 : IsBs w (ρ (.tmp 61)) _ := hk.val 15 (by kernel_rfl)
            exact Ord.upon_v (str_of h0) rfl hk.cls
          | 17, _ =>
            refine Ord.does_of _ rfl rfl (.inr ⟨9, true, rfl, by kernel_rfl, rfl, fun _ _ h => h⟩) fun ρ w hk => ?_
            have h0 : ρ (.tmp 59) = _ := hk.val 13 (by kernel_rfl)
            have h1 : ρ (.tmp 62) = _ := hk.val 16 (by kernel_rfl)
            refine Ord.upon_v (v := .string ⟨(l ++ Leb.ap true 10 z).toArray⟩) ?_ rfl hk.cls
            simp only [h0, h1]
            exact run_add_lists w _ _ _ _ _ (by omega) (by have := L7.out; omega)
          | 18, _ =>
            refine Ord.does_of _ rfl rfl (.inr ⟨9, true, rfl, by kernel_rfl, rfl, fun _ _ h => h⟩) fun ρ w hk => ?_
            have h0 : ρ (.tmp 57) = _ := hk.val 11 (by kernel_rfl)
            have h1 : ρ (.tmp 63) = _ := hk.val 17 (by kernel_rfl)
            refine Ord.upon_v (v := .bool true) ?_ rfl hk.cls
            simp only [h0, h1]
            exact run_eql_same w _ _ _ _
          | 19, _ =>
            refine Ord.does_of _ rfl rfl (.inl rfl) fun ρ w hk => ?_
            have h0 : ρ (.tmp 55) = _ := hk.val 9 (by kernel_rfl)
            have h1 : ρ (.tmp 64) = _ := hk.val 18 (by kernel_rfl)
            simp [execOp, h0, h1, go_sem]
            exact ⟨rfl, hk.cls, fun _ _ h => h⟩
          | 20, _ =>
            refine Ord.does_of _ rfl rfl (.inl rfl) fun ρ w hk => ?_
            exact ⟨hk.val 19 (by kernel_rfl), hk.cls, fun _ _ h => h⟩
          | n + 21, h => exact absurd h (by simp)
        · intro a' w' hC hd _ _ hV
          have hv : a'.tmps.getD 4 undef = .bool true := hV 20 (by decide)
          go_wp2_with fail
          exact bodyPost_ret (v := .bool true) (by rw [results_tmp rfl, hv]) hd ⟨rfl, B15.out.trans (hC.mono B15.out.size)⟩
end Go.Proofs.Ytikbioakngkogaa
