/- CostTells: the law's walk. No condition. -/
import Derived.Test.YtlnofmgelkohoaaCostKnown
import Derived.Test.YtlnofmgelkohoaaCostRefOf
namespace Go.Proofs.Ytlnofmgelkohoaa
open Go.RowKit
set_option linter.unusedVariables false

set_option maxRecDepth 100000 in
set_option maxHeartbeats 4000000 in
theorem CostTells_walk (op a b c : Int) (ua : Option Addr) (un uc : Nat) (v : Value) (l : List Ins) (w : World) (h0 : 0 ≤ op) (h1 : op < 256) (hv : IsIns w v l) :
    Calls Try.prog 3 #[.agg #[.int .u8 op, .int .u32 a, .int .u32 b, .int .i64 c, .slice ua un uc], v] w fun e w' => e = .returned (.bool true) ∧ Below w.heap.size w w' := by
  have HV := Lib.hid hv
  obtain ⟨la, cap, rfl, hc1, hc2, hc3⟩ := hv
  clear hc3
  have hd : Below w.heap.size w (w.alloc (Obj.cells #[Value.int .u8 op, Value.int .u32 a, Value.int .u32 b, Value.int .i64 c, Value.slice ua un uc] 25)) := (Below.refl _ _).alloc (Nat.le_refl _) _
  have hz : (w.alloc (Obj.cells #[Value.int .u8 op, Value.int .u32 a, Value.int .u32 b, Value.int .i64 c, Value.slice ua un uc] 25)).heap.size = w.heap.size + 1 := by simp
  have hx := heap_alloc_new w (Obj.cells #[Value.int .u8 op, Value.int .u32 a, Value.int .u32 b, Value.int .i64 c, Value.slice ua un uc] 25)
  have HD := Lib.hid hd; have HXX := Lib.hid hx
  clear hd hx
  by_cases hl : 2000 < l.length
  · go_enter Try.func3, Try.ntmps3
    go_wp2_with fail
    generalize w.alloc (Obj.cells #[Value.int .u8 op, Value.int .u32 a, Value.int .u32 b, Value.int .i64 c, Value.slice ua un uc] 25) = w1 at *
    refine (known_any _).mono ?_
    rintro e w2 ⟨rfl, hb⟩
    go_wp2_with fail
    go_ret
    exact ⟨rfl, HD.out.trans (hb.mono (by omega))⟩
  · go_enter Try.func3, Try.ntmps3
    go_wp2_with fail
    generalize w.alloc (Obj.cells #[Value.int .u8 op, Value.int .u32 a, Value.int .u32 b, Value.int .i64 c, Value.slice ua un uc] 25) = w1 at *
    refine (known_any _).mono ?_
    rintro e w2 ⟨rfl, hb⟩
    have HB := Lib.hid hb
    have hz2 := hb.size
    clear hb
    go_wp2_with fail
    go_loopw [5, 15] (fun n i wr => ∃ k : Nat, k ≤ l.length ∧ i = .int .i64 k ∧ n = .int .u64 (Cost.sum l k) ∧ Below w2.heap.size w2 wr) (fun _ i _ => l.length - (intOf i).toNat)
    case atStart => exact ⟨0, by omega, rfl, rfl, Below.refl _ _⟩
    case round =>
      obtain ⟨k, hk, rfl, rfl, hb⟩ := hrel
      have hs := Cost.sum_le l k
      have hwr : Below w.heap.size w wr := HD.out.trans ((HB.out.mono (by omega)).trans (hb.mono (by omega)))
      have HWR := Lib.hid hwr
      by_cases hlt : k < l.length
      · obtain ⟨b1, off, x, xv, rfl, hx, hop, hv, c0, c1, c2, c3, c4⟩ := IsIns.at (HV.out.old keeps_ins (Old.of_below hwr (Nat.le_refl _))) k hlt
        obtain ⟨xa, xc, rfl, -, -, -⟩ := hv
        have hs2 := Cost.sum_le l (k + 1)
        have hof := Cost.of_le x.op
        have HB2 := Lib.hid hb
        clear hb hwr
        go_wp2_with (first | (go_at_call 6; refine (refOf_any _ _ _ _ _ _ hop.1 hop.2).mono ?_; rintro e w9 ⟨rfl, b9⟩))
        go_roundw
        case rel =>
          have hg : l.getD k default = x := by rw [List.getD_eq_getElem?_getD, hx.out]; rfl
          have hd : Below wr.heap.size wr (wr.alloc (Obj.cells #[Value.int .u8 x.op, Value.int .u32 x.a, Value.int .u32 x.b, Value.int .i64 x.c, Value.slice xa x.l.length xc] 25)) := (Below.refl _ _).alloc (Nat.le_refl _) _
          have hd9 := hd.trans (b9.mono hd.size)
          exact ⟨k + 1, by omega, by go_num, by show _ = Value.int .u64 (Cost.sum l k + Cost.of (l.getD k default).op); rw [hg], HB2.out.trans (hd9.mono HB2.out.size)⟩
        case measure => simp [intOf]; omega
      · have hx' := (hb.block w.heap.size (by omega)).trans ((HB.out.block w.heap.size (by omega)).trans HXX.out)
        have hkl : k = l.length := by omega
        have HX' := Lib.hid hx'
        have HB2 := Lib.hid hb
        clear hb hwr hx'
        go_wp2_with fail
        have HC : ∀ w', Below wr.heap.size wr w' → w'.cell? ⟨w.heap.size, 0, none⟩ = some (.int .u8 op) ∧ w'.cell? ⟨w.heap.size, 1, none⟩ = some (.int .u32 a) ∧ w'.cell? ⟨w.heap.size, 2, none⟩ = some (.int .u32 b) ∧ w'.cell? ⟨w.heap.size, 3, none⟩ = some (.int .i64 c) ∧ w'.cell? ⟨w.heap.size, 4, none⟩ = some (.slice ua un uc) := by
          intro w' hb
          have hs := HB.out.size
          have ht := HB2.out.size
          have := (hb.block w.heap.size (by omega)).trans HX'.out
          exact ⟨by rw [cell_of_row _ _ _ _ _ (0, 0) this]; rfl, by rw [cell_of_row _ _ _ _ _ (0, 0) this]; rfl, by rw [cell_of_row _ _ _ _ _ (0, 0) this]; rfl, by rw [cell_of_row _ _ _ _ _ (0, 0) this]; rfl, by rw [cell_of_row _ _ _ _ _ (0, 0) this]; rfl⟩
        refine Ord.wp_region_fix [.agg #[.int .u8 op, .int .u32 a, .int .u32 b, .int .i64 c, .slice ua un uc], .int .u64 (Cost.of op), .agg #[.int .u8 op, .int .u32 a, .int .u32 b, .int .i64 c, .slice ua un uc], .int .u64 (Cost.of op), .bool true, .bool true, .slice la l.length cap, .int .u64 (Cost.sum l l.length), .int .u64 (Cost.sum l k), .bool true, .bool true, .bool true]
          (fun w' => Below wr.heap.size wr w') [(24, .agg #[.int .u8 op, .int .u32 a, .int .u32 b, .int .i64 c, .slice ua un uc]), (25, .int .u64 (Cost.of op)), (26, .agg #[.int .u8 op, .int .u32 a, .int .u32 b, .int .i64 c, .slice ua un uc]), (27, .int .u64 (Cost.of op)), (28, .bool true), (29, .bool true), (30, .slice la l.length cap), (31, .int .u64 (Cost.sum l l.length)), (32, .int .u64 (Cost.sum l k)), (33, .bool true), (34, .bool true), (4, .bool true)] (by kernel_rfl) (by kernel_rfl) (by rfl) ((Below.refl _ _).drew) ?_ ?_
        · intro i hi
          match i, hi with
          | 0, _ =>
            refine Ord.does_of _ rfl rfl (.inl rfl) fun ρ wq hk => ?_
            have q0 : ρ (.tmp 2) = .pointer (some ⟨w.heap.size, 0, none⟩) := hk.old 2 (by kernel_rfl)
            obtain ⟨e0, e1, e2, e3, e4⟩ := HC wq hk.cls
            simp [execOp, q0, go_sem, e0, e1, e2, e3, e4]
            exact ⟨rfl, hk.cls, fun _ _ h => h⟩
          | 1, _ =>
            refine Ord.does_of _ rfl rfl (.inl rfl) fun ρ wq hk => ?_
            have q0 : ρ (.tmp 24) = .agg #[.int .u8 op, .int .u32 a, .int .u32 b, .int .i64 c, .slice ua un uc] := hk.val 0 (by kernel_rfl)
            have hf := hk.func 7
            simp [execOp, resolve, invoke, hf, q0, go_sem]
            exact ⟨rfl, Ord.fix_call (Nat.le_refl _) hk.cls (Of_any _ _ _ _ _ wq h0 h1) rfl⟩
          | 2, _ =>
            refine Ord.does_of _ rfl rfl (.inl rfl) fun ρ wq hk => ?_
            have q0 : ρ (.tmp 2) = .pointer (some ⟨w.heap.size, 0, none⟩) := hk.old 2 (by kernel_rfl)
            obtain ⟨e0, e1, e2, e3, e4⟩ := HC wq hk.cls
            simp [execOp, q0, go_sem, e0, e1, e2, e3, e4]
            exact ⟨rfl, hk.cls, fun _ _ h => h⟩
          | 3, _ =>
            refine Ord.does_of _ rfl rfl (.inl rfl) fun ρ wq hk => ?_
            have q0 : ρ (.tmp 26) = .agg #[.int .u8 op, .int .u32 a, .int .u32 b, .int .i64 c, .slice ua un uc] := hk.val 2 (by kernel_rfl)
            have hf := hk.func 6
            simp [execOp, resolve, invoke, hf, q0, go_sem]
            exact ⟨rfl, Ord.fix_call (Nat.le_refl _) hk.cls (refOf_any _ _ _ _ _ wq h0 h1) rfl⟩
          | 4, _ =>
            refine Ord.does_of _ rfl rfl (.inl rfl) fun ρ wq hk => ?_
            have q0 : ρ (.tmp 25) = .int .u64 (Cost.of op) := hk.val 1 (by kernel_rfl)
            have q1 : ρ (.tmp 27) = .int .u64 (Cost.of op) := hk.val 3 (by kernel_rfl)
            simp [execOp, q0, q1, go_sem]
            exact ⟨rfl, hk.cls, fun _ _ h => h⟩
          | 5, _ =>
            refine Ord.does_of _ rfl rfl (.inl rfl) fun ρ wq hk => ?_
            have q0 : ρ (.tmp 28) = .bool true := hk.val 4 (by kernel_rfl)
            exact ⟨q0, hk.cls, fun _ _ h => h⟩
          | 6, _ =>
            refine Ord.does_of _ rfl rfl (.inr ⟨5, true, rfl, by kernel_rfl, rfl, fun _ _ h => h⟩) fun ρ wq hk => ?_
            have q0 : ρ (.tmp 1) = .slice la l.length cap := hk.old 1 (by kernel_rfl)
            exact ⟨q0, hk.cls, fun _ _ h => h⟩
          | 7, _ =>
            refine Ord.does_of _ rfl rfl (.inr ⟨5, true, rfl, by kernel_rfl, rfl, fun _ _ h => h⟩) fun ρ wq hk => ?_
            have q0 : ρ (.tmp 30) = .slice la l.length cap := hk.val 6 (by kernel_rfl)
            have hf := hk.func 8
            simp [execOp, resolve, invoke, hf, q0, go_sem]
            exact ⟨rfl, Ord.fix_call (Nat.le_refl _) hk.cls (Sum_any _ l (by omega) wq (HV.out.old keeps_ins (Old.of_below (HWR.out.trans (hk.cls.mono HWR.out.size)) (Nat.le_refl _)))) rfl⟩
          | 8, _ =>
            refine Ord.does_of _ rfl rfl (.inr ⟨5, true, rfl, by kernel_rfl, rfl, fun _ _ h => h⟩) fun ρ wq hk => ?_
            have q0 : ρ (.tmp 5) = .int .u64 (Cost.sum l k) := hk.old 5 (by kernel_rfl)
            exact ⟨q0, hk.cls, fun _ _ h => h⟩
          | 9, _ =>
            refine Ord.does_of _ rfl rfl (.inr ⟨5, true, rfl, by kernel_rfl, rfl, fun _ _ h => h⟩) fun ρ wq hk => ?_
            have q0 : ρ (.tmp 31) = .int .u64 (Cost.sum l l.length) := hk.val 7 (by kernel_rfl)
            have q1 : ρ (.tmp 32) = .int .u64 (Cost.sum l k) := hk.val 8 (by kernel_rfl)
            simp [execOp, q0, q1, go_sem, hkl]
            exact ⟨rfl, hk.cls, fun _ _ h => h⟩
          | 10, _ =>
            refine Ord.does_of _ rfl rfl (.inl rfl) fun ρ wq hk => ?_
            have q0 : ρ (.tmp 29) = .bool true := hk.val 5 (by kernel_rfl)
            have q1 : ρ (.tmp 33) = .bool true := hk.val 9 (by kernel_rfl)
            simp [execOp, q0, q1, go_sem]
            exact ⟨rfl, hk.cls, fun _ _ h => h⟩
          | 11, _ =>
            refine Ord.does_of _ rfl rfl (.inl rfl) fun ρ wq hk => ?_
            have q0 : ρ (.tmp 34) = .bool true := hk.val 10 (by kernel_rfl)
            exact ⟨q0, hk.cls, fun _ _ h => h⟩
          | n + 12, h => exact absurd h (by simp)
        · intro w3 hb3
          simp only [Ord.putAll, List.foldl, Act.put, List.setIfInBounds_toArray, List.set_cons_succ, List.set_cons_zero]
          go_wp2
          go_ret
          exact ⟨rfl, HWR.out.trans (hb3.mono HWR.out.size)⟩
end Go.Proofs.Ytlnofmgelkohoaa
