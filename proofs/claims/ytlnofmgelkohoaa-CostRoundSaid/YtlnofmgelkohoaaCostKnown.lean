/- gabellelaw13.known: true; nothing that was there is changed. No condition. -/
import Derived.Test.YtlnofmgelkohoaaCostSum
import Derived.Test.YtlnofmgelkohoaaOrders
namespace Go.Proofs.Ytlnofmgelkohoaa
open Go.RowKit
set_option linter.unusedVariables false

def kop (k : Nat) : Int := [1, 66, 11, 3, 130, 108, 62, 16].getD k 0
def kn (k : Nat) : Int := [1, 1, 0, 0, 5, 2, 3, 8].getD k 0
theorem kop_of (k : Nat) (h : k < 8) : Cost.of (kop k) = kn k ∧ 0 ≤ kop k ∧ kop k < 256 := by
  have H : ∀ k : Fin 8, Cost.of (kop k.1) = kn k.1 ∧ 0 ≤ kop k.1 ∧ kop k.1 < 256 := by decide +kernel
  exact H ⟨k, h⟩

def krow : Array Value := #[Value.int .u8 1, Value.int .u64 1, Value.int .u8 66, Value.int .u64 1,
          Value.int .u8 11, Value.int .u64 0, Value.int .u8 3, Value.int .u64 0,
          Value.int .u8 130, Value.int .u64 5, Value.int .u8 108, Value.int .u64 2,
          Value.int .u8 62, Value.int .u64 3, Value.int .u8 16, Value.int .u64 8]
theorem krow_at (k : Nat) (h : k < 8) : krow[k * 2]? = some (.int .u8 (kop k)) ∧ krow[k * 2 + 1]? = some (.int .u64 (kn k)) := by
  match k, h with
  | 0, _ => exact ⟨rfl, rfl⟩
  | 1, _ => exact ⟨rfl, rfl⟩
  | 2, _ => exact ⟨rfl, rfl⟩
  | 3, _ => exact ⟨rfl, rfl⟩
  | 4, _ => exact ⟨rfl, rfl⟩
  | 5, _ => exact ⟨rfl, rfl⟩
  | 6, _ => exact ⟨rfl, rfl⟩
  | 7, _ => exact ⟨rfl, rfl⟩
  | n + 8, h => exact absurd h (by omega)

set_option maxRecDepth 100000 in
set_option maxHeartbeats 4000000 in
theorem known_any (w : World) : Calls Try.prog 5 #[] w fun e w' => e = .returned (.bool true) ∧ Below w.heap.size w w' := by
  have hr : (w.alloc (Obj.cells krow 34)).heap[w.heap.size]? = some (.cells krow 34 (0, 0)) := heap_alloc_new w _
  have hbw : Below w.heap.size w (w.alloc (Obj.cells krow 34)) := (Below.refl _ _).alloc (Nat.le_refl _) _
  have hzw : (w.alloc (Obj.cells krow 34)).heap.size = w.heap.size + 1 := by simp
  unfold krow at hr hbw hzw
  have HR := Lib.hid hr
  have HBW := Lib.hid hbw
  clear hr hbw
  go_enter Try.func5, Try.ntmps5
  go_wp2
  generalize w.alloc (Obj.cells _ 34) = w1 at *
  go_loopw [13] (fun i wr => ∃ k : Nat, k ≤ 8 ∧ i = .int .i64 k ∧ Below (w.heap.size + 1) w1 wr) (fun i _ => 8 - (intOf i).toNat)
  case atStart => exact ⟨0, by omega, rfl, Below.refl _ _⟩
  case round =>
    obtain ⟨k, hk, rfl, hb⟩ := hrel
    by_cases hlt : k < 8
    · have hrow : wr.heap[w.heap.size]? = some (.cells krow 34 (0, 0)) := (hb.block _ (by omega)).trans HR.out
      have hka := krow_at k hlt
      have c0 : wr.cell? ⟨w.heap.size, k * 2, none⟩ = some (.int .u8 (kop k)) := by rw [cell_of_row _ _ _ _ _ (0, 0) hrow]; exact hka.1
      have c1 : wr.cell? ⟨w.heap.size, k * 2 + 1, none⟩ = some (.int .u64 (kn k)) := by rw [cell_of_row _ _ _ _ _ (0, 0) hrow]; exact hka.2
      have hko := kop_of k hlt
      have HB := Lib.hid hb
      clear hrow hka hb
      generalize kop k = op at *
      generalize kn k = n at *
      have HKO := Lib.hid hko
      clear hko
      go_wp2_with fail
      have hd : Below wr.heap.size wr (wr.alloc (Obj.cells #[Value.int .u8 op, Value.int .u64 n] 34)) := (Below.refl _ _).alloc (Nat.le_refl _) _
      have hz2 : (wr.alloc (Obj.cells #[Value.int .u8 op, Value.int .u64 n] 34)).heap.size = wr.heap.size + 1 := by simp
      have hx := heap_alloc_new wr (Obj.cells #[Value.int .u8 op, Value.int .u64 n] 34)
      generalize wr.alloc (Obj.cells #[Value.int .u8 op, Value.int .u64 n] 34) = w2 at *
      refine Ord.wp_region_fix [.pointer (some ⟨wr.heap.size, 0, none⟩), .int .u8 op, .agg #[.int .u8 op, .int .u32 0, .int .u32 0, .int .i64 0, .slice none 0 0], .int .u64 n, .pointer (some ⟨wr.heap.size, 1, none⟩), .int .u64 n, .bool false]
        (fun w' => Below (wr.heap.size + 1) w2 w') [(17, .pointer (some ⟨wr.heap.size, 0, none⟩)), (18, .int .u8 op), (19, .agg #[.int .u8 op, .int .u32 0, .int .u32 0, .int .i64 0, .slice none 0 0]), (20, .int .u64 n), (21, .pointer (some ⟨wr.heap.size, 1, none⟩)), (22, .int .u64 n), (23, .bool false)] (by kernel_rfl) (by kernel_rfl) (by rfl) (Below.refl _ _).drew ?_ ?_
      · intro i hi
        have HX : ∀ w', Below (wr.heap.size + 1) w2 w' → w'.cell? ⟨wr.heap.size, 0, none⟩ = some (.int .u8 op) ∧ w'.cell? ⟨wr.heap.size, 1, none⟩ = some (.int .u64 n) := by
          intro w' hb
          have := (hb.block wr.heap.size (by omega)).trans hx
          exact ⟨by rw [cell_of_row _ _ _ _ _ (0, 0) this]; rfl, by rw [cell_of_row _ _ _ _ _ (0, 0) this]; rfl⟩
        clear c0 c1
        match i, hi with
        | 0, _ =>
          refine Ord.does_of _ rfl rfl (.inl rfl) fun ρ w hk => ?_
          have h0 : ρ (.tmp 2) = .pointer (some ⟨wr.heap.size, 0, none⟩) := hk.old 2 (by kernel_rfl)
          simp [execOp, h0, go_sem]
          exact ⟨rfl, hk.cls, fun _ _ h => h⟩
        | 1, _ =>
          refine Ord.does_of _ rfl rfl (.inl rfl) fun ρ w hk => ?_
          have h0 : ρ (.tmp 17) = .pointer (some ⟨wr.heap.size, 0, none⟩) := hk.val 0 (by kernel_rfl)
          have hc := (HX w hk.cls).1
          simp [execOp, h0, go_sem, hc]
          exact ⟨rfl, hk.cls, fun _ _ h => h⟩
        | 2, _ =>
          refine Ord.does_of _ rfl rfl (.inl rfl) fun ρ w hk => ?_
          have h0 : ρ (.tmp 18) = .int .u8 op := hk.val 1 (by kernel_rfl)
          simp [execOp, h0, go_sem]
          exact ⟨rfl, hk.cls, fun _ _ h => h⟩
        | 3, _ =>
          refine Ord.does_of _ rfl rfl (.inl rfl) fun ρ w hk => ?_
          have h0 : ρ (.tmp 19) = .agg #[.int .u8 op, .int .u32 0, .int .u32 0, .int .i64 0, .slice none 0 0] := hk.val 2 (by kernel_rfl)
          have h1 := hk.func 7
          simp [execOp, resolve, invoke, h0, h1, go_sem]
          exact ⟨rfl, Ord.fix_call (by omega) hk.cls (by have := Of_any op (.int .u32 0) (.int .u32 0) (.int .i64 0) (.slice none 0 0) w HKO.out.2.1 HKO.out.2.2; rw [HKO.out.1] at this; exact this) rfl⟩
        | 4, _ =>
          refine Ord.does_of _ rfl rfl (.inl rfl) fun ρ w hk => ?_
          have h0 : ρ (.tmp 2) = .pointer (some ⟨wr.heap.size, 0, none⟩) := hk.old 2 (by kernel_rfl)
          simp [execOp, h0, go_sem]
          exact ⟨rfl, hk.cls, fun _ _ h => h⟩
        | 5, _ =>
          refine Ord.does_of _ rfl rfl (.inl rfl) fun ρ w hk => ?_
          have h0 : ρ (.tmp 21) = .pointer (some ⟨wr.heap.size, 1, none⟩) := hk.val 4 (by kernel_rfl)
          have hc := (HX w hk.cls).2
          simp [execOp, h0, go_sem, hc]
          exact ⟨rfl, hk.cls, fun _ _ h => h⟩
        | 6, _ =>
          refine Ord.does_of _ rfl rfl (.inl rfl) fun ρ w hk => ?_
          have h0 : ρ (.tmp 20) = .int .u64 n := hk.val 3 (by kernel_rfl)
          have h1 : ρ (.tmp 22) = .int .u64 n := hk.val 5 (by kernel_rfl)
          simp [execOp, h0, h1, go_sem]
          exact ⟨rfl, hk.cls, fun _ _ h => h⟩
        | n + 7, h => exact absurd h (by simp)
      · intro w3 hb3
        simp only [Ord.putAll, List.foldl, Act.put, List.setIfInBounds_toArray, List.set_cons_succ, List.set_cons_zero]
        go_wp2
        go_roundw
        case rel => exact ⟨k + 1, by omega, by go_num, HB.out.trans ((hd.mono (by have := HB.out.size; omega)).trans (hb3.mono (by have := HB.out.size; omega)))⟩
        case measure => simp [intOf]; omega
    · have HB := Lib.hid hb
      clear hb
      go_wp2_with fail
      refine (Sum_any _ [] (by simp) wr (Sl.nil _ _ _)).mono ?_
      rintro e w9 ⟨rfl, b9⟩
      go_wp2
      go_ret
      exact ⟨rfl, HBW.out.trans ((HB.out.mono (by omega)).trans (b9.mono (by have := HB.out.size; omega)))⟩
end Go.Proofs.Ytlnofmgelkohoaa
