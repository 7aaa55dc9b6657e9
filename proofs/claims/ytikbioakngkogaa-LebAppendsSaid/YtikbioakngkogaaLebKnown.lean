/- The chapter's rows of layer 1 (known): true; nothing that was there is changed. No condition. -/
import Derived.Test.YtikbioakngkogaaLebApp
import Derived.Test.YtikbioakngkogaaLebTake
import Derived.Test.YtikbioakngkogaaStr
namespace Go.Proofs.Ytikbioakngkogaa
open Go.RowKit
set_option linter.unusedVariables false

set_option maxRecDepth 100000 in
theorem TakeU_some (v : Value) (l : List UInt8) (z n : Int) (k : Nat) (w : World) (hv : IsBs w v l) (h : Leb.tk false l z = some (n, k)) :
    Calls Try.prog 8 #[v, .int .i64 z] w fun e w' => e = .returned (.tuple #[.int .u64 n, .int .i64 k, .bool true]) ∧ w = w' := by
  have := TakeU_any v l z w hv
  rw [h] at this; exact this
set_option maxRecDepth 100000 in
theorem TakeU_none (v : Value) (l : List UInt8) (z : Int) (w : World) (hv : IsBs w v l) (h : Leb.tk false l z = none) :
    Calls Try.prog 8 #[v, .int .i64 z] w fun e w' => e = .returned (.tuple #[.int .u64 0, .int .i64 0, .bool false]) ∧ w = w' := by
  have := TakeU_any v l z w hv
  rw [h] at this; exact this
set_option maxRecDepth 100000 in
theorem TakeS_some (v : Value) (l : List UInt8) (z n : Int) (k : Nat) (w : World) (hv : IsBs w v l) (h : Leb.tk true l z = some (n, k)) :
    Calls Try.prog 10 #[v, .int .i64 z] w fun e w' => e = .returned (.tuple #[.int .i64 n, .int .i64 k, .bool true]) ∧ w = w' := by
  have := TakeS_any v l z w hv
  rw [h] at this; exact this
set_option maxRecDepth 100000 in
theorem TakeS_none (v : Value) (l : List UInt8) (z : Int) (w : World) (hv : IsBs w v l) (h : Leb.tk true l z = none) :
    Calls Try.prog 10 #[v, .int .i64 z] w fun e w' => e = .returned (.tuple #[.int .i64 0, .int .i64 0, .bool false]) ∧ w = w' := by
  have := TakeS_any v l z w hv
  rw [h] at this; exact this

theorem TakeU_lit (l : List UInt8) (z n : Int) (k : Nat) (w : World) (cs : Array Value) (t : TypeId) (g m : Nat) (hc : cs = (l.map B8).toArray) (hm : m = l.length) (hg : g = w.heap.size) (hl : l.length ≤ 1000000) (h : Leb.tk false l z = some (n, k)) :
    Calls Try.prog 8 #[.slice (some ⟨g, 0, none⟩) m m, .int .i64 z] (w.alloc (.cells cs t)) fun e w' => e = .returned (.tuple #[.int .u64 n, .int .i64 k, .bool true]) ∧ w.alloc (.cells cs t) = w' :=
  TakeU_some _ l z n k _ (IsBs.lit w l cs m g t hc hm hg hl) h
theorem TakeU_litno (l : List UInt8) (z : Int) (w : World) (cs : Array Value) (t : TypeId) (g m : Nat) (hc : cs = (l.map B8).toArray) (hm : m = l.length) (hg : g = w.heap.size) (hl : l.length ≤ 1000000) (h : Leb.tk false l z = none) :
    Calls Try.prog 8 #[.slice (some ⟨g, 0, none⟩) m m, .int .i64 z] (w.alloc (.cells cs t)) fun e w' => e = .returned (.tuple #[.int .u64 0, .int .i64 0, .bool false]) ∧ w.alloc (.cells cs t) = w' :=
  TakeU_none _ l z _ (IsBs.lit w l cs m g t hc hm hg hl) h
theorem TakeS_lit (l : List UInt8) (z n : Int) (k : Nat) (w : World) (cs : Array Value) (t : TypeId) (g m : Nat) (hc : cs = (l.map B8).toArray) (hm : m = l.length) (hg : g = w.heap.size) (hl : l.length ≤ 1000000) (h : Leb.tk true l z = some (n, k)) :
    Calls Try.prog 10 #[.slice (some ⟨g, 0, none⟩) m m, .int .i64 z] (w.alloc (.cells cs t)) fun e w' => e = .returned (.tuple #[.int .i64 n, .int .i64 k, .bool true]) ∧ w.alloc (.cells cs t) = w' :=
  TakeS_some _ l z n k _ (IsBs.lit w l cs m g t hc hm hg hl) h
theorem TakeS_litno (l : List UInt8) (z : Int) (w : World) (cs : Array Value) (t : TypeId) (g m : Nat) (hc : cs = (l.map B8).toArray) (hm : m = l.length) (hg : g = w.heap.size) (hl : l.length ≤ 1000000) (h : Leb.tk true l z = none) :
    Calls Try.prog 10 #[.slice (some ⟨g, 0, none⟩) m m, .int .i64 z] (w.alloc (.cells cs t)) fun e w' => e = .returned (.tuple #[.int .i64 0, .int .i64 0, .bool false]) ∧ w.alloc (.cells cs t) = w' :=
  TakeS_none _ l z _ (IsBs.lit w l cs m g t hc hm hg hl) h

set_option maxRecDepth 100000 in
set_option maxHeartbeats 1000000 in
theorem known_any (w : World) : Calls Try.prog 7 #[] w fun e w' => e = .returned (.bool true) ∧ Below w.heap.size w w' := by
  go_enter Try.func7, Try.ntmps7
  go_wp2_with fail
  refine (AppendU_any _ [] 624485 _ (IsBs.nil _) (by decide) (by decide) (by decide)).mono ?_
  rintro e w1 ⟨v1, rfl, f1⟩
  have s1 := str_of f1.is
  have f1b := f1.2
  go_wp2_with fail
  refine (AppendS_any _ [] (-123456) _ (IsBs.nil _) (by decide) (by decide) (by decide)).mono ?_
  rintro e w2 ⟨v2, rfl, f2⟩
  have s2 := str_of f2.is
  go_wp2_with fail
  refine (TakeU_lit [229, 142, 38, 255] 32 (624485) 3 _ _ _ _ _ ?_ rfl ?_ (by decide) (by decide +kernel)).mono ?_
  · rfl
  · simp
  rintro e w3 ⟨rfl, rfl⟩
  go_wp2_with fail
  refine (TakeS_lit [127] 7 (-1) 1 _ _ _ _ _ ?_ rfl ?_ (by decide) (by decide +kernel)).mono ?_
  · rfl
  · simp
  rintro e w3 ⟨rfl, rfl⟩
  go_wp2_with fail
  refine (TakeU_lit [131, 0] 8 (3) 2 _ _ _ _ _ ?_ rfl ?_ (by decide) (by decide +kernel)).mono ?_
  · rfl
  · simp
  rintro e w3 ⟨rfl, rfl⟩
  go_wp2_with fail
  refine (TakeU_litno [131, 16] 8 _ _ _ _ _ ?_ rfl ?_ (by decide) (by decide +kernel)).mono ?_
  · rfl
  · simp
  rintro e w3 ⟨rfl, rfl⟩
  go_wp2_with fail
  refine (TakeU_litno [128] 32 _ _ _ _ _ ?_ rfl ?_ (by decide) (by decide +kernel)).mono ?_
  · rfl
  · simp
  rintro e w3 ⟨rfl, rfl⟩
  go_wp2_with fail
  refine (TakeU_litno [0] 0 _ _ _ _ _ ?_ rfl ?_ (by decide) (by decide +kernel)).mono ?_
  · rfl
  · simp
  rintro e w3 ⟨rfl, rfl⟩
  go_wp2_with fail
  refine (TakeS_litno [255, 255, 255, 255, 79] 32 _ _ _ _ _ ?_ rfl ?_ (by decide) (by decide +kernel)).mono ?_
  · rfl
  · simp
  rintro e w3 ⟨rfl, rfl⟩
  go_wp2_with fail
  refine (TakeS_lit [128, 128, 128, 128, 120] 32 (-2147483648) 5 _ _ _ _ _ ?_ rfl ?_ (by decide) (by decide +kernel)).mono ?_
  · rfl
  · simp
  rintro e w3 ⟨rfl, rfl⟩
  go_wp2_with fail
  go_ret
  have hb := f1.2.trans (f2.2.mono f1.2.size)
  have hsz := hb.size
  refine ⟨rfl, ?_⟩
  repeat' (first | exact hb | exact hsz | (refine Below.alloc ?_ ?_ _) | (simp; omega))
end Go.Proofs.Ytikbioakngkogaa
