/- Numbers of variable length in the logic: the contracts over lists of numbers; plain laws. No condition but those that each states. -/
import Derived.Test.YtnjodpgahbpiaaaKText
import Derived.Test.YtnjodpgahbpiaaaKArr
import Derived.Test.YtnjodpgahbpiaaaLebFew
import Derived.Test.YtnjodpgahbpiaaaLebTake
import Derived.Test.YtnjodpgahbpiaaaLebMore
import Derived.Test.YtnjodpgahbpiaaaLebBackPlain
namespace Go.Proofs.Ytnjodpgahbpiaaa
open Go Go.RowKit
set_option linter.unusedVariables false
set_option linter.unusedSimpArgs false
theorem isBs {w : World} {v : Value} {l : List Int} (h : Sl 1 (EInt .u8) w.heap v l) : IsBs w v (l.map Lib.byteOf) := by
  obtain ⟨a, cap, rfl, k1, k2, k3, k4, k5⟩ := id h
  refine ⟨a, cap, by rw [List.length_map], by rw [List.length_map]; exact k1, k2, k3, fun j c hj => ?_⟩
  rw [List.getElem?_map, Option.map_eq_some_iff] at hj
  obtain ⟨x, hx, rfl⟩ := hj
  have hlt := (List.getElem?_eq_some_iff.1 hx).1
  cases a with
  | none => have := k3 rfl; omega
  | some p =>
    obtain ⟨b, o, sp⟩ := p
    have hsp : sp = none := k4 (by omega) _ rfl
    subst hsp
    obtain ⟨h1, h2⟩ := h.int j hlt
    have e : l.getD j default = x := by rw [List.getD_eq_getElem?_getD, hx]; rfl
    rw [e] at h1 h2
    refine ⟨b, o, rfl, ?_⟩
    rw [cell_w rfl, Lib.byteOf_toNat h2]
    have ea : (vbase (.slice (some ⟨b, o, none⟩) l.length cap)).add j = ⟨b, o + j, none⟩ := by
      show (Addr.mk b o none).add j = _
      unfold Addr.add; split <;> simp_all
    rw [ea] at h1; exact h1
theorem Ct.same {P : Program} {f : FuncId} {args : List Value} {H : Heap} {v : Value} (h : ∀ w : World, w.heap = H → Calls P f args.toArray w fun e w' => e = .returned v ∧ w = w') : Ct P f args H (fun u H' => u = v ∧ H = H') :=
  fun w hw => (h w hw).mono fun _ _ ⟨he, hw'⟩ => by
    subst hw'
    exact ⟨_, he, St.refl w, rfl, hw.symm⟩
/-- bytes as numbers -/
def uints (l : List UInt8) : List Int := l.map fun b => (b.toNat : Int)
theorem uints_range {l : List UInt8} : ∀ x ∈ uints l, InR .u8 x := by
  intro x hx
  simp only [uints, List.mem_map] at hx
  obtain ⟨b, _, rfl⟩ := hx
  have := UInt8.toNat_lt b
  dsimp only [InR]; omega
theorem uints_length (l : List UInt8) : (uints l).length = l.length := by simp [uints]
theorem byteOf_uints (l : List UInt8) : (uints l).map Lib.byteOf = l := by
  unfold uints; rw [List.map_map]
  conv => rhs; rw [← List.map_id l]
  apply List.map_congr_left
  intro b _
  simp [Lib.byteOf, Nat.toUInt8]
theorem uints_byteOf {l : List Int} (h : ∀ x ∈ l, InR .u8 x) : uints (l.map Lib.byteOf) = l := bytes_back h
theorem own_fresh {w w' : World} {v : Value} {l : List UInt8} {m : List Int} (h : Fresh w w' v l) (e : uints l = m) : Own 1 (EInt .u8) 5 #[] w.heap.size w'.heap v m ∧ Old w.heap w'.heap := by
  subst e
  refine ⟨⟨l.map B8, ?_, ?_⟩, h.2.size, h.2.block⟩
  · rw [uints_length]; exact h.1
  · intro j x hj
    have hr := uints_range x (List.mem_of_getElem? (by rw [← nth_eq]; exact hj))
    rw [nth_eq] at hj
    refine ⟨?_, hr⟩
    unfold uints at hj
    rw [List.getElem?_map, Option.map_eq_some_iff] at hj
    obtain ⟨b, hb, rfl⟩ := hj
    have hlt := (List.getElem?_eq_some_iff.1 hb).1
    rw [Nat.mul_one, ← List.map_drop, List.drop_eq_getElem_cons hlt]
    have : l[j] = b := (List.getElem?_eq_some_iff.1 hb).2
    simp [this, B8]
theorem Ct.fresh {P : Program} {f : FuncId} {args : List Value} {H : Heap} {l : List UInt8} {m : List Int} (e : uints l = m) (h : ∀ w : World, w.heap = H → Calls P f args.toArray w fun e w' => ∃ v', e = .returned v' ∧ Fresh w w' v' l) :
    Ct P f args H (fun u H' => Own 1 (EInt .u8) 5 #[] H.size H' u m ∧ Old H H') :=
  fun w hw => (h w hw).mono fun _ w' ⟨v', he, hf⟩ => by
    have := own_fresh hf e
    subst hw
    exact ⟨v', he, ⟨rfl, hf.2.os, hf.2.tape, hf.2.output⟩, this⟩
namespace Lb
/-- the number with which bytes begin, of so many bits, and how many bytes it has -/
def tk (l : List Int) (z : Int) : Option (Int × Nat) := Leb.tk false (l.map Lib.byteOf) z
/-- the bytes of a number -/
def ap (z : Int) : List Int := uints (Leb.ap false 10 z)
theorem ap_range {z : Int} : ∀ x ∈ ap z, InR .u8 x := uints_range
theorem fit10 {z : Int} (h0 : 0 ≤ z) (h1 : z < 18446744073709551616) : Leb.fit7 false 10 z := by
  unfold Leb.fit7
  rw [if_neg (by decide)]
  exact ⟨h0, by rw [show (128 : Int) ^ 10 = 1180591620717411303424 by decide]; omega⟩
theorem ap_length {z : Int} (h0 : 0 ≤ z) (h1 : z < 18446744073709551616) : 1 ≤ (ap z).length ∧ (ap z).length ≤ 10 := by
  unfold ap; rw [uints_length]
  exact ⟨Leb.ap_pos (fit10 h0 h1), Leb.ap_le (fit10 h0 h1)⟩
theorem tk_some {l : List Int} {z n : Int} {k : Nat} (h : tk l z = some (n, k)) : 1 ≤ k ∧ k ≤ 10 ∧ k ≤ l.length ∧ 0 ≤ n ∧ n < 2 ^ z.toNat := by
  obtain ⟨h1, h2, h3, h4, h5, h6, h7, h8⟩ := Leb.tk_some h
  rw [List.length_map] at h6
  have hf := Leb.fit7_nonneg (Leb.tk_fit h)
  refine ⟨h4, h5, h6, by rcases hf with h | h; cases h; exact h, ?_⟩
  simpa [Leb.fits] using h8
theorem tk32 {l : List Int} {n : Int} {k : Nat} (h : tk l 32 = some (n, k)) : 1 ≤ k ∧ k ≤ 10 ∧ k ≤ l.length ∧ 0 ≤ n ∧ n < 4294967296 := tk_some h
/-- what was appended is taken, whatever stands behind -/
theorem tk_ap {n : Int} (h0 : 0 ≤ n) (h1 : n < 4294967296) (r : List Int) : tk (ap n ++ r) 32 = some (n, (ap n).length) := by
  unfold tk ap
  rw [List.map_append, byteOf_uints, uints_length]
  have := Leb.tk_ap (sg := false) (z := n) (fit10 h0 (by omega)) (r.map Lib.byteOf) (b := 32) (by omega) (by omega)
  rw [show ((32 : Nat) : Int) = 32 from rfl] at this
  rw [this, if_pos]
  simp only [Leb.fits]
  simp
  exact h1
end Lb
theorem TakeU_k {H : Heap} (v : Value) (l : List Int) (z : Int) (hs : Sl 1 (EInt .u8) H v l) : Ct Try.prog 50 [v, .int .i64 z] H (fun u H' => u = tkU (Lb.tk l z) ∧ H = H') :=
  Ct.same fun w hw => TakeU_any v _ z w (isBs (by rw [hw]; exact hs))
theorem RefTake_k {H : Heap} (v : Value) (l : List Int) (z : Int) (hs : Sl 1 (EInt .u8) H v l) : Ct Try.prog 38 [v, .int .i64 z, .bool false] H (fun u H' => u = rfT (Lb.tk l z) ∧ H = H') :=
  Ct.same fun w hw => Take_any v _ z false w (isBs (by rw [hw]; exact hs))
theorem AppendU_k {H : Heap} (v : Value) (l : List Int) (z : Int) (hs : Sl 1 (EInt .u8) H v l) (hl : l.length ≤ 1000000) (h0 : 0 ≤ z) (h1 : z < 18446744073709551616) :
    Ct Try.prog 31 [v, .int .u64 z] H (fun u H' => Own 1 (EInt .u8) 5 #[] H.size H' u (l ++ Lb.ap z) ∧ Old H H') :=
  Ct.fresh (by unfold Lb.ap uints; rw [List.map_append]; exact congrArg (· ++ _) (bytes_back hs.int_range)) fun w hw => AppendU_any v (l.map Lib.byteOf) z w (isBs (by rw [hw]; exact hs)) (by rw [List.length_map]; exact hl) h0 h1
theorem Fewest_k {H : Heap} (z : Int) (h0 : 0 ≤ z) (h1 : z < 18446744073709551616) :
    Ct Try.prog 24 [.int .u64 z, .bool false] H (fun u H' => Own 1 (EInt .u8) 5 #[] H.size H' u (Lb.ap z) ∧ Old H H') :=
  Ct.fresh rfl fun w hw => Fewest_any z z false w ⟨h0, by rw [show (2 : Int) ^ 64 = 18446744073709551616 by decide]; exact h1, by simp⟩
end Go.Proofs.Ytnjodpgahbpiaaa
