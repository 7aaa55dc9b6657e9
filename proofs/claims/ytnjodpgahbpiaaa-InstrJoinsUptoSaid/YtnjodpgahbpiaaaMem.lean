/- Slices of bytes in memory: what a slice value reads as, that the reading is kept behind new blocks, and appends to rows of the call's own. No condition. -/
import Derived.Test.YtnjodpgahbpiaaaRows
import Derived.WalkKit
import Derived.WalkSpells
import Derived.WalkLawsBesides
import Derived.Lib.Hide
import Derived.Laws.AppendOwnNone
namespace Go.Proofs.Ytnjodpgahbpiaaa
open Go.RowKit

theorem fin3 {a b : Value} (h : a = b) : Ending.returned a = Ending.returned b := congrArg _ h
theorem retI {x y : Int} {k : IntKind} (h : x = y) : Ending.returned (.int k x) = Ending.returned (.int k y) := by rw [h]

/-- a byte's cell -/
def B8 (c : UInt8) : Value := .int .u8 (c.toNat : Int)

/-- The slice at a, of capacity cap, reads as the bytes l (its length is l's). -/
structure Bs (w : World) (a : Option Addr) (cap : Nat) (l : List UInt8) : Prop where
  fits : l.length ≤ cap
  max : cap ≤ maxLen
  none : a = Option.none → cap = 0
  cell : ∀ j c, l[j]? = some c → ∃ b off, a = some ⟨b, off, Option.none⟩ ∧ w.cell? ⟨b, off + j, Option.none⟩ = some (.int .u8 (c.toNat : Int))

/-- A value that is a slice which reads as l. -/
def IsBs (w : World) (v : Value) (l : List UInt8) : Prop := ∃ a cap, v = .slice a l.length cap ∧ Bs w a cap l

section
variable {w w' : World} {a : Option Addr} {cap : Nat} {l : List UInt8} {B : Nat} {v : Value}

theorem Bs.len (h : Bs w a cap l) : l.length ≤ 9223372036854775807 := by
  have h1 := h.fits; have h2 := h.max; unfold maxLen at h2; omega

theorem Bs.below (h : Bs w a cap l) (hb : Below B w w') (hB : w.heap.size ≤ B) : Bs w' a cap l :=
  ⟨h.fits, h.max, h.none, fun j c hj => by
    obtain ⟨b, off, ha, hc⟩ := h.cell j c hj
    refine ⟨b, off, ha, ?_⟩
    have hlt := World.block_lt_of_cell? w _ hc
    rw [hb.cell (p := ⟨b, off + j, Option.none⟩) (by simp at hlt ⊢; omega)]; exact hc⟩

theorem IsBs.below (h : IsBs w v l) (hb : Below B w w') (hB : w.heap.size ≤ B) : IsBs w' v l := by
  obtain ⟨a, cap, rfl, hs⟩ := h
  exact ⟨a, cap, rfl, hs.below hb hB⟩

/-- what is read at a place -/
theorem Bs.at (h : Bs w a cap l) (k : Nat) (hk : k < l.length) :
    ∃ b off c, a = some ⟨b, off, Option.none⟩ ∧ Hid (l[k]? = some c) ∧ c.toNat < 256 ∧ w.cell? ⟨b, off + k, Option.none⟩ = some (.int .u8 (c.toNat : Int)) := by
  obtain ⟨b, off, ha, hc⟩ := h.cell k l[k] (by simp [hk])
  exact ⟨b, off, l[k], ha, Lib.hid (by simp [hk]), UInt8.toNat_lt _, hc⟩

/-- a nil slice -/
theorem Bs.nil (w : World) : Bs w Option.none 0 [] := ⟨by simp, by unfold maxLen; omega, fun _ => rfl, by simp⟩
theorem IsBs.nil (w : World) : IsBs w (.slice Option.none 0 0) [] := ⟨_, _, rfl, Bs.nil w⟩

/-- what a row of the call's own holds, read -/
theorem IsBs.own {n : Nat} {e : TypeId} (h : w.ownsRow B e 1 v n (l.map B8)) : IsBs w v l := by
  have hl : n = l.length := by have := h.1; simp at this; omega
  subst hl
  rcases h.2 with ⟨rfl, h0⟩ | ⟨g, c, cur, rfl, _, hg, h1, h2, _, _⟩
  · have : l = [] := List.eq_nil_of_length_eq_zero h0
    subst this; exact IsBs.nil w
  · refine ⟨_, _, rfl, h1, h2, by simp, fun j c hj => ⟨g, 0, rfl, ?_⟩⟩
    have := h.cells (g := g) rfl j (B8 c) (by simp [hj])
    simp only [Addr.add_lit] at this
    exact this

/-- a beginning of what is read -/
theorem Bs.take (h : Bs w a cap l) (k : Nat) : Bs w a cap (l.take k) :=
  ⟨by have := h.fits; simp; omega, h.max, h.none, fun j c hj => h.cell j c (by rw [List.getElem?_take] at hj; split at hj; exact hj; cases hj)⟩

/-- what is left behind a cut, as the model has it -/
theorem Bs.drop (h : Bs w a cap l) (k : Nat) (hk : k ≤ l.length) : Bs w (if cap = k then a else a.map (·.add k)) (cap - k) (l.drop k) := by
  have h1 := h.fits
  have h2 := h.max
  refine ⟨by simp; omega, by omega, ?_, ?_⟩
  · intro hn
    split at hn
    · omega
    · have := h.none (by simpa using hn); omega
  · intro j c hj
    rw [List.getElem?_drop] at hj
    obtain ⟨b, off, rfl, hc⟩ := h.cell (k + j) c hj
    have hlt : k + j < l.length := (List.getElem?_eq_some_iff.1 hj).1
    rw [if_neg (by omega)]
    refine ⟨b, off + k, ?_, by rw [Nat.add_assoc]; exact hc⟩
    simp only [Option.map_some, Addr.add]
    split
    · next h0 => simp [h0]
    · rfl
end

theorem ownNil (w : World) (B : Nat) : w.ownsRow B 5 1 (.slice none 0 0) 0 (([] : List UInt8).map B8) := World.ownsRow_nil w B _ 1

theorem info8 : (Try.prog.info? 5).map (fun i => (i.zero, i.size, i.bytes)) = some (some (.int .u8 0), 1, 1) := by kernel_rfl

theorem grown_trans {w1 w2 w3 : World} {row : Option Nat} (h : w1.grownBy w2 row) (k : w2.grownBy w3 row) (_ : ∀ b, row = some b → b < w1.heap.size) : w1.grownBy w3 row :=
  ⟨k.os.trans h.os, k.tape.trans h.tape, k.output.trans h.output, Nat.le_trans h.size k.size, fun b hb hr => (k.block b (Nat.lt_of_lt_of_le hb h.size) hr).trans (h.block b hb hr)⟩

/-- below its base a world is as before an append to a row of the call's own -/
theorem below_grown {W w w' : World} {B e size n : Nat} {v : Value} {xs : List Value} (h : Below B W w) (hg : w.grownBy w' v.ownBlock) (hown : w.ownsRow B e size v n xs) (hB : B ≤ w.heap.size) : Below B W w' :=
  h.grown hg hB fun k hk => (hown.lt k hk).1

/-- append of one byte, just laid in a new block, to a row of the call's own -/
theorem app1 {w : World} {ops : Array Oper} {rest : List Oper} {o : Oper} {a : Act} {Q : Exit → Act → World → Prop} (hgd : o.guard = none) (s x : Operand)
    (ho : o.op = .call { callee := .builtin .append, args := #[s, x], argTypes := #[23, 23] })
    (B : Nat) (v : Value) (n : Nat) (l : List UInt8) (hs : a.eval s = v) (hown : w.ownsRow B 5 1 v n (l.map B8)) (y : Int) (c : UInt8) (hy : y = (c.toNat : Int))
    (hx : a.eval x = .slice (some ⟨w.heap.size, 0, none⟩) 1 1) (hn : n < 140737488355000) (hB : B ≤ w.heap.size)
    (h : ∀ v' w', w'.ownsRow B 5 1 v' (n + 1) ((l ++ [c]).map B8) → w.grownBy w' v.ownBlock → wpList Try.prog ops Q rest (a.put o.dst v') w') :
    wpList Try.prog ops Q (o :: rest) a (w.alloc (.cells #[.int .u8 y] 5)) := by
  subst hy
  obtain ⟨i0, hi, hz0, hz1, hz2⟩ := info_parts info8
  refine wpList_append_own _ hgd s x 23 ho B 5 i0 (.int .u8 0) 1 1 Try.underlying23 hi hz0 hz1 hz2 rfl (by decide) v n (l.map B8) hs (hown.alloc _)
    ⟨w.heap.size, 0, none⟩ 1 1 [.int .u8 (c.toNat : Int)] hx rfl ?_ ?_ ?_ ?_ ?_ ?_
  · intro j u hj
    match j, hj with
    | 0, hj => simp at hj; subst hj; simp [Addr.add]
  · intro u hu; simp at hu; subst hu; rfl
  · unfold maxLen; omega
  · omega
  · simp; omega
  · intro v' w' h1 h2 _
    refine h v' w' (by simpa [B8] using h1) (grown_trans (World.grownBy_alloc w _ _) h2 (fun k hk => by have := hown.lt k hk; omega))

/-- append of all of a slice that is read to a row of the call's own -/
theorem appS {w : World} {ops : Array Oper} {rest : List Oper} {o : Oper} {a : Act} {Q : Exit → Act → World → Prop} (hgd : o.guard = none) (s x : Operand)
    (ho : o.op = .call { callee := .builtin .append, args := #[s, x], argTypes := #[23, 23] })
    (B : Nat) (v : Value) (n : Nat) (l : List UInt8) (hs : a.eval s = v) (hown : w.ownsRow B 5 1 v n (l.map B8)) (u : Value) (m : List UInt8)
    (hx : a.eval x = u) (hm : IsBs w u m) (hn : n + m.length < 140737488355000) (hB : B ≤ w.heap.size)
    (h : ∀ v' w', w'.ownsRow B 5 1 v' (n + m.length) ((l ++ m).map B8) → w.grownBy w' v.ownBlock → wpList Try.prog ops Q rest (a.put o.dst v') w') :
    wpList Try.prog ops Q (o :: rest) a w := by
  obtain ⟨i0, hi, hz0, hz1, hz2⟩ := info_parts info8
  obtain ⟨ad, cap, rfl, hb⟩ := hm
  rcases ad with _ | ad
  · have h0 := hb.none rfl
    have h1 := hb.fits
    have h2 : m = [] := List.eq_nil_of_length_eq_zero (by omega)
    subst h2; subst h0
    refine wpList_append_own_none hgd s x 23 ho B 5 i0 1 Try.underlying23 hi v n (l.map B8) hs hown hx ?_
    exact h v w (by simpa using hown) (World.grownBy.refl _ _)
  · refine wpList_append_own _ hgd s x 23 ho B 5 i0 (.int .u8 0) 1 1 Try.underlying23 hi hz0 hz1 hz2 rfl (by decide) v n (l.map B8) hs hown
      ad m.length cap (m.map B8) hx (by simp) ?_ ?_ ?_ ?_ ?_ ?_
    · intro j u hj
      simp only [List.getElem?_map, Option.map_eq_some_iff] at hj
      obtain ⟨c, hj, rfl⟩ := hj
      obtain ⟨b, off, hp, hc⟩ := hb.cell j c hj
      obtain rfl := Option.some.inj hp
      simp only [Addr.add_lit]
      exact hc
    · intro u hu; simp only [List.mem_map] at hu; obtain ⟨c, _, rfl⟩ := hu; rfl
    · unfold maxLen; omega
    · omega
    · exact hB
    · intro v' w' h1 h2 _
      exact h v' w' (by simpa using h1) h2

end Go.Proofs.Ytnjodpgahbpiaaa
