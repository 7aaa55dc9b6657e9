/- A block of bytes of the call's own, known whole: make with spare room, append within it. No condition but small sizes. -/
import Derived.Test.YtikbioakngkogaaMem
namespace Go.Proofs.Ytikbioakngkogaa
open Go.RowKit
set_option linter.unusedVariables false

/-- block g holds just these bytes -/
def Blk (w : World) (g : Nat) (l : List UInt8) : Prop := w.heap[g]? = some (.cells (l.map B8).toArray 5 (0, 0))

theorem Blk.below {w w' : World} {g : Nat} {l : List UInt8} {B : Nat} (h : Blk w g l) (hb : Below B w w') (hB : w.heap.size ≤ B) : Blk w' g l := by
  have hlt : g < w.heap.size := (Array.getElem?_eq_some_iff.1 h).1
  unfold Blk; rw [hb.block g (by omega)]; exact h

theorem Blk.cell {w : World} {g : Nat} {l : List UInt8} (h : Blk w g l) (j : Nat) : w.cell? ⟨g, j, none⟩ = (l[j]?).map B8 := by
  rw [cell_of_row w g j _ _ (0, 0) h]; simp

theorem Blk.is {w : World} {g : Nat} {l : List UInt8} (h : Blk w g l) (k : Nat) (hk : k ≤ l.length) (hl : l.length ≤ 1000000) : IsBs w (.slice (some ⟨g, 0, none⟩) k l.length) (l.take k) := by
  refine ⟨some ⟨g, 0, none⟩, l.length, by simp [Nat.min_eq_left hk], ⟨by simp; omega, by unfold maxLen; omega, by simp, ?_⟩⟩
  intro j c hj
  refine ⟨g, 0, rfl, ?_⟩
  rw [List.getElem?_take] at hj
  split at hj
  · rw [Nat.zero_add, h.cell, hj]; rfl
  · cases hj

theorem Blk.own {w : World} {g B : Nat} {l : List UInt8} (h : Blk w g l) (k : Nat) (hk : k ≤ l.length) (hl : l.length ≤ 1000000) (hB : B ≤ g) : w.ownsRow B 5 1 (.slice (some ⟨g, 0, none⟩) k l.length) k ((l.take k).map B8) := by
  refine ⟨by simp; omega, .inr ⟨g, l.length, _, rfl, hB, h, hk, by unfold maxLen; omega, by simp, by simp⟩⟩

/-- 'make([]byte, 0, n)' -/
theorem make8 {w : World} {ops : Array Oper} {rest : List Oper} {o : Oper} {a : Act} {Q : Exit → Act → World → Prop} (hgd : o.guard = none) (x y : Operand)
    (ho : o.op = Op.makeSlice 22 x y) (kl kc : IntKind) (m C : Int) (n : Nat) (hx : a.eval x = .int kl m) (hy : a.eval y = .int kc C) (hm0 : 0 ≤ m) (hmC : m ≤ C) (hC : C = (n : Int)) (hn : n ≤ 1000000)
    (h : ∀ w', Blk w' w.heap.size (List.replicate n 0) → Below w.heap.size w w' → w'.heap.size = w.heap.size + 1 → wpList Try.prog ops Q rest (a.put o.dst (.slice (some ⟨w.heap.size, 0, none⟩) m.toNat n)) w') :
    wpList Try.prog ops Q (o :: rest) a w := by
  obtain ⟨i0, hi, hz0, hz1, hz2⟩ := info_parts info8
  have hr := run_make (P := Try.prog) (w := w) 22 5 i0 (.int .u8 0) Try.underlying22 hi hz0 kl kc m C hm0 hmC (by rw [hz2]; omega) (by omega)
  rw [show C.toNat = n by omega, hz1, Nat.mul_one] at hr
  refine wpList_plain hgd fun K hK' => ?_
  unfold Oper.wp
  simp only [execOp, ho, hx, hy, Sem.run_bind, hr, Result.andThen, Sem.run_pure]
  refine hK' _ _ (h _ ?_ ((Below.refl _ _).alloc (Nat.le_refl _) _) (by simp))
  unfold Blk
  rw [heap_alloc_new]
  have : madeCells (Value.int .u8 0).cells n = ((List.replicate n (0 : UInt8)).map B8).toArray := by
    apply Array.ext'
    rw [show (Value.int .u8 0).cells = #[Value.int .u8 0] from rfl, toList_madeCells_one]
    simp [B8]
  rw [this]

/-- append within the room -/
theorem appRoom {w : World} {ops : Array Oper} {rest : List Oper} {o : Oper} {a : Act} {Q : Exit → Act → World → Prop} (hgd : o.guard = none) (s x : Operand)
    (ho : o.op = .call { callee := .builtin .append, args := #[s, x], argTypes := #[22, 22] })
    (g k n : Nat) (l : List UInt8) (hb : Blk w g l) (hn : n = l.length) (hs : a.eval s = .slice (some ⟨g, 0, none⟩) k n) (u : Value) (m : List UInt8)
    (hx : a.eval x = u) (hm : IsBs w u m) (hroom : k + m.length ≤ l.length) (hl : l.length ≤ 1000000)
    (h : ∀ w', Blk w' g (l.take k ++ m ++ l.drop (k + m.length)) → Below g w w' → w'.heap.size = w.heap.size → wpList Try.prog ops Q rest (a.put o.dst (.slice (some ⟨g, 0, none⟩) (k + m.length) n)) w') :
    wpList Try.prog ops Q (o :: rest) a w := by
  subst hn
  obtain ⟨i0, hi, hz0, hz1, hz2⟩ := info_parts info8
  obtain ⟨ad, cap, rfl, hbs⟩ := hm
  have hown := hb.own (B := 0) k (by omega) hl (by omega)
  rcases ad with _ | ad
  · have h0 := hbs.none rfl
    have h1 := hbs.fits
    have h2 : m = [] := List.eq_nil_of_length_eq_zero (by omega)
    subst h2; subst h0
    refine wpList_append_own_none hgd s x 22 ho 0 5 i0 1 Try.underlying22 hi _ k _ hs hown hx ?_
    exact h w (by simpa using hb) (Below.refl _ _) rfl
  · have hr := run_append_room (P := Try.prog) w 22 o.type 5 i0 Try.underlying22 hi g k l.length _ hb ad m.length cap (m.map B8) (by simp [hz1]) (by
      intro j u hj
      simp only [List.getElem?_map, Option.map_eq_some_iff] at hj
      obtain ⟨c, hj, rfl⟩ := hj
      obtain ⟨b, off, hp, hc⟩ := hbs.cell j c hj
      obtain rfl := Option.some.inj hp
      simp only [Addr.add_lit]
      exact hc) (by intro u hu; simp only [List.mem_map] at hu; obtain ⟨c, _, rfl⟩ := hu; rfl) hroom (by rw [hz1]; simp; omega)
    refine wpList_plain hgd fun K hK' => ?_
    unfold Oper.wp
    simp only [execOp, ho, resolve, invoke, builtin, Sem.run_bind, Sem.run_pure, Result.andThen, List.map_toArray, List.map_cons, List.map_nil, hs, hx, hr]
    refine hK' _ _ (h _ ?_ ⟨rfl, rfl, rfl, by simp, fun j hj => setRow_other _ _ _ _ (by omega)⟩ (by simp))
    unfold Blk
    rw [setRow_heap w g _ _ _ _ hb]
    simp [hz1, List.map_take, List.map_drop]

end Go.Proofs.Ytikbioakngkogaa
