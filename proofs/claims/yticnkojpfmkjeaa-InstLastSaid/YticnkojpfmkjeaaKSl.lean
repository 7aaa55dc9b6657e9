/- The logic of walks: slices, read and built. No condition but those that each law states. -/
import Derived.Test.YticnkojpfmkjeaaKMem
import Derived.Deep.Slices
import Derived.Deep.Fields
import Derived.OpenShut
namespace Go.Proofs.Yticnkojpfmkjeaa
open Go Go.RowKit Go.ChangeShapes Go.WideShapes Go.Deep
set_option linter.unusedVariables false
set_option linter.unusedSimpArgs false

theorem emptyOld (H : Heap) : Old #[] H := ⟨Nat.zero_le _, fun k hk => absurd hk (Nat.not_lt_zero k)⟩
/-- how an element's cells read -/
abbrev El (α : Type) := Heap → List Value → α → Prop
/-- a slice's head -/
def vbase : Value → Addr
  | .slice (some a) _ _ => a
  | _ => ⟨0, 0, none⟩
def vblock (v : Value) : Nat := (vbase v).block

/-- The slice value v reads as l, its elements of n cells each by E. -/
def Sl {α : Type} (n : Nat) (E : El α) (H : Heap) (v : Value) (l : List α) : Prop :=
  ∃ a cap, v = .slice a l.length cap ∧ l.length ≤ cap ∧ cap ≤ maxLen ∧ (a = none → cap = 0) ∧ (0 < l.length → ∀ p, a = some p → p.spot = none) ∧
    ∀ j x, nth l j = some x → ∃ cs, cs.length = n ∧ CellsH H ((vbase v).add (j * n)) cs ∧ E H cs x

/-- a reading that new blocks do not change -/
class Keeps {α : Type} (E : El α) : Prop where
  keep : ∀ {H H' : Heap} {cs : List Value} {x : α}, Old H H' → E H cs x → E H' cs x

section
variable {α : Type} {n : Nat} {E : El α} {H H' : Heap} {v : Value} {l : List α}
theorem Sl.old [k : Keeps E] (h : Sl n E H v l) (ho : Old H H') : Sl n E H' v l := by
  obtain ⟨a, cap, hv, h1, h2, h3, h4, h5⟩ := h
  refine ⟨a, cap, hv, h1, h2, h3, h4, fun j x hj => ?_⟩
  obtain ⟨cs, hl, hc, hx⟩ := h5 j x hj
  exact ⟨cs, hl, ho.cells hc, k.keep ho hx⟩
theorem Sl.nil (n : Nat) (E : El α) (H : Heap) : Sl n E H (.slice none 0 0) [] := ⟨none, 0, rfl, by simp, by unfold maxLen; omega, fun _ => rfl, by simp, by simp [nth]⟩
theorem Sl.val (h : Sl n E H v l) : ∃ a cap, v = .slice a l.length cap := let ⟨a, cap, hv, _⟩ := h; ⟨a, cap, hv⟩
theorem Sl.len (h : Sl n E H v l) : l.length ≤ 9223372036854775807 := by
  obtain ⟨a, cap, hv, h1, h2, _⟩ := h; unfold maxLen at h2; omega
theorem Sl.cells1 (h : Sl n E H v l) : v.cells = #[v] := by obtain ⟨a, cap, rfl⟩ := h.val; rfl
theorem Sl.one (h : Sl n E H v l) : v.oneCell' = true := by obtain ⟨a, cap, rfl⟩ := h.val; rfl
theorem Sl.addr (h : Sl n E H v l) (hl : 0 < l.length) : ∃ a cap, v = .slice (some a) l.length cap ∧ a.spot = none ∧ vbase v = a := by
  obtain ⟨a, cap, rfl, h1, h2, h3, h4, h5⟩ := h
  cases a with
  | none => have := h3 rfl; omega
  | some a => exact ⟨a, cap, rfl, h4 hl a rfl, rfl⟩
theorem nth_lt {α : Type} {l : List α} {j : Nat} {x : α} (h : nth l j = some x) : j < l.length := by rw [nth_eq] at h; exact (List.getElem?_eq_some_iff.1 h).1
theorem nth_getD {α : Type} [Inhabited α] {l : List α} {j : Nat} (h : j < l.length) : nth l j = some (l.getD j default) := by rw [nth_eq, List.getD_eq_getElem?_getD, List.getElem?_eq_getElem h]; rfl
/-- an element's cells -/
theorem Sl.at [Inhabited α] (h : Sl n E H v l) (j : Nat) (hj : j < l.length) : ∃ cs, cs.length = n ∧ CellsH H ((vbase v).add (j * n)) cs ∧ E H cs (l.getD j default) := by
  obtain ⟨a, cap, rfl, h1, h2, h3, h4, h5⟩ := h
  exact h5 j _ (nth_getD hj)
theorem add_add (p : Addr) (h : p.spot = none) (i j : Nat) : (p.add i).add j = p.add (i + j) := by
  obtain ⟨b, o, s⟩ := p
  simp at h; subst h
  unfold Addr.add
  by_cases h1 : i = 0 <;> by_cases h2 : j = 0 <;> simp [h1, h2, Nat.add_assoc]
theorem add_zero (p : Addr) : p.add 0 = p := by simp [Addr.add]

/-- one cell that is an integer -/
def EInt (k : IntKind) : El Int := fun _ cs x => cs = [.int k x] ∧ InR k x
def EBool : El Bool := fun _ cs x => cs = [.bool x]
def EStr : El ByteArray := fun _ cs x => cs = [.string x] ∧ x.size ≤ maxLen
/-- one cell that is a slice -/
def ESl {α : Type} (n : Nat) (E : El α) : El (List α) := fun H cs l => ∃ v, cs = [v] ∧ Sl n E H v l
instance keepsInt (k : IntKind) : Keeps (EInt k) := ⟨fun _ h => h⟩
instance keepsBool : Keeps EBool := ⟨fun _ h => h⟩
instance keepsStr : Keeps EStr := ⟨fun _ h => h⟩
instance keepsSl {α : Type} {n : Nat} {E : El α} [Keeps E] : Keeps (ESl n E) := ⟨fun ho h => let ⟨v, hv, hs⟩ := h; ⟨v, hv, hs.old ho⟩⟩

theorem Sl.int {k : IntKind} {l : List Int} (h : Sl 1 (EInt k) H v l) (j : Nat) (hj : j < l.length) : cellH H ((vbase v).add j) = some (.int k (l.getD j default)) ∧ InR k (l.getD j default) := by
  obtain ⟨cs, hl, hc, rfl, hr⟩ := h.at j hj
  have := hc 0 _ rfl
  rw [Nat.mul_one, add_zero] at this
  exact ⟨this, hr⟩
theorem Sl.int_range {k : IntKind} {l : List Int} (h : Sl 1 (EInt k) H v l) : ∀ x ∈ l, InR k x := by
  intro x hx
  obtain ⟨j, hj, rfl⟩ := List.getElem_of_mem hx
  have := (h.int j hj).2
  rwa [List.getD_eq_getElem?_getD, List.getElem?_eq_getElem hj] at this
theorem Sl.sl1 {α : Type} {m : Nat} {F : El α} {l : List (List α)} (h : Sl 1 (ESl m F) H v l) (j : Nat) (hj : j < l.length) : ∃ u, cellH H ((vbase v).add j) = some u ∧ Sl m F H u (l.getD j default) := by
  obtain ⟨cs, hl, hc, u, rfl, hu⟩ := h.at j hj
  have := hc 0 _ rfl
  rw [Nat.mul_one, add_zero] at this
  exact ⟨u, this, hu⟩
end

section
variable {P : Program} {n d : Nat} {W0 : World} {Q : Exit → Act → World → Prop} {ops rest : List Oper} {o : Oper} {E : Env} {H : Heap} {v : Value}
variable {α : Type} {m : Nat} {F : El α} {l : List α} {Hx : Heap}

theorem R.lenS {T e : TypeId} {x : Operand} (ho : o.op = .call { callee := .builtin .len, args := #[x], argTypes := #[T] }) (ht : P.underlying T = some (.slice e)) (hx : ev E x = some v) (hs : Sl m F Hx v l) : Run P E H o (.int .i64 l.length) := by
  obtain ⟨a, cap, rfl⟩ := hs.val
  exact R.len (ty := 0) ho ht hx

theorem run_index {T e : TypeId} {x i : Operand} {k : IntKind} {j sz len cap : Nat} {p : Addr} {z : Int} (ho : o.op = .indexAddr T x i) (ht : P.underlying T = some (.slice e)) (hz : (P.info? e).map (·.size) = some sz)
    (hx : ev E x = some (.slice (some p) len cap)) (hi : ev E i = some (.int k z)) (hj : z = (j : Int)) (hlt : j < len) : Run P E H o (.pointer (some (p.add (j * sz)))) := by
  intro ρ w ha hw
  subst hj
  cases hq : P.info? e with
  | none => simp [hq] at hz
  | some inf =>
    simp [hq] at hz
    simp [execOp, ho, ha x _ hx, ha i _ hi, Instr.indexAt, asIntOf, underlying, program, ht, sizeOf, typeInfo, hq, hz, hlt, Sem.run_bind, Sem.run_pure, Result.andThen, Sem.run]
/-- the address of an element -/
theorem R.index {T e : TypeId} {x i : Operand} {k : IntKind} {j : Nat} {z : Int} (ho : o.op = .indexAddr T x i) (ht : P.underlying T = some (.slice e)) (hz : (P.info? e).map (·.size) = some m)
    (hx : ev E x = some v) (hi : ev E i = some (.int k z)) (hs : Sl m F Hx v l) (hj : z = (j : Int)) (hlt : j < l.length) : Run P E H o (.pointer (some ((vbase v).add (j * m)))) := by
  obtain ⟨a, cap, rfl, _, hb⟩ := hs.addr (by omega)
  rw [hb]
  exact run_index ho ht hz hx hi hj hlt
theorem R.index1 {T e : TypeId} {x i : Operand} {k : IntKind} {j : Nat} {z : Int} (ho : o.op = .indexAddr T x i) (ht : P.underlying T = some (.slice e)) (hz : (P.info? e).map (·.size) = some 1)
    (hx : ev E x = some v) (hi : ev E i = some (.int k z)) (hs : Sl 1 F Hx v l) (hj : z = (j : Int)) (hlt : j < l.length) : Run P E H o (.pointer (some ((vbase v).add j))) := by
  have := R.index (H := H) ho ht hz hx hi hs hj hlt
  rwa [Nat.mul_one] at this

/-- v[lo:hi] -/
def subV (sz : Nat) (v : Value) (lo hi : Nat) : Value := match v with
  | .slice a n c => .slice (if c = lo then a else a.map (·.add (lo * sz))) (hi - lo) (c - lo)
  | v => v
theorem Sl.sub {lo hi : Nat} (hs : Sl m F H v l) (h1 : lo ≤ hi) (h2 : hi ≤ l.length) : Sl m F H (subV m v lo hi) ((l.take hi).drop lo) := by
  obtain ⟨a, cap, rfl, k1, k2, k3, k4, k5⟩ := hs
  have hl : ((l.take hi).drop lo).length = hi - lo := by simp; omega
  refine ⟨_, _, by rw [hl]; rfl, by rw [hl]; omega, by omega, ?_, ?_, ?_⟩
  · intro h
    split at h
    · omega
    · have := k3 (by simpa using h); omega
  · intro h0 p hp
    rw [hl] at h0
    have hl0 : 0 < l.length := by omega
    split at hp
    · exact k4 hl0 p hp
    · cases a with
      | none => simp at hp
      | some q =>
        simp at hp
        rw [← hp]
        unfold Addr.add
        split
        · exact k4 hl0 q rfl
        · rfl
  · intro j x hj
    rw [nth_eq, List.getElem?_drop] at hj
    rw [List.getElem?_take] at hj
    split at hj
    · next hlt =>
      have hj' : nth l (lo + j) = some x := by rw [nth_eq]; exact hj
      obtain ⟨cs, hc1, hc2, hc3⟩ := k5 _ _ hj'
      refine ⟨cs, hc1, ?_, hc3⟩
      cases a with
      | none => have := k3 rfl; omega
      | some q =>
        simp only [subV]
        rw [if_neg (by omega)]
        simp only [Option.map_some, vbase]
        have e : (lo + j) * m = lo * m + j * m := Nat.add_mul _ _ _
        simp only [vbase] at hc2
        rw [e, ← add_add q (k4 (by omega) q rfl)] at hc2
        exact hc2
    · cases hj
/-- what an operand of a slicing says -/
def bnd (E : Env) : Option Operand → Nat → Nat → Prop
  | none, dflt, r => r = dflt
  | some x, _, r => ∃ k z, ev E x = some (.int k z) ∧ z = (r : Int)
theorem bnd.mk {x : Operand} {k : IntKind} {z : Int} {df r : Nat} (h : ev E x = some (.int k z)) (e : z = (r : Int)) : bnd E (some x) df r := ⟨k, z, h, e⟩
theorem bnd.no {df : Nat} : bnd E none df df := rfl
theorem run_slice {T e : TypeId} {x : Operand} {lo hi : Option Operand} {a : Option Addr} {len cap i j sz : Nat} (ho : o.op = .slice T x lo hi none) (ht : P.underlying T = some (.slice e)) (hz : (P.info? e).map (·.size) = some sz)
    (hx : ev E x = some (.slice a len cap)) (hlo : bnd E lo 0 i) (hhi : bnd E hi len j) (h1 : i ≤ j) (h2 : j ≤ cap) : Run P E H o (subV sz (.slice a len cap) i j) := by
  intro ρ w ha hw
  have hL : Option.map ρ lo = (match lo with | none => none | some x => some (ρ x)) := by cases lo <;> rfl
  cases hq : P.info? e with
  | none => simp [hq] at hz
  | some inf =>
    simp [hq] at hz
    have key : ∀ (lo' hi' : Option Value), (lo' = none ∧ i = 0 ∨ ∃ k, lo' = some (.int k (i : Int))) → (hi' = none ∧ j = len ∨ ∃ k, hi' = some (.int k (j : Int))) →
        (Instr.sliceAt T (.slice a len cap) lo' hi' none).run P w = .ok (subV sz (.slice a len cap) i j) w := by
      intro lo' hi' hl hh
      rcases hl with ⟨rfl, rfl⟩ | ⟨k, rfl⟩ <;> rcases hh with ⟨rfl, rfl⟩ | ⟨k', rfl⟩ <;>
        simp [Instr.sliceAt, Instr.slice, Instr.sliceBounds, Instr.sliceBound, asIntOf, underlying, program, ht, sizeOf, typeInfo, hq, hz, subV, Sem.run_bind, Sem.run_pure, Result.andThen, Sem.run] <;>
        (try simp [show ((i : Int) ≤ (j : Int)) by omega]) <;> (try simp [show ((j : Int) ≤ (cap : Int)) by omega]) <;> (try simp [show ((i : Int) ≤ (j : Int)) by omega]) <;> (try simp [h1, h2, Sem.run_bind, Sem.run_pure, Result.andThen, Sem.run])
    have hl : (lo.map ρ = none ∧ i = 0 ∨ ∃ k, lo.map ρ = some (.int k (i : Int))) := by
      cases lo with
      | none => exact .inl ⟨rfl, hlo⟩
      | some y => obtain ⟨k, z, hy, rfl⟩ := hlo; exact .inr ⟨k, by simp [ha y _ hy]⟩
    have hh : (hi.map ρ = none ∧ j = len ∨ ∃ k, hi.map ρ = some (.int k (j : Int))) := by
      cases hi with
      | none => exact .inl ⟨rfl, hhi⟩
      | some y => obtain ⟨k, z, hy, rfl⟩ := hhi; exact .inr ⟨k, by simp [ha y _ hy]⟩
    have := key _ _ hl hh
    simp [execOp, ho, ha x _ hx, this, Sem.run_bind, Sem.run_pure, Result.andThen]
/-- v[lo:hi], within what is read -/
theorem R.slice {T e : TypeId} {x : Operand} {lo hi : Option Operand} {i j : Nat} (ho : o.op = .slice T x lo hi none) (ht : P.underlying T = some (.slice e)) (hz : (P.info? e).map (·.size) = some m)
    (hx : ev E x = some v) (hs : Sl m F Hx v l) (hlo : bnd E lo 0 i) (hhi : bnd E hi l.length j) (h1 : i ≤ j) (h2 : j ≤ l.length) : Run P E H o (subV m v i j) := by
  obtain ⟨a, cap, rfl, k1, _⟩ := hs
  exact run_slice ho ht hz hx hlo hhi h1 (by omega)
end

/-! ### rows of the call's own -/
/-- the slice value v, of n elements of size cells, owns the cells xs; its block is one from B on -/
def OwnH (B : Nat) (e : TypeId) (size : Nat) (H : Heap) (v : Value) (n : Nat) (xs : List Value) : Prop :=
  xs.length = n * size ∧ ((v = .slice none 0 0 ∧ n = 0) ∨
   ∃ g cap cur, v = .slice (some ⟨g, 0, none⟩) n cap ∧ B ≤ g ∧ H[g]? = some (.cells cur e (0, 0)) ∧ n ≤ cap ∧ cap ≤ maxLen ∧ cur.size = cap * size ∧ cur.toList.take (n * size) = xs)
theorem ownH_w {B : Nat} {e : TypeId} {size : Nat} {w : World} {v : Value} {n : Nat} {xs : List Value} : w.ownsRow B e size v n xs ↔ OwnH B e size w.heap v n xs := Iff.rfl
/-- v owns a row that reads as l; what the elements point to lies in H0 -/
def Own {α : Type} (n : Nat) (E : El α) (e : TypeId) (H0 : Heap) (B : Nat) (H : Heap) (v : Value) (l : List α) : Prop :=
  ∃ flat, OwnH B e n H v l.length flat ∧ ∀ j x, nth l j = some x → E H0 ((flat.drop (j * n)).take n) x
section
variable {α : Type} {n : Nat} {E : El α} {e : TypeId} {H0 H H' : Heap} {B : Nat} {v : Value} {l : List α}
theorem Own.nil (n : Nat) (E : El α) (e : TypeId) (H0 : Heap) (B : Nat) (H : Heap) : Own n E e H0 B H (.slice none 0 0) ([] : List α) := ⟨[], ⟨by simp, .inl ⟨rfl, rfl⟩⟩, by simp [nth]⟩
theorem Own.val (h : Own n E e H0 B H v l) : ∃ a cap, v = .slice a l.length cap ∧ l.length ≤ cap ∧ cap ≤ maxLen ∧ (a = none → cap = 0) := by
  obtain ⟨flat, ⟨h0, h1⟩, h2⟩ := h
  rcases h1 with ⟨rfl, h3⟩ | ⟨g, cap, cur, rfl, _, _, h4, h5, _⟩
  · exact ⟨none, 0, by rw [h3], by omega, by unfold maxLen; omega, fun _ => rfl⟩
  · exact ⟨_, cap, rfl, h4, h5, by simp⟩
theorem Own.len (h : Own n E e H0 B H v l) : l.length ≤ 9223372036854775807 := by
  obtain ⟨a, cap, hv, h1, h2, _⟩ := h.val; unfold maxLen at h2; omega
theorem Own.cells1 (h : Own n E e H0 B H v l) : v.cells = #[v] := by obtain ⟨a, cap, rfl, _⟩ := h.val; rfl
theorem Own.one (h : Own n E e H0 B H v l) : v.oneCell' = true := by obtain ⟨a, cap, rfl, _⟩ := h.val; rfl
theorem Own.keep (h : Own n E e H0 B H v l) (hk : H'[vblock v]? = H[vblock v]?) : Own n E e H0 B H' v l := by
  obtain ⟨flat, ⟨h0, h1⟩, h2⟩ := h
  refine ⟨flat, ⟨h0, ?_⟩, h2⟩
  rcases h1 with h1 | ⟨g, cap, cur, rfl, hB, hg, r⟩
  · exact .inl h1
  · exact .inr ⟨g, cap, cur, rfl, hB, by simp only [vblock, vbase] at hk; rw [hk]; exact hg, r⟩
theorem Own.lt (h : Own n E e H0 B H v l) : v = .slice none 0 0 ∨ (B ≤ vblock v ∧ vblock v < H.size) := by
  obtain ⟨flat, ⟨h0, h1⟩, h2⟩ := h
  rcases h1 with h1 | ⟨g, cap, cur, rfl, hB, hg, r⟩
  · exact .inl h1.1
  · exact .inr ⟨hB, blk_lt hg⟩
theorem Own.old (h : Own n E e H0 B H v l) (ho : Old H H') : Own n E e H0 B H' v l := by
  obtain ⟨flat, ⟨h0, h1⟩, h2⟩ := h
  refine ⟨flat, ⟨h0, ?_⟩, h2⟩
  rcases h1 with h1 | ⟨g, cap, cur, rfl, hB, hg, r⟩
  · exact .inl h1
  · exact .inr ⟨g, cap, cur, rfl, hB, ho.blk hg, r⟩
theorem Own.upd {g : Nat} (h : Own n E e H0 B H v l) (hu : Upd g H H') (hne : v = .slice none 0 0 ∨ vblock v ≠ g) : Own n E e H0 B H' v l := by
  obtain ⟨flat, ⟨h0, h1⟩, h2⟩ := h
  refine ⟨flat, ⟨h0, ?_⟩, h2⟩
  rcases h1 with h1 | ⟨g', cap, cur, rfl, hB, hg, r⟩
  · exact .inl h1
  · refine .inr ⟨g', cap, cur, rfl, hB, ?_, r⟩
    rw [hu.2 g' (by rcases hne with h | h; cases h; exact h)]; exact hg
theorem Own.weak {B' : Nat} (h : Own n E e H0 B H v l) (hB : B' ≤ B) : Own n E e H0 B' H v l := by
  obtain ⟨flat, ⟨h0, h1⟩, h2⟩ := h
  refine ⟨flat, ⟨h0, ?_⟩, h2⟩
  rcases h1 with h1 | ⟨g, cap, cur, hv, hB', r⟩
  · exact .inl h1
  · exact .inr ⟨g, cap, cur, hv, by omega, r⟩
theorem Own.sl [k : Keeps E] (h : Own n E e H0 B H v l) (ho : Old H0 H) (hn : 0 < n) : Sl n E H v l := by
  obtain ⟨flat, ⟨h0, h1⟩, h2⟩ := h
  rcases h1 with ⟨rfl, h3⟩ | ⟨g, cap, cur, rfl, hB, hg, h4, h5, h6, h7⟩
  · have : l = [] := List.eq_nil_of_length_eq_zero h3
    subst this; exact Sl.nil _ _ _
  · refine ⟨some ⟨g, 0, none⟩, cap, rfl, h4, h5, by simp, fun _ p hp => by cases hp; rfl, fun j x hj => ?_⟩
    have hjl := nth_lt hj
    have hle : j * n + n ≤ l.length * n := by
      have : (j + 1) * n ≤ l.length * n := Nat.mul_le_mul_right n hjl
      rw [Nat.add_mul, Nat.one_mul] at this; exact this
    refine ⟨(flat.drop (j * n)).take n, by simp; omega, fun i u hu => ?_, k.keep ho (h2 j x hj)⟩
    rw [nth_eq, List.getElem?_take] at hu
    split at hu
    · next hi =>
      rw [List.getElem?_drop] at hu
      simp only [vbase]
      rw [add_add _ rfl]
      have e : (Addr.mk g 0 none).add (j * n + i) = ⟨g, j * n + i, none⟩ := by unfold Addr.add; split <;> simp_all
      rw [e]
      rw [← h7, List.getElem?_take] at hu
      split at hu
      · simp only [cellH, hg]
        simpa using hu
      · cases hu
    · cases hu
end

/-- ints just made -/
theorem Own.made {α : Type} {E : El α} {e : TypeId} {H0 H H' : Heap} {B : Nat} {z : Value} {x : α} {m : Nat} (hn : New H (List.replicate m z) e H') (hB : B ≤ H.size) (hm : m ≤ maxLen) (hE : E H0 [z] x) :
    Own 1 E e H0 B H' (.slice (some ⟨H.size, 0, none⟩) m m) (List.replicate m x) := by
  refine ⟨List.replicate m z, ⟨by simp, .inr ⟨H.size, m, (List.replicate m z).toArray, by simp, hB, hn.2.2, by simp, hm, by simp, by simp⟩⟩, fun j y hj => ?_⟩
  have hlt := nth_lt hj
  simp at hlt
  rw [nth_eq, List.getElem?_replicate] at hj
  simp [hlt] at hj
  subst hj
  have : ((List.replicate m z).drop (j * 1)).take 1 = [z] := by
    rw [Nat.mul_one, List.drop_replicate, List.take_replicate, Nat.min_eq_left (by omega)]; rfl
  rw [this]; exact hE

/-- a literal of one-cell elements -/
theorem Own.lit {α : Type} {E : El α} {e : TypeId} {H0 H H' : Heap} {B : Nat} {cs : List Value} {l : List α} {m : Nat} (hn : New H cs e H') (hB : B ≤ H.size) (hm : m = l.length) (hmx : m ≤ maxLen) (hc : cs.length = l.length) (hE : ∀ j x u, nth l j = some x → nth cs j = some u → E H0 [u] x) :
    Own 1 E e H0 B H' (.slice (some ⟨H.size, 0, none⟩) m m) l := by
  subst hm
  refine ⟨cs, ⟨by simp [hc], .inr ⟨H.size, l.length, cs.toArray, rfl, hB, hn.2.2, Nat.le_refl _, hmx, by simp [hc], by simp [← hc]⟩⟩, fun j x hj => ?_⟩
  have hlt := nth_lt hj
  have hu : cs[j]? = some cs[j] := List.getElem?_eq_getElem (by omega)
  have : (cs.drop (j * 1)).take 1 = [cs[j]] := by
    rw [Nat.mul_one, List.drop_eq_getElem_cons (by omega)]; rfl
  rw [this]
  exact hE j x _ hj (by rw [nth_eq]; exact hu)

/-- a literal of elements of more cells -/
theorem Own.litN {α : Type} {n : Nat} {E : El α} {e : TypeId} {H0 H H' : Heap} {B : Nat} {cs : List Value} {l : List α} {m : Nat} (hn : New H cs e H') (hB : B ≤ H.size) (hm : m = l.length) (hmx : m ≤ maxLen) (hc : cs.length = l.length * n) (hE : ∀ j x, nth l j = some x → E H0 ((cs.drop (j * n)).take n) x) :
    Own n E e H0 B H' (.slice (some ⟨H.size, 0, none⟩) m m) l := by
  subst hm
  exact ⟨cs, ⟨hc, .inr ⟨H.size, l.length, cs.toArray, rfl, hB, hn.2.2, Nat.le_refl _, hmx, by simp [hc], by simp [← hc]⟩⟩, hE⟩
theorem Sl.lit1N {α : Type} {n : Nat} {E : El α} [Keeps E] {H H' : Heap} {e : TypeId} {cs : List Value} {x : α} (hn : New H cs e H') (hc : cs.length = n) (hpos : 0 < n) (hE : E H' cs x) : Sl n E H' (.slice (some ⟨H.size, 0, none⟩) 1 1) [x] := by
  refine (Own.litN (E := E) (H0 := H') (B := 0) (l := [x]) hn (Nat.zero_le _) rfl (by unfold maxLen; simp) (by simp [hc]) ?_).sl (Old.refl _) hpos
  intro j y hj
  match j, hj with
  | 0, hj =>
    cases hj
    have : (cs.drop (0 * n)).take n = cs := by rw [Nat.zero_mul, List.drop_zero, List.take_of_length_le (by omega)]
    rw [this]; exact hE
theorem Sl.lits {k : IntKind} {H H' : Heap} {e : TypeId} {l : List Int} {m : Nat} (hn : New H (l.map (Value.int k)) e H') (hm : m = l.length) (hmx : m ≤ 1000000000) (h : ∀ x ∈ l, InR k x) : Sl 1 (EInt k) H' (.slice (some ⟨H.size, 0, none⟩) m m) l := by
  refine (Own.lit (E := EInt k) (H0 := H') (B := 0) hn (Nat.zero_le _) hm (by unfold maxLen; omega) (by simp) ?_).sl (Old.refl _) (by omega)
  intro j x u hj hu
  rw [nth_eq] at hj hu
  rw [List.getElem?_map, hj] at hu
  cases hu
  exact ⟨rfl, h x (List.mem_of_getElem? hj)⟩
theorem Sl.empty {α : Type} {n : Nat} {E : El α} {H : Heap} {v : Value} (h : Sl n E H v []) (H' : Heap) : Sl n E H' v [] := by
  obtain ⟨a, cap, hv, h1, h2, h3, h4, h5⟩ := h
  exact ⟨a, cap, hv, h1, h2, h3, h4, by simp [nth]⟩

section
variable {P : Program} {n d : Nat} {W0 : World} {Q : Exit → Act → World → Prop} {ops rest : List Oper} {o : Oper} {E : Env} {H H0 : Heap} {v : Value}
variable {α : Type} {F : El α} {l : List α} {B : Nat} {e : TypeId}

theorem R.lenO {T t : TypeId} {x : Operand} (ho : o.op = .call { callee := .builtin .len, args := #[x], argTypes := #[T] }) (ht : P.underlying T = some (.slice t)) (hx : ev E x = some v) {Hx : Heap} (hs : Own n F e H0 B Hx v l) : Run P E H o (.int .i64 l.length) := by
  obtain ⟨a, cap, rfl, _⟩ := hs.val
  exact R.len (ty := 0) ho ht hx
theorem Own.addr {Hx : Heap} (hs : Own n F e H0 B Hx v l) (hl : 0 < l.length) : ∃ g cap, v = .slice (some ⟨g, 0, none⟩) l.length cap ∧ vbase v = ⟨g, 0, none⟩ ∧ vblock v = g ∧ B ≤ g := by
  obtain ⟨flat, ⟨h0, h1⟩, h2⟩ := hs
  rcases h1 with ⟨rfl, h3⟩ | ⟨g, cap, cur, rfl, hB, _⟩
  · omega
  · exact ⟨g, cap, rfl, rfl, rfl, hB⟩
theorem R.indexO1 {T t : TypeId} {x i : Operand} {k : IntKind} {j : Nat} {z : Int} (ho : o.op = .indexAddr T x i) (ht : P.underlying T = some (.slice t)) (hz : (P.info? t).map (·.size) = some 1)
    (hx : ev E x = some v) (hi : ev E i = some (.int k z)) {Hx : Heap} (hs : Own 1 F e H0 B Hx v l) (hj : z = (j : Int)) (hlt : j < l.length) : Run P E H o (.pointer (some ((vbase v).add j))) := by
  obtain ⟨g, cap, rfl, hb, _⟩ := hs.addr (by omega)
  rw [hb]
  have := run_index (H := H) ho ht hz hx hi hj hlt
  rwa [Nat.mul_one] at this
/-- v[:hi] of a row of the call's own -/
def toV (v : Value) (hi : Nat) : Value := match v with
  | .slice a n c => .slice a hi c
  | v => v
theorem R.sliceTo {T t : TypeId} {x y : Operand} {k : IntKind} {z : Int} {sz j : Nat} (ho : o.op = .slice T x none (some y) none) (ht : P.underlying T = some (.slice t)) (hz : (P.info? t).map (·.size) = some sz)
    (hx : ev E x = some v) (hy : ev E y = some (.int k z)) {Hx : Heap} (hs : Own n F e H0 B Hx v l) (hj : z = (j : Int)) (hlt : j ≤ l.length) : Run P E H o (toV v j) := by
  obtain ⟨a, cap, rfl, h1, _, h3⟩ := hs.val
  have := run_slice (H := H) (lo := none) (hi := some y) ho ht hz hx bnd.no (bnd.mk hy hj) (by omega) (by omega)
  have e : subV sz (.slice a l.length cap) 0 j = toV (.slice a l.length cap) j := by
    simp only [subV, toV, Nat.sub_zero, Nat.zero_mul]
    split
    · rfl
    · cases a <;> simp [Addr.add]
  rwa [e] at this
theorem Own.to {Hx : Heap} {j : Nat} (hs : Own n F e H0 B Hx v l) (hj : j ≤ l.length) : Own n F e H0 B Hx (toV v j) (l.take j) ∧ vblock (toV v j) = vblock v := by
  obtain ⟨flat, ⟨h0, h1⟩, h2⟩ := hs
  have hl : (l.take j).length = j := by simp; omega
  have hle : j * n ≤ l.length * n := Nat.mul_le_mul_right n hj
  refine ⟨⟨flat.take (j * n), ⟨by rw [hl]; simp; omega, ?_⟩, ?_⟩, ?_⟩
  · rcases h1 with ⟨rfl, h3⟩ | ⟨g, cap, cur, rfl, hB, hg, h4, h5, h6, h7⟩
    · left; rw [hl]; exact ⟨by simp [toV]; omega, by omega⟩
    · right
      rw [hl]
      refine ⟨g, cap, cur, rfl, hB, hg, by omega, h5, h6, ?_⟩
      rw [← h7, List.take_take, Nat.min_eq_left hle]
  · intro i x hi
    have hil := nth_lt hi
    rw [hl] at hil
    rw [nth_eq, List.getElem?_take, if_pos hil] at hi
    have := h2 i x (by rw [nth_eq]; exact hi)
    rw [List.drop_take, List.take_take]
    have hle2 : i * n + n ≤ j * n := by
      have : (i + 1) * n ≤ j * n := Nat.mul_le_mul_right n hil
      rw [Nat.add_mul, Nat.one_mul] at this; exact this
    rw [Nat.min_eq_left (by omega)]; exact this
  · rcases h1 with ⟨rfl, h3⟩ | ⟨g, cap, cur, rfl, hB, hg, _⟩ <;> rfl
theorem Own.int {k : IntKind} {l : List Int} (h : Own 1 (EInt k) e H0 B H v l) (j : Nat) (hj : j < l.length) : cellH H ((vbase v).add j) = some (.int k (l.getD j default)) ∧ InR k (l.getD j default) := by
  have h' : Own 1 (EInt k) e #[] B H v l := by
    obtain ⟨flat, h1, h2⟩ := h
    exact ⟨flat, h1, h2⟩
  have hs := h'.sl (k := keepsInt k) (emptyOld H) (by omega)
  exact hs.int j hj
theorem list_set_flat1 {flat : List Value} {j : Nat} {u : Value} (hj : j < flat.length) (i : Nat) : (((flat.set j u).drop (i * 1)).take 1) = if i = j then [u] else ((flat.drop (i * 1)).take 1) := by
  simp only [Nat.mul_one]
  by_cases h : i = j
  · subst h
    rw [if_pos rfl, List.drop_eq_getElem_cons (by simpa using hj)]
    simp
  · rw [if_neg h]
    apply List.ext_getElem?
    intro k
    rw [List.getElem?_take, List.getElem?_take]
    split
    · rw [List.getElem?_drop, List.getElem?_drop, List.getElem?_set_ne (by omega)]
    · rfl

/-- one element, of one cell, stored -/
theorem S.own1 {T : TypeId} {x y : Operand} {u : Value} {j : Nat} {a : α} (ho : o.op = .store T x y) (hs : (P.info? T).map (·.size) = some 1) (hx : ev E x = some (.pointer (some ((vbase v).add j)))) (hy : ev E y = some u) (hv : u.cells = #[u]) (h1 : u.oneCell' = true)
    (hown : Own 1 F e H0 B H v l) (hj : j < l.length) (hF : F H0 [u] a) : RunS P E H o (fun H' => Upd (vblock v) H H' ∧ Own 1 F e H0 B H' v (l.set j a)) := by
  obtain ⟨flat, ⟨h0, hcase⟩, hel⟩ := hown
  rcases hcase with ⟨rfl, h3⟩ | ⟨g, cap, cur, rfl, hB, hg, h4, h5, h6, h7⟩
  · omega
  · have ep : ((vbase (.slice (some ⟨g, 0, none⟩) l.length cap)).add j) = ⟨g, j, none⟩ := by simp only [vbase]; unfold Addr.add; split <;> simp_all
    rw [ep] at hx
    have hst := S.store (P := P) (E := E) (H := H) (cs := cur.toList) ho hs hx hy hv h1 (by simpa using hg) (by simp; omega)
    intro ρ w ha hw
    obtain ⟨w', hr, hst', hu, hb⟩ := hst ρ w ha hw
    refine ⟨w', hr, hst', hu, flat.set j u, ⟨by simp [h0], .inr ⟨g, cap, (cur.toList.set j u).toArray, by simp, hB, hb, by simp; omega, h5, by simp [h6], ?_⟩⟩, ?_⟩
    · simp only [List.length_set]
      rw [← h7]
      simp [List.take_set]
    · intro i b hi
      rw [list_set_flat1 (by omega)]
      rw [nth_eq, List.getElem?_set] at hi
      by_cases hij : i = j
      · subst hij
        simp [hj] at hi; subst hi
        rw [if_pos rfl]; exact hF
      · rw [if_neg hij]
        rw [if_neg (fun h => hij h.symm)] at hi
        exact hel i b (by rw [nth_eq]; exact hi)

/-- what is made by an append: a row of v's own block or a new one -/
def Grown (v : Value) (H H' : Heap) : Prop := H.size ≤ H'.size ∧ ∀ k, k < H.size → (v = .slice none 0 0 ∨ k ≠ vblock v) → H'[k]? = H[k]?
theorem Grown.oldB {H H' : Heap} (hg : Grown v H H') (hown : Own n F e H0 B H v l) (hB : B ≤ H.size) : OldB B H H' := by
  refine ⟨hg.1, fun k hk => hg.2 k (by omega) ?_⟩
  rcases hown.lt with h | h
  · exact .inl h
  · exact .inr (by omega)
/-- each of an element's cells is one cell's worth -/
class One {α : Type} (E : El α) : Prop where
  one : ∀ {H : Heap} {cs : List Value} {x : α}, E H cs x → ∀ u ∈ cs, u.oneCell' = true
instance oneInt (k : IntKind) : One (EInt k) := ⟨fun h u hu => by obtain ⟨rfl, _⟩ := h; simp at hu; subst hu; rfl⟩
instance oneBool : One EBool := ⟨fun h u hu => by cases h; simp at hu; subst hu; rfl⟩
instance oneStr : One EStr := ⟨fun h u hu => by obtain ⟨rfl, _⟩ := h; simp at hu; subst hu; rfl⟩
instance oneSl {α : Type} {n : Nat} {E : El α} : One (ESl n E) := ⟨fun h u hu => by obtain ⟨v, rfl, hs⟩ := h; simp at hu; subst hu; exact hs.one⟩

theorem flat_at {n : Nat} (F : Nat → List Value) (k : Nat) (hF : ∀ j, j < k → (F j).length = n) (j : Nat) (hj : j < k) :
    ((((List.range (k * n)).map (fun q => (F (q / n)).getD (q % n) undef)).drop (j * n)).take n) = F j := by
  have hl := hF j hj
  apply List.ext_getElem?
  intro i
  by_cases hi : i < n
  · have hlt : j * n + i < k * n := by
      have : (j + 1) * n ≤ k * n := Nat.mul_le_mul_right n hj
      rw [Nat.add_mul, Nat.one_mul] at this; omega
    rw [List.getElem?_take, if_pos hi, List.getElem?_drop, List.getElem?_map, List.getElem?_range hlt]
    have e1 : (j * n + i) / n = j := by rw [Nat.mul_comm, Nat.mul_add_div (by omega), Nat.div_eq_of_lt hi]; omega
    have e2 : (j * n + i) % n = i := by rw [Nat.mul_comm, Nat.mul_add_mod, Nat.mod_eq_of_lt hi]
    simp only [Option.map_some, e1, e2]
    rw [List.getElem?_eq_getElem (by omega), List.getD_eq_getElem?_getD, List.getElem?_eq_getElem (by omega)]
    rfl
  · rw [List.getElem?_eq_none (by simp; omega), List.getElem?_eq_none (by omega)]

/-- a slice's cells, one behind the other -/
theorem Sl.flat [Inhabited α] (h : Sl n F H v l) (hl : 0 < l.length) : ∃ flat : List Value, flat.length = l.length * n ∧ (∀ q u, flat[q]? = some u → cellH H ((vbase v).add q) = some u) ∧ ∀ j x, nth l j = some x → F H ((flat.drop (j * n)).take n) x := by
  obtain ⟨a, cap, hv, hsp, hb⟩ := h.addr hl
  have hex : ∀ j, j < l.length → ∃ cs : List Value, cs.length = n ∧ (∀ i u, nth cs i = some u → cellH H ((vbase v).add (j * n + i)) = some u) ∧ F H cs (l.getD j default) := by
    intro j hj
    obtain ⟨cs, h1, h2, h3⟩ := h.at j hj
    refine ⟨cs, h1, fun i u hu => ?_, h3⟩
    rw [← add_add _ (by rw [hb]; exact hsp)]; exact h2 i u hu
  obtain ⟨G, hG⟩ := choose_lt hex
  refine ⟨(List.range (l.length * n)).map (fun q => (G (q / n)).getD (q % n) undef), by simp, ?_, ?_⟩
  · intro q u hq
    simp only [List.getElem?_map, Option.map_eq_some_iff] at hq
    obtain ⟨p, hp, rfl⟩ := hq
    obtain ⟨hp1, hp2⟩ := List.getElem?_eq_some_iff.1 hp
    simp at hp1 hp2
    subst hp2
    have hn : 0 < n := by
      rcases Nat.eq_zero_or_pos n with h | h
      · subst h; omega
      · exact h
    have hd : q / n < l.length := (Nat.div_lt_iff_lt_mul hn).2 hp1
    have hm := Nat.mod_lt q hn
    obtain ⟨hl, hc, _⟩ := hG (q / n) hd
    have := hc (q % n) ((G (q / n)).getD (q % n) undef) (by rw [nth_eq, List.getD_eq_getElem?_getD, List.getElem?_eq_getElem (by omega)]; rfl)
    rwa [Nat.mul_comm, Nat.div_add_mod] at this
  · intro j x hj
    have hlt := nth_lt hj
    rw [flat_at G l.length (fun j h => (hG j h).1) j hlt]
    have := (hG j hlt).2.2
    rw [nth_getD hlt] at hj
    injection hj with hj
    rwa [hj] at this

/-- append of all of a slice to a row of the call's own -/
theorem M.append [Inhabited α] [k1 : One F] {T : TypeId} {s x : Operand} {u : Value} {m : List α} {z : Value} {by' : Nat} (ho : o.op = .call { callee := .builtin .append, args := #[s, x], argTypes := #[T, T] }) (ht : P.underlying T = some (.slice e)) (hi : (P.info? e).map (fun i => (i.zero, i.size, i.bytes)) = some (some z, n, by')) (hz : z.cells.size = n) (hn : 0 < n)
    (hs : ev E s = some v) (hx : ev E x = some u) (hown : Own n F e H0 B H v l) (hm : Sl n F H u m) (hE : ∀ cs y, F H cs y → y ∈ m → F H0 cs y) (hB : B ≤ H.size) (hsz : (l.length + m.length) * by' ≤ 140737488355328) (hlen : l.length + m.length ≤ maxLen) :
    RunM P E H o (fun v' H' => Own n F e H0 B H' v' (l ++ m) ∧ Grown v H H') := by
  intro ρ w ha hw
  obtain ⟨i, hi', hz0, hz1, hz2⟩ : ∃ i, P.info? e = some i ∧ i.zero = some z ∧ i.size = n ∧ i.bytes = by' := by
    cases hq : P.info? e with
    | none => simp [hq] at hi
    | some i => simp [hq] at hi; exact ⟨i, rfl, hi⟩
  by_cases hl : m.length = 0
  · have h2 : m = [] := List.eq_nil_of_length_eq_zero hl
    subst h2
    obtain ⟨a, cap, hu, hc1, hc2, hc3, hc4, _⟩ := hm
    subst hu
    simp only [List.append_nil]
    obtain ⟨flat, hrow, hel⟩ := hown
    cases a with
    | none =>
      have hc0 := hc3 rfl
      subst hc0
      have hrun := run_append_owned_none (P := P) (w := w) B T o.type e i n ht hi' v l.length flat (by rw [ownH_w, hw]; exact hrow)
      refine ⟨v, w, ?_, St.refl w, by rw [hw]; exact ⟨flat, hrow, hel⟩, by rw [hw]; exact ⟨Nat.le_refl _, fun _ _ _ => rfl⟩⟩
      simp [execOp, ho, resolve, invoke, builtin, ha s _ hs, ha x _ hx, hrun, Sem.run_bind, Sem.run_pure, Result.andThen]
    | some ad =>
      obtain ⟨v', w', hr, h2, h3, h4⟩ := run_append_own (P := P) w B T o.type e i z n by' ht hi' hz0 hz1 hz2 hz hn v l.length flat (by rw [ownH_w, hw]; exact hrow) ad 0 cap [] (by simp) (by simp) (by simp) (by simpa using hlen) (by simpa using hsz) (by rw [hw]; exact hB)
      refine ⟨v', w', ?_, ⟨rfl, h3.os, h3.tape, h3.output⟩, ⟨flat, by simpa [ownH_w] using h2, hel⟩, by rw [← hw]; exact h3.size, fun k hk hne => ?_⟩
      · simp [execOp, ho, resolve, invoke, builtin, ha s _ hs, ha x _ hx, Sem.run_bind, Sem.run_pure, Result.andThen]
        simp [hr]
      · rw [← hw] at hk ⊢
        refine h3.block k hk (fun hkv => ?_)
        have hkk : v = .slice none 0 0 ∨ vblock v = k := by
          rcases hrow.2 with ⟨rfl, _⟩ | ⟨g, cp, cr, rfl, _⟩
          · exact .inl rfl
          · right; simp [Value.ownBlock] at hkv; simp [vblock, vbase, hkv]
        rcases hne with rfl | hne
        · simp [Value.ownBlock] at hkv
        · rcases hkk with rfl | hkk
          · simp [Value.ownBlock] at hkv
          · exact hne hkk.symm
  · obtain ⟨ad, cap, hu, hsp, hb⟩ := hm.addr (by omega)
    obtain ⟨fm, hfl, hfc, hfe⟩ := hm.flat (by omega)
    obtain ⟨flat, hrow, hel⟩ := hown
    rw [hb] at hfc
    have h1 : ∀ q ∈ fm, q.oneCell' = true := by
      intro q hq
      obtain ⟨k, hk1, hk2⟩ := List.getElem_of_mem hq
      have hd : k / n < m.length := (Nat.div_lt_iff_lt_mul hn).2 (by omega)
      refine k1.one (hfe (k / n) _ (nth_getD hd)) q ?_
      rw [List.mem_iff_getElem?]
      refine ⟨k % n, ?_⟩
      rw [List.getElem?_take, if_pos (Nat.mod_lt _ hn), List.getElem?_drop, Nat.mul_comm, Nat.div_add_mod, List.getElem?_eq_getElem hk1, hk2]
    obtain ⟨v', w', hr, h2, h3, h4⟩ := run_append_own (P := P) w B T o.type e i z n by' ht hi' hz0 hz1 hz2 hz hn v l.length flat (by rw [ownH_w, hw]; exact hrow) ad m.length cap fm hfl (fun j q hj => by rw [cell_w hw]; exact hfc j q hj) h1 hlen hsz (by rw [hw]; exact hB)
    refine ⟨v', w', ?_, ⟨rfl, h3.os, h3.tape, h3.output⟩, ⟨flat ++ fm, by simpa [ownH_w] using h2, ?_⟩, by rw [← hw]; exact h3.size, fun k hk hne => ?_⟩
    · subst hu
      simp [execOp, ho, resolve, invoke, builtin, ha s _ hs, ha x _ hx, Sem.run_bind, Sem.run_pure, Result.andThen]
      simp [hr]
    · intro j x hj
      have hlen' := hrow.1
      rw [nth_eq] at hj
      by_cases hjl : j < l.length
      · rw [List.getElem?_append_left hjl] at hj
        have hle : j * n + n ≤ flat.length := by
          rw [hlen']
          have : (j + 1) * n ≤ l.length * n := Nat.mul_le_mul_right n hjl
          rw [Nat.add_mul, Nat.one_mul] at this; exact this
        rw [List.drop_append_of_le_length (by omega), List.take_append_of_le_length (by simp; omega)]
        exact hel j x (by rw [nth_eq]; exact hj)
      · rw [List.getElem?_append_right (by omega)] at hj
        have hge : j * n = flat.length + (j - l.length) * n := by
          rw [hlen', ← Nat.add_mul]; congr 1; omega
        rw [hge, List.drop_append]
        simp only [Nat.le_add_right, List.drop_eq_nil_of_le, List.nil_append, Nat.add_sub_cancel_left]
        exact hE _ _ (hfe _ x (by rw [nth_eq]; exact hj)) (List.mem_of_getElem? hj)
    · rw [← hw] at hk ⊢
      refine h3.block k hk (fun hkv => ?_)
      have hkk : v = .slice none 0 0 ∨ vblock v = k := by
        rcases hrow.2 with ⟨rfl, _⟩ | ⟨g, cp, cr, rfl, _⟩
        · exact .inl rfl
        · right; simp [Value.ownBlock] at hkv; simp [vblock, vbase, hkv]
      rcases hne with rfl | hne
      · simp [Value.ownBlock] at hkv
      · rcases hkk with rfl | hkk
        · simp [Value.ownBlock] at hkv
        · exact hne hkk.symm
end
end Go.Proofs.Yticnkojpfmkjeaa
