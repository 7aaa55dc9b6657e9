/- The logic of walks: what may change while something is read; steps that write some blocks alone. No condition but those that each law states. -/
import Derived.Test.YtgpbdimccbimnaaKDel
import Derived.Test.YtgpbdimccbimnaaKRange
namespace Go.Proofs.Ytgpbdimccbimnaa
open Go Go.RowKit
set_option linter.unusedVariables false
set_option linter.unusedSimpArgs false
/-- the blocks that v is in -/
def Of (v : Value) (b : Nat) : Prop := v ≠ .slice none 0 0 ∧ b = vblock v
theorem Of.nil (b : Nat) : ¬ Of (.slice none 0 0) b := fun h => h.1 rfl
def KeepP (M : Nat → Prop) (H H2 : Heap) : Prop := H.size ≤ H2.size ∧ ∀ k, k < H.size → ¬ M k → H2[k]? = H[k]?
theorem KeepP.refl (M : Nat → Prop) (H : Heap) : KeepP M H H := ⟨Nat.le_refl _, fun _ _ _ => rfl⟩
theorem KeepP.old {M : Nat → Prop} {H H2 : Heap} (o : Old H H2) : KeepP M H H2 := ⟨o.1, fun k hk _ => o.2 k hk⟩
/-- what reads so while the blocks M may change -/
def FP {α : Type} (E : El α) (H : Heap) (M : Nat → Prop) : El α := fun _ cs x => ∀ H2, KeepP M H H2 → E H2 cs x
instance keepsFP {α : Type} {E : El α} {H : Heap} {M : Nat → Prop} : Keeps (FP E H M) := ⟨fun _ h => h⟩
instance oneFP {α : Type} {E : El α} [k : One E] {H : Heap} {M : Nat → Prop} : One (FP E H M) := ⟨fun h => k.one (h H (KeepP.refl M H))⟩
theorem StepO.refl (O : Nat → Prop) (H : Heap) : StepO O O H H := ⟨Nat.le_refl _, fun _ _ _ => rfl, fun _ h => .inl h⟩
theorem StepO.old {O O' : Nat → Prop} {A B C : Heap} (h : StepO O O' A B) (o : Old B C) : StepO O O' A C := ⟨Nat.le_trans h.1 o.1, fun b hb hn => (o.2 b (by have := h.1; omega)).trans (h.2.1 b hb hn), h.2.2⟩
theorem StepO.upd {O O' : Nat → Prop} {A B C : Heap} {g : Nat} (h : StepO O O' A B) (u : Upd g B C) (hg : O g := by assumption) : StepO O O' A C :=
  ⟨by have := u.1; have := h.1; omega, fun b hb hn => (u.2 b (by rintro rfl; exact hn hg)).trans (h.2.1 b hb hn), h.2.2⟩
theorem StepO.updN {O O' : Nat → Prop} {A B C : Heap} {g : Nat} (h : StepO O O' A B) (u : Upd g B C) (hg : A.size ≤ g) : StepO O O' A C :=
  ⟨by have := u.1; have := h.1; omega, fun b hb hn => (u.2 b (by rintro rfl; omega)).trans (h.2.1 b hb hn), h.2.2⟩
theorem StepO.grown {O O' : Nat → Prop} {A B C : Heap} {v : Value} (h : StepO O O' A B) (hv : v = .slice none 0 0 ∨ O (vblock v)) (g : Grown v B C) : StepO O O' A C :=
  ⟨Nat.le_trans h.1 g.1, fun b hb hn => (g.2 b (by have := h.1; omega) (hv.imp id (fun e => by rintro rfl; exact hn e))).trans (h.2.1 b hb hn), h.2.2⟩
theorem StepO.grownN {O O' : Nat → Prop} {A B C : Heap} {v : Value} (h : StepO O O' A B) (g : Grown v B C) (hv : v = .slice none 0 0 ∨ A.size ≤ vblock v) : StepO O O' A C :=
  ⟨Nat.le_trans h.1 g.1, fun b hb hn => (g.2 b (by have := h.1; omega) (hv.imp id (fun e => by rintro rfl; omega))).trans (h.2.1 b hb hn), h.2.2⟩
theorem StepO.to {O O' O2 : Nat → Prop} {A B : Heap} (h : StepO O O' A B) (hs : ∀ b, O2 b → O b ∨ A.size ≤ b) : StepO O O2 A B := ⟨h.1, h.2.1, hs⟩
theorem StepO.wide {O O1 O' : Nat → Prop} {A B : Heap} (h : StepO O O' A B) (hs : ∀ b, O b → O1 b) : StepO O1 O' A B := ⟨h.1, fun b hb hn => h.2.1 b hb (fun h => hn (hs b h)), fun b hb => (h.2.2 b hb).imp (hs b) id⟩
theorem StepO.then {O O1 O2 : Nat → Prop} {A B C : Heap} (h : StepO O O1 A B) (h2 : StepO O1 O2 B C) : StepO O O2 A C :=
  ⟨Nat.le_trans h.1 h2.1, fun b hb hn => (h2.2.1 b (by have := h.1; omega) (fun h1 => (h.2.2 b h1).elim hn (fun h => by omega))).trans (h.2.1 b hb hn), fun b hb => (h2.2.2 b hb).elim (h.2.2 b) (fun h3 => .inr (by have := h.1; omega))⟩
theorem StepO.oldB {O O' : Nat → Prop} {A B : Heap} {B0 : Nat} (h : StepO O O' A B) (hB : B0 ≤ A.size) (hO : ∀ b, O b → B0 ≤ b) : OldB B0 A B := ⟨h.1, fun b hb => h.2.1 b (by omega) (fun ho => by have := hO b ho; omega)⟩
theorem StepO.blk {O O' : Nat → Prop} {A B : Heap} {g : Nat} {r : Obj} (h : StepO O O' A B) (hn : ¬ O g) (hb : A[g]? = some r) : B[g]? = some r := (h.2.1 g (blk_lt hb) hn).trans hb
theorem FP.step {α : Type} {E : El α} {H H' H0 H0' : Heap} {M M' : Nat → Prop} {cs : List Value} {x : α} (h : FP E H M H0 cs x) (s : StepO M M' H H') : FP E H' M' H0' cs x :=
  fun H2 k => h H2 ⟨Nat.le_trans s.1 k.1, fun b hb hn => (k.2 b (by have := s.1; omega) (fun hm => (s.2.2 b hm).elim hn (fun h => by omega))).trans (s.2.1 b hb hn)⟩
section
variable {α : Type} {n : Nat} {E : El α} {e : TypeId} {H0 H H' : Heap} {B : Nat} {v : Value} {l : List α}
theorem Own.stp {O O' : Nat → Prop} (h : Own n E e H0 B H v l) (s : StepO O O' H H') (hn : ∀ b, Of v b → ¬ O b) : Own n E e H0 B H' v l := by
  by_cases hv : v = .slice none 0 0
  · exact h.keepN (.inl hv)
  · have hlt := (h.lt.resolve_left hv).2
    exact h.keepN (.inr (s.2.1 _ hlt (hn _ ⟨hv, rfl⟩)))
theorem Own.fp {M M' : Nat → Prop} {F : El α} (h : Own n (FP F H M) e H0 B H' v l) (s : StepO M M' H H') : Own n (FP F H' M') e H0 B H' v l := h.mapE fun _ _ hx => hx.step s
theorem Own.ofLt (h : Own n E e H0 B H v l) {b : Nat} (hb : Of v b) : B ≤ b ∧ b < H.size := by
  obtain ⟨h1, rfl⟩ := hb
  exact h.lt.resolve_left h1
theorem Own.fpAt [Inhabited α] {M : Nat → Prop} {F : El α} {H1 : Heap} (h : Own n (FP F H1 M) e #[] B H v l) (hn : 0 < n) (j : Nat) (hj : j < l.length) : ∃ cs, cs.length = n ∧ CellsH H ((vbase v).add (j * n)) cs ∧ FP F H1 M H1 cs (l.getD j default) := by
  have hs := h.sl (emptyOld H) hn
  obtain ⟨cs, h1, h2, h3⟩ := hs.at j hj
  exact ⟨cs, h1, h2, fun H2 k => h3 H2 k⟩
end
/-- v[:hi] -/
theorem Sl.to {α : Type} {n : Nat} {E : El α} {H : Heap} {v : Value} {l : List α} {j : Nat} (h : Sl n E H v l) (hj : j ≤ l.length) : Sl n E H (toV v j) (l.take j) := by
  have h2 := h.sub (lo := 0) (hi := j) (Nat.zero_le _) hj
  rw [List.drop_zero] at h2
  obtain ⟨a, cap, rfl, _⟩ := h
  have e : subV n (.slice a l.length cap) 0 j = toV (.slice a l.length cap) j := by
    simp only [subV, toV, Nat.sub_zero, Nat.zero_mul]
    split
    · rfl
    · cases a <;> simp [Addr.add]
  rwa [e] at h2
theorem toV_full {α : Type} {n : Nat} {E : El α} {H : Heap} {v : Value} {l : List α} (h : Sl n E H v l) : toV v l.length = v := by
  obtain ⟨a, cap, rfl, _⟩ := h; rfl
theorem toV_toV (v : Value) (i j : Nat) : toV (toV v i) j = toV v j := by
  cases v <;> rfl
section
variable {P : Program} {E : Env} {H : Heap} {o : Oper} {v : Value} {e : TypeId} {B : Nat} {α : Type} {F : El α} {l : List α} {n : Nat} {H0 : Heap}
theorem R.sliceToS {T t : TypeId} {x y : Operand} {k : IntKind} {z : Int} {j : Nat} (ho : o.op = .slice T x none (some y) none) (ht : P.underlying T = some (.slice t)) (hz : (P.info? t).map (·.size) = some n)
    (hx : ev E x = some v) (hy : ev E y = some (.int k z)) {Hx : Heap} (hs : Sl n F Hx v l) (hj : z = (j : Int)) (hlt : j ≤ l.length) : Run P E H o (toV v j) := by
  have h1 := R.slice (H := H) (lo := none) (hi := some y) ho ht hz hx hs bnd.no (bnd.mk hy hj) (Nat.zero_le _) hlt
  obtain ⟨a, cap, rfl, _⟩ := hs
  have e : subV n (.slice a l.length cap) 0 j = toV (.slice a l.length cap) j := by
    simp only [subV, toV, Nat.sub_zero, Nat.zero_mul]
    split
    · rfl
    · cases a <;> simp [Addr.add]
  rwa [e] at h1
theorem R.indexON {T t : TypeId} {x i : Operand} {k : IntKind} {j : Nat} {z : Int} (ho : o.op = .indexAddr T x i) (ht : P.underlying T = some (.slice t)) (hz : (P.info? t).map (·.size) = some n)
    (hx : ev E x = some v) (hi : ev E i = some (.int k z)) {Hx : Heap} (hs : Own n F e H0 B Hx v l) (hj : z = (j : Int)) (hlt : j < l.length) : Run P E H o (.pointer (some ((vbase v).add (j * n)))) := by
  obtain ⟨g, cap, rfl, hb, _⟩ := hs.addr (by omega)
  rw [hb]
  exact run_index (H := H) ho ht hz hx hi hj hlt
/-- one cell of an element stored -/
theorem S.ownC [Inhabited α] {T : TypeId} {x y : Operand} {u : Value} {j c : Nat} {a : α} (ho : o.op = .store T x y) (hs : (P.info? T).map (·.size) = some 1) (hx : ev E x = some (.pointer (some (((vbase v).add (j * n)).add c)))) (hy : ev E y = some u) (hv : u.cells = #[u]) (h1 : u.oneCell' = true)
    (hown : Own n F e H0 B H v l) (hj : j < l.length) (hc : c < n) (hF : ∀ cs, cs.length = n → F H0 cs (l.getD j default) → F H0 (cs.set c u) a) : RunS P E H o (fun H' => Upd (vblock v) H H' ∧ Own n F e H0 B H' v (l.set j a)) := by
  obtain ⟨flat, ⟨h0, hcase⟩, hel⟩ := hown
  rcases hcase with ⟨rfl, h3⟩ | ⟨g, cap, cur, rfl, hB, hg, h4, h5, h6, h7⟩
  · omega
  · have ep : (((vbase (.slice (some ⟨g, 0, none⟩) l.length cap)).add (j * n)).add c) = ⟨g, j * n + c, none⟩ := by
      rw [add_add _ rfl]
      simp only [vbase]; unfold Addr.add; split <;> simp_all
    rw [ep] at hx
    have hjn : j * n + n ≤ l.length * n := by
      have : (j + 1) * n ≤ l.length * n := Nat.mul_le_mul_right n hj
      rw [Nat.add_mul, Nat.one_mul] at this; exact this
    have hcn : l.length * n ≤ cap * n := Nat.mul_le_mul_right n h4
    have hst := S.store (P := P) (E := E) (H := H) (cs := cur.toList) ho hs hx hy hv h1 (by simpa using hg) (by simp; omega)
    intro ρ w ha hw
    obtain ⟨w', hr, hst', hu, hb⟩ := hst ρ w ha hw
    refine ⟨w', hr, hst', hu, flat.set (j * n + c) u, ⟨by simp [h0], .inr ⟨g, cap, (cur.toList.set (j * n + c) u).toArray, by simp, hB, hb, by simp; omega, h5, by simp [h6], ?_⟩⟩, ?_⟩
    · simp only [List.length_set]
      rw [← h7]
      simp [List.take_set]
    · intro i b hi
      rw [nth_eq, List.getElem?_set] at hi
      by_cases hij : i = j
      · subst hij
        simp [hj] at hi; subst hi
        have e1 : ((flat.set (i * n + c) u).drop (i * n)).take n = ((flat.drop (i * n)).take n).set c u := by
          rw [List.drop_set, if_neg (by omega), List.take_set]
          congr 1; omega
        rw [e1]
        refine hF _ (by rw [List.length_take, List.length_drop]; omega) (hel i _ (nth_getD hj))
      · rw [if_neg (fun h => hij h.symm)] at hi
        have e1 : ((flat.set (j * n + c) u).drop (i * n)).take n = (flat.drop (i * n)).take n := by
          apply List.ext_getElem?
          intro k
          rw [List.getElem?_take, List.getElem?_take]
          split
          · rw [List.getElem?_drop, List.getElem?_drop, List.getElem?_set_ne]
            intro e2
            rcases Nat.lt_or_gt_of_ne hij with h | h
            · have : (i + 1) * n ≤ j * n := Nat.mul_le_mul_right n h
              rw [Nat.add_mul, Nat.one_mul] at this; omega
            · have : (j + 1) * n ≤ i * n := Nat.mul_le_mul_right n h
              rw [Nat.add_mul, Nat.one_mul] at this; omega
          · rfl
        rw [e1]
        exact hel i b (by rw [nth_eq]; exact hi)
end

theorem fp_own {k : IntKind} {M : Nat → Prop} {H : Heap} {e : TypeId} {B : Nat} {bs : List Int} {c : Value} {H0 : Heap} (h : Own 1 (EInt k) e H0 B H c bs) (hn : ∀ b, Of c b → ¬ M b) : ∀ H2, KeepP M H H2 → Sl 1 (EInt k) H2 c bs := by
  intro H2 kx
  have h2 : Own 1 (EInt k) e #[] B H c bs := h.mapE fun cs x hx => hx
  refine (h2.keepN ?_ : Own 1 (EInt k) e #[] B H2 c bs).sl (emptyOld _) (by omega)
  by_cases hv : c = .slice none 0 0
  · exact .inl hv
  · exact .inr (kx.2 _ (h.lt.resolve_left hv).2 (hn _ ⟨hv, rfl⟩))

theorem Of.not {B : Nat} {v : Value} {b : Nat} {α : Type} {n : Nat} {E : El α} {e : TypeId} {H0 H : Heap} {l : List α} (h : Own n E e H0 B H v l) (hb : H.size ≤ b) : ¬ Of v b := fun ho => by have := (h.ofLt ho).2; omega
theorem StepO.notM {O O' : Nat → Prop} {A B : Heap} {b : Nat} (st : StepO O O' A B) (h : ¬ O b) (hb : b < A.size) : ¬ O' b := fun h' => (st.2.2 b h').elim h (fun h => by omega)
theorem StepO.ofOld {O : Nat → Prop} {H H' : Heap} (o : Old H H') : StepO O O H H' := ⟨o.1, fun b hb _ => o.2 b hb, fun _ h => .inl h⟩
theorem keep_base {Hb H H2 : Heap} {M : Nat → Prop} (o : Old Hb H) (hM : ∀ b, M b → Hb.size ≤ b) (k : KeepP M H H2) : Old Hb H2 :=
  ⟨Nat.le_trans o.1 k.1, fun b hb => (k.2 b (by have := o.1; omega) (fun hm => by have := hM b hm; omega)).trans (o.2 b hb)⟩
theorem Nx.of {H : Heap} {v v' : Value} (h : Nx H v v') {b : Nat} (hb : Of v' b) : Of v b ∨ H.size ≤ b := by
  obtain ⟨h1, rfl⟩ := hb
  rcases h with h | ⟨h2, h3⟩ | h
  · exact absurd h h1
  · exact .inl ⟨h2, h3⟩
  · exact .inr h
theorem Nx.le {A B : Heap} {v v' : Value} (h : Nx A v v') (hs : B.size ≤ A.size) : Nx B v v' := h.imp id (fun h => h.imp id (fun h => by omega))
theorem KeepP.then {M : Nat → Prop} {A B C : Heap} (h : KeepP M A B) (k : KeepP M B C) : KeepP M A C := ⟨Nat.le_trans h.1 k.1, fun b hb hn => (k.2 b (by have := h.1; omega) hn).trans (h.2 b hb hn)⟩
end Go.Proofs.Ytgpbdimccbimnaa
