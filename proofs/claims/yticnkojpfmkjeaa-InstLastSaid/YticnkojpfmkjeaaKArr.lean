/- More of the logic of walks: appends that tell where the row lies, arrays in memory, results that lie in memory. No condition but those that each law states. -/
import Derived.Test.YticnkojpfmkjeaaKMore
import Derived.Maps.AppendAt
import Derived.ChangeKeysEq
namespace Go.Proofs.Yticnkojpfmkjeaa
open Go Go.RowKit Go.ChangeShapes Go.WideShapes Go.Deep
set_option linter.unusedVariables false
set_option linter.unusedSimpArgs false

section
variable {P : Program} {E : Env} {H H' : Heap} {o : Oper} {v v' : Value} {e : TypeId} {H0 : Heap} {B : Nat} {α : Type} {F : El α} {l : List α} {n : Nat}
theorem nx_of {B e n m k : Nat} {xs ys : List Value} (h : OwnH B e n H v m xs) (h' : OwnH B e n H' v' k ys) (hb : v'.ownBlock = v.ownBlock ∨ v'.ownBlock = some H.size) : Nx H v v' := by
  rcases h'.2 with ⟨rfl, _⟩ | ⟨g, cp, cr, rfl, _⟩
  · exact .inl rfl
  · have e1 : Value.ownBlock (.slice (some ⟨g, 0, none⟩) k cp) = some g := by simp [Value.ownBlock]
    rw [e1] at hb
    rcases hb with hb | hb
    · rcases h.2 with ⟨rfl, _⟩ | ⟨g2, cp2, cr2, rfl, _⟩
      · simp [Value.ownBlock] at hb
      · simp [Value.ownBlock] at hb
        exact .inr (.inl ⟨by simp, by simp [vblock, vbase, hb]⟩)
    · injection hb with hb
      exact .inr (.inr (by simp [vblock, vbase, hb]))
theorem M.appendN [Inhabited α] [k1 : One F] {T : TypeId} {s x : Operand} {u : Value} {m : List α} {z : Value} {by' : Nat} (ho : o.op = .call { callee := .builtin .append, args := #[s, x], argTypes := #[T, T] }) (ht : P.underlying T = some (.slice e)) (hi : (P.info? e).map (fun i => (i.zero, i.size, i.bytes)) = some (some z, n, by')) (hz : z.cells.size = n) (hn : 0 < n)
    (hs : ev E s = some v) (hx : ev E x = some u) (hown : Own n F e H0 B H v l) (hm : Sl n F H u m) (hE : ∀ cs y, F H cs y → y ∈ m → F H0 cs y) (hB : B ≤ H.size) (hsz : (l.length + m.length) * by' ≤ 140737488355328) (hlen : l.length + m.length ≤ maxLen) :
    RunM P E H o (fun v' H' => Own n F e H0 B H' v' (l ++ m) ∧ Grown v H H' ∧ Nx H v v') := by
  intro ρ w ha hw
  obtain ⟨i, hi', hz0, hz1, hz2⟩ : ∃ i, P.info? e = some i ∧ i.zero = some z ∧ i.size = n ∧ i.bytes = by' := by
    cases hq : P.info? e with
    | none => simp [hq] at hi
    | some i => simp [hq] at hi; exact ⟨i, rfl, hi⟩
  by_cases hl : m.length = 0
  · have h2 : m = [] := List.eq_nil_of_length_eq_zero hl
    subst h2
    obtain ⟨a, cap, hu, hc1, hc2, hc3, hc4, _⟩ := hm
    subst hu
    simp only [List.append_nil]
    obtain ⟨flat, hrow, hel⟩ := hown
    cases a with
    | none =>
      have hc0 := hc3 rfl
      subst hc0
      have hrun := run_append_owned_none (P := P) (w := w) B T o.type e i n ht hi' v l.length flat (by rw [ownH_w, hw]; exact hrow)
      refine ⟨v, w, ?_, St.refl w, by rw [hw]; exact ⟨flat, hrow, hel⟩, by rw [hw]; exact ⟨Nat.le_refl _, fun _ _ _ => rfl⟩, nx_of hrow hrow (.inl rfl)⟩
      simp [execOp, ho, resolve, invoke, builtin, ha s _ hs, ha x _ hx, hrun, Sem.run_bind, Sem.run_pure, Result.andThen]
    | some ad =>
      obtain ⟨v', w', hr, h2, h3, h4, h5⟩ := run_append_own_at (P := P) w B T o.type e i z n by' ht hi' hz0 hz1 hz2 hz hn v l.length flat (by rw [ownH_w, hw]; exact hrow) ad 0 cap [] (by simp) (by simp) (by simp) (by simpa using hlen) (by simpa using hsz) (by rw [hw]; exact hB)
      refine ⟨v', w', ?_, ⟨rfl, h3.os, h3.tape, h3.output⟩, ⟨flat, by simpa [ownH_w] using h2, hel⟩, ⟨by rw [← hw]; exact h3.size, fun k hk hne => ?_⟩, nx_of hrow (by simpa [ownH_w] using h2) (by rw [← hw]; exact h5)⟩
      · simp [execOp, ho, resolve, invoke, builtin, ha s _ hs, ha x _ hx, Sem.run_bind, Sem.run_pure, Result.andThen]
        simp [hr]
      · rw [← hw] at hk ⊢
        refine h3.block k hk (fun hkv => ?_)
        have hkk : v = .slice none 0 0 ∨ vblock v = k := by
          rcases hrow.2 with ⟨rfl, _⟩ | ⟨g, cp, cr, rfl, _⟩
          · exact .inl rfl
          · right; simp [Value.ownBlock] at hkv; simp [vblock, vbase, hkv]
        rcases hne with rfl | hne
        · simp [Value.ownBlock] at hkv
        · rcases hkk with rfl | hkk
          · simp [Value.ownBlock] at hkv
          · exact hne hkk.symm
  · obtain ⟨ad, cap, hu, hsp, hb⟩ := hm.addr (by omega)
    obtain ⟨fm, hfl, hfc, hfe⟩ := hm.flat (by omega)
    obtain ⟨flat, hrow, hel⟩ := hown
    rw [hb] at hfc
    have h1 : ∀ q ∈ fm, q.oneCell' = true := by
      intro q hq
      obtain ⟨k, hk1, hk2⟩ := List.getElem_of_mem hq
      have hd : k / n < m.length := (Nat.div_lt_iff_lt_mul hn).2 (by omega)
      refine k1.one (hfe (k / n) _ (nth_getD hd)) q ?_
      rw [List.mem_iff_getElem?]
      refine ⟨k % n, ?_⟩
      rw [List.getElem?_take, if_pos (Nat.mod_lt _ hn), List.getElem?_drop, Nat.mul_comm, Nat.div_add_mod, List.getElem?_eq_getElem hk1, hk2]
    obtain ⟨v', w', hr, h2, h3, h4, h5⟩ := run_append_own_at (P := P) w B T o.type e i z n by' ht hi' hz0 hz1 hz2 hz hn v l.length flat (by rw [ownH_w, hw]; exact hrow) ad m.length cap fm hfl (fun j q hj => by rw [cell_w hw]; exact hfc j q hj) h1 hlen hsz (by rw [hw]; exact hB)
    refine ⟨v', w', ?_, ⟨rfl, h3.os, h3.tape, h3.output⟩, ⟨flat ++ fm, by simpa [ownH_w] using h2, ?_⟩, ⟨by rw [← hw]; exact h3.size, fun k hk hne => ?_⟩, nx_of hrow (by simpa [ownH_w] using h2) (by rw [← hw]; exact h5)⟩
    · subst hu
      simp [execOp, ho, resolve, invoke, builtin, ha s _ hs, ha x _ hx, Sem.run_bind, Sem.run_pure, Result.andThen]
      simp [hr]
    · intro j x hj
      have hlen' := hrow.1
      rw [nth_eq] at hj
      by_cases hjl : j < l.length
      · rw [List.getElem?_append_left hjl] at hj
        have hle : j * n + n ≤ flat.length := by
          rw [hlen']
          have : (j + 1) * n ≤ l.length * n := Nat.mul_le_mul_right n hjl
          rw [Nat.add_mul, Nat.one_mul] at this; exact this
        rw [List.drop_append_of_le_length (by omega), List.take_append_of_le_length (by simp; omega)]
        exact hel j x (by rw [nth_eq]; exact hj)
      · rw [List.getElem?_append_right (by omega)] at hj
        have hge : j * n = flat.length + (j - l.length) * n := by
          rw [hlen', ← Nat.add_mul]; congr 1; omega
        rw [hge, List.drop_append]
        simp only [Nat.le_add_right, List.drop_eq_nil_of_le, List.nil_append, Nat.add_sub_cancel_left]
        exact hE _ _ (hfe _ x (by rw [nth_eq]; exact hj)) (List.mem_of_getElem? hj)
    · rw [← hw] at hk ⊢
      refine h3.block k hk (fun hkv => ?_)
      have hkk : v = .slice none 0 0 ∨ vblock v = k := by
        rcases hrow.2 with ⟨rfl, _⟩ | ⟨g, cp, cr, rfl, _⟩
        · exact .inl rfl
        · right; simp [Value.ownBlock] at hkv; simp [vblock, vbase, hkv]
      rcases hne with rfl | hne
      · simp [Value.ownBlock] at hkv
      · rcases hkk with rfl | hkk
        · simp [Value.ownBlock] at hkv
        · exact hne hkk.symm
end
section
variable {P : Program} {E : Env} {H H' : Heap} {o : Oper} {v v' : Value} {e : TypeId} {H0 : Heap} {B : Nat} {α : Type} {F : El α} {l : List α} {n : Nat}
/-- append, and the old slice reads as it did -/
theorem M.appendP [Inhabited α] [k1 : One F] {T : TypeId} {s x : Operand} {u : Value} {m : List α} {z : Value} {by' : Nat} (ho : o.op = .call { callee := .builtin .append, args := #[s, x], argTypes := #[T, T] }) (ht : P.underlying T = some (.slice e)) (hi : (P.info? e).map (fun i => (i.zero, i.size, i.bytes)) = some (some z, n, by')) (hz : z.cells.size = n) (hn : 0 < n)
    (hs : ev E s = some v) (hx : ev E x = some u) (hown : Own n F e H0 B H v l) (hm : Sl n F H u m) (hE : ∀ cs y, F H cs y → y ∈ m → F H0 cs y) (hB : B ≤ H.size) (hsz : (l.length + m.length) * by' ≤ 140737488355328) (hlen : l.length + m.length ≤ maxLen) (hm0 : 0 < m.length) :
    RunM P E H o (fun v' H' => Own n F e H0 B H' v' (l ++ m) ∧ Own n F e H0 B H' v l ∧ Grown v H H' ∧ Nx H v v') := by
  intro ρ w ha hw
  obtain ⟨v', w', hr, hst, h1, h2, h3⟩ := M.appendN (P := P) (E := E) (H := H) (o := o) ho ht hi hz hn hs hx hown hm hE hB hsz hlen ρ w ha hw
  refine ⟨v', w', hr, hst, h1, ?_, h2, h3⟩
  obtain ⟨i, hi', hz0, hz1, hz2⟩ : ∃ i, P.info? e = some i ∧ i.zero = some z ∧ i.size = n ∧ i.bytes = by' := by
    cases hq : P.info? e with
    | none => simp [hq] at hi
    | some i => simp [hq] at hi; exact ⟨i, rfl, hi⟩
  obtain ⟨ad, cap2, hu, hsp, hb⟩ := hm.addr hm0
  obtain ⟨fm, hfl, hfc, hfe⟩ := hm.flat hm0
  rw [hb] at hfc
  have h1c : ∀ q ∈ fm, q.oneCell' = true := by
    intro q hq
    obtain ⟨k, hk1, hk2⟩ := List.getElem_of_mem hq
    have hd : k / n < m.length := (Nat.div_lt_iff_lt_mul hn).2 (by omega)
    refine k1.one (hfe (k / n) _ (nth_getD hd)) q ?_
    rw [List.mem_iff_getElem?]
    refine ⟨k % n, ?_⟩
    rw [List.getElem?_take, if_pos (Nat.mod_lt _ hn), List.getElem?_drop, Nat.mul_comm, Nat.div_add_mod, List.getElem?_eq_getElem hk1, hk2]
  have hnews : ∀ j q, fm[j]? = some q → w.cell? (ad.add j) = some q := fun j q hj => by rw [cell_w hw]; exact hfc j q hj
  have key : ∀ v2 w2, (Builtin.append_ #[T, T] o.type #[v, .slice (some ad) m.length cap2]).run P w = .ok v2 w2 → w' = w2 := by
    intro v2 w2 hr2
    have : (execOp ρ o).run P w = .ok (.value v2) w2 := by
      subst hu
      simp [execOp, ho, resolve, invoke, builtin, ha s _ hs, ha x _ hx, Sem.run_bind, Sem.run_pure, Result.andThen]
      simp [hr2]
    rw [hr] at this
    injection this
  obtain ⟨flat, ⟨h0, hc⟩, hel⟩ := hown
  rcases hc with ⟨rfl, hc⟩ | ⟨g, cap, cur, rfl, hBg, hg, hnc, hcm, hcs, htake⟩
  · exact ⟨flat, ⟨h0, .inl ⟨rfl, hc⟩⟩, hel⟩
  · have hg' : w.heap[g]? = some (.cells cur e (0, 0)) := by rw [hw]; exact hg
    by_cases hroom : l.length + m.length ≤ cap
    · have hfit : l.length * i.size + fm.length ≤ cur.size := by rw [hz1, hfl, hcs, ← Nat.add_mul]; exact Nat.mul_le_mul_right _ hroom
      have hw2 := key _ _ (run_append_room (P := P) w T o.type e i ht hi' g l.length cap cur hg' ad m.length cap2 fm (by rw [hz1]; exact hfl) hnews h1c hroom hfit)
      rw [hw2]
      refine ⟨flat, ⟨h0, .inr ⟨g, cap, _, rfl, hBg, setRow_heap w g cur _ e _ hg', hnc, hcm, ?_, ?_⟩⟩, hel⟩
      · simp only [List.size_toArray, List.length_append, List.length_take, List.length_drop, Array.length_toList]
        omega
      · have hle : l.length * i.size ≤ cur.toList.length := by simp; omega
        rw [hz1] at hle ⊢
        rw [List.append_assoc, List.take_append_of_le_length (by rw [List.length_take]; omega), List.take_take, Nat.min_self]
        exact htake
    · have holds : ∀ j q, flat[j]? = some q → w.cell? ((⟨g, 0, none⟩ : Addr).add j) = some q := by
        intro j q hj
        have hown' : w.ownsRow B e n (.slice (some ⟨g, 0, none⟩) l.length cap) l.length flat := by rw [ownH_w, hw]; exact ⟨h0, .inr ⟨g, cap, cur, rfl, hBg, hg, hnc, hcm, hcs, htake⟩⟩
        exact hown'.cells (g := g) rfl j q hj
      have hsmall : l.length + m.length ≤ 9223372036854775807 := by simp only [maxLen] at hlen; omega
      have hw2 := key _ _ (run_append_grow (P := P) w T o.type e i z ht hi' hz0 ⟨g, 0, none⟩ l.length cap flat (by rw [hz1]; exact h0) holds ad m.length cap2 fm (by rw [hz1]; exact hfl) hnews (by omega) (by omega) (growslice_fits (by omega) (by rw [hz2]; exact hsz)))
      rw [hw2]
      refine ⟨flat, ⟨h0, .inr ⟨g, cap, cur, rfl, hBg, ?_, hnc, hcm, hcs, htake⟩⟩, hel⟩
      have := heap_alloc_old w.drew (.cells (flat.toArray ++ fm.toArray ++ Builtin.zeroCells z.cells (grownCap w (l.length + m.length) cap e - (l.length + m.length))) e) (blk_lt hg')
      rw [this]
      exact hg'
end
/-! ### what may have been changed -/
theorem Fr.trans {g : Nat} {v v' : Value} {A B C : Heap} (f : Fr g v A B) (nx : Nx A v v') (f2 : Fr g v' B C) : Fr g v A C :=
  ⟨Nat.le_trans f.1 f2.1, fun k hk h1 h2 => (f2.2 k (by have := f.1; omega) h1 (by
    rcases nx with n | ⟨n1, n2⟩ | n
    · exact .inl n
    · rw [n2]; exact .inr (h2.resolve_left n1)
    · exact .inr (by omega))).trans (f.2 k hk h1 h2)⟩
theorem Fr.upd {g : Nat} {v : Value} {A B C : Heap} (f : Fr g v A B) (u : Upd g B C) : Fr g v A C := ⟨by rw [u.1]; exact f.1, fun k hk h1 h2 => (u.2 k h1).trans (f.2 k hk h1 h2)⟩
theorem Fr.old {g : Nat} {v : Value} {A B C : Heap} (f : Fr g v A B) (o : Old B C) : Fr g v A C := ⟨Nat.le_trans f.1 o.1, fun k hk h1 h2 => (o.2 k (by have := f.1; omega)).trans (f.2 k hk h1 h2)⟩
theorem Fr.grown {g : Nat} {v v' : Value} {A B C : Heap} (f : Fr g v A B) (nx : Nx A v v') (gr : Grown v' B C) : Fr g v A C :=
  f.trans nx ⟨gr.1, fun k hk _ h2 => gr.2 k hk h2⟩
theorem Fr.updN {g g' : Nat} {v : Value} {A B C : Heap} (f : Fr g v A B) (u : Upd g' B C) (h : A.size ≤ g') : Fr g v A C := ⟨by rw [u.1]; exact f.1, fun k hk h1 h2 => (u.2 k (by omega)).trans (f.2 k hk h1 h2)⟩
theorem Fr.grownN {g : Nat} {v v' : Value} {A B C : Heap} (f : Fr g v A B) (gr : Grown v' B C) (h : v' = .slice none 0 0 ∨ A.size ≤ vblock v') : Fr g v A C :=
  ⟨Nat.le_trans f.1 gr.1, fun k hk h1 h2 => (gr.2 k (by have := f.1; omega) (h.imp id (fun h => by omega))).trans (f.2 k hk h1 h2)⟩
theorem Nx.refl (H : Heap) (v : Value) : Nx H v v := by
  by_cases h : v = .slice none 0 0
  · exact .inl h
  · exact .inr (.inl ⟨h, rfl⟩)
theorem Nx.trans {A B : Heap} {v v' v'' : Value} (h : Nx A v v') (hs : A.size ≤ B.size) (k : Nx B v' v'') : Nx A v v'' := by
  rcases k with k | ⟨k1, k2⟩ | k
  · exact .inl k
  · rcases h with h | ⟨h1, h2⟩ | h
    · exact absurd h k1
    · exact .inr (.inl ⟨h1, k2.trans h2⟩)
    · exact .inr (.inr (by omega))
  · exact .inr (.inr (by omega))
/-! ### elements that read so in one heap -/
def EFix {α : Type} (E : El α) (H0 : Heap) : El α := fun _ cs y => E H0 cs y
instance keepsFix {α : Type} (E : El α) (H0 : Heap) : Keeps (EFix E H0) := ⟨fun _ h => h⟩
instance oneFix {α : Type} (E : El α) (H0 : Heap) [k : One E] : One (EFix E H0) := ⟨fun h => k.one (H := H0) h⟩
theorem Sl.unfix {α : Type} {n : Nat} {E : El α} [k : Keeps E] {H0 H : Heap} {v : Value} {l : List α} (h : Sl n (EFix E H0) H v l) (ho : Old H0 H) : Sl n E H v l := by
  obtain ⟨a, cap, h1, h2, h3, h4, h5, h6⟩ := h
  refine ⟨a, cap, h1, h2, h3, h4, h5, fun j x hj => ?_⟩
  obtain ⟨cs, e1, e2, e3⟩ := h6 j x hj
  exact ⟨cs, e1, e2, k.keep ho e3⟩
/-! ### rows of integers in a block -/
section
variable {P : Program} {E : Env} {H : Heap} {o : Oper} {v : Value}
theorem nth_ints {k : IntKind} {l : List Int} {j : Nat} (h : j < l.length) : nth (l.map (Value.int k)) j = some (.int k (l.getD j default)) := by
  rw [nth_eq, List.getElem?_map, List.getElem?_eq_getElem h, List.getD_eq_getElem?_getD, List.getElem?_eq_getElem h]; rfl
theorem cell_ints {k : IntKind} {g j : Nat} {l : List Int} {T : TypeId} (hb : H[g]? = some (.cells (l.map (Value.int k)).toArray T (0, 0))) (h : j < l.length) : cellH H ⟨g, j, none⟩ = some (.int k (l.getD j default)) := cell_of hb (nth_ints h)
/-- a row of integers, and more behind it -/
theorem cell_intsA {k : IntKind} {g j : Nat} {l : List Int} {us : List Value} {T : TypeId} (hb : H[g]? = some (.cells (l.map (Value.int k) ++ us).toArray T (0, 0))) (h : j < l.length) : cellH H ⟨g, j, none⟩ = some (.int k (l.getD j default)) := by
  refine cell_of hb ?_
  have := nth_ints (k := k) h
  rw [nth_eq] at this ⊢
  rw [List.getElem?_append_left (by simpa using h)]; exact this
theorem add1 (g i j : Nat) : (⟨g, i, none⟩ : Addr).add (j * 1) = ⟨g, i + j, none⟩ := by
  unfold Addr.add
  split
  · next h => have : j = 0 := by omega
              subst this; rfl
  · simp
theorem R.at1 {T e' : TypeId} {n j g : Nat} {x i : Operand} {k : IntKind} {z : Int} (ho : o.op = .indexAddr T x i) (ht : P.underlying T = some (.array n e')) (hs : (P.info? e').map (·.size) = some 1)
    (hx : ev E x = some (.pointer (some ⟨g, 0, none⟩))) (hi : ev E i = some (.int k z)) (hj : z = (j : Int)) (hlt : j < n) : Run P E H o (.pointer (some ⟨g, j, none⟩)) := by
  have := R.indexAddrArr (H := H) ho ht hs hx hi hj hlt
  rwa [add1, Nat.zero_add] at this
theorem S.storeInt {T : TypeId} {x y : Operand} {g i : Nat} {k : IntKind} {z : Int} {l : List Int} {t : TypeId} (ho : o.op = .store T x y) (hs : (P.info? T).map (·.size) = some 1) (hx : ev E x = some (.pointer (some ⟨g, i, none⟩))) (hy : ev E y = some (.int k z))
    (hb : H[g]? = some (.cells (l.map (Value.int k)).toArray t (0, 0))) (hi : i < l.length) : RunS P E H o (fun H' => Upd g H H' ∧ H'[g]? = some (.cells ((l.set i z).map (Value.int k)).toArray t (0, 0))) := by
  have := S.store (P := P) ho hs hx hy rfl rfl hb (by simpa using hi)
  rw [List.map_set]
  exact this
theorem S.storeIntA {T : TypeId} {x y : Operand} {g i : Nat} {k : IntKind} {z : Int} {l : List Int} {us : List Value} {t : TypeId} (ho : o.op = .store T x y) (hs : (P.info? T).map (·.size) = some 1) (hx : ev E x = some (.pointer (some ⟨g, i, none⟩))) (hy : ev E y = some (.int k z))
    (hb : H[g]? = some (.cells (l.map (Value.int k) ++ us).toArray t (0, 0))) (hi : i < l.length) : RunS P E H o (fun H' => Upd g H H' ∧ H'[g]? = some (.cells ((l.set i z).map (Value.int k) ++ us).toArray t (0, 0))) := by
  have := S.store (P := P) ho hs hx hy rfl rfl hb (by simp; omega)
  rw [List.set_append_left _ _ (by simpa using hi), ← List.map_set] at this
  exact this
theorem R.indexInt {T e' : TypeId} {n j : Nat} {x i : Operand} {k k' : IntKind} {z : Int} {l : List Int} (ho : o.op = .index T x i) (ht : P.underlying T = some (.array n e')) (hs : (P.info? e').map (·.size) = some 1) (hd : P.underlying e' = some (.int k'))
    (hx : ev E x = some (.agg (l.map (Value.int k')).toArray)) (hi : ev E i = some (.int k z)) (hj : z = (j : Int)) (hlt : j < n) (hl : j < l.length) : Run P E H o (.int k' (l.getD j default)) :=
  R.indexArr ho ht hs hd rfl hx hi hj hlt (nth_ints hl)
theorem R.inv {T : TypeId} {x : Operand} {k : IntKind} {z : Int} (ho : o.op = .unOp .xor T x) (hx : ev E x = some (.int k z)) : Run P E H o (.int k (Go.bits .xor k (if k.signed = true then -1 else k.max) z)) := by
  intro ρ w ha hw; simp [execOp, ho, ha x _ hx, Op.unary, Op.intArith, Op.intBits, Go.bits, Sem.run_bind, Sem.run_pure, Result.andThen]
end
section
variable {P : Program} {E : Env} {H : Heap} {o : Oper} {v : Value}
theorem R.sliceArr {T e' : TypeId} {n g sz : Nat} {x : Operand} (ho : o.op = .slice T x none none none) (ht : P.underlying T = some (.array n e')) (hs : (P.info? e').map (·.size) = some sz)
    (hx : ev E x = some (.pointer (some ⟨g, 0, none⟩))) : Run P E H o (.slice (some ⟨g, 0, none⟩) n n) := by
  intro ρ w ha hw
  cases hq : P.info? e' with
  | none => simp [hq] at hs
  | some inf =>
    simp [hq] at hs
    simp [execOp, ho, ha x _ hx, Instr.sliceAt, Instr.slice, Instr.sliceBounds, Instr.sureAddr, underlying, program, ht, sizeOf, typeInfo, hq, Addr.add, Sem.run_bind, Sem.run_pure, Result.andThen, Sem.run]
theorem R.toArr {T e' : TypeId} {n cap len : Nat} {a : Option Addr} {x : Operand} (ho : o.op = .sliceToArrayPointer T x) (ht : P.underlying T = some (.array n e')) 
    (hx : ev E x = some (.slice a len cap)) (hl : n ≤ len) : Run P E H o (.pointer a) := by
  intro ρ w ha hw
  have h2 : (if len < n then Sem.run P (runtimePanic (RuntimeError.bounds (↑n) (↑len) false BoundsCode.convert)) w
      else Result.ok (Value.pointer a) w) = Result.ok (Value.pointer a) w := if_neg (by omega)
  simp [execOp, ho, ha x _ hx, Instr.arrayAt, underlying, program, ht, Sem.run_bind, Sem.run_pure, Result.andThen, Sem.run]
  rw [h2]
theorem run_eqItems_ints {e : TypeId} {k : IntKind} (w : World) (he : P.underlying e = some (.int k)) (d : Nat) (a b : List Int) : ∀ js : List Nat, (∀ j ∈ js, j < a.length ∧ j < b.length) →
    (Op.eqItems (d + 1) e 1 (a.map (Value.int k)).toArray (b.map (Value.int k)).toArray js).run P w = .ok (decide (∀ j ∈ js, a.getD j default = b.getD j default)) w := by
  intro js
  induction js with
  | nil => intro _; simp [Op.eqItems]
  | cons j js ih =>
    intro h
    obtain ⟨h1, h2⟩ := h j (List.mem_cons_self ..)
    have ha : (part e (a.map (Value.int k)).toArray (j * 1)).run P w = .ok (.int k (a.getD j default)) w := by
      simp [part, isAgg, underlying, program, he, Sem.run_bind, Sem.run_pure, Result.andThen, Sem.run, h1]
    have hb : (part e (b.map (Value.int k)).toArray (j * 1)).run P w = .ok (.int k (b.getD j default)) w := by
      simp [part, isAgg, underlying, program, he, Sem.run_bind, Sem.run_pure, Result.andThen, Sem.run, h2]
    have he2 : (Op.equalIn (d + 1) e (.int k (a.getD j default)) (.int k (b.getD j default))).run P w = .ok (decide (a.getD j default = b.getD j default)) w := by
      generalize a.getD j default = x
      generalize b.getD j default = y
      simp [Op.equalIn, underlying, program, he, Sem.run_bind, Sem.run_pure, Result.andThen, Sem.run]
      rfl
    have hi := ih (fun j hj => h j (List.mem_cons_of_mem _ hj))
    simp only [Op.eqItems, Sem.run_bind, ha, hb, he2, Result.andThen_ok]
    by_cases hc : a.getD j default = b.getD j default
    · rw [decide_eq_true hc]
      simp only [Bool.not_true, Bool.false_eq_true, if_false]
      rw [hi]
      congr 1
      rw [decide_eq_decide]
      constructor
      · intro h2 i hi2
        rcases List.mem_cons.1 hi2 with rfl | hi2
        · exact hc
        · exact h2 i hi2
      · intro h2 i hi2; exact h2 i (List.mem_cons_of_mem _ hi2)
    · rw [decide_eq_false hc]
      simp only [Bool.not_false, if_true, Sem.run_pure]
      congr 1
      symm
      exact decide_eq_false (fun h2 => hc (h2 j (List.mem_cons_self ..)))
theorem R.eqlA {T T' e' : TypeId} {n : Nat} {x y : Operand} {k : IntKind} {a b : List Int} (ho : o.op = .binOp .eql T x y T') (ht : P.underlying T = some (.array n e')) (he : P.underlying e' = some (.int k)) (hs : (P.info? e').map (·.size) = some 1) (hG : P.eqGuardType P.depth T = false) (hx : ev E x = some (.agg (a.map (Value.int k)).toArray)) (hy : ev E y = some (.agg (b.map (Value.int k)).toArray)) (hla : a.length = n) (hlb : b.length = n) : Run P E H o (.bool (decide (a = b))) := by
  intro ρ w ha hw
  cases hq : P.info? e' with
  | none => simp [hq] at hs
  | some i =>
    simp [hq] at hs
    have hc : P.cellsOf e' = 1 := by simp [Program.cellsOf, hq, hs]
    have h1 : (Op.equal T (.agg (a.map (Value.int k)).toArray) (.agg (b.map (Value.int k)).toArray)).run P w = .ok (decide (a = b)) w := by
      show (Op.equalIn (9999 + 1) T _ _).run P w = _
      rw [run_equalIn_array w 9999 _ _ ht hq, hc, run_eqItems_ints w he 9998 a b _ (fun j hj => by have := List.mem_range.1 hj; omega)]
      congr 1
      rw [decide_eq_decide]
      constructor
      · intro h
        apply List.ext_getElem (by omega)
        intro j h1 h2
        have := h j (List.mem_range.2 (by omega))
        rw [List.getD_eq_getElem?_getD, List.getD_eq_getElem?_getD, List.getElem?_eq_getElem h1, List.getElem?_eq_getElem h2] at this
        exact this
      · rintro rfl j _; rfl
    simp [execOp, ho, ha x _ hx, ha y _ hy, eqGuard, binOp, hG, program, h1, Sem.run_bind, Sem.run_pure, Result.andThen, Sem.run]
theorem R.neqA {T T' e' : TypeId} {n : Nat} {x y : Operand} {k : IntKind} {a b : List Int} (ho : o.op = .binOp .neq T x y T') (ht : P.underlying T = some (.array n e')) (he : P.underlying e' = some (.int k)) (hs : (P.info? e').map (·.size) = some 1) (hG : P.eqGuardType P.depth T = false) (hx : ev E x = some (.agg (a.map (Value.int k)).toArray)) (hy : ev E y = some (.agg (b.map (Value.int k)).toArray)) (hla : a.length = n) (hlb : b.length = n) : Run P E H o (.bool (!decide (a = b))) := by
  intro ρ w ha hw
  cases hq : P.info? e' with
  | none => simp [hq] at hs
  | some i =>
    simp [hq] at hs
    have hc : P.cellsOf e' = 1 := by simp [Program.cellsOf, hq, hs]
    have h1 : (Op.equal T (.agg (a.map (Value.int k)).toArray) (.agg (b.map (Value.int k)).toArray)).run P w = .ok (decide (a = b)) w := by
      show (Op.equalIn (9999 + 1) T _ _).run P w = _
      rw [run_equalIn_array w 9999 _ _ ht hq, hc, run_eqItems_ints w he 9998 a b _ (fun j hj => by have := List.mem_range.1 hj; omega)]
      congr 1
      rw [decide_eq_decide]
      constructor
      · intro h
        apply List.ext_getElem (by omega)
        intro j h1 h2
        have := h j (List.mem_range.2 (by omega))
        rw [List.getD_eq_getElem?_getD, List.getD_eq_getElem?_getD, List.getElem?_eq_getElem h1, List.getElem?_eq_getElem h2] at this
        exact this
      · rintro rfl j _; rfl
    simp [execOp, ho, ha x _ hx, ha y _ hy, eqGuard, binOp, hG, program, h1, Sem.run_bind, Sem.run_pure, Result.andThen, Sem.run]
end
/-! ### results in memory -/
section
variable {n : Nat} {P : Program} {E : Env} {H : Heap} {W0 : World}
theorem KQ.finCell {fn : Func} {R : Value → Heap → Prop} {t T : Nat} {cs : List Value} {p : Addr} {ds : TypeDesc} {m : Nat} (hr : fn.results = #[.cell t T]) (ht : get E t = some (.pointer (some p))) (hu : P.underlying T = some ds) (hd : isAggD ds = true) (hs : (P.info? T).map (·.size) = some m) (hc : CellsH H p cs) (hm : cs.length = m) (hR : R (.agg cs.toArray) H) : KQ n W0 (Post P fn W0 R) .normal E H :=
  KQ.fin _ (fun a w ha hw => by
    subst hm
    have h1 := ha.val t _ ht
    have h2 : (isAgg T).run P w = .ok true w := by
      cases ds <;> simp [isAggD] at hd <;> simp [isAgg, underlying, program, hu, Sem.run_bind, Sem.run_pure, Result.andThen, Sem.run]
    have h3 := run_loadCells_list (P := P) (w := w) p cs (fun j u hj => by rw [cell_w hw]; exact hc j u (by rw [nth_eq]; exact hj))
    unfold loadCells at h3
    cases hq : P.info? T with
    | none => simp [hq] at hs
    | some i =>
      simp [hq] at hs
      simp [results, hr, go_sem, Array.getD_eq_getD_getElem?, h1, asAddr, loadVar, Sem.run_bind, Sem.run_pure, Result.andThen, h2, sizeOf, typeInfo, program, Sem.run, hq, hs, h3]) hR
end
end Go.Proofs.Yticnkojpfmkjeaa
