/- The logic of walks: zeros appended, elements copied, parts of a row of the call's own. No condition but those that each law states. -/
import Derived.Test.YticnkojpfmkjeaaKSl
import Derived.Lib.AppendZerosOnto
import Derived.Laws.CopyRow
namespace Go.Proofs.Yticnkojpfmkjeaa
open Go Go.RowKit Go.ChangeShapes Go.WideShapes Go.Deep
set_option linter.unusedVariables false
set_option linter.unusedSimpArgs false

theorem Upd.refl (g : Nat) (H : Heap) : Upd g H H := ⟨rfl, fun _ _ => rfl⟩
theorem Upd.trans {g : Nat} {A B C : Heap} (h : Upd g A B) (k : Upd g B C) : Upd g A C := ⟨k.1.trans h.1, fun i hi => (k.2 i hi).trans (h.2 i hi)⟩

/-- only block g, v's own, and new ones may have been changed -/
def Fr (g : Nat) (v : Value) (H H' : Heap) : Prop := H.size ≤ H'.size ∧ ∀ k, k < H.size → k ≠ g → (v = .slice none 0 0 ∨ k ≠ vblock v) → H'[k]? = H[k]?
theorem Fr.refl (g : Nat) (v : Value) (H : Heap) : Fr g v H H := ⟨Nat.le_refl _, fun _ _ _ _ => rfl⟩
theorem Fr.ofOld {g : Nat} {v : Value} {H H' : Heap} (h : Old H H') : Fr g v H H' := ⟨h.1, fun k hk _ _ => h.2 k hk⟩
theorem Fr.ofUpd {g : Nat} {v : Value} {H H' : Heap} (hn : v ≠ .slice none 0 0) (h : Upd (vblock v) H H') : Fr g v H H' := ⟨Nat.le_of_eq h.1.symm, fun k _ _ h2 => h.2 k (h2.resolve_left hn)⟩
theorem Fr.oldB {g B : Nat} {v : Value} {H H' : Heap} (h : Fr g v H H') (hB : B ≤ H.size) (hg : B ≤ g) (hv : v = .slice none 0 0 ∨ B ≤ vblock v) : OldB B H H' :=
  ⟨h.1, fun k hk => h.2 k (by omega) (by omega) (hv.imp id (fun h => by omega))⟩

/-- l, written over bs from p on -/
def putAt (bs : List Int) (p : Nat) (l : List Int) : List Int := bs.take p ++ l ++ bs.drop (p + l.length)
theorem putAt_length {bs l : List Int} {p : Nat} (h : p + l.length ≤ bs.length) : (putAt bs p l).length = bs.length := by simp [putAt]; omega
theorem putAt_nil (bs : List Int) (p : Nat) : putAt bs p [] = bs := by simp [putAt]
theorem putAt_set {bs l : List Int} {p k : Nat} {x : Int} (hp : p + k < bs.length) (hl : l.length = k) : (putAt bs p l).set (p + k) x = putAt bs p (l ++ [x]) := by
  subst hl
  unfold putAt
  have e1 : bs.drop (p + l.length) = bs[p + l.length] :: bs.drop (p + l.length + 1) := List.drop_eq_getElem_cons hp
  rw [List.set_append_right _ _ (by simp; omega)]
  have e2 : p + l.length - (bs.take p ++ l).length = 0 := by simp; omega
  rw [e2, e1, List.set_cons_zero]
  simp [Nat.add_assoc]
theorem putAt_getD {bs l : List Int} {p i : Nat} (h : p + l.length ≤ bs.length) (hi : i < bs.length) : (putAt bs p l).getD i default = if p ≤ i ∧ i < p + l.length then l.getD (i - p) default else bs.getD i default := by
  unfold putAt
  simp only [List.getD_eq_getElem?_getD]
  by_cases h1 : i < p
  · rw [if_neg (by omega), List.append_assoc, List.getElem?_append_left (by simp; omega), List.getElem?_take, if_pos h1]
  · by_cases h2 : i < p + l.length
    · rw [if_pos ⟨by omega, h2⟩, List.append_assoc, List.getElem?_append_right (by simp; omega), List.getElem?_append_left (by simp; omega)]
      simp only [List.length_take]
      rw [show min p bs.length = p by omega]
    · rw [if_neg (by omega), List.getElem?_append_right (by simp; omega), List.getElem?_drop]
      congr 2
      simp only [List.length_append, List.length_take]; omega

section
variable {P : Program} {E : Env} {H : Heap} {o : Oper} {v : Value} {e : TypeId} {H0 : Heap} {B : Nat} {α : Type} {F : El α} {l : List α}

theorem zeroCells1 (z : Value) (k : Nat) : Builtin.zeroCells #[z] k = (List.replicate k z).toArray := by
  apply Array.ext'
  simp only [Builtin.zeroCells, List.size_toArray, List.length_cons, List.length_nil, Nat.zero_add, Nat.mul_one, Nat.mod_one]
  apply List.ext_getElem
  · simp
  · intro i h1 h2; simp

/-- the row behind an append: v's own, or a new one -/
def Nx (H : Heap) (v v' : Value) : Prop := v' = .slice none 0 0 ∨ (v ≠ .slice none 0 0 ∧ vblock v' = vblock v) ∨ H.size ≤ vblock v'
/-- append of k zero values (an append of a make) -/
theorem M.appendZ {T tn : TypeId} {s x : Operand} {k : Nat} {kq kn : IntKind} {z : Value} {by' : Nat} {a0 : α} {zk : Int} (ho : o.op = .call { callee := .builtin .append, args := #[s, x], argTypes := #[T, tn] }) (ht : P.underlying T = some (.slice e)) (htn : P.underlying tn = some (.int kn)) (hi : (P.info? e).map (fun i => (i.zero, i.size, i.bytes)) = some (some z, 1, by')) (hz : z.cells = #[z]) (h1 : z.oneCell' = true)
    (hs : ev E s = some v) (hx : ev E x = some (.int kq zk)) (hk : zk = (k : Int)) (hown : Own 1 F e H0 B H v l) (hE : F H0 [z] a0) (hB : B ≤ H.size) (hsz : (l.length + k) * by' ≤ 140737488355328) (hlen : l.length + k ≤ maxLen) :
    RunM P E H o (fun v' H' => Own 1 F e H0 B H' v' (l ++ List.replicate k a0) ∧ Grown v H H' ∧ Nx H v v') := by
  subst hk
  intro ρ w ha hw
  obtain ⟨i, hi', hz0, hz1, hz2⟩ : ∃ i, P.info? e = some i ∧ i.zero = some z ∧ i.size = 1 ∧ i.bytes = by' := by
    cases hq : P.info? e with
    | none => simp [hq] at hi
    | some i => simp [hq] at hi; exact ⟨i, rfl, hi⟩
  have hml : maxLen = 281474976710656 ∨ maxLen ≤ 9223372036854775807 := by unfold maxLen; omega
  have hneg : ¬ ((k : Int) < 0) := by omega
  have hw' : IntKind.i64.wrap (k : Int) = k := by rw [IntKind.wrap_i64]; omega
  have hw0 : IntKind.i64.wrap 0 = 0 := by simpa using IntKind.wrap_i64 0
  have hkb : k * by' ≤ (l.length + k) * by' := Nat.mul_le_mul_right _ (by omega)
  have h48i : ¬ (281474976710656 < (k : Int) * (by' : Int)) := by rw [← Int.natCast_mul]; omega
  obtain ⟨flat, hrow, hel⟩ := hown
  have hfl : flat.length = l.length := by simpa using hrow.1
  have hel' : ∀ j x, nth (l ++ List.replicate k a0) j = some x → F H0 (((flat ++ List.replicate k z).drop (j * 1)).take 1) x := by
    intro j x hj
    rw [nth_eq] at hj
    by_cases hjl : j < l.length
    · rw [List.getElem?_append_left hjl] at hj
      rw [List.drop_append_of_le_length (by omega), List.take_append_of_le_length (by simp; omega)]
      exact hel j x (by rw [nth_eq]; exact hj)
    · rw [List.getElem?_append_right (by omega), List.getElem?_replicate] at hj
      split at hj
      · next hlt =>
        injection hj with hj
        subst hj
        have hd : (flat ++ List.replicate k z).drop (j * 1) = (List.replicate k z).drop (j - l.length) := by
          rw [List.drop_append, List.drop_eq_nil_of_le (by omega), List.nil_append]; congr 1; omega
        rw [hd, List.drop_replicate, List.take_replicate, Nat.min_eq_left (by omega)]
        exact hE
      · cases hj
  by_cases hk0 : k = 0
  · subst hk0
    rcases hrow.2 with ⟨rfl, h3⟩ | ⟨g, cap, cur, rfl, hBg, hg, h4, h5, h6, h7⟩
    · refine ⟨.slice none 0 0, w, ?_, St.refl w, by rw [hw]; exact ⟨flat, by simpa using hrow, by simpa using hel'⟩, by rw [hw]; exact ⟨Nat.le_refl _, fun _ _ _ => rfl⟩, .inl rfl⟩
      simp [execOp, ho, resolve, invoke, builtin, ha s _ hs, ha x _ hx, Builtin.append_, run_underlying ht, run_underlying htn, sizeOf, typeInfo, hi', asInt, asIntOf, hw0, h48i, hz2, Sem.run_bind, Sem.run_pure, Result.andThen, Sem.run]
    · refine ⟨.slice (some ⟨g, 0, none⟩) l.length cap, w, ?_, St.refl w, by rw [hw]; exact ⟨flat, by simpa using hrow, by simpa using hel'⟩, by rw [hw]; exact ⟨Nat.le_refl _, fun _ _ _ => rfl⟩, .inr (.inl ⟨by simp, rfl⟩)⟩
      simp [execOp, ho, resolve, invoke, builtin, ha s _ hs, ha x _ hx, Builtin.append_, run_underlying ht, run_underlying htn, sizeOf, typeInfo, hi', asInt, asIntOf, hw0, h48i, hz2, h4, storeCells, Sem.run_bind, Sem.run_pure, Result.andThen, Sem.run]
  · have grown : ∀ old, old < l.length + k → OwnH B e 1 (w.drew.alloc (.cells (flat.toArray ++ Builtin.zeroCells z.cells k ++ Builtin.zeroCells z.cells (grownCap w (l.length + k) old e - (l.length + k))) e)).heap (.slice (some ⟨w.heap.size, 0, none⟩) (l.length + k) (grownCap w (l.length + k) old e)) (l.length + k) (flat ++ List.replicate k z) := by
      intro old hold
      have hge := grownCap_ge w (l.length + k) old e
      have hcm := grownCap_le_maxLen w (l.length + k) old e hlen
      refine ⟨by simp [hfl], .inr ⟨w.heap.size, _, _, rfl, by rw [hw]; exact hB, heap_alloc_new w.drew _, hge, hcm, ?_, ?_⟩⟩
      · rw [hz, zeroCells1, zeroCells1]; simp [hfl]; omega
      · rw [hz, zeroCells1, zeroCells1]
        simp only [Array.toList_append, List.append_assoc]
        rw [← List.append_assoc, Nat.mul_one]
        exact List.take_left' (by simp [hfl])
    have fin0 : ∀ V W, (Builtin.append_ #[T, tn] o.type #[v, .int kq k]).run P w = .ok V W → St w W.heap W → OwnH B e 1 W.heap V (l.length + k) (flat ++ List.replicate k z) → Grown v H W.heap → H.size ≤ vblock V →
        ∃ v' w', (execOp ρ o).run P w = .ok (.value v') w' ∧ St w w'.heap w' ∧ Own 1 F e H0 B w'.heap v' (l ++ List.replicate k a0) ∧ Grown v H w'.heap ∧ Nx H v v' := by
      intro V W hr hSt hO hG hN
      refine ⟨V, W, ?_, hSt, ⟨flat ++ List.replicate k z, by rw [List.length_append, List.length_replicate]; exact hO, hel'⟩, hG, .inr (.inr hN)⟩
      simp [execOp, ho, resolve, invoke, builtin, ha s _ hs, ha x _ hx, hr, Sem.run_bind, Sem.run_pure, Result.andThen]
    have fin := fun old (hold : old < l.length + k) hr => fin0 (.slice (some ⟨w.heap.size, 0, none⟩) (l.length + k) (grownCap w (l.length + k) old e)) (w.drew.alloc (.cells (flat.toArray ++ Builtin.zeroCells z.cells k ++ Builtin.zeroCells z.cells (grownCap w (l.length + k) old e - (l.length + k))) e)) hr ⟨rfl, rfl, rfl, rfl⟩ (grown old hold) (by rw [← hw]; exact ⟨by simp, fun j hj _ => heap_alloc_old w.drew _ hj⟩) (by rw [← hw]; exact Nat.le_refl _)
    rcases hrow.2 with ⟨rfl, h3⟩ | ⟨g, cap, cur, rfl, hBg, hg, h4, h5, h6, h7⟩
    · have hfe : flat = [] := List.eq_nil_of_length_eq_zero (by omega)
      have hr := Lib.run_append_nil_zeros (P := P) w T tn o.type e i z kq kn ht htn hi' hz0 k (by omega) (by omega) (by omega) (by rw [hz2]; omega)
      refine fin 0 (by omega) ?_
      rw [h3, Nat.zero_add, hr, hfe]
      simp
    · by_cases hroom : l.length + k ≤ cap
      · have hcz : Builtin.zeroCells #[z] k = (List.replicate k z).toArray := zeroCells1 z k
        have hg' : w.heap[g]? = some (.cells cur e (0, 0)) := by rw [hw]; exact hg
        have hst := run_storeCells_at P g l.length e (List.replicate k z) 0 cur w hg' (by simp; omega) (by intro u hu; rw [List.eq_of_mem_replicate hu]; exact h1)
        simp only [Nat.add_zero] at hst
        have hst' : (storeCells ((⟨g, 0, none⟩ : Addr).add l.length) (List.replicate k z)).run P w = .ok () (w.setRow g (cur.toList.take l.length ++ List.replicate k z ++ cur.toList.drop (l.length + (List.replicate k z).length)).toArray) := by
          have : (⟨g, 0, none⟩ : Addr).add l.length = ⟨g, l.length, none⟩ := by unfold Addr.add; split <;> simp_all
          rw [this]; exact hst
        refine ⟨.slice (some ⟨g, 0, none⟩) (l.length + k) cap, w.setRow g (cur.toList.take l.length ++ List.replicate k z ++ cur.toList.drop (l.length + (List.replicate k z).length)).toArray, ?_, ⟨rfl, rfl, rfl, rfl⟩, ⟨flat ++ List.replicate k z, ⟨by simp [hfl], .inr ⟨g, cap, (cur.toList.take l.length ++ List.replicate k z ++ cur.toList.drop (l.length + (List.replicate k z).length)).toArray, by simp, hBg, setRow_heap w g cur _ e _ hg', by simpa using hroom, h5, ?_, ?_⟩⟩, hel'⟩, ?_⟩
        · simp only [execOp, ho, resolve, invoke, builtin, List.map_toArray, List.map_cons, List.map_nil, ha s _ hs, ha x _ hx, Sem.run_bind, Sem.run_pure, Result.andThen]
          simp [Builtin.append_, run_underlying ht, run_underlying htn, sizeOf, typeInfo, zeroValue, hi', hz0, hz, asInt, asIntOf, hw', h48i, hz1, hz2, hk0, hneg, hroom, hcz, hst', Sem.run_bind, Sem.run_pure, Result.andThen, Sem.run]
        · simp; omega
        · have hft : flat = cur.toList.take l.length := by rw [← h7, Nat.mul_one]
          simp only [List.length_append, List.length_replicate, Nat.mul_one]
          rw [← hft]
          exact List.take_left' (by simp [hfl])
        · rw [← hw]
          exact ⟨⟨by simp, fun j hj hne => setRow_other w g j _ (by rcases hne with h | h; cases h; exact h)⟩, .inr (.inl ⟨by simp, rfl⟩)⟩
      · have holds : ∀ j u, flat[j]? = some u → w.drew.cell? ((⟨g, 0, none⟩ : Addr).add j) = some u := World.ownsRow.cells (g := g) (w := w.drew) (by rw [ownH_w]; show OwnH B e 1 w.heap _ _ _; rw [hw]; exact hrow) rfl
        have hold := run_firstCells_some (P := P) w.drew 1 l.length ⟨g, 0, none⟩ l.length cap flat (by simpa using hrow.1) holds
        refine fin cap (by omega) ?_
        exact Lib.run_append_grow_zeros (P := P) w T tn o.type e i z kq kn ht htn hi' hz0 (some ⟨g, 0, none⟩) l.length cap flat (by rw [hz1]; exact hold) k (by omega) (by omega) (by omega) (by omega) (by rw [hz2]; omega) (by rw [hz2]; exact growslice_fits (by omega) hsz)

theorem subV_base {a : Addr} {n c lo hi : Nat} (h : lo < c) : vbase (subV 1 (.slice (some a) n c) lo hi) = a.add lo := by
  unfold subV vbase
  simp only
  rw [if_neg (by omega)]
  simp
/-- copy of a slice's elements into a part of a row of the call's own -/
theorem M.copy {T T2 : TypeId} {x y : Operand} {u : Value} {bs m : List Int} {k : IntKind} {p : Nat} (ho : o.op = .call { callee := .builtin .copy, args := #[x, y], argTypes := #[T, T2] }) (ht : P.underlying T = some (.slice e)) (hz : (P.info? e).map (·.size) = some 1)
    (hx : ev E x = some (subV 1 v p (p + m.length))) (hy : ev E y = some u) (hown : Own 1 (EInt k) e H0 B H v bs) (hm : Sl 1 (EInt k) H u m) (hq : p + m.length ≤ bs.length) :
    RunM P E H o (fun r H' => r = .int .i64 m.length ∧ Own 1 (EInt k) e H0 B H' v (putAt bs p m) ∧ H'.size = H.size ∧ ∀ i, (v = .slice none 0 0 ∨ i ≠ vblock v) → H'[i]? = H[i]?) := by
  intro ρ w ha hw
  by_cases h0 : m.length = 0
  · have hm0 : m = [] := List.eq_nil_of_length_eq_zero h0
    subst hm0
    obtain ⟨a, c, rfl⟩ := hm.val
    obtain ⟨a', c', rfl, -⟩ := hown.val
    refine ⟨.int .i64 0, w, ?_, St.refl w, rfl, by rw [hw, putAt_nil]; exact hown, by rw [hw], by rw [hw]; exact fun _ _ => rfl⟩
    have hr := run_copy_none (P := P) w T T2 o.type e (if c' = p then a' else a'.map (·.add (p * 1))) a (p + 0 - p) (c' - p) 0 c ht hz (by simp)
    have hx' : ρ x = .slice (if c' = p then a' else a'.map (·.add (p * 1))) (p + 0 - p) (c' - p) := ha x _ hx
    have hy' : ρ y = .slice a 0 c := ha y _ hy
    simp only [execOp, ho, resolve, invoke, builtin, List.map_toArray, List.map_cons, List.map_nil, hx', hy', Sem.run_bind, Sem.run_pure, Result.andThen, hr]
    rfl
  · obtain ⟨ad, cap, hu, hsp, hb⟩ := hm.addr (by omega)
    obtain ⟨fm, hfl, hfc, hfe⟩ := hm.flat (by omega)
    rw [hb] at hfc
    rw [Nat.mul_one] at hfl
    obtain ⟨flat, hrow, hel⟩ := hown
    have hfl2 : flat.length = bs.length := by simpa using hrow.1
    rcases hrow.2 with ⟨rfl, h3⟩ | ⟨g, cap2, cur, rfl, hBg, hg, h4, h5, h6, h7⟩
    · omega
    · have hg' : w.heap[g]? = some (.cells cur e (0, 0)) := by rw [hw]; exact hg
      have h1 : ∀ q ∈ fm, q.oneCell' = true := by
        intro q hq
        obtain ⟨j, hj1, hj2⟩ := List.getElem_of_mem hq
        refine (oneInt k).one (hfe j _ (nth_getD (by omega))) q ?_
        rw [List.mem_iff_getElem?]
        refine ⟨0, ?_⟩
        rw [List.getElem?_take, if_pos (by omega), List.getElem?_drop, Nat.mul_one, Nat.add_zero, List.getElem?_eq_getElem hj1, hj2]
      have hr := run_copy_row (P := P) w T T2 o.type e g p m.length (cap2 - p) ad m.length cap cur e fm ht hz hg' (by rw [hfl]; exact (Nat.min_self _).symm) (fun j q hj => by rw [cell_w hw]; exact hfc j q hj) (by omega) h1
      have hx' : ρ x = .slice (some ⟨g, p, none⟩) m.length (cap2 - p) := by
        rw [ha x _ hx]
        unfold subV
        simp only
        rw [if_neg (by omega)]
        have : (⟨g, 0, none⟩ : Addr).add (p * 1) = ⟨g, p, none⟩ := by unfold Addr.add; split <;> simp_all
        simp only [Option.map_some, this, Nat.add_sub_cancel_left]
      have hy' : ρ y = .slice (some ad) m.length cap := by rw [ha y _ hy, hu]
      have hft : flat = cur.toList.take bs.length := by rw [← h7, Nat.mul_one]
      refine ⟨.int .i64 m.length, w.setRow g (cur.toList.take p ++ fm ++ cur.toList.drop (p + fm.length)).toArray, ?_, ⟨rfl, rfl, rfl, rfl⟩, rfl, ⟨flat.take p ++ fm ++ flat.drop (p + fm.length), ⟨?_, .inr ⟨g, cap2, (cur.toList.take p ++ fm ++ cur.toList.drop (p + fm.length)).toArray, by rw [putAt_length hq], hBg, setRow_heap w g cur _ e _ hg', by rw [putAt_length hq]; exact h4, h5, ?_, ?_⟩⟩, ?_⟩, by rw [← hw]; simp, ?_⟩
      · simp only [execOp, ho, resolve, invoke, builtin, List.map_toArray, List.map_cons, List.map_nil, hx', hy', Sem.run_bind, Sem.run_pure, Result.andThen, hr]
        rw [hfl]; rfl
      · rw [putAt_length hq]; simp; omega
      · simp; omega
      · rw [putAt_length hq, Nat.mul_one, hft]
        apply List.ext_getElem?
        intro i
        simp only [List.getElem?_take, List.getElem?_append, List.getElem?_drop, List.length_append, List.length_take, List.length_drop, Array.length_toList]
        repeat' split
        all_goals first | rfl | omega | (congr 1; omega) | (exfalso; omega) | skip
      · intro j z hj
        have hjl := nth_lt hj
        rw [putAt_length hq] at hjl
        rw [nth_getD (by rw [putAt_length hq]; exact hjl)] at hj
        injection hj with hj
        rw [putAt_getD hq hjl] at hj
        subst hj
        have hone : ∀ (L : List Value), ((L.drop (j * 1)).take 1) = (L[j]?).toList := by
          intro L
          rw [Nat.mul_one]
          cases hL : L[j]? with
          | none => rw [List.drop_eq_nil_of_le (by simpa using hL)]; rfl
          | some b =>
            obtain ⟨hlt, hbb⟩ := List.getElem?_eq_some_iff.1 hL
            rw [List.drop_eq_getElem_cons hlt, hbb]; rfl
        rw [hone]
        split
        · next hc =>
          have e1 : (flat.take p ++ fm ++ flat.drop (p + fm.length))[j]? = fm[j - p]? := by
            rw [List.append_assoc, List.getElem?_append_right (by simp; omega), List.getElem?_append_left (by simp; omega)]
            congr 1; simp; omega
          rw [e1]
          have := hfe (j - p) _ (nth_getD (by omega))
          rw [Nat.mul_one] at this
          have h2 : (fm.drop (j - p)).take 1 = (fm[j - p]?).toList := by
            rw [List.drop_eq_getElem_cons (by omega), List.getElem?_eq_getElem (by omega)]; rfl
          rw [h2] at this
          exact this
        · next hc =>
          have e1 : (flat.take p ++ fm ++ flat.drop (p + fm.length))[j]? = flat[j]? := by
            by_cases hjp : j < p
            · rw [List.append_assoc, List.getElem?_append_left (by simp; omega), List.getElem?_take, if_pos hjp]
            · rw [List.getElem?_append_right (by simp; omega), List.getElem?_drop]
              congr 1; simp; omega
          rw [e1]
          have := hel j _ (nth_getD hjl)
          rw [hone] at this
          exact this
      · intro i hi
        rw [← hw]
        refine setRow_other w g i _ ?_
        rcases hi with h | h
        · cases h
        · exact h
/-- copy into nil -/
theorem R.copyNil {T T2 : TypeId} {x y : Operand} {u : Value} {m : List Int} {k : IntKind} {Hx : Heap} (ho : o.op = .call { callee := .builtin .copy, args := #[x, y], argTypes := #[T, T2] }) (ht : P.underlying T = some (.slice e)) (hz : (P.info? e).map (·.size) = some 1)
    (hx : ev E x = some (.slice none 0 0)) (hy : ev E y = some u) (hm : Sl 1 (EInt k) Hx u m) : Run P E H o (.int .i64 0) := by
  intro ρ w ha hw
  obtain ⟨a, c, rfl⟩ := hm.val
  have hr := run_copy_none (P := P) w T T2 o.type e none a 0 0 m.length c ht hz (by simp)
  simp only [execOp, ho, resolve, invoke, builtin, List.map_toArray, List.map_cons, List.map_nil, ha x _ hx, ha y _ hy, Sem.run_bind, Sem.run_pure, Result.andThen, hr]
  rfl
/-! ### arrays -/
/-- an array's literal -/
theorem R.buildArr {T e' : TypeId} {n sz : Nat} {parts : Array (Nat × Operand)} {vs : List (Nat × Value)} {z : Value} {cs : Array Value} (ho : o.op = .build T parts) (ht : P.underlying T = some (.array n e')) (hz : (P.info? T).map (·.zero) = some (some z)) (hs : (P.info? e').map (·.size) = some sz)
    (hp : partsOf E parts.toList = some vs) (hfill : Instr.fill (fun i => some (i * sz, sz)) z.cells vs = some cs) : Run P E H o (.agg cs) := by
  intro ρ w ha hw
  cases hq : P.info? T with
  | none => simp [hq] at hz
  | some i =>
    simp [hq] at hz
    cases hq2 : P.info? e' with
    | none => simp [hq2] at hs
    | some i2 =>
      simp [hq2] at hs
      have e1 : List.map (fun p => (p.1, ρ p.2)) parts.toList = vs := ha.parts hp
      simp [execOp, ho, Instr.build, underlying, zeroValue, sizeOf, typeInfo, program, ht, hq, hq2, hz, hs, e1, Sem.run_bind, Sem.run_pure, Result.andThen, Sem.run]
      simp [hfill, Sem.run_bind, Sem.run_pure, Result.andThen, Sem.run]
/-- an array's literal that gives each element -/
theorem R.buildArrL {T e' : TypeId} {n sz : Nat} {parts : Array (Nat × Operand)} {us fs : List Value} {z : Value} (ho : o.op = .build T parts) (ht : P.underlying T = some (.array n e')) (hz : (P.info? T).map (·.zero) = some (some z)) (hs : (P.info? e').map (·.size) = some sz)
    (hp : evsI E 0 parts.toList = some us) (hl : us.length = n) (hsd : szd sz us = true) (hzc : z.cells.size = n * sz) (hf : flatV us = fs) : Run P E H o (.agg fs.toArray) := by
  subst hf
  have h1 := partsOf_evsI hp
  have h2 := fill_enum us 0 z.cells hsd (by rw [hzc, Nat.zero_add, hl]; exact Nat.le_refl _)
  have hd : z.cells.toList.drop ((0 + us.length) * sz) = [] := by
    rw [List.drop_eq_nil_iff, Array.length_toList, hzc, Nat.zero_add, hl]; exact Nat.le_refl _
  rw [hd] at h2
  simp only [Nat.zero_mul, List.take_zero, List.nil_append, List.append_nil] at h2
  exact R.buildArr ho ht hz hs h1 h2
/-- an element of an array that is a value: one cell -/
theorem R.indexArr {T e' : TypeId} {n j : Nat} {x i : Operand} {k : IntKind} {z : Int} {cs : Array Value} {ds : TypeDesc} (ho : o.op = .index T x i) (ht : P.underlying T = some (.array n e')) (hs : (P.info? e').map (·.size) = some 1) (hd : P.underlying e' = some ds) (ha' : isAggD ds = false)
    (hx : ev E x = some (.agg cs)) (hi : ev E i = some (.int k z)) (hj : z = (j : Int)) (hlt : j < n) (hv : nth cs.toList j = some v) : Run P E H o v := by
  intro ρ w ha hw
  subst hj
  rw [nth_eq] at hv
  have hv' : cs[j]? = some v := by simpa using hv
  have h2 : (isAgg e').run P w = .ok false w := by
    cases ds <;> simp [isAggD] at ha' <;> simp [isAgg, underlying, program, hd, Sem.run_bind, Sem.run_pure, Result.andThen, Sem.run]
  cases hq : P.info? e' with
  | none => simp [hq] at hs
  | some inf =>
    simp [hq] at hs
    simp [execOp, ho, ha x _ hx, ha i _ hi, Instr.index, asIntOf, underlying, sizeOf, typeInfo, program, ht, hq, hs, hlt, part, asAgg, h2, hv', Sem.run_bind, Sem.run_pure, Result.andThen, Sem.run]
/-- the address of an element of an array -/
theorem R.indexAddrArr {T e' : TypeId} {n j sz : Nat} {x i : Operand} {k : IntKind} {z : Int} {p : Addr} (ho : o.op = .indexAddr T x i) (ht : P.underlying T = some (.array n e')) (hs : (P.info? e').map (·.size) = some sz)
    (hx : ev E x = some (.pointer (some p))) (hi : ev E i = some (.int k z)) (hj : z = (j : Int)) (hlt : j < n) : Run P E H o (.pointer (some (p.add (j * sz)))) := by
  intro ρ w ha hw
  subst hj
  cases hq : P.info? e' with
  | none => simp [hq] at hs
  | some inf =>
    simp [hq] at hs
    simp [execOp, ho, ha x _ hx, ha i _ hi, Instr.indexAt, Instr.sureAddr, asIntOf, underlying, sizeOf, typeInfo, program, ht, hq, hs, hlt, Sem.run_bind, Sem.run_pure, Result.andThen, Sem.run]
end
end Go.Proofs.Yticnkojpfmkjeaa
