/- Rows of the call's own of which whole elements are stored, and which are cleared from a place on. No condition but those that each law states. -/
import Derived.Test.YtgpbdimccbimnaaKArr
namespace Go.Proofs.Ytgpbdimccbimnaa
open Go Go.RowKit
set_option linter.unusedVariables false
set_option linter.unusedSimpArgs false
section
variable {P : Program} {o : Oper} {E : Env} {H : Heap} {α : Type} {n : Nat} {F : El α} {e : TypeId} {H0 : Heap} {B : Nat} {v : Value} {l : List α}
/-- cells j*n .. of a flat list, behind a store of us there -/
theorem flat_set {n j i : Nat} {flat us : List Value} (hu : us.length = n) (hj : j * n + n ≤ flat.length) : ((flat.take (j * n) ++ us ++ flat.drop (j * n + us.length)).drop (i * n)).take n = if i = j then us else (flat.drop (i * n)).take n := by
  subst hu
  by_cases h : i = j
  · subst h
    rw [if_pos rfl, List.append_assoc, List.drop_append_of_le_length (by rw [List.length_take]; omega), List.drop_of_length_le (by rw [List.length_take]; omega)]
    simp
  · rw [if_neg h]
    apply List.ext_getElem?
    intro k
    rw [List.getElem?_take, List.getElem?_take]
    split
    · rename_i hk
      rw [List.getElem?_drop, List.getElem?_drop, List.append_assoc]
      have hlt : (flat.take (j * us.length)).length = j * us.length := by rw [List.length_take]; omega
      rcases Nat.lt_or_gt_of_ne h with h | h
      · have h2 : (i + 1) * us.length ≤ j * us.length := Nat.mul_le_mul_right _ h
        rw [Nat.add_mul, Nat.one_mul] at h2
        rw [List.getElem?_append_left (by omega), List.getElem?_take, if_pos (by omega)]
      · have h2 : (j + 1) * us.length ≤ i * us.length := Nat.mul_le_mul_right _ h
        rw [Nat.add_mul, Nat.one_mul] at h2
        rw [List.getElem?_append_right (by omega), hlt, List.getElem?_append_right (by omega), List.getElem?_drop]
        congr 1
        omega
    · rfl
/-- one element stored -/
theorem S.ownN {T : TypeId} {x y : Operand} {us : List Value} {j : Nat} {a : α} (ho : o.op = .store T x y) (hs : (P.info? T).map (·.size) = some n) (hx : ev E x = some (.pointer (some ((vbase v).add (j * n))))) (hy : ev E y = some (.agg us.toArray)) (hl : us.length = n) (h1 : ∀ u ∈ us, u.oneCell' = true)
    (hown : Own n F e H0 B H v l) (hj : j < l.length) (hF : F H0 us a) : RunS P E H o (fun H' => Upd (vblock v) H H' ∧ Own n F e H0 B H' v (l.set j a)) := by
  obtain ⟨flat, ⟨h0, hcase⟩, hel⟩ := hown
  rcases hcase with ⟨rfl, h3⟩ | ⟨g, cap, cur, rfl, hB, hg, h4, h5, h6, h7⟩
  · omega
  · have ep : ((vbase (.slice (some ⟨g, 0, none⟩) l.length cap)).add (j * n)) = ⟨g, j * n, none⟩ := by simp only [vbase]; unfold Addr.add; split <;> simp_all
    rw [ep] at hx
    have hjn : j * n + n ≤ l.length * n := by
      have := Nat.mul_le_mul_right n hj
      rw [Nat.succ_mul] at this; exact this
    have hln : l.length * n ≤ cap * n := Nat.mul_le_mul_right n h4
    have hsz : cur.toList.length = cap * n := by rw [Array.length_toList]; exact h6
    have hst := S.storeAgg (P := P) (E := E) (H := H) (cs := cur.toList) ho hs hx hy hl h1 (by simpa using hg) (by rw [hsz]; omega)
    intro ρ w ha hw
    obtain ⟨w', hr, hst', hu, hb⟩ := hst ρ w ha hw
    have hfl : flat.length = l.length * n := h0
    refine ⟨w', hr, hst', hu, flat.take (j * n) ++ us ++ flat.drop (j * n + us.length), ⟨?_, .inr ⟨g, cap, _, by simp, hB, hb, by simpa using h4, h5, ?_, ?_⟩⟩, ?_⟩
    · simp only [List.length_append, List.length_take, List.length_drop, List.length_set]; omega
    · simp only [List.size_toArray, List.length_append, List.length_take, List.length_drop, hsz]; omega
    · simp only [List.length_set]
      rw [← h7]
      apply List.ext_getElem?
      intro k
      rw [List.getElem?_take]
      have q1 : (cur.toList.take (j * n)).length = j * n := by rw [List.length_take, hsz]; omega
      have q2 : ((cur.toList.take (l.length * n)).take (j * n)).length = j * n := by rw [List.length_take, List.length_take, hsz]; omega
      have e : j * n + us.length + (k - j * n - us.length) = k ∨ k < j * n + us.length := by omega
      by_cases hk1 : k < j * n
      · have L : (cur.toList.take (j * n) ++ us ++ cur.toList.drop (j * n + us.length))[k]? = cur.toList[k]? := by
          rw [List.append_assoc, List.getElem?_append_left (by omega), List.getElem?_take, if_pos hk1]
        have R : ((cur.toList.take (l.length * n)).take (j * n) ++ us ++ (cur.toList.take (l.length * n)).drop (j * n + us.length))[k]? = cur.toList[k]? := by
          rw [List.append_assoc, List.getElem?_append_left (by omega), List.getElem?_take, if_pos hk1, List.getElem?_take, if_pos (by omega)]
        rw [if_pos (by omega), L, R]
      · by_cases hk2 : k < j * n + us.length
        · have L : (cur.toList.take (j * n) ++ us ++ cur.toList.drop (j * n + us.length))[k]? = us[k - j * n]? := by
            rw [List.append_assoc, List.getElem?_append_right (by omega), q1, List.getElem?_append_left (by omega)]
          have R : ((cur.toList.take (l.length * n)).take (j * n) ++ us ++ (cur.toList.take (l.length * n)).drop (j * n + us.length))[k]? = us[k - j * n]? := by
            rw [List.append_assoc, List.getElem?_append_right (by omega), q2, List.getElem?_append_left (by omega)]
          rw [if_pos (by omega), L, R]
        · have e := e.resolve_right hk2
          have L : (cur.toList.take (j * n) ++ us ++ cur.toList.drop (j * n + us.length))[k]? = cur.toList[k]? := by
            rw [List.append_assoc, List.getElem?_append_right (by omega), q1, List.getElem?_append_right (by omega), List.getElem?_drop, e]
          have R : ((cur.toList.take (l.length * n)).take (j * n) ++ us ++ (cur.toList.take (l.length * n)).drop (j * n + us.length))[k]? = if k < l.length * n then cur.toList[k]? else none := by
            rw [List.append_assoc, List.getElem?_append_right (by omega), q2, List.getElem?_append_right (by omega), List.getElem?_drop, e, List.getElem?_take]
          rw [L, R]
    · intro i b hi
      rw [flat_set hl (by omega)]
      rw [nth_eq, List.getElem?_set] at hi
      by_cases hij : i = j
      · subst hij
        simp [hj] at hi; subst hi
        rw [if_pos rfl]; exact hF
      · rw [if_neg hij]
        rw [if_neg (fun h => hij h.symm)] at hi
        exact hel i b (by rw [nth_eq]; exact hi)
/-- an operation whose value goes nowhere -/
theorem KL.opZ {n : Nat} {W0 : World} {Q : Exit → Act → World → Prop} {ops rest : List Oper} {R : Heap → Prop} (hr : RunM P E H o (fun _ H' => R H')) (hd : o.dst = none) (hg : want ops E o.guard = some true) (h : ∀ H', R H' → KL P n W0 Q ops rest E H') : KL P n W0 Q ops (o :: rest) E H := by
  intro a w ha hw
  refine wpList_step fun K hK => ?_
  rw [if_pos (want_wanted ha hg)]
  obtain ⟨v, w', hrun, hst, hR⟩ := hr a.eval w ha.agree hw.heap
  unfold Oper.wp
  rw [hrun]
  show K (a.put o.dst v) w'
  rw [hd]
  exact hK _ _ (h _ hR _ _ ha (hw.trans hst))
theorem zeroCells_ones {z : Array Value} (hz : ∀ u ∈ z.toList, u.oneCell' = true) (m : Nat) : ∀ u ∈ (Builtin.zeroCells z m).toList, u.oneCell' = true := by
  intro u hu
  unfold Builtin.zeroCells at hu
  simp only [Array.toList_map, List.mem_map] at hu
  obtain ⟨i, hi, rfl⟩ := hu
  by_cases h0 : z.size = 0
  · simp [h0] at hi
  · have hlt : i % z.size < z.size := Nat.mod_lt _ (by omega)
    rw [getElem!_pos z (i % z.size) hlt]
    exact hz _ (by simp)
theorem zeroCells_len (z : Array Value) (m : Nat) : (Builtin.zeroCells z m).toList.length = m * z.size := by simp [Builtin.zeroCells]
/-- what is behind a place is cleared: what is ahead of it stays -/
theorem M.clear {T : TypeId} {x : Operand} {z : Value} {j : Nat} (ho : o.op = .call { callee := .builtin .clear, args := #[x], argTypes := #[T] }) (hT : P.underlying T = some (.slice e)) (hz : (P.info? e).map (·.zero) = some (some z)) (hzn : z.cells.size = n) (hz1 : ∀ u ∈ z.cells.toList, u.oneCell' = true)
    (hx : ev E x = some (subV n v j l.length)) (hown : Own n F e H0 B H v l) (hj : j ≤ l.length) : RunM P E H o (fun _ H' => H'.size = H.size ∧ (∀ k, (v = .slice none 0 0 ∨ k ≠ vblock v) → H'[k]? = H[k]?) ∧ Own n F e H0 B H' (toV v j) (l.take j)) := by
  intro ρ w ha hw
  subst hw
  have hto := (hown.to hj).1
  have hown0 := hown
  obtain ⟨flat, ⟨h0, hcase⟩, hel⟩ := hown
  rcases hcase with ⟨rfl, h3⟩ | ⟨g, cap, cur, rfl, hB, hg, h4, h5, h6, h7⟩
  · have ej : j = 0 := by omega
    subst ej
    refine ⟨.tuple #[], w, ?_, ⟨rfl, rfl, rfl, rfl⟩, rfl, fun _ _ => rfl, hto⟩
    have ex : ρ x = .slice none 0 0 := by rw [ha x _ hx, h3]; simp [subV]
    simp [execOp, ho, ex, resolve, invoke, builtin, Builtin.clear_, underlying, program, hT, Sem.run_bind, Sem.run_pure, Result.andThen, Sem.run]
  · by_cases hjl : j = l.length
    · refine ⟨.tuple #[], w, ?_, ⟨rfl, rfl, rfl, rfl⟩, rfl, fun _ _ => rfl, hto⟩
      have ex := ha x _ hx
      rw [hjl] at ex
      simp only [subV, Nat.sub_self] at ex
      generalize (if cap = l.length then some (⟨g, 0, none⟩ : Addr) else Option.map (fun y : Addr => y.add (l.length * n)) (some ⟨g, 0, none⟩)) = q at ex
      cases q <;> simp [execOp, ho, ex, resolve, invoke, builtin, Builtin.clear_, underlying, program, hT, Sem.run_bind, Sem.run_pure, Result.andThen, Sem.run]
    · have hlt : j < l.length := by omega
      have ex := ha x _ hx
      have ec : (if cap = j then some (⟨g, 0, none⟩ : Addr) else Option.map (fun y : Addr => y.add (j * n)) (some ⟨g, 0, none⟩)) = some ⟨g, j * n, none⟩ := by
        rw [if_neg (by omega)]
        simp only [Option.map_some]
        unfold Addr.add
        split <;> simp_all
      simp only [subV] at ex
      rw [ec] at ex
      have hjn : j * n + (l.length - j) * n = l.length * n := by rw [← Nat.add_mul]; congr 1; omega
      have hln : l.length * n ≤ cap * n := Nat.mul_le_mul_right n h4
      have hzl : (Builtin.zeroCells z.cells (l.length - j)).toList.length = (l.length - j) * n := by rw [zeroCells_len, hzn]
      have hst := run_storeCells_at P g (j * n) e (Builtin.zeroCells z.cells (l.length - j)).toList 0 cur w hg (by rw [hzl]; omega) (zeroCells_ones hz1 _)
      simp only [Nat.add_zero] at hst
      refine ⟨.tuple #[], w.setRow g (cur.toList.take (j * n) ++ (Builtin.zeroCells z.cells (l.length - j)).toList ++ cur.toList.drop (j * n + (Builtin.zeroCells z.cells (l.length - j)).toList.length)).toArray, ?_, ⟨rfl, rfl, rfl, rfl⟩, by simp, fun k hk => setRow_other w g k _ ?_, ?_⟩
      · obtain ⟨m, hm⟩ : ∃ m, l.length - j = m + 1 := ⟨l.length - j - 1, by omega⟩
        rw [hm] at ex
        rw [hm] at hst ⊢
        cases hq : P.info? e with
        | none => simp [hq] at hz
        | some inf =>
          simp [hq] at hz
          simp [execOp, ho, ex, resolve, invoke, builtin, Builtin.clear_, underlying, program, hT, zeroValue, typeInfo, hq, hz, hst, Sem.run_bind, Sem.run_pure, Result.andThen, Sem.run]
      · exact hk.elim (fun h => by cases h) (fun h => h)
      · have hb := setRow_heap w g cur (cur.toList.take (j * n) ++ (Builtin.zeroCells z.cells (l.length - j)).toList ++ cur.toList.drop (j * n + (Builtin.zeroCells z.cells (l.length - j)).toList.length)).toArray e (0, 0) hg
        have hsz : cur.toList.length = cap * n := by rw [Array.length_toList]; exact h6
        have htk : (l.take j).length = j := by rw [List.length_take]; omega
        refine ⟨flat.take (j * n), ⟨?_, .inr ⟨g, cap, _, ?_, hB, hb, by omega, h5, ?_, ?_⟩⟩, ?_⟩
        · rw [List.length_take, h0, htk]; omega
        · rw [htk]; rfl
        · simp only [List.size_toArray, List.length_append, List.length_take, List.length_drop, hsz, hzl]; omega
        · rw [htk, ← h7]
          rw [List.append_assoc, List.take_append_of_le_length (by rw [List.length_take, hsz]; omega), List.take_take, List.take_take]
          congr 1
          omega
        · intro i b hi
          have hi2 : i < j := by
            rw [nth_eq] at hi
            have := (List.getElem?_eq_some_iff.1 hi).1
            omega
          have := hel i b (by rw [nth_eq] at hi ⊢; rw [List.getElem?_take, if_pos hi2] at hi; exact hi)
          have h2 : (i + 1) * n ≤ j * n := Nat.mul_le_mul_right _ hi2
          rw [Nat.add_mul, Nat.one_mul] at h2
          have e2 : ((flat.take (j * n)).drop (i * n)).take n = (flat.drop (i * n)).take n := by
            rw [List.drop_take, List.take_take]
            congr 1
            omega
          rw [e2]; exact this
end
end Go.Proofs.Ytgpbdimccbimnaa
