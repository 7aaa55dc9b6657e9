/- Copies of as much as there is place for. No condition but those that each law states. -/
import Derived.Test.YticnkojpfmkjeaaKMore
namespace Go.Proofs.Yticnkojpfmkjeaa
open Go Go.RowKit
set_option linter.unusedVariables false
set_option linter.unusedSimpArgs false
theorem take_min {α : Type} (s : List α) (d : Nat) : s.take (min d s.length) = s.take d := by
  by_cases h : d ≤ s.length
  · rw [Nat.min_eq_left h]
  · rw [Nat.min_eq_right (by omega), List.take_length, List.take_of_length_le (by omega)]
section
variable {P : Program} {E : Env} {H H0 : Heap} {o : Oper} {e : TypeId} {v : Value} {B : Nat}
/-- copy of a slice's first elements, as many as there is place for, into a part of a row of the call's own -/
theorem M.copyMin {T T2 : TypeId} {x y : Operand} {u : Value} {bs s m : List Int} {k : IntKind} {p d : Nat} (hsd : m = s.take d) (ho : o.op = .call { callee := .builtin .copy, args := #[x, y], argTypes := #[T, T2] }) (ht : P.underlying T = some (.slice e)) (hz : (P.info? e).map (·.size) = some 1)
    (hx : ev E x = some (subV 1 v p (p + d))) (hy : ev E y = some u) (hown : Own 1 (EInt k) e H0 B H v bs) (hm0 : Sl 1 (EInt k) H u s) (hq0 : p + d ≤ bs.length) :
    RunM P E H o (fun r H' => r = .int .i64 m.length ∧ Own 1 (EInt k) e H0 B H' v (putAt bs p m) ∧ H'.size = H.size ∧ ∀ i, (v = .slice none 0 0 ∨ i ≠ vblock v) → H'[i]? = H[i]?) := by
  intro ρ w ha hw
  have hml : m.length = min d s.length := by rw [hsd, List.length_take]
  have hq : p + m.length ≤ bs.length := by omega
  by_cases h0 : m.length = 0
  · have hmn : m = [] := List.eq_nil_of_length_eq_zero h0
    obtain ⟨a, c, rfl⟩ := hm0.val
    obtain ⟨a', c', rfl, -⟩ := hown.val
    refine ⟨.int .i64 0, w, ?_, St.refl w, by rw [h0]; rfl, by rw [hw, hmn, putAt_nil]; exact hown, by rw [hw], by rw [hw]; exact fun _ _ => rfl⟩
    have hr := run_copy_none (P := P) w T T2 o.type e (if c' = p then a' else a'.map (·.add (p * 1))) a (p + d - p) (c' - p) s.length c ht hz (by show min s.length (p + d - p) = 0; omega)
    have hx' : ρ x = .slice (if c' = p then a' else a'.map (·.add (p * 1))) (p + d - p) (c' - p) := ha x _ hx
    have hy' : ρ y = .slice a s.length c := ha y _ hy
    simp only [execOp, ho, resolve, invoke, builtin, List.map_toArray, List.map_cons, List.map_nil, hx', hy', Sem.run_bind, Sem.run_pure, Result.andThen, hr]
    rfl
  · obtain ⟨ad, cap, hu, hsp, hb⟩ := hm0.addr (by omega)
    have hcap : s.length ≤ cap := by
      obtain ⟨_, _, hv, k2, _⟩ := hm0
      rw [hu] at hv; injection hv with _ _ e2
      omega
    have hm := hm0.sub (lo := 0) (hi := m.length) (Nat.zero_le _) (by omega)
    have em : (s.take m.length).drop 0 = m := by rw [List.drop_zero, hml, hsd]; exact take_min s d
    rw [em] at hm
    obtain ⟨fm, hfl, hfc, hfe⟩ := hm.flat (by omega)
    have hb2 : vbase (subV 1 u 0 m.length) = ad := by
      rw [hu]; unfold subV vbase
      simp only
      rw [if_neg (by omega)]
      have : ad.add (0 * 1) = ad := by unfold Addr.add; split <;> simp_all
      simp only [Option.map_some, this, Option.getD_some]
    rw [hb2] at hfc
    rw [Nat.mul_one] at hfl
    obtain ⟨flat, hrow, hel⟩ := hown
    have hfl2 : flat.length = bs.length := by simpa using hrow.1
    rcases hrow.2 with ⟨rfl, h3⟩ | ⟨g, cap2, cur, rfl, hBg, hg, h4, h5, h6, h7⟩
    · omega
    · have hg' : w.heap[g]? = some (.cells cur e (0, 0)) := by rw [hw]; exact hg
      have h1 : ∀ q ∈ fm, q.oneCell' = true := by
        intro q hq
        obtain ⟨j, hj1, hj2⟩ := List.getElem_of_mem hq
        refine (oneInt k).one (hfe j _ (nth_getD (by omega))) q ?_
        rw [List.mem_iff_getElem?]
        refine ⟨0, ?_⟩
        rw [List.getElem?_take, if_pos (by omega), List.getElem?_drop, Nat.mul_one, Nat.add_zero, List.getElem?_eq_getElem hj1, hj2]
      have hr := run_copy_row (P := P) w T T2 o.type e g p d (cap2 - p) ad s.length cap cur e fm ht hz hg' (by rw [hfl, hml]; exact Nat.min_comm _ _) (fun j q hj => by rw [cell_w hw]; exact hfc j q hj) (by omega) h1
      have hx' : ρ x = .slice (some ⟨g, p, none⟩) d (cap2 - p) := by
        rw [ha x _ hx]
        unfold subV
        simp only
        rw [if_neg (by omega)]
        have : (⟨g, 0, none⟩ : Addr).add (p * 1) = ⟨g, p, none⟩ := by unfold Addr.add; split <;> simp_all
        simp only [Option.map_some, this, Nat.add_sub_cancel_left]
      have hy' : ρ y = .slice (some ad) s.length cap := by rw [ha y _ hy, hu]
      have hft : flat = cur.toList.take bs.length := by rw [← h7, Nat.mul_one]
      refine ⟨.int .i64 m.length, w.setRow g (cur.toList.take p ++ fm ++ cur.toList.drop (p + fm.length)).toArray, ?_, ⟨rfl, rfl, rfl, rfl⟩, rfl, ⟨flat.take p ++ fm ++ flat.drop (p + fm.length), ⟨?_, .inr ⟨g, cap2, (cur.toList.take p ++ fm ++ cur.toList.drop (p + fm.length)).toArray, by rw [putAt_length hq], hBg, setRow_heap w g cur _ e _ hg', by rw [putAt_length hq]; exact h4, h5, ?_, ?_⟩⟩, ?_⟩, by rw [← hw]; simp, ?_⟩
      · simp only [execOp, ho, resolve, invoke, builtin, List.map_toArray, List.map_cons, List.map_nil, hx', hy', Sem.run_bind, Sem.run_pure, Result.andThen, hr]
        rw [hfl]; rfl
      · rw [putAt_length hq]; simp; omega
      · simp; omega
      · rw [putAt_length hq, Nat.mul_one, hft]
        apply List.ext_getElem?
        intro i
        simp only [List.getElem?_take, List.getElem?_append, List.getElem?_drop, List.length_append, List.length_take, List.length_drop, Array.length_toList]
        repeat' split
        all_goals first | rfl | omega | (congr 1; omega) | (exfalso; omega) | skip
      · intro j z hj
        have hjl := nth_lt hj
        rw [putAt_length hq] at hjl
        rw [nth_getD (by rw [putAt_length hq]; exact hjl)] at hj
        injection hj with hj
        rw [putAt_getD hq hjl] at hj
        subst hj
        have hone : ∀ (L : List Value), ((L.drop (j * 1)).take 1) = (L[j]?).toList := by
          intro L
          rw [Nat.mul_one]
          cases hL : L[j]? with
          | none => rw [List.drop_eq_nil_of_le (by simpa using hL)]; rfl
          | some b =>
            obtain ⟨hlt, hbb⟩ := List.getElem?_eq_some_iff.1 hL
            rw [List.drop_eq_getElem_cons hlt, hbb]; rfl
        rw [hone]
        split
        · next hc =>
          have e1 : (flat.take p ++ fm ++ flat.drop (p + fm.length))[j]? = fm[j - p]? := by
            rw [List.append_assoc, List.getElem?_append_right (by simp; omega), List.getElem?_append_left (by simp; omega)]
            congr 1; simp; omega
          rw [e1]
          have := hfe (j - p) _ (nth_getD (by omega))
          rw [Nat.mul_one] at this
          have h2 : (fm.drop (j - p)).take 1 = (fm[j - p]?).toList := by
            rw [List.drop_eq_getElem_cons (by omega), List.getElem?_eq_getElem (by omega)]; rfl
          rw [h2] at this
          exact this
        · next hc =>
          have e1 : (flat.take p ++ fm ++ flat.drop (p + fm.length))[j]? = flat[j]? := by
            by_cases hjp : j < p
            · rw [List.append_assoc, List.getElem?_append_left (by simp; omega), List.getElem?_take, if_pos hjp]
            · rw [List.getElem?_append_right (by simp; omega), List.getElem?_drop]
              congr 1; simp; omega
          rw [e1]
          have := hel j _ (nth_getD hjl)
          rw [hone] at this
          exact this
      · intro i hi
        rw [← hw]
        refine setRow_other w g i _ ?_
        rcases hi with h | h
        · cases h
        · exact h
end
end Go.Proofs.Yticnkojpfmkjeaa
