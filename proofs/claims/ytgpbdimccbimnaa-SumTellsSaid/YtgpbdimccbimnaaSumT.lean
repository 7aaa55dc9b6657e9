/- Appends in a region that draws its order: what they change. No condition but those that each law states. -/
import Derived.Test.YtgpbdimccbimnaaSumI
import Derived.Test.YtgpbdimccbimnaaKOut
import Derived.Test.YtgpbdimccbimnaaKOpen
namespace Go.Proofs.Ytgpbdimccbimnaa
open Go Go.RowKit Go.ChangeShapes Go.WideShapes Go.Deep
set_option linter.unusedVariables false
set_option linter.unusedSimpArgs false
/-- within a row's room: what was ahead of it stays -/
def InPlace (e : TypeId) (B n m : Nat) (v v' : Value) (H H' : Heap) : Prop :=
  ∃ g cap cur cur', B ≤ g ∧ v = .slice (some ⟨g, 0, none⟩) n cap ∧ v' = .slice (some ⟨g, 0, none⟩) (n + m) cap ∧ H[g]? = some (.cells cur e (0, 0)) ∧ cur.size = cap ∧ n + m ≤ cap ∧ Upd g H H' ∧ H'[g]? = some (.cells cur' e (0, 0)) ∧ cur'.size = cur.size ∧ cur'.toList.take n = cur.toList.take n
section
variable {P : Program} {E : Env} {H H' : Heap} {o : Oper} {v v' : Value} {e : TypeId} {B : Nat} {l : List Int}
theorem M.appendQ {T : TypeId} {s x : Operand} {u : Value} {m : List Int} {z : Value} {by' : Nat} (ho : o.op = .call { callee := .builtin .append, args := #[s, x], argTypes := #[T, T] }) (ht : P.underlying T = some (.slice e)) (hi : (P.info? e).map (fun i => (i.zero, i.size, i.bytes)) = some (some z, 1, by')) (hz : z.cells.size = 1)
    (hs : ev E s = some v) (hx : ev E x = some u) (hown : Own 1 (EInt .u8) e #[] B H v l) (hl0 : 0 < l.length) (hm : Sl 1 (EInt .u8) H u m) (hB : B ≤ H.size) (hsz : (l.length + m.length) * by' ≤ 140737488355328) (hlen : l.length + m.length ≤ maxLen) (hm0 : 0 < m.length) :
    RunM P E H o (fun v' H' => Own 1 (EInt .u8) e #[] B H' v' (l ++ m) ∧ (Old H H' ∨ InPlace e B l.length m.length v v' H H')) := by
  intro ρ w ha hw
  obtain ⟨v', w', hr, hst, h1, h2, h3⟩ := M.appendN (P := P) (E := E) (H := H) (o := o) ho ht hi hz (by omega) hs hx hown hm (fun _ _ h _ => h) hB hsz hlen ρ w ha hw
  refine ⟨v', w', hr, hst, h1, ?_⟩
  obtain ⟨i, hi', hz0, hz1, hz2⟩ : ∃ i, P.info? e = some i ∧ i.zero = some z ∧ i.size = 1 ∧ i.bytes = by' := by
    cases hq : P.info? e with
    | none => simp [hq] at hi
    | some i => simp [hq] at hi; exact ⟨i, rfl, hi⟩
  obtain ⟨ad, cap2, hu, hsp, hb⟩ := hm.addr hm0
  obtain ⟨fm, hfl, hfc, hfe⟩ := hm.flat hm0
  rw [hb] at hfc
  have h1c : ∀ q ∈ fm, q.oneCell' = true := by
    intro q hq
    obtain ⟨k, hk1, hk2⟩ := List.getElem_of_mem hq
    have hk3 : k < m.length := by omega
    refine (oneInt .u8).one (hfe k _ (nth_getD hk3)) q ?_
    rw [List.mem_iff_getElem?]
    refine ⟨0, ?_⟩
    rw [List.getElem?_take, if_pos (by omega), List.getElem?_drop, Nat.mul_one, Nat.add_zero, List.getElem?_eq_getElem hk1, hk2]
  have hnews : ∀ j q, fm[j]? = some q → w.cell? (ad.add j) = some q := fun j q hj => by rw [cell_w hw]; exact hfc j q hj
  have key : ∀ v2 w2, (Builtin.append_ #[T, T] o.type #[v, .slice (some ad) m.length cap2]).run P w = .ok v2 w2 → v' = v2 ∧ w' = w2 := by
    intro v2 w2 hr2
    have : (execOp ρ o).run P w = .ok (.value v2) w2 := by
      subst hu
      simp [execOp, ho, resolve, invoke, builtin, ha s _ hs, ha x _ hx, Sem.run_bind, Sem.run_pure, Result.andThen]
      simp [hr2]
    rw [hr] at this
    injection this with a b
    injection a with a
    exact ⟨a, b⟩
  obtain ⟨flat, ⟨h0, hc⟩, hel⟩ := hown
  rcases hc with ⟨rfl, hc⟩ | ⟨g, cap, cur, rfl, hBg, hg, hnc, hcm, hcs, htake⟩
  · omega
  · have hg' : w.heap[g]? = some (.cells cur e (0, 0)) := by rw [hw]; exact hg
    by_cases hroom : l.length + m.length ≤ cap
    · have hfit : l.length * i.size + fm.length ≤ cur.size := by rw [hz1, hfl, hcs]; omega
      obtain ⟨hv2, hw2⟩ := key _ _ (run_append_room (P := P) w T o.type e i ht hi' g l.length cap cur hg' ad m.length cap2 fm (by rw [hz1]; exact hfl) hnews h1c hroom hfit)
      right
      rw [hw2]
      refine ⟨g, cap, cur, _, hBg, rfl, hv2, hg, by omega, hroom, ⟨by rw [← hw]; simp, fun k hk => by rw [← hw]; exact setRow_other w g k _ hk⟩, setRow_heap w g cur _ e _ hg', ?_, ?_⟩
      · simp only [List.size_toArray, List.length_append, List.length_take, List.length_drop, Array.length_toList]
        omega
      · rw [hz1, Nat.mul_one, List.append_assoc, List.take_append_of_le_length (by rw [List.length_take, show cur.toList.length = cur.size from rfl]; omega), List.take_take, Nat.min_self]
    · have holds : ∀ j q, flat[j]? = some q → w.cell? ((⟨g, 0, none⟩ : Addr).add j) = some q := by
        intro j q hj
        have hown' : w.ownsRow B e 1 (.slice (some ⟨g, 0, none⟩) l.length cap) l.length flat := by rw [ownH_w, hw]; exact ⟨h0, .inr ⟨g, cap, cur, rfl, hBg, hg, hnc, hcm, hcs, htake⟩⟩
        exact hown'.cells (g := g) rfl j q hj
      have hsmall : l.length + m.length ≤ 9223372036854775807 := by simp only [maxLen] at hlen; omega
      obtain ⟨-, hw2⟩ := key _ _ (run_append_grow (P := P) w T o.type e i z ht hi' hz0 ⟨g, 0, none⟩ l.length cap flat (by rw [hz1]; exact h0) holds ad m.length cap2 fm (by rw [hz1]; exact hfl) hnews (by omega) (by omega) (growslice_fits (by omega) (by rw [hz2]; exact hsz)))
      left
      rw [hw2, ← hw]
      exact ⟨by simp, fun k hk => heap_alloc_old w.drew _ hk⟩
/-- a row of the same elements, not longer than what stays -/
theorem Own.inPlace {n m : Nat} {u : Value} {l' : List Int} (h : Own 1 (EInt .u8) e #[] B H u l') (ip : InPlace e B n m v v' H H') (hl : l'.length ≤ n) : Own 1 (EInt .u8) e #[] B H' u l' := by
  obtain ⟨g, cap, cur, cur', hg0, hv, hv', hg, hcs, hcap, up, hg', hsz, htk⟩ := ip
  obtain ⟨flat, ⟨h0, hc⟩, hel⟩ := h
  rcases hc with ⟨rfl, hc⟩ | ⟨g2, cap2, cur2, rfl, hB2, hg2, hn2, hc2, hs2, ht2⟩
  · exact ⟨flat, ⟨h0, .inl ⟨rfl, hc⟩⟩, hel⟩
  · by_cases e1 : g2 = g
    · subst e1
      rw [hg] at hg2
      injection hg2 with hg2
      injection hg2 with hg2
      subst hg2
      refine ⟨flat, ⟨h0, .inr ⟨g2, cap2, cur', rfl, hB2, hg', hn2, hc2, by omega, ?_⟩⟩, hel⟩
      rw [Nat.mul_one] at ht2 ⊢
      rw [← ht2, show cur'.toList.take l'.length = (cur'.toList.take n).take l'.length by rw [List.take_take, Nat.min_eq_left hl], htk, List.take_take, Nat.min_eq_left hl]
    · exact ⟨flat, ⟨h0, .inr ⟨g2, cap2, cur2, rfl, hB2, (up.2 g2 e1).trans hg2, hn2, hc2, hs2, ht2⟩⟩, hel⟩
/-- the row that has come of it: it stays, too -/
theorem Own.inPlaceEq {n m : Nat} {u : Value} {l' : List Int} (h : Own 1 (EInt .u8) e #[] B H u l') (ip : InPlace e B n m v v' H H') (hl : l'.length = n + m) (hpos : 0 < n + m) (hown : Own 1 (EInt .u8) e #[] B H' v' l') : Own 1 (EInt .u8) e #[] B H' u l' := by
  obtain ⟨g, cap, cur, cur', hg0, hv, hv', hg, hcs, hcap, up, hg', hsz, htk⟩ := ip
  obtain ⟨flat, ⟨h0, hc⟩, hel⟩ := h
  rcases hc with ⟨rfl, hc⟩ | ⟨g2, cap2, cur2, rfl, hB2, hg2, hn2, hc2, hs2, ht2⟩
  · omega
  · by_cases e1 : g2 = g
    · subst e1
      rw [hg] at hg2
      injection hg2 with hg2
      injection hg2 with hg2
      subst hg2
      have : Value.slice (some ⟨g2, 0, none⟩) l'.length cap2 = v' := by rw [hv', hl]; congr 1; omega
      rw [this]; exact hown
    · exact ⟨flat, ⟨h0, .inr ⟨g2, cap2, cur2, rfl, hB2, (up.2 g2 e1).trans hg2, hn2, hc2, hs2, ht2⟩⟩, hel⟩
/-- a block of other elements, or of another size, is not it -/
theorem InPlace.other {n m : Nat} {g2 : Nat} {cs : Array Value} {e2 : TypeId} (ip : InPlace e B n m v v' H H') (hb : H[g2]? = some (.cells cs e2 (0, 0))) (h : e2 ≠ e ∨ cs.size < n + m) : H'[g2]? = some (.cells cs e2 (0, 0)) := by
  obtain ⟨g, cap, cur, cur', hg0, hv, hv', hg, hcs, hcap, up, hg', hsz, htk⟩ := ip
  refine (up.2 g2 (fun e1 => ?_)).trans hb
  subst e1
  rw [hg] at hb
  injection hb with hb
  injection hb with h1 h2
  rcases h with h | h
  · exact h h2.symm
  · subst h1; omega
theorem InPlace.oldFrom {n m : Nat} {H0 : Heap} (ip : InPlace e H0.size n m v v' H H') (o : Old H0 H) : Old H0 H' := by
  obtain ⟨g, cap, cur, cur', hg0, hv, hv', hg, hcs, hcap, up, _⟩ := ip
  exact o.upd up hg0
end
/-- an array of numbers as a parameter -/
def EArr (k : IntKind) (n : Nat) : El (List Int) := fun _ cs l => cs = l.map (Value.int k) ∧ l.length = n ∧ ∀ x ∈ l, InR k x
theorem opens_array {P : Program} {t e : TypeId} {n : Nat} {k : IntKind} (ht : P.underlying t = some (.array n e)) (he : P.underlying e = some (.int k)) (hc : P.cellsOf e = 1) (hct : P.cellsOf t = n) : Opens P t (EArr k n) := by
  intro H enc w base spare held fuel cs x h
  obtain ⟨xs, m, _, _, hl, hxl, hg⟩ := DataW.trod_array ht h
  rw [hct] at hl
  have hex : ∀ i, i < n → ∃ z : Int, cs[i]? = some (.int k z) ∧ InR k z := by
    intro i hi
    have h9 := hg i hi
    rw [hc, Nat.mul_one] at h9
    have hcs : (cs.drop i).take 1 = [cs[i]'(by omega)] := by rw [List.drop_eq_getElem_cons (by omega)]; rfl
    rw [hcs, List.getElem?_eq_getElem (by omega)] at h9
    obtain ⟨z, hz, hr⟩ := opens_int he _ _ _ _ _ _ _ _ _ h9
    refine ⟨z, ?_, hr⟩
    rw [List.getElem?_eq_getElem (by omega), (List.cons.inj hz).1]
  obtain ⟨F, hF⟩ := choose_lt hex
  refine ⟨(List.range n).map F, ?_, by simp, ?_⟩
  · apply List.ext_getElem?
    intro i
    by_cases hi : i < n
    · rw [(hF i hi).1]; simp [hi]
    · rw [List.getElem?_eq_none (by omega), List.getElem?_eq_none (by simp; omega)]
  · intro z hz
    obtain ⟨i, hi, rfl⟩ := List.mem_map.1 hz
    exact (hF i (List.mem_range.1 hi)).2
end Go.Proofs.Ytgpbdimccbimnaa
