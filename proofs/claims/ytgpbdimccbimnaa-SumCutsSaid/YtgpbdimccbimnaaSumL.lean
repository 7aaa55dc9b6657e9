/- A row that is handed out piece by piece, each piece cleared behind. No condition but those that each law states. -/
import Derived.Test.YtgpbdimccbimnaaSumI
import Derived.Test.YtgpbdimccbimnaaKText
import Derived.Lib.SliceRun
namespace Go.Proofs.Ytgpbdimccbimnaa
open Go Go.RowKit
set_option linter.unusedVariables false
set_option linter.unusedSimpArgs false
section
variable {P : Program} {n d : Nat} {W0 : World} {Q : Exit → Act → World → Prop} {ops rest : List Oper} {o : Oper} {E : Env} {H : Heap} {v : Value}
theorem KL.opM0 {R : Value → Heap → Prop} (hr : RunM P E H o R) (hd : o.dst = none) (hg : want ops E o.guard = some true) (h : ∀ v H', R v H' → KL P n W0 Q ops rest E H') : KL P n W0 Q ops (o :: rest) E H := by
  intro a w ha hw
  refine wpList_step fun K hK => ?_
  rw [if_pos (want_wanted ha hg)]
  obtain ⟨v, w', hrun, hst, hR⟩ := hr a.eval w ha.agree hw.heap
  unfold Oper.wp
  rw [hrun]
  show K (a.put o.dst v) w'
  rw [hd]
  exact hK _ _ (h v _ hR _ _ ha (hw.trans hst))
theorem M.clear {T e : TypeId} {x : Operand} {g off n c : Nat} {cs : List Value} {t : TypeId} {z : Value} (ho : o.op = .call { callee := .builtin .clear, args := #[x], argTypes := #[T] }) (ht : P.underlying T = some (.slice e)) (hzr : (P.info? e).map (·.zero) = some (some z)) (hz : z.cells = #[z]) (h1 : z.oneCell' = true)
    (hx : ev E x = some (.slice (some ⟨g, off, none⟩) n c)) (hn : 0 < n) (hb : H[g]? = some (.cells cs.toArray t (0, 0))) (hi : off + n ≤ cs.length) :
    RunM P E H o (fun _ H' => Upd g H H' ∧ H'[g]? = some (.cells (cs.take off ++ List.replicate n z ++ cs.drop (off + n)).toArray t (0, 0))) := by
  intro ρ w ha hw
  subst hw
  have hzc : (Builtin.zeroCells z.cells n).toList = List.replicate n z := by
    rw [hz]
    simp [Builtin.zeroCells]
    apply List.ext_getElem
    · simp
    · intro i h1 h2
      simp [Nat.mod_one]
  have hst := run_storeCells_at P g off t (List.replicate n z) 0 cs.toArray w hb (by simpa using hi) (by intro u hu; rw [List.eq_of_mem_replicate hu]; exact h1)
  simp only [Nat.add_zero] at hst
  cases hq : P.info? e with
  | none => simp [hq] at hzr
  | some inf =>
    simp [hq] at hzr
    refine ⟨.tuple #[], w.setRow g (cs.take off ++ List.replicate n z ++ cs.drop (off + (List.replicate n z).length)).toArray, ?_, ⟨rfl, rfl, rfl, rfl⟩, ⟨by simp, fun k hk => setRow_other w g k _ hk⟩, ?_⟩
    · obtain ⟨m, rfl⟩ : ∃ m, n = m + 1 := ⟨n - 1, by omega⟩
      have hx' := ha x _ hx
      simp [execOp, ho, resolve, invoke, builtin, hx', Builtin.clear_, run_underlying ht, zeroValue, typeInfo, program, hq, hzr, hzc, Sem.run_bind, Sem.run_pure, Result.andThen, Sem.run] at hst ⊢
      rw [hst]
    · have := setRow_heap w g cs.toArray (cs.take off ++ List.replicate n z ++ cs.drop (off + n)).toArray t _ hb
      simpa using this
theorem M.clear0 {T e : TypeId} {x : Operand} {a : Option Addr} {c : Nat} {z : Value} (ho : o.op = .call { callee := .builtin .clear, args := #[x], argTypes := #[T] }) (ht : P.underlying T = some (.slice e)) (hzr : (P.info? e).map (·.zero) = some (some z))
    (hx : ev E x = some (.slice a 0 c)) : RunM P E H o (fun _ H' => H = H') := by
  intro ρ w ha hw
  subst hw
  cases hq : P.info? e with
  | none => simp [hq] at hzr
  | some inf =>
    simp [hq] at hzr
    have hx' := ha x _ hx
    refine ⟨.tuple #[], w, ?_, St.refl w, rfl⟩
    cases a <;> simp [execOp, ho, resolve, invoke, builtin, hx', Builtin.clear_, run_underlying ht, zeroValue, typeInfo, program, hq, hzr, Sem.run_bind, Sem.run_pure, Result.andThen, Sem.run, Builtin.zeroCells]
end

/-- a piece of a row -/
theorem Sl.ofAt {k : IntKind} {H : Heap} {g c : Nat} {e : TypeId} {pre post : List Value} {l : List Int} {z : Nat × Nat} (hb : H[g]? = some (.cells (pre ++ l.map (Value.int k) ++ post).toArray e z)) (h1 : l.length ≤ c) (h2 : c ≤ maxLen) (hr : ∀ x ∈ l, InR k x) : Sl 1 (EInt k) H (.slice (some ⟨g, pre.length, none⟩) l.length c) l := by
  refine ⟨some ⟨g, pre.length, none⟩, c, rfl, h1, h2, by simp, fun _ p hp => by cases hp; rfl, fun j x hj => ?_⟩
  have hlt := nth_lt hj
  rw [nth_eq] at hj
  refine ⟨[.int k x], rfl, ?_, rfl, hr x (List.mem_of_getElem? hj)⟩
  intro i u hu
  have hi : i = 0 ∧ u = .int k x := by
    cases i with
    | zero => injection hu with hu; exact ⟨rfl, hu.symm⟩
    | succ i => cases hu
  obtain ⟨rfl, rfl⟩ := hi
  simp only [vbase]
  rw [add_add _ rfl]
  have e : (Addr.mk g pre.length none).add (j * 1 + 0) = ⟨g, pre.length + j, none⟩ := by unfold Addr.add; split <;> simp_all
  rw [e]
  refine cell_of hb ?_
  rw [nth_eq, List.append_assoc, List.getElem?_append_right (by omega), Nat.add_sub_cancel_left, List.getElem?_append_left (by simpa using hlt), List.getElem?_map, hj]; rfl
/-- vl is what is left of a row that read as b, from q on; what is ahead of it is cleared; the row lies in a block from B on, below D -/
structure Lent (H : Heap) (B D : Nat) (vl : Value) (q : Nat) (b : List Int) : Prop where
  le : q ≤ b.length
  sl : Sl 1 (EInt .u8) H vl (b.drop q)
  blk : q < b.length → ∃ g c sp, vl = .slice (some ⟨g, q, none⟩) (b.drop q).length c ∧ B ≤ g ∧ g < D ∧ (b.drop q).length ≤ c ∧ c ≤ maxLen ∧ H[g]? = some (.cells ((List.replicate q (Value.int .u8 0) ++ (b.drop q).map (Value.int .u8)) ++ sp).toArray 5 (0, 0))
theorem Lent.start {H : Heap} {B : Nat} {v : Value} {b : List Int} (h : Own 1 (EInt .u8) 5 #[] B H v b) : Lent H B H.size v 0 b := by
  refine ⟨Nat.zero_le _, by simpa using h.sl (emptyOld _) (by omega), fun h0 => ?_⟩
  obtain ⟨flat, ⟨e0, h1⟩, h2⟩ := h
  rcases h1 with ⟨_, h3⟩ | ⟨g, cap, cur, rfl, hB, hg, h4, h5, h6, h7⟩
  · omega
  · have hfl : flat = b.map (Value.int .u8) := by
      apply List.ext_getElem?
      intro j
      by_cases hj : j < b.length
      · have hx := h2 j _ (nth_getD hj)
        obtain ⟨hx, _⟩ := hx
        rw [Nat.mul_one, List.drop_eq_getElem_cons (by omega)] at hx
        have hx := (List.cons.inj hx).1
        rw [List.getElem?_eq_getElem (by omega), hx, List.getElem?_map, List.getD_eq_getElem?_getD, List.getElem?_eq_getElem hj]; simp
      · rw [List.getElem?_eq_none (by omega), List.getElem?_eq_none (by simp; omega)]
    refine ⟨g, cap, cur.toList.drop b.length, by simp, hB, blk_lt hg, by simpa using h4, h5, ?_⟩
    rw [Nat.mul_one] at h7
    have : (List.replicate 0 (Value.int .u8 0) ++ (b.drop 0).map (Value.int .u8)) ++ cur.toList.drop b.length = cur.toList := by
      simp only [List.replicate_zero, List.nil_append, List.drop_zero]
      rw [← hfl, ← h7, List.take_append_drop]
    rw [this]; simpa using hg
section
variable {H H' : Heap} {B D q : Nat} {vl : Value} {b : List Int}
theorem Lent.keep (h : Lent H B D vl q b) (hk : ∀ g, B ≤ g → g < D → H'[g]? = H[g]?) : Lent H' B D vl q b := by
  refine ⟨h.le, ?_, fun h0 => ?_⟩
  · by_cases h0 : q < b.length
    · obtain ⟨g, c, sp, hv, h1, h2, _⟩ := h.blk h0
      refine h.sl.keepI (.inr ?_)
      rw [show vblock vl = g by rw [hv]; rfl]
      exact hk g h1 h2
    · refine h.sl.keepI (.inl (List.drop_eq_nil_of_le (by omega)))
  · obtain ⟨g, c, sp, hv, h1, h2, h3, h4, h5⟩ := h.blk h0
    exact ⟨g, c, sp, hv, h1, h2, h3, h4, (hk g h1 h2).trans h5⟩
theorem Lent.old (h : Lent H B D vl q b) (o : Old H H') (hD : D ≤ H.size) : Lent H' B D vl q b := h.keep fun g _ h2 => o.2 g (by omega)
theorem Lent.part (h : Lent H B D vl q b) {n : Nat} (hn : n ≤ (b.drop q).length) : Sl 1 (EInt .u8) H (sub3 1 vl 0 n n) ((b.drop q).take n) ∧ ((b.drop q).take n = [] ∨ (B ≤ vblock (sub3 1 vl 0 n n) ∧ vblock (sub3 1 vl 0 n n) < D)) := by
  refine ⟨by simpa using h.sl.sub3 (lo := 0) (hi := n) (Nat.zero_le _) hn, ?_⟩
  by_cases h0 : q < b.length
  · by_cases hn0 : n = 0
    · left; rw [hn0]; rfl
    · obtain ⟨g, c, sp, hv, h1, h2, _⟩ := h.blk h0
      right
      have : vblock (sub3 1 vl 0 n n) = g := by rw [hv]; unfold sub3; simp only; rw [if_neg (by omega)]; rfl
      rw [this]; exact ⟨h1, h2⟩
  · left; rw [List.drop_eq_nil_of_le (by omega)]; simp
theorem Lent.whole (h : Lent H B D vl q b) : b.drop q = [] ∨ (B ≤ vblock vl ∧ vblock vl < D) := by
  by_cases h0 : q < b.length
  · obtain ⟨g, c, sp, hv, h1, h2, _⟩ := h.blk h0
    right
    rw [show vblock vl = g by rw [hv]; rfl]; exact ⟨h1, h2⟩
  · left; exact List.drop_eq_nil_of_le (by omega)
end
theorem subV_all {v : Value} {l : List Int} {H : Heap} (h : Sl 1 (EInt .u8) H v l) : subV 1 v 0 l.length = v := by
  obtain ⟨a, c, rfl⟩ := h.val
  unfold subV
  simp only [Nat.sub_zero, Nat.zero_mul]
  split
  · rfl
  · cases a <;> simp [Addr.add]
section
variable {P : Program} {o : Oper} {E : Env} {H : Heap} {B D q n : Nat} {vl : Value} {b : List Int}
theorem M.clearL {T : TypeId} {x : Operand} (ho : o.op = .call { callee := .builtin .clear, args := #[x], argTypes := #[T] }) (ht : P.underlying T = some (.slice 5)) (hzr : (P.info? 5).map (·.zero) = some (some (.int .u8 0)))
    (hx : ev E x = some (sub3 1 vl 0 n n)) (h : Lent H B D vl q b) (hb : ∀ x ∈ b, InR .u8 x) (hn : n ≤ (b.drop q).length) :
    RunM P E H o (fun _ H' => H'.size = H.size ∧ (∀ g, g < B ∨ D ≤ g → H'[g]? = H[g]?) ∧ Lent H' B D (subV 1 vl n (b.drop q).length) (q + n) b) := by
  have hdl : (b.drop q).length = b.length - q := List.length_drop
  by_cases hn0 : n = 0
  · subst hn0
    obtain ⟨a, c, hv⟩ := h.sl.val
    have hx' : ev E x = some (.slice a 0 0) := by rw [hx, hv]; rfl
    intro ρ w ha hw
    obtain ⟨v, w', h1, h2, h3⟩ := M.clear0 ho ht hzr hx' ρ w ha hw
    refine ⟨v, w', h1, h2, by rw [← h3], fun g _ => by rw [← h3], ?_⟩
    rw [← h3, subV_all h.sl]; exact h
  · obtain ⟨g, c, sp, hv, h1, h2, h3, h4, h5⟩ := h.blk (by omega)
    have hx' : ev E x = some (.slice (some ⟨g, q, none⟩) n n) := by
      have e0 : (⟨g, q, none⟩ : Addr).add (0 * 1) = ⟨g, q, none⟩ := by unfold Addr.add; split <;> simp_all
      rw [hx, hv]; unfold sub3; simp only; rw [if_neg hn0]; simp only [Option.map_some, e0, Nat.sub_zero]
    intro ρ w ha hw
    obtain ⟨v, w', g1, g2, g3, g4⟩ := M.clear (z := .int .u8 0) ho ht hzr rfl rfl hx' (by omega) h5 (by simp; omega) ρ w ha hw
    have hcells : ((List.replicate q (Value.int .u8 0) ++ (b.drop q).map (Value.int .u8)) ++ sp).take q ++ List.replicate n (Value.int .u8 0) ++ ((List.replicate q (Value.int .u8 0) ++ (b.drop q).map (Value.int .u8)) ++ sp).drop (q + n) = (List.replicate (q + n) (Value.int .u8 0) ++ (b.drop (q + n)).map (Value.int .u8)) ++ sp := by
      generalize hM : (b.drop q).map (Value.int .u8) = M
      have hMl : M.length = b.length - q := by rw [← hM]; simp
      rw [List.append_assoc (List.replicate q (Value.int .u8 0)) M sp, List.take_left' (by simp), List.drop_append, List.length_replicate, Nat.add_sub_cancel_left, List.drop_eq_nil_of_le (by simp), List.nil_append, List.drop_append_of_le_length (by omega), ← hM, ← List.map_drop, List.drop_drop, List.replicate_append_replicate]
      simp
    rw [hcells] at g4
    have hnew : q + n < b.length → subV 1 vl n (b.drop q).length = .slice (some ⟨g, q + n, none⟩) (b.drop (q + n)).length (c - n) := by
      intro hlt
      rw [hv]; unfold subV; simp only
      rw [if_neg (by omega), List.length_drop, List.length_drop]
      have : (⟨g, q, none⟩ : Addr).add (n * 1) = ⟨g, q + n, none⟩ := by unfold Addr.add; split <;> simp_all
      simp only [Option.map_some, this]
      congr 1; omega
    refine ⟨v, w', g1, g2, g3.1, fun k hk => g3.2 k (by omega), by omega, ?_, fun hlt => ⟨g, c - n, sp, hnew hlt, h1, h2, by rw [List.length_drop]; omega, by omega, g4⟩⟩
    by_cases hlt : q + n < b.length
    · rw [hnew hlt]
      have := Sl.ofAt (k := .u8) (g := g) (c := c - n) (pre := List.replicate (q + n) (Value.int .u8 0)) (l := b.drop (q + n)) (post := sp) g4 (by rw [List.length_drop]; omega) (by omega) (fun x hx => hb x (List.mem_of_mem_drop hx))
      simpa using this
    · have hsub := h.sl.sub (lo := n) (hi := (b.drop q).length) hn (Nat.le_refl _)
      have e9 : b.drop (q + n) = [] := List.drop_eq_nil_of_le (by omega)
      rw [List.take_length, List.drop_drop, e9] at hsub
      rw [e9]
      exact hsub.empty _
end
theorem HMn.keep {H H' : Heap} {g : Nat} {vr : Value} {m : List Int} {n : Int} (h : HMn H g vr m n) (hg : H'[g]? = H[g]?) (hv : vr = .slice none 0 0 ∨ H'[vblock vr]? = H[vblock vr]?) : HMn H' g vr m n := by
  refine ⟨hg.trans h.bg, ?_⟩
  rcases hv with hv | hv
  · subst hv
    obtain ⟨flat, ⟨h0, hc⟩, hel⟩ := h.wr
    rcases hc with hc | ⟨_, _, _, hv, _⟩
    · exact ⟨flat, ⟨h0, .inl hc⟩, hel⟩
    · cases hv
  · exact h.wr.keep hv
theorem cut_str {b : List Int} (hb : ∀ x ∈ b, InR .u8 x) (q n : Nat) : ((bstr ((b.drop q).take n)).toList == ((bstr b).extract q (q + n)).toList) = true := by
  rw [str_eq_ints, ints_bstr (fun x hx => hb x (List.mem_of_mem_drop (List.mem_of_mem_take hx))), ints_extract, ints_bstr hb, List.drop_take, Nat.add_sub_cancel_left]
  exact decide_eq_true rfl
theorem nx_far {H : Heap} {v v' : Value} {D : Nat} (nx : Nx H v v') (hD : D ≤ H.size) (h : v = .slice none 0 0 ∨ D ≤ vblock v) : v' = .slice none 0 0 ∨ D ≤ vblock v' := by
  rcases nx with n | ⟨n1, n2⟩ | n
  · exact .inl n
  · rcases h with h | h
    · exact absurd h n1
    · exact .inr (by omega)
  · exact .inr (by omega)
end Go.Proofs.Ytgpbdimccbimnaa
