/- A region that draws its order, each of whose operations does its own whatever has come up ahead of it. Condition: each operation waits for earlier ones alone, and writes a slot of its own. -/
import Derived.Below
import Derived.Test.YtgpbdimccbimnaaRows
import Derived.WalkKit
import Derived.Orders
namespace Go.Proofs.Ytgpbdimccbimnaa.Ord
open Go

/-- what is asked of a region's text: each operation waits for earlier ones alone, and all write slots of their own, which the frame has -/
def lexOk (ops : Array Oper) (size : Nat) : Bool :=
  (List.range ops.size).all fun i => match ops[i]? with
    | none => true
    | some o => (o.after.toList.all fun e => decide (e.on < i)) && (match o.dst with
      | none => false
      | some d => decide (d < size) && (List.range ops.size).all fun j => decide (j = i) || (match ops[j]? with | none => true | some q => q.dst != some d))

/-- the operations that one waits for -/
def preds (ops : Array Oper) (i : Nat) : List Nat := match ops[i]? with
  | none => []
  | some o => (o.after.toList.filter fun e => Region.binds .any e).map (·.on)

def dstOf (ops : Array Oper) (i : Nat) : Nat := ((ops[i]?).bind (·.dst)).getD 0

section
variable {P : Program} {ops : Array Oper} {Q : Exit → Act → World → Prop}

/-- the state behind some of the operations -/
structure At (ops : Array Oper) (V : Nat → Value → World → Prop) (C : World → Prop) (a0 : Act) (listed : Array Bool) (a : Act) (w : World) : Prop where
  cls : C w
  defers : a.defers = a0.defers
  size : a.tmps.size = a0.tmps.size
  old : ∀ t, (∀ i, i < ops.size → dstOf ops i ≠ t) → a.tmps[t]? = a0.tmps[t]?
  val : ∀ i, i < ops.size → listed.getD i true = true → V i (a.tmps.getD (dstOf ops i) undef) w

/-- what is to be shown of one operation -/
def Does (P : Program) (ops : Array Oper) (Q : Exit → Act → World → Prop) (V : Nat → Value → World → Prop) (C : World → Prop) (a0 : Act) (i : Nat) : Prop :=
  ∀ (a : Act) (w : World), C w → a.defers = a0.defers → a.tmps.size = a0.tmps.size → (∀ t, (∀ j, j < ops.size → dstOf ops j ≠ t) → a.tmps[t]? = a0.tmps[t]?) →
    (∀ j ∈ preds ops i, V j (a.tmps.getD (dstOf ops j) undef) w) →
    wpOp P ops Q i (fun a' w' => ∃ v, a' = a.put (some (dstOf ops i)) v ∧ V i v w' ∧ C w' ∧ ∀ j u, V j u w → V j u w') a w

theorem lex_spec {size : Nat} (h : lexOk ops size = true) {i : Nat} (hi : i < ops.size) : (∀ j ∈ preds ops i, j < i) ∧ (∃ o, ops[i]? = some o ∧ o.dst = some (dstOf ops i)) ∧ dstOf ops i < size ∧ ∀ j, j < ops.size → j ≠ i → dstOf ops j ≠ dstOf ops i := by
  have key : ∀ i, i < ops.size → (∀ j ∈ preds ops i, j < i) ∧ (∃ o, ops[i]? = some o ∧ o.dst = some (dstOf ops i)) ∧ dstOf ops i < size ∧ ∀ j, j < ops.size → j ≠ i → (ops[j]?).all (fun q => q.dst != some (dstOf ops i)) = true := by
    intro i hi
    have h1 := List.all_eq_true.1 h i (List.mem_range.2 hi)
    obtain ⟨o, ho⟩ : ∃ o, ops[i]? = some o := ⟨ops[i], by simp [hi]⟩
    rw [ho] at h1
    simp only [Bool.and_eq_true] at h1
    obtain ⟨h2, h3⟩ := h1
    cases hd : o.dst with
    | none => rw [hd] at h3; cases h3
    | some d =>
      rw [hd] at h3
      simp only [Bool.and_eq_true, decide_eq_true_eq] at h3
      have hdst : dstOf ops i = d := by simp [dstOf, ho, hd]
      refine ⟨?_, ⟨o, ho, by rw [hd, hdst]⟩, by rw [hdst]; exact h3.1, ?_⟩
      · intro j hj
        simp only [preds, ho, List.mem_map, List.mem_filter] at hj
        obtain ⟨e, ⟨he, _⟩, rfl⟩ := hj
        have := List.all_eq_true.1 h2 e he
        simpa using this
      · intro j hj hne
        have h4 := List.all_eq_true.1 h3.2 j (List.mem_range.2 hj)
        rw [hdst]
        cases hq : ops[j]? with
        | none => rfl
        | some q =>
          rw [hq] at h4
          simp only [Bool.or_eq_true, decide_eq_true_eq] at h4
          rcases h4 with h4 | h4
          · exact absurd h4 hne
          · simpa using h4
  obtain ⟨a, b, c, d⟩ := key i hi
  refine ⟨a, b, c, fun j hj hne => ?_⟩
  have h1 := d j hj hne
  obtain ⟨q, hq, hqd⟩ := (key j hj).2.1
  rw [hq] at h1
  simp only [Option.all_some] at h1
  intro e
  rw [hqd, e] at h1
  simp at h1

/-- not all have come up: one is ready -/
theorem ready_ne {size : Nat} (h : lexOk ops size = true) (listed : Array Bool) (hl : listed.size = ops.size) (hn : ∃ i, i < ops.size ∧ listed.getD i true = false) : Region.ready .any ops listed ≠ [] := by
  classical
  obtain ⟨i, hi, hf⟩ := hn
  induction i using Nat.strongRecOn with
  | ind i ih =>
    by_cases hp : ∀ j ∈ preds ops i, listed.getD j true = true
    · intro hnil
      have hmem : i ∈ Region.ready .any ops listed := by
        simp only [Region.ready, List.mem_filter, List.mem_range]
        refine ⟨hi, ?_⟩
        obtain ⟨_, ⟨o, ho, _⟩, _, _⟩ := lex_spec h hi
        rw [hf, ho]
        simp only [Bool.not_false, Bool.true_and, Option.map_some, Option.getD_some, Array.all_eq_true_iff_forall_mem]
        intro e he
        by_cases hb : Region.binds .any e = true
        · have hj : e.on ∈ preds ops i := by
            simp only [preds, ho, List.mem_map, List.mem_filter]
            exact ⟨e, ⟨by simpa using he, hb⟩, rfl⟩
          have hlt := (lex_spec h hi).1 _ hj
          have := hp _ hj
          rw [Bool.or_eq_true]; right
          rw [Array.getD_eq_getD_getElem?] at this ⊢
          have hin : e.on < listed.size := by omega
          simpa [hin] using this
        · simp [hb]
      rw [hnil] at hmem; cases hmem
    · have : ∃ j, j ∈ preds ops i ∧ ¬ listed.getD j true = true := by
        apply Classical.byContradiction
        intro hh
        exact hp fun j hj => Classical.byContradiction fun h' => hh ⟨j, hj, h'⟩
      obtain ⟨j, hj, hjf⟩ := this
      have hlt := (lex_spec h hi).1 _ hj
      exact ih j hlt (by omega) (by simpa using hjf)

theorem ready_spec {listed : Array Bool} {i : Nat} (_hl : listed.size = ops.size) (hi : i ∈ Region.ready .any ops listed) : i < ops.size ∧ listed.getD i true = false ∧ ∀ j ∈ preds ops i, listed.getD j true = true := by
  simp only [Region.ready, List.mem_filter, List.mem_range, Bool.and_eq_true, Bool.not_eq_true'] at hi
  obtain ⟨h1, h2, h3⟩ := hi
  refine ⟨h1, h2, fun j hj => ?_⟩
  obtain ⟨o, ho⟩ : ∃ o, ops[i]? = some o := ⟨ops[i], by simp [h1]⟩
  simp only [preds, ho, List.mem_map, List.mem_filter] at hj
  obtain ⟨e, ⟨he, hb⟩, rfl⟩ := hj
  rw [ho] at h3
  simp only [Option.map_some, Option.getD_some] at h3
  rw [Array.all_eq_true_iff_forall_mem] at h3
  have := h3 e (by simpa using he)
  rw [hb] at this
  simp only [Bool.not_true, Bool.false_or] at this
  rw [Array.getD_eq_getD_getElem?] at this ⊢
  by_cases hin : e.on < listed.size
  · simpa [hin] using this
  · simp [hin] at this

theorem wpAny_vals {size : Nat} (hlex : lexOk ops size = true) {V : Nat → Value → World → Prop} {C : World → Prop} {a0 : Act} (hsz : a0.tmps.size = size)
    (hdo : ∀ i, i < ops.size → Does P ops Q V C a0 i)
    (hend : ∀ a w, C w → a.defers = a0.defers → a.tmps.size = a0.tmps.size → (∀ t, (∀ j, j < ops.size → dstOf ops j ≠ t) → a.tmps[t]? = a0.tmps[t]?) → (∀ i, i < ops.size → V i (a.tmps.getD (dstOf ops i) undef) w) → Q .normal a w) :
    ∀ (fuel : Nat) (listed : Array Bool) (a : Act) (w : World), listed.size = ops.size → At ops V C a0 listed a w → (listed.toList.countP (· == false)) ≤ fuel → wpAny P .any ops Q fuel listed a w := by
  have all_of : ∀ (listed : Array Bool), listed.size = ops.size → Region.ready .any ops listed = [] → ∀ i, i < ops.size → listed.getD i true = true := by
    intro listed hl hr i hi
    cases hv : listed.getD i true with
    | true => rfl
    | false => exact absurd hr (ready_ne hlex listed hl ⟨i, hi, hv⟩)
  intro fuel
  induction fuel with
  | zero =>
    intro listed a w hl hat hc
    have hall : ∀ i, i < ops.size → listed.getD i true = true := by
      intro i hi
      have h0 : listed.toList.countP (· == false) = 0 := by omega
      rw [List.countP_eq_zero] at h0
      have hin : i < listed.size := by omega
      have := h0 listed[i] (by simp)
      rw [Array.getD_eq_getD_getElem?]
      simp [hin]
      simpa using this
    refine ⟨?_, hend a w hat.cls hat.defers hat.size hat.old fun i hi => hat.val i hi (hall i hi)⟩
    apply Classical.byContradiction
    intro hne
    obtain ⟨i, hi⟩ := List.exists_mem_of_ne_nil _ hne
    have := ready_spec hl hi
    rw [hall i this.1] at this
    simp at this
  | succ fuel ih =>
    intro listed a w hl hat hc
    refine ⟨fun hr => hend a w hat.cls hat.defers hat.size hat.old fun i hi => hat.val i hi (all_of listed hl hr i hi), fun i hi => ?_⟩
    obtain ⟨h1, h2, h3⟩ := ready_spec hl hi
    obtain ⟨hp, _, hd, hapart⟩ := lex_spec hlex h1
    have hdo' := hdo i h1 a w hat.cls hat.defers hat.size hat.old fun j hj => hat.val j (by have := hp j hj; omega) (h3 j hj)
    refine wpOp_mono ?_ hdo'
    rintro a' w' ⟨v, rfl, hv, hC, hmono⟩
    refine ih _ _ _ (by simp [hl]) ?_ ?_
    · refine ⟨hC, hat.defers, by simpa [Act.put] using hat.size, ?_, ?_⟩
      · intro t ht
        rw [← hat.old t ht]
        simp only [Act.put]
        rw [Array.getElem?_setIfInBounds_ne (ht i h1)]
      · intro j hj hlj
        simp only [Act.put]
        by_cases hji : j = i
        · subst hji
          rw [Array.getD_eq_getD_getElem?, Array.getElem?_setIfInBounds_self_of_lt (by rw [hat.size, hsz]; exact hd)]
          exact hv
        · rw [Array.getD_eq_getD_getElem?, Array.getElem?_setIfInBounds_ne (fun e => hapart j hj hji e.symm), ← Array.getD_eq_getD_getElem?]
          refine hmono _ _ (hat.val j hj ?_)
          rw [Array.getD_eq_getD_getElem?] at hlj ⊢
          rwa [Array.getElem?_setIfInBounds_ne (fun e => hji e.symm)] at hlj
    · have hin : i < listed.size := by omega
      have hget : listed[i] = false := by
        rw [Array.getD_eq_getD_getElem?] at h2; simpa [hin] using h2
      have : (listed.setIfInBounds i true).toList.countP (· == false) + 1 = listed.toList.countP (· == false) := by
        rw [Array.toList_setIfInBounds]
        have hlen : i < listed.toList.length := by simpa using hin
        rw [List.set_eq_take_append_cons_drop, if_pos hlen]
        conv => rhs; rw [← List.take_append_drop i listed.toList, List.drop_eq_getElem_cons hlen]
        simp only [List.countP_append, List.countP_cons]
        have : listed.toList[i] = false := by simpa using hget
        rw [this]; simp
        omega
      omega

/-- A REGION THAT DRAWS ITS ORDER, each of whose operations does its own, whatever has come up ahead of it. -/
theorem wp_region_vals {id : Nat} {a0 : Act} {w0 : World} (hm : P.follows .mixedOrders = true) (hlex : lexOk ops a0.tmps.size = true) (V : Nat → Value → World → Prop) (C : World → Prop) (hC : C w0.drew)
    (hdo : ∀ i, i < ops.size → Does P ops Q V C a0 i)
    (hend : ∀ a w, C w → a.defers = a0.defers → a.tmps.size = a0.tmps.size → (∀ t, (∀ j, j < ops.size → dstOf ops j ≠ t) → a.tmps[t]? = a0.tmps[t]?) → (∀ i, i < ops.size → V i (a.tmps.getD (dstOf ops i) undef) w) → Q .normal a w) :
    (Code.region id ops true).wp P Q a0 w0 := by
  refine wp_region_any hm ?_
  refine wpAny_vals hlex rfl hdo hend _ _ a0 _ (by simp) ⟨hC, rfl, rfl, fun _ _ => rfl, ?_⟩ ?_
  · intro i hi h
    rw [Array.getD_eq_getD_getElem?] at h
    simp [hi] at h
  · have := List.countP_le_length (p := (· == false)) (l := (Array.replicate ops.size false).toList)
    simpa using this

end
/-- what an operation's run is to come to -/
def Upon (P : Program) (V : Nat → Value → World → Prop) (C : World → Prop) (i : Nat) (w : World) : Result Next → Prop
  | .ok (.value v) w' => V i v w' ∧ C w' ∧ ∀ j u, V j u w → V j u w'
  | .ok (.enter f args) w' => w' = w ∧ Calls P f args w (fun e w'' => ∃ v, e = .returned v ∧ V i v w'' ∧ C w'' ∧ ∀ j u, V j u w → V j u w'')
  | _ => False

/-- the operands of an operation, as what is known of them gives them -/
structure Known (P : Program) (ops : Array Oper) (V : Nat → Value → World → Prop) (C : World → Prop) (a0 : Act) (i : Nat) (ρ : Operand → Value) (w : World) : Prop where
  const : ∀ c, ρ (.const c) = c
  func : ∀ f, ρ (.func f) = .func (.func f) #[] #[]
  cls : C w
  val : ∀ j, (preds ops i).contains j = true → V j (ρ (.tmp (dstOf ops j))) w
  old : ∀ t, (List.range ops.size).all (fun j => dstOf ops j != t) = true → ρ (.tmp t) = a0.tmps.getD t undef

theorem upon_v {P : Program} {V : Nat → Value → World → Prop} {C : World → Prop} {i : Nat} {w : World} {s : Sem Value} {v : Value} (hs : s.run P w = .ok v w) (hV : V i v w) (hC : C w) : Upon P V C i w ((do pure (.value (← s)) : Sem Next).run P w) := by
  simp only [Sem.run_bind, hs, Result.andThen, Sem.run_pure]
  exact ⟨hV, hC, fun _ _ h => h⟩

theorem does_of {P : Program} {ops : Array Oper} {Q : Exit → Act → World → Prop} {V : Nat → Value → World → Prop} {C : World → Prop} {a0 : Act} {i : Nat} (o : Oper) (ho : ops[i]? = some o) (hd : o.dst = some (dstOf ops i))
    (hg : o.guard = none ∨ ∃ j b, o.guard = some (j, b) ∧ (preds ops i).contains j = true ∧ (ops[j]?).bind (·.dst) = some (dstOf ops j) ∧ ∀ x w, V j x w → x = .bool b)
    (h : ∀ ρ w, Known P ops V C a0 i ρ w → Upon P V C i w ((execOp ρ o).run P w)) : Does P ops Q V C a0 i := by
  intro a w hC _ _ hold hp
  have hk : Known P ops V C a0 i a.eval w := by
    refine ⟨fun _ => rfl, fun _ => rfl, hC, fun j hj => hp j (by simpa using hj), fun t ht => ?_⟩
    have := hold t (fun j hj => by
      have := List.all_eq_true.1 ht j (List.mem_range.2 hj)
      simpa using this)
    simp [Act.eval, this]
  have hw : Region.wanted o (yielded ops a.tmps) = true := by
    rcases hg with hg | ⟨j, b, hg, hj, hjd, hb⟩
    · simp [Region.wanted, hg]
    · have h1 := hb _ _ (hp j (by simpa using hj))
      have h2 : a.tmps[dstOf ops j]? = some (.bool b) := by
        rw [Array.getD_eq_getD_getElem?] at h1
        cases hx : a.tmps[dstOf ops j]? with
        | none => rw [hx] at h1; cases h1
        | some x => rw [hx] at h1; simp at h1; rw [h1]
      simp [Region.wanted, hg, yielded, hjd, h2]
  unfold wpOp
  rw [ho]
  simp only [hw, if_true]
  left
  have := h a.eval w hk
  unfold Oper.wp
  generalize (execOp a.eval o).run P w = r at *
  cases r with
  | ok n w' =>
    cases n <;> simp only [Upon] at this <;> simp only [Oper.upon]
    case value v => exact ⟨v, by rw [hd], this.1, this.2.1, this.2.2⟩
    case enter f args =>
      obtain ⟨rfl, hc⟩ := this
      refine hc.mono ?_
      rintro e w'' ⟨v, rfl, hV, hC', hm⟩
      exact ⟨v, by rw [hd], hV, hC', hm⟩
  | halt x w' => simp only [Upon] at this

/-- values that hang on no world, told by a list -/
def Fix (L : List Value) (i : Nat) (v : Value) (_ : World) : Prop := v = L.getD i undef

/-- a call in such a region -/
theorem fix_call {P : Program} {L : List Value} {B : Nat} {W w : World} {i : Nat} {f : FuncId} {args : Array Value} {u : Value} (hB : B ≤ W.heap.size) (hC : RowKit.Below B W w) (h : Calls P f args w fun e w' => e = .returned u ∧ RowKit.Below w.heap.size w w') (hV : u = L.getD i undef) :
    Calls P f args w fun e w'' => ∃ v, e = .returned v ∧ Fix L i v w'' ∧ RowKit.Below B W w'' ∧ ∀ j u, Fix L j u w → Fix L j u w'' := by
  refine h.mono ?_
  rintro e w' ⟨rfl, hb⟩
  have := hC.size
  exact ⟨u, rfl, hV, hC.trans (hb.mono (by omega)), fun _ _ h => h⟩

/-- the frame behind such a region -/
def putAll (ds : List (Nat × Value)) (a : Act) : Act := ds.foldl (fun a d => a.put (some d.1) d.2) a

theorem put_defers (a : Act) (d : Nat) (v : Value) : (a.put (some d) v).defers = a.defers := rfl
theorem put_size (a : Act) (d : Nat) (v : Value) : (a.put (some d) v).tmps.size = a.tmps.size := by simp [Act.put]
theorem put_same (a : Act) (d : Nat) (v : Value) (h : d < a.tmps.size) : (a.put (some d) v).tmps[d]? = some v := by simp [Act.put, h]
theorem put_other (a : Act) (d t : Nat) (v : Value) (h : d ≠ t) : (a.put (some d) v).tmps[t]? = a.tmps[t]? := by simp [Act.put, h]

theorem putAll_spec (ds : List (Nat × Value)) : ∀ (a : Act), (ds.map (·.1)).Nodup → (∀ d ∈ ds, d.1 < a.tmps.size) →
    (putAll ds a).defers = a.defers ∧ (putAll ds a).tmps.size = a.tmps.size ∧ (∀ t, (∀ d ∈ ds, d.1 ≠ t) → (putAll ds a).tmps[t]? = a.tmps[t]?) ∧ ∀ d ∈ ds, (putAll ds a).tmps[d.1]? = some d.2 := by
  induction ds with
  | nil => exact fun a _ _ => ⟨rfl, rfl, fun _ _ => rfl, by simp⟩
  | cons d ds ih =>
    intro a hn hs
    simp only [List.map_cons, List.nodup_cons] at hn
    obtain ⟨h1, h2, h3, h4⟩ := ih (a.put (some d.1) d.2) hn.2 (fun e he => by rw [put_size]; exact hs e (List.mem_cons_of_mem _ he))
    refine ⟨h1.trans rfl, h2.trans (put_size _ _ _), fun t ht => ?_, fun e he => ?_⟩
    · exact (h3 t fun e he => ht e (List.mem_cons_of_mem _ he)).trans (put_other _ _ _ _ (ht d List.mem_cons_self))
    · rcases List.mem_cons.1 he with rfl | he
      · refine (h3 e.1 fun u hu h => hn.1 ?_).trans (put_same _ _ _ (hs e List.mem_cons_self))
        rw [← h]; exact List.mem_map_of_mem hu
      · exact h4 e he

/-- A REGION THAT DRAWS ITS ORDER, whose operations come to values told by a list: 'ds' gives for each operation its slot and its value. -/
theorem wp_region_fix {P : Program} {ops : Array Oper} {Q : Exit → Act → World → Prop} {id : Nat} {a0 : Act} {w0 : World} (L : List Value) (C : World → Prop) (ds : List (Nat × Value)) (hm : P.follows .mixedOrders = true) (hlex : lexOk ops a0.tmps.size = true)
    (hds : ds = (List.range ops.size).map (fun i => (dstOf ops i, L.getD i undef))) (hC : C w0.drew)
    (hdo : ∀ i, i < ops.size → Does P ops Q (Fix L) C a0 i)
    (hend : ∀ w, C w → Q .normal (putAll ds a0) w) : (Code.region id ops true).wp P Q a0 w0 := by
  refine wp_region_vals hm hlex (Fix L) C hC hdo fun a w hCw hd hsz hold hval => ?_
  have hL : ∀ d ∈ ds, ∃ i, i < ops.size ∧ d = (dstOf ops i, L.getD i undef) := by
    intro d hd
    rw [hds] at hd
    obtain ⟨i, hi, rfl⟩ := List.mem_map.1 hd
    exact ⟨i, List.mem_range.1 hi, rfl⟩
  have hnd : (ds.map (·.1)).Nodup := by
    rw [hds, List.map_map]
    refine List.Pairwise.map (R := fun a b => a < b ∧ b < ops.size) _ ?_ ?_
    · intro i j hij h
      exact (lex_spec hlex (show i < ops.size by omega)).2.2.2 j hij.2 (by omega) h.symm
    · refine List.Pairwise.imp_of_mem ?_ (List.pairwise_lt_range (n := ops.size))
      intro i j _ hj h
      exact ⟨h, List.mem_range.1 hj⟩
  have hlt : ∀ d ∈ ds, d.1 < a0.tmps.size := by
    intro d hd
    obtain ⟨i, hi, rfl⟩ := hL d hd
    exact (lex_spec hlex hi).2.2.1
  obtain ⟨h1, h2, h3, h4⟩ := putAll_spec ds a0 hnd hlt
  have he : a = putAll ds a0 := by
    have ht : a.tmps = (putAll ds a0).tmps := by
      apply Array.ext_getElem?
      intro t
      by_cases h : ∃ i, i < ops.size ∧ dstOf ops i = t
      · obtain ⟨i, hi, rfl⟩ := h
        have hmem : (dstOf ops i, L.getD i undef) ∈ ds := by rw [hds]; exact List.mem_map.2 ⟨i, List.mem_range.2 hi, rfl⟩
        rw [h4 _ hmem]
        have hv : a.tmps.getD (dstOf ops i) undef = L.getD i undef := hval i hi
        have hl : dstOf ops i < a.tmps.size := by rw [hsz]; exact hlt _ hmem
        rw [Array.getElem?_eq_getElem hl]
        rw [Array.getD_eq_getD_getElem?, Array.getElem?_eq_getElem hl] at hv
        exact congrArg some hv
      · rw [h3 t fun d hd e => by obtain ⟨i, hi, rfl⟩ := hL d hd; exact h ⟨i, hi, e⟩]
        exact hold t fun j hj e => h ⟨j, hj, e⟩
    have hdd : a.defers = (putAll ds a0).defers := hd.trans h1.symm
    cases a; cases hp : putAll ds a0
    rw [hp] at ht hdd
    simp only at ht hdd
    rw [ht, hdd]
  rw [he]
  exact hend w hCw

end Go.Proofs.Ytgpbdimccbimnaa.Ord
