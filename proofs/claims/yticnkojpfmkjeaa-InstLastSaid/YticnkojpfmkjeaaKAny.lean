/- The logic of walks: a region that draws its order, walked once, in the order of the text, though some of its operations change memory. Condition: each operation is 'stable' (it hands back one value in every world of a class, and leaves the world alone), or waits for, or is waited for by, each other that is not. -/
import Derived.Test.YticnkojpfmkjeaaKMem
namespace Go.Proofs.Yticnkojpfmkjeaa
open Go Go.RowKit
set_option linter.unusedVariables false
set_option linter.unusedSimpArgs false

section
variable {P : Program} {ops : Array Oper} {cl : Nat → Nat} {C : Nat → World → Prop} {D : World → Prop} {X : Nat → List PanicEntry → World → Prop} {Y : List PanicEntry → World → Prop}

def Oper.fixed (P : Program) (o : Oper) (a : Act) (w : World) (v : Value) : Prop := (execOp a.eval o).run P w = .ok (.value v) w

/-- an operation that is not stable: it comes to a value, or to nothing, and to a world of the class -/
def effUpon (P : Program) (C : World → Prop) (Y : List PanicEntry → World → Prop) (o : Oper) (a : Act) (K : Act → World → Prop) : Result Next → Prop
  | .ok (.value v) w' => C w' ∧ K (a.put o.dst v) w'
  | .ok .skip w' => C w' ∧ K (a.put o.dst undef) w'
  | .ok (.enter f args) w' => Calls P f args w' (fun e w'' => (∃ v, e = .returned v ∧ C w'' ∧ K (a.put o.dst v) w'') ∨ ∃ ch, e = .panicked ch ∧ Y ch w'')
  | _ => False
def eff (P : Program) (C : World → Prop) (Y : List PanicEntry → World → Prop) (o : Oper) (a : Act) (w : World) (K : Act → World → Prop) : Prop := effUpon P C Y o a K ((execOp a.eval o).run P w)

theorem eff_mono {o : Oper} {a : Act} {w : World} {K K' : Act → World → Prop} (h : ∀ v w', D w' → K (a.put o.dst v) w' → K' (a.put o.dst v) w') (hh : eff P D Y o a w K) : eff P D Y o a w K' := by
  unfold eff at *
  generalize (execOp a.eval o).run P w = r at *
  cases r with
  | halt x w' => exact hh
  | ok n w' =>
    cases n <;> simp only [effUpon] at hh ⊢
    case value v => exact ⟨hh.1, h _ _ hh.1 hh.2⟩
    case skip => exact ⟨hh.1, h _ _ hh.1 hh.2⟩
    case enter f args => exact hh.mono fun e w'' hq => hq.imp (fun ⟨v, he, hC, hK⟩ => ⟨v, he, hC, h _ _ hC hK⟩) id

/-- it comes to an end -/
theorem eff_some {o : Oper} {a : Act} {w : World} {K : Act → World → Prop} (hY : ∀ ch w, ¬ Y ch w) (hh : eff P D Y o a w K) : ∃ v w', D w' ∧ K (a.put o.dst v) w' := by
  unfold eff at *
  generalize (execOp a.eval o).run P w = r at *
  cases r with
  | halt x w' => exact hh.elim
  | ok n w' =>
    cases n <;> simp only [effUpon] at hh
    case value v => exact ⟨v, w', hh⟩
    case skip => exact ⟨undef, w', hh⟩
    case enter f args =>
      obtain ⟨e, w'', fr, hq, _⟩ := hh []
      rcases hq with ⟨v, _, hC, hK⟩ | ⟨ch, _, hy⟩
      · exact ⟨v, w'', hC, hK⟩
      · exact absurd hy (hY _ _)

theorem eff_wp {o : Oper} {a : Act} {w : World} {K K' : Act → World → Prop} {Q : Exit → Act → World → Prop} (h : ∀ v w, D w → K (a.put o.dst v) w → K' (a.put o.dst v) w) (hY : ∀ ch w, Y ch w → Q (.panic ch) a w) (hh : eff P D Y o a w K) : o.wp P a w K' Q := by
  unfold eff at hh
  unfold Oper.wp
  generalize (execOp a.eval o).run P w = r at *
  cases r with
  | halt x w' => exact hh.elim
  | ok n w' =>
    cases n <;> simp only [effUpon] at hh <;> simp only [Oper.upon]
    case value v => exact h _ _ hh.1 hh.2
    case skip => exact h _ _ hh.1 hh.2
    case enter f args => exact hh.mono fun e w'' hq => hq.elim (fun ⟨v, he, hC, hK⟩ => by subst he; exact h _ _ hC hK) (fun ⟨ch, he, hy⟩ => by subst he; exact hY _ _ hy)

/-- what waits for operation k, be it by way of others -/
def waits (ops : Array Oper) (k : Nat) : Nat → List Nat
  | 0 => []
  | m + 1 => match ops[m]? with
    | none => waits ops k m
    | some o => bif o.after.any (fun e => Region.binds .any e && (Nat.beq e.on k || (waits ops k m).any (Nat.beq e.on))) && Nat.blt k m then m :: waits ops k m else waits ops k m
theorem waits_spec {k : Nat} : ∀ (m j : Nat), j ∈ waits ops k m → k < j ∧ ∃ oj, ops[j]? = some oj ∧ ∃ e ∈ oj.after, Region.binds .any e = true ∧ (e.on = k ∨ e.on ∈ waits ops k m)
  | 0, j, h => by cases h
  | m + 1, j, h => by
    have mono : ∀ x, x ∈ waits ops k m → x ∈ waits ops k (m + 1) := by
      intro x hx
      simp only [waits]
      split
      · exact hx
      · rename_i o ho
        cases o.after.any (fun e => Region.binds .any e && (Nat.beq e.on k || (waits ops k m).any (Nat.beq e.on))) && Nat.blt k m
        · exact hx
        · exact List.mem_cons_of_mem _ hx
    have old : j ∈ waits ops k m → k < j ∧ ∃ oj, ops[j]? = some oj ∧ ∃ e ∈ oj.after, Region.binds .any e = true ∧ (e.on = k ∨ e.on ∈ waits ops k (m + 1)) := by
      intro hj
      obtain ⟨h1, oj, h2, e, h3, h4, h5⟩ := waits_spec m j hj
      exact ⟨h1, oj, h2, e, h3, h4, h5.imp id (mono _)⟩
    rw [waits] at h
    split at h
    · exact old h
    · rename_i o ho
      cases hb : o.after.any (fun e => Region.binds .any e && (Nat.beq e.on k || (waits ops k m).any (Nat.beq e.on))) && Nat.blt k m with
      | false => rw [hb] at h; exact old h
      | true =>
        rw [hb] at h
        rcases List.mem_cons.1 h with rfl | h
        · simp only [Bool.and_eq_true] at hb
          obtain ⟨e, he, h2⟩ := Array.any_eq_true'.1 hb.1
          simp only [Bool.and_eq_true, Bool.or_eq_true] at h2
          refine ⟨by simpa using hb.2, o, ho, e, he, h2.1, ?_⟩
          rcases h2.2 with h3 | h3
          · exact .inl (Nat.eq_of_beq_eq_true h3)
          · obtain ⟨x, hx, hxe⟩ := List.any_eq_true.1 h3
            rw [Nat.eq_of_beq_eq_true hxe]
            exact .inr (mono _ hx)
        · exact old h
/-- what an operation that is not stable keeps: what each stable one needs that need not come ahead of it -/
def Dp (ops : Array Oper) (C : Nat → World → Prop) (k : Nat) (w : World) : Prop := ∀ i, i < ops.size → i ≠ k → k ∉ waits ops i ops.size → C i w
/-- what the operations that have not come up need -/
def Good (ops : Array Oper) (C : Nat → World → Prop) (listed : Array Bool) (w : World) : Prop := ∀ i, i < ops.size → listed.getD i true = false → C i w
/-- what waits for an operation that has not come up has not come up -/
def Wn (ops : Array Oper) (listed : Array Bool) : Prop := ∀ i, listed.getD i true = false → ∀ j, j ∈ waits ops i ops.size → listed.getD j true = false
theorem ready_free {i j : Nat} {listed : Array Bool} (hw : Wn ops listed) (hj : j ∈ Region.ready .any ops listed) (hi : listed.getD i true = false) : j ∉ waits ops i ops.size := fun hm => by
  obtain ⟨hjun, oj, hoj, hall⟩ := mem_ready.1 hj
  obtain ⟨_, oj', h2, e, h3, h4, h5⟩ := waits_spec _ _ hm
  rw [hoj] at h2
  injection h2 with h2
  subst h2
  have hun : ∀ i, listed.getD i true = false → e.on ≠ i := fun i h0 heq => by
    have h1 := hall e h3 h4
    rw [heq] at h1
    rcases Nat.lt_or_ge i listed.size with h' | h'
    · simp [h'] at h0 h1; rw [h0] at h1; cases h1
    · simp [Array.getElem?_eq_none h'] at h1
  rcases h5 with h5 | h5
  · exact hun i hi h5
  · exact hun _ (hw i hi _ h5) rfl
theorem Wn.step {j : Nat} {listed : Array Bool} (hw : Wn ops listed) (hj : j ∈ Region.ready .any ops listed) : Wn ops (listed.setIfInBounds j true) := by
  intro i hi m hm
  have hij : j ≠ i := fun e => by
    subst e
    have h0 := (mem_ready.1 hj).1
    rcases Nat.lt_or_ge j listed.size with h' | h'
    · simp [h'] at hi
    · simp [Array.getElem?_eq_none h'] at h0
  have hi0 : listed.getD i true = false := by rwa [getD_set_ne true hij] at hi
  have hjm : j ≠ m := fun e => ready_free hw hj hi0 (e ▸ hm)
  rw [getD_set_ne true hjm]
  exact hw i hi0 m hm
theorem Good.keep {j : Nat} {listed : Array Bool} {w : World} (hg : Good ops C listed w) : Good ops C (listed.setIfInBounds j true) w := by
  intro i hi hun
  refine hg i hi ?_
  by_cases hij : j = i
  · subst hij
    rcases Nat.lt_or_ge j listed.size with h' | h'
    · simp [h'] at hun
    · rwa [Array.setIfInBounds_eq_of_size_le (by omega)] at hun
  · rwa [getD_set_ne true hij] at hun
theorem Good.step {j : Nat} {listed : Array Bool} {w : World} (hw : Wn ops listed) (hj : j ∈ Region.ready .any ops listed) (hd : Dp ops C j w) : Good ops C (listed.setIfInBounds j true) w := by
  intro i hi hun
  have hij : j ≠ i := fun e => by
    subst e
    have h0 := (mem_ready.1 hj).1
    rcases Nat.lt_or_ge j listed.size with h' | h'
    · simp [h'] at hun
    · simp [Array.getElem?_eq_none h'] at h0
  rw [getD_set_ne true hij] at hun
  exact hd i hi (fun e => hij e.symm) (ready_free hw hj hun)

/-- operation number i comes up -/
def sOp (P : Program) (ops : Array Oper) (cl : Nat → Nat) (C : Nat → World → Prop) (X : Nat → List PanicEntry → World → Prop) (i : Nat) (K : Act → World → Prop) (a : Act) (w : World) : Prop :=
  match ops[i]? with
  | none => K a w
  | some o => if Region.wanted o (yielded ops a.tmps) then
      (if cl i = 0 then ∃ v, (∀ w', C i w' → Oper.fixed P o a w' v) ∧ K (a.put o.dst v) w else if cl i = 1 then ∃ v, Oper.fixed P o a w v ∧ K (a.put o.dst v) w else eff P (Dp ops C i) (X i) o a w K)
    else K (a.put o.dst undef) w

def anyS (P : Program) (ops : Array Oper) (cl : Nat → Nat) (C : Nat → World → Prop) (X : Nat → List PanicEntry → World → Prop) (Q : Act → World → Prop) : Nat → Array Bool → Act → World → Prop
  | 0, listed, a, w => Region.ready .any ops listed = [] ∧ Q a w
  | fuel + 1, listed, a, w => (Region.ready .any ops listed = [] → Q a w) ∧ ∀ i ∈ Region.ready .any ops listed, sOp P ops cl C X i (anyS P ops cl C X Q fuel (listed.setIfInBounds i true)) a w

/-- what slots that are filled do not change -/
structure Kept (Df : List Deferred) (Nn : Nat) (a : Act) : Prop where
  defers : a.defers = Df
  size : a.tmps.size = Nn
theorem Kept.put {Df : List Deferred} {Nn : Nat} {a : Act} (h : Kept Df Nn a) (d : Option Tmp) (v : Value) : Kept Df Nn (a.put d v) := by
  cases d with
  | none => exact h
  | some d => exact ⟨h.defers, by simp [Act.put, h.size]⟩
theorem wpAny_of_anyS {Q : Act → World → Prop} {Q' : Exit → Act → World → Prop} {Df : List Deferred} {Nn : Nat} (hQ : ∀ a w, Q a w → Q' .normal a w) (hQX : ∀ i ch a w, Kept Df Nn a → X i ch w → Q' (.panic ch) a w) : ∀ (fuel : Nat) (listed : Array Bool) (a : Act) (w : World), Kept Df Nn a → Wn ops listed → Good ops C listed w → anyS P ops cl C X Q fuel listed a w → wpAny P .any ops Q' fuel listed a w
  | 0, _, _, _, _, _, hC, h => ⟨h.1, hQ _ _ h.2⟩
  | fuel + 1, listed, a, w, hDf, hW, hC, h => ⟨fun h0 => hQ _ _ (h.1 h0), fun i hi => by
      have h1 := h.2 i hi
      unfold sOp at h1
      unfold wpOp
      split
      · rename_i ho; simp only [ho] at h1; exact wpAny_of_anyS hQ hQX fuel _ _ _ (by first | exact hDf | exact hDf.put _ _) (hW.step hi) hC.keep h1
      · rename_i o ho
        have hlt := (Array.getElem?_eq_some_iff.1 ho).1
        simp only [ho] at h1
        split
        · rename_i hw
          rw [if_pos hw] at h1
          left
          split at h1
          · obtain ⟨v, hv, hK⟩ := h1
            unfold Oper.wp
            rw [hv w (hC i hlt (mem_ready.1 hi).1)]
            exact wpAny_of_anyS hQ hQX fuel _ _ _ (by first | exact hDf | exact hDf.put _ _) (hW.step hi) hC.keep hK
          · split at h1
            · obtain ⟨v, hv, hK⟩ := h1
              unfold Oper.wp
              rw [hv]
              exact wpAny_of_anyS hQ hQX fuel _ _ _ (by first | exact hDf | exact hDf.put _ _) (hW.step hi) hC.keep hK
            · exact eff_wp (fun v w hD hK => wpAny_of_anyS hQ hQX fuel _ _ _ (by first | exact hDf | exact hDf.put _ _) (hW.step hi) (Good.step hW hi hD) hK) (fun ch w hy => hQX i ch a w hDf hy) h1
        · rename_i hw; rw [if_neg hw] at h1; exact wpAny_of_anyS hQ hQX fuel _ _ _ (by first | exact hDf | exact hDf.put _ _) (hW.step hi) hC.keep h1⟩

/-- what is asked of operation k: it is ready when all ahead of it in the text are listed; whatever does not wait for it has other slots, and one of the two is stable -/
def freeS (ops : Array Oper) (cl : Nat → Nat) (k : Nat) : Bool :=
  match ops[k]? with
  | none => false
  | some ok => (List.range ops.size).all fun j => decide (j ≤ k) || match ops[j]? with
      | some oj => (waits ops k ops.size).any (Nat.beq j) || (ok.apart ops oj && (decide (cl k = 0) || decide (cl j = 0) || (decide (cl k = 1) && decide (cl j = 1))))
      | none => true
def kpB (ops : Array Oper) (cl : Nat → Nat) : Bool :=
  Region.noSelect ops && (List.range ops.size).all fun k => freeS ops cl k && match ops[k]? with
    | some o => o.after.all fun e => !Region.binds .any e || decide (e.on < k)
    | none => true

theorem freeS_spec {k j : Nat} {ok oj : Oper} (hk : ops[k]? = some ok) (hj : ops[j]? = some oj) (hf : freeS ops cl k = true) (hlt : k < j) (hno : j ∉ waits ops k ops.size) : ok.apart ops oj = true ∧ (cl k = 0 ∨ cl j = 0 ∨ (cl k = 1 ∧ cl j = 1)) := by
  simp only [freeS, hk, List.all_eq_true, List.mem_range] at hf
  have h1 := hf j (Array.getElem?_eq_some_iff.1 hj).1
  simp only [hj, Bool.or_eq_true, decide_eq_true_eq, Bool.and_eq_true] at h1
  rcases h1 with h1 | h1 | h1
  · omega
  · obtain ⟨x, hx, hb⟩ := List.any_eq_true.1 h1
    rw [← Nat.eq_of_beq_eq_true hb] at hx
    exact absurd hx hno
  · obtain ⟨ha, hc⟩ := h1
    refine ⟨ha, ?_⟩
    rcases hc with (h | h) | h
    · exact .inl h
    · exact .inr (.inl h)
    · exact .inr (.inr h)

theorem fixed_put {o : Oper} (hs : ∀ cs b, o.op ≠ .select cs b) {a : Act} {w : World} {u v : Value} {dst : Option Tmp} (h : ∀ d, dst = some d → d ∉ o.looksAt ops) : Oper.fixed P o (a.put dst u) w v ↔ Oper.fixed P o a w v := by
  unfold Oper.fixed; rw [execOp_put o hs a dst u h]

/-- **An operation may be taken first** if it is ready, and each other that has not come up waits for it, or is apart from it and one of the two is stable. -/
theorem anyS_first {Q : Act → World → Prop} {k : Nat} {ok : Oper} (hXk : ∀ ch w, ¬ X k ch w) (hk : ops[k]? = some ok) (hsel : ∀ (j : Nat) (o : Oper) cs b, ops[j]? = some o → o.op ≠ .select cs b) :
    ∀ (fuel : Nat) (listed : Array Bool) (a : Act) (w : World), Good ops C listed w → Wn ops listed →
      (∀ j oj, ops[j]? = some oj → j ≠ k → listed.getD j true = false → j ∉ waits ops k ops.size → ok.apart ops oj = true ∧ (cl k = 0 ∨ cl j = 0 ∨ (cl k = 1 ∧ cl j = 1))) →
      k ∈ Region.ready .any ops listed → sOp P ops cl C X k (anyS P ops cl C X Q fuel (listed.setIfInBounds k true)) a w → anyS P ops cl C X Q (fuel + 1) listed a w := by
  intro fuel
  induction fuel with
  | zero =>
    intro listed a w hC hwt hfree hr H
    refine ⟨fun h => (by rw [h] at hr; cases hr), fun j hj => ?_⟩
    by_cases hjk : j = k
    · subst hjk; exact H
    · exfalso
      have hj' := ready_mono hj hjk
      unfold sOp at H
      simp only [hk] at H
      split at H
      · split at H
        · obtain ⟨v, _, hK⟩ := H; rw [hK.1] at hj'; cases hj'
        · split at H
          · obtain ⟨v, _, hK⟩ := H; rw [hK.1] at hj'; cases hj'
          · obtain ⟨v, w', _, hK⟩ := eff_some hXk H; rw [hK.1] at hj'; cases hj'
      · rw [H.1] at hj'; cases hj'
  | succ fuel ih =>
    intro listed a w hC hwt hfree hr H
    refine ⟨fun h => (by rw [h] at hr; cases hr), fun j hj => ?_⟩
    by_cases hjk : j = k
    · subst hjk; exact H
    · obtain ⟨hjun, oj, hoj, hall⟩ := mem_ready.1 hj
      have hjlt := (Array.getElem?_eq_some_iff.1 hoj).1
      have hklt := (Array.getElem?_eq_some_iff.1 hk).1
      have hnot : j ∉ waits ops k ops.size := ready_free hwt hj (mem_ready.1 hr).1
      have hnot2 : k ∉ waits ops j ops.size := ready_free hwt hr hjun
      obtain ⟨hap, hst⟩ := hfree j oj hoj hjk hjun hnot
      obtain ⟨a1, a2, a3⟩ := Oper.apart_spec hap
      have hselk := fun cs b => hsel k ok cs b hk
      have hselj := fun cs b => hsel j oj cs b hoj
      have hcomm : (listed.setIfInBounds k true).setIfInBounds j true = (listed.setIfInBounds j true).setIfInBounds k true := Array.setIfInBounds_comm _ _ (fun h => hjk h.symm)
      have hfree' : ∀ i oi, ops[i]? = some oi → i ≠ k → (listed.setIfInBounds j true).getD i true = false → i ∉ waits ops k ops.size → ok.apart ops oi = true ∧ (cl k = 0 ∨ cl i = 0 ∨ (cl k = 1 ∧ cl i = 1)) := fun i oi hi hik hun hno => by
        refine hfree i oi hi hik ?_ hno
        by_cases hji : j = i
        · subst hji; exact hjun
        · rw [getD_set_ne true hji] at hun; exact hun
      have hwt' : Wn ops (listed.setIfInBounds j true) := hwt.step hj
      have hrj : k ∈ Region.ready .any ops (listed.setIfInBounds j true) := ready_mono hr (fun h => hjk h.symm)
      have hjr : j ∈ Region.ready .any ops (listed.setIfInBounds k true) := ready_mono hj hjk
      have hwj : ∀ v, Region.wanted oj (yielded ops (a.put ok.dst v).tmps) = Region.wanted oj (yielded ops a.tmps) := fun v => wanted_put oj a ok.dst v a1
      have hwk : ∀ v, Region.wanted ok (yielded ops (a.put oj.dst v).tmps) = Region.wanted ok (yielded ops a.tmps) := fun v => wanted_put ok a oj.dst v a3
      have hex : ∀ v, execOp (a.put ok.dst v).eval oj = execOp a.eval oj := fun v => execOp_put oj hselj a ok.dst v a1
      have hek : ∀ v, execOp (a.put oj.dst v).eval ok = execOp a.eval ok := fun v => execOp_put ok hselk a oj.dst v a3
      have hpc : ∀ u v, (a.put ok.dst u).put oj.dst v = (a.put oj.dst v).put ok.dst u := fun u v => Act.put_comm a u v a2
      -- what k comes to, and what j makes of it
      have step : ∀ u w', anyS P ops cl C X Q (fuel + 1) (listed.setIfInBounds k true) (a.put ok.dst u) w' → sOp P ops cl C X j (anyS P ops cl C X Q fuel ((listed.setIfInBounds j true).setIfInBounds k true)) (a.put ok.dst u) w' := by
        intro u w' h
        have := h.2 j hjr
        rwa [hcomm] at this
      by_cases hkw : Region.wanted ok (yielded ops a.tmps) = true ∧ cl k ≠ 0 ∧ cl k ≠ 1
      · -- k is not stable: j is
        obtain ⟨hkw, hks, hks1⟩ := hkw
        have hjs : cl j = 0 := by
          rcases hst with h | h | h
          · exact absurd h hks
          · exact h
          · exact absurd h.1 hks1
        unfold sOp at H
        simp only [hk] at H
        rw [if_pos hkw, if_neg hks, if_neg hks1] at H
        unfold sOp
        simp only [hoj]
        by_cases hjw : Region.wanted oj (yielded ops a.tmps) = true
        · rw [if_pos hjw, if_pos hjs]
          obtain ⟨u0, w0, hC0, hK0⟩ := eff_some hXk H
          have h1 := step u0 w0 hK0
          unfold sOp at h1
          simp only [hoj] at h1
          rw [if_pos (by rw [hwj]; exact hjw), if_pos hjs] at h1
          obtain ⟨v, hv, _⟩ := h1
          have hv' : ∀ w', C j w' → Oper.fixed P oj a w' v := fun w' hw' => by have := hv w' hw'; unfold Oper.fixed at *; rwa [hex] at this
          refine ⟨v, hv', ih _ _ _ hC.keep hwt' hfree' hrj ?_⟩
          unfold sOp
          simp only [hk]
          rw [if_pos (by rw [hwk]; exact hkw), if_neg hks, if_neg hks1]
          unfold eff at H ⊢
          rw [hek]
          generalize (execOp a.eval ok).run P w = r at *
          have fin : ∀ u w', Dp ops C k w' → anyS P ops cl C X Q (fuel + 1) (listed.setIfInBounds k true) (a.put ok.dst u) w' → anyS P ops cl C X Q fuel ((listed.setIfInBounds j true).setIfInBounds k true) ((a.put oj.dst v).put ok.dst u) w' := by
            intro u w' hC' hK'
            have h2 := step u w' hK'
            unfold sOp at h2
            simp only [hoj] at h2
            rw [if_pos (by rw [hwj]; exact hjw), if_pos hjs] at h2
            obtain ⟨v2, hv2, hK2⟩ := h2
            have hCj := hC' j hjlt hjk hnot2
            have e1 := hv2 w' hCj
            have e2 := hv' w' hCj
            unfold Oper.fixed at e1 e2
            rw [hex, e2] at e1
            injection e1 with e1
            injection e1 with e1
            subst e1
            rwa [hpc] at hK2
          cases r with
          | halt x w' => exact H
          | ok nx w' =>
            cases nx <;> simp only [effUpon] at H ⊢
            case value u => exact ⟨H.1, fin _ _ H.1 H.2⟩
            case skip => exact ⟨H.1, fin _ _ H.1 H.2⟩
            case enter f args => exact H.mono fun e w'' hq => hq.imp (fun ⟨u, he, hC', hK'⟩ => ⟨u, he, hC', fin _ _ hC' hK'⟩) id
        · rw [if_neg hjw]
          refine ih _ _ _ hC.keep hwt' hfree' hrj ?_
          unfold sOp
          simp only [hk]
          rw [if_pos (by rw [hwk]; exact hkw), if_neg hks, if_neg hks1]
          unfold eff at H ⊢
          rw [hek]
          generalize (execOp a.eval ok).run P w = r at *
          have fin : ∀ u w', Dp ops C k w' → anyS P ops cl C X Q (fuel + 1) (listed.setIfInBounds k true) (a.put ok.dst u) w' → anyS P ops cl C X Q fuel ((listed.setIfInBounds j true).setIfInBounds k true) ((a.put oj.dst undef).put ok.dst u) w' := by
            intro u w' hC' hK'
            have h2 := step u w' hK'
            unfold sOp at h2
            simp only [hoj] at h2
            rw [if_neg (by rw [hwj]; exact hjw)] at h2
            rwa [hpc] at h2
          cases r with
          | halt x w' => exact H
          | ok nx w' =>
            cases nx <;> simp only [effUpon] at H ⊢
            case value u => exact ⟨H.1, fin _ _ H.1 H.2⟩
            case skip => exact ⟨H.1, fin _ _ H.1 H.2⟩
            case enter f args => exact H.mono fun e w'' hq => hq.imp (fun ⟨u, he, hC', hK'⟩ => ⟨u, he, hC', fin _ _ hC' hK'⟩) id
      · by_cases hkr : Region.wanted ok (yielded ops a.tmps) = true ∧ cl k = 1
        · -- k reads memory as it stands: j leaves it alone
          obtain ⟨hkw', hk1⟩ := hkr
          have hjs : cl j = 0 ∨ cl j = 1 := by
            rcases hst with h | h | h
            · rw [hk1] at h; cases h
            · exact .inl h
            · exact .inr h.2
          have hk0 : cl k ≠ 0 := by rw [hk1]; decide
          unfold sOp at H
          simp only [hk] at H
          rw [if_pos hkw', if_neg hk0, if_pos hk1] at H
          obtain ⟨u, hu, hK⟩ := H
          have hback : ∀ v, anyS P ops cl C X Q fuel ((listed.setIfInBounds j true).setIfInBounds k true) ((a.put oj.dst v).put ok.dst u) w → sOp P ops cl C X k (anyS P ops cl C X Q fuel ((listed.setIfInBounds j true).setIfInBounds k true)) (a.put oj.dst v) w := by
            intro v h
            unfold sOp
            simp only [hk]
            rw [if_pos (by rw [hwk]; exact hkw'), if_neg hk0, if_pos hk1]
            exact ⟨u, by unfold Oper.fixed; rw [hek]; exact hu, h⟩
          have h1 := step u w hK
          unfold sOp at h1 ⊢
          simp only [hoj] at h1 ⊢
          by_cases hjw : Region.wanted oj (yielded ops a.tmps) = true
          · rw [if_pos (by rw [hwj]; exact hjw)] at h1
            rw [if_pos hjw]
            by_cases hj0 : cl j = 0
            · rw [if_pos hj0] at h1 ⊢
              obtain ⟨v, hv, hK2⟩ := h1
              refine ⟨v, fun w' hw' => by have := hv w' hw'; unfold Oper.fixed at *; rwa [hex] at this, ih _ _ _ hC.keep hwt' hfree' hrj (hback v ?_)⟩
              rwa [hpc] at hK2
            · have hj1 : cl j = 1 := by
                rcases hjs with h | h
                · exact absurd h hj0
                · exact h
              rw [if_neg hj0, if_pos hj1] at h1 ⊢
              obtain ⟨v, hv, hK2⟩ := h1
              refine ⟨v, by unfold Oper.fixed at *; rwa [hex] at hv, ih _ _ _ hC.keep hwt' hfree' hrj (hback v ?_)⟩
              rwa [hpc] at hK2
          · rw [if_neg (by rw [hwj]; exact hjw)] at h1
            rw [if_neg hjw]
            refine ih _ _ _ hC.keep hwt' hfree' hrj (hback undef ?_)
            rwa [hpc] at h1
        · -- k is stable, or passed over: its value is one whatever comes ahead of it
          obtain ⟨u, hu, hK⟩ : ∃ u, ((Region.wanted ok (yielded ops a.tmps) = true ∧ cl k = 0 ∧ ∀ w', C k w' → Oper.fixed P ok a w' u) ∨ (Region.wanted ok (yielded ops a.tmps) = false ∧ u = undef)) ∧ anyS P ops cl C X Q (fuel + 1) (listed.setIfInBounds k true) (a.put ok.dst u) w := by
            unfold sOp at H
            simp only [hk] at H
            by_cases hkw' : Region.wanted ok (yielded ops a.tmps) = true
            · have hks : cl k = 0 := by
                apply Classical.byContradiction
                intro h0
                by_cases h1 : cl k = 1
                · exact hkr ⟨hkw', h1⟩
                · exact hkw ⟨hkw', h0, h1⟩
              rw [if_pos hkw', if_pos hks] at H
              obtain ⟨u, h1, h2⟩ := H
              exact ⟨u, .inl ⟨hkw', hks, h1⟩, h2⟩
            · rw [if_neg hkw'] at H
              exact ⟨undef, .inr ⟨by simpa using hkw', rfl⟩, H⟩
          have hback : ∀ v, ∀ w', anyS P ops cl C X Q fuel ((listed.setIfInBounds j true).setIfInBounds k true) ((a.put oj.dst v).put ok.dst u) w' → sOp P ops cl C X k (anyS P ops cl C X Q fuel ((listed.setIfInBounds j true).setIfInBounds k true)) (a.put oj.dst v) w' := by
            intro v w' h
            unfold sOp
            simp only [hk]
            rcases hu with ⟨h1, h2, h3⟩ | ⟨h1, rfl⟩
            · rw [if_pos (by rw [hwk]; exact h1), if_pos h2]
              exact ⟨u, fun w'' hw'' => by unfold Oper.fixed; rw [hek]; exact h3 w'' hw'', h⟩
            · rw [if_neg (by rw [hwk, h1]; simp)]; exact h
          have h1 := step u w hK
          unfold sOp at h1 ⊢
          simp only [hoj] at h1 ⊢
          by_cases hjw : Region.wanted oj (yielded ops a.tmps) = true
          · rw [if_pos (by rw [hwj]; exact hjw)] at h1
            rw [if_pos hjw]
            by_cases hjs : cl j = 0
            · rw [if_pos hjs] at h1 ⊢
              obtain ⟨v, hv, hK2⟩ := h1
              refine ⟨v, fun w' hw' => by have := hv w' hw'; unfold Oper.fixed at *; rwa [hex] at this, ih _ _ _ hC.keep hwt' hfree' hrj (hback v w ?_)⟩
              rwa [hpc] at hK2
            by_cases hj1 : cl j = 1
            · rw [if_neg hjs, if_pos hj1] at h1 ⊢
              obtain ⟨v, hv, hK2⟩ := h1
              refine ⟨v, by unfold Oper.fixed at *; rwa [hex] at hv, ih _ _ _ hC.keep hwt' hfree' hrj (hback v w ?_)⟩
              rwa [hpc] at hK2
            · rw [if_neg hjs, if_neg hj1] at h1 ⊢
              unfold eff at h1 ⊢
              rw [hex] at h1
              generalize (execOp a.eval oj).run P w = r at *
              have fin : ∀ v w', Dp ops C j w' → anyS P ops cl C X Q fuel ((listed.setIfInBounds j true).setIfInBounds k true) ((a.put ok.dst u).put oj.dst v) w' → anyS P ops cl C X Q (fuel + 1) (listed.setIfInBounds j true) (a.put oj.dst v) w' := by
                intro v w' hC' h
                rw [hpc] at h
                exact ih _ _ _ (Good.step hwt hj hC') hwt' hfree' hrj (hback v w' h)
              cases r with
              | halt x w' => exact h1
              | ok nx w' =>
                cases nx <;> simp only [effUpon] at h1 ⊢
                case value v => exact ⟨h1.1, fin _ _ h1.1 h1.2⟩
                case skip => exact ⟨h1.1, fin _ _ h1.1 h1.2⟩
                case enter f args => exact h1.mono fun e w'' hq => hq.imp (fun ⟨v, he, hC', hK'⟩ => ⟨v, he, hC', fin _ _ hC' hK'⟩) id
          · rw [if_neg (by rw [hwj]; exact hjw)] at h1
            rw [if_neg hjw]
            refine ih _ _ _ hC.keep hwt' hfree' hrj (hback undef w ?_)
            rwa [hpc] at h1

/-- the walk in the order of the text -/
def kp (P : Program) (ops : Array Oper) (cl : Nat → Nat) (C : Nat → World → Prop) (Q : Act → World → Prop) : List Oper → Nat → Act → World → Prop
  | [], _, a, w => Q a w
  | o :: rest, k, a, w => if Region.wanted o (yielded ops a.tmps) then
      (if cl k = 0 then ∃ v, (∀ w', C k w' → Oper.fixed P o a w' v) ∧ kp P ops cl C Q rest (k + 1) (a.put o.dst v) w else if cl k = 1 then ∃ v, Oper.fixed P o a w v ∧ kp P ops cl C Q rest (k + 1) (a.put o.dst v) w else eff P (Dp ops C k) (fun _ _ => False) o a w (kp P ops cl C Q rest (k + 1)))
    else kp P ops cl C Q rest (k + 1) (a.put o.dst undef) w

/-- just those ahead of k are listed -/
def Upto (ops : Array Oper) (k : Nat) (listed : Array Bool) : Prop := listed.size = ops.size ∧ ∀ j, j < ops.size → listed.getD j true = decide (j < k)

theorem anyS_kp {Q : Act → World → Prop} (hB : kpB ops cl = true) : ∀ (l : List Oper) (k : Nat) (listed : Array Bool) (a : Act) (w : World), (∀ j, l[j]? = ops[k + j]?) → Upto ops k listed → Good ops C listed w → kp P ops cl C Q l k a w → anyS P ops cl C (fun _ _ _ => False) Q l.length listed a w
  | [], k, listed, a, w, hl, hu, hC, h => by
    refine ⟨?_, h⟩
    have hk : ops.size ≤ k := by
      have := hl 0; simpa using this
    apply Classical.byContradiction
    intro hne
    obtain ⟨i, hi⟩ := List.exists_mem_of_ne_nil _ hne
    obtain ⟨h1, o, ho, _⟩ := mem_ready.1 hi
    have hlt := (Array.getElem?_eq_some_iff.1 ho).1
    rw [hu.2 i hlt] at h1
    simp at h1
    omega
  | o :: l, k, listed, a, w, hl, hu, hC, h => by
    have h0 : ops[k]? = some o := by simpa using (hl 0).symm
    have hlt := (Array.getElem?_eq_some_iff.1 h0).1
    simp only [kpB, Bool.and_eq_true, List.all_eq_true, List.mem_range] at hB
    obtain ⟨hns, hall⟩ := hB
    obtain ⟨hf, haf⟩ := hall k hlt
    have hB' : kpB ops cl = true := by simp only [kpB, Bool.and_eq_true, List.all_eq_true, List.mem_range]; exact ⟨hns, hall⟩
    simp only [h0, Array.all_eq_true_iff_forall_mem] at haf
    have hr : k ∈ Region.ready .any ops listed := by
      refine mem_ready.2 ⟨by rw [hu.2 k hlt]; simp, o, h0, fun e he hb => ?_⟩
      have := haf e he
      rw [hb] at this
      simp at this
      have h2 := hu.2 e.on (by omega)
      rw [Array.getD_eq_getD_getElem?] at h2 ⊢
      have h3 : e.on < listed.size := by rw [hu.1]; omega
      simp [h3] at h2 ⊢
      rw [h2]; simpa using this
    have hWn : Wn ops listed := by
      intro i hi j hj
      obtain ⟨h1, oj, h2, _⟩ := waits_spec _ _ hj
      have hjl := (Array.getElem?_eq_some_iff.1 h2).1
      rw [hu.2 i (by omega)] at hi
      simp at hi
      rw [hu.2 j hjl]
      simp; omega
    refine anyS_first (fun _ _ h => h) h0 (Region.noSelect_spec hns) l.length listed a w hC hWn ?_ hr ?_
    · intro j oj hj hjk hun hno
      have hjl := (Array.getElem?_eq_some_iff.1 hj).1
      rw [hu.2 j hjl] at hun
      simp at hun
      exact freeS_spec h0 hj hf (by omega) hno
    · have hu' : Upto ops (k + 1) (listed.setIfInBounds k true) := by
        refine ⟨by simp [hu.1], fun j hj => ?_⟩
        by_cases hjk : k = j
        · subst hjk
          have : k < listed.size := by rw [hu.1]; exact hj
          simp [this]
        · rw [getD_set_ne true hjk, hu.2 j hj]
          by_cases h' : j < k
          · simp [h', show j < k + 1 by omega]
          · simp [h', show ¬ j < k + 1 by omega]
      have hl' : ∀ j, l[j]? = ops[k + 1 + j]? := fun j => by have := hl (j + 1); simpa [Nat.add_assoc, Nat.add_comm 1 j] using this
      have go : ∀ a w, Good ops C (listed.setIfInBounds k true) w → kp P ops cl C Q l (k + 1) a w → anyS P ops cl C (fun _ _ _ => False) Q l.length (listed.setIfInBounds k true) a w := fun a w hC h => anyS_kp hB' l (k + 1) _ a w hl' hu' hC h
      unfold sOp
      simp only [h0]
      unfold kp at h
      split
      · rename_i hw
        rw [if_pos hw] at h
        split
        · rename_i hs; rw [if_pos hs] at h; obtain ⟨v, h1, h2⟩ := h; exact ⟨v, h1, go _ _ hC.keep h2⟩
        · rename_i hs
          rw [if_neg hs] at h
          split
          · rename_i hs; rw [if_pos hs] at h; obtain ⟨v, h1, h2⟩ := h; exact ⟨v, h1, go _ _ hC.keep h2⟩
          · rename_i hs; rw [if_neg hs] at h; exact eff_mono (fun v w' hC' hK => go _ _ (Good.step hWn hr hC') hK) h
      · rename_i hw; rw [if_neg hw] at h; exact go _ _ hC.keep h

/-- A REGION THAT DRAWS ITS ORDER, walked in the order of the text. -/
theorem wp_region_kp {id : Nat} {Q : Exit → Act → World → Prop} {a : Act} {w : World} (hm : P.follows .mixedOrders = true) (hB : kpB ops cl = true) (hC : ∀ i, C i { w with drawn := w.drawn + 1 })
    (h : kp P ops cl C (fun a w => Q .normal a w) ops.toList 0 a { w with drawn := w.drawn + 1 }) : (Code.region id ops true).wp P Q a w := by
  refine wp_region_any hm (wpAny_of_anyS (Q := fun a w => Q .normal a w) (cl := cl) (C := C) (X := fun _ _ _ => False) (fun _ _ h => h) (fun _ _ _ _ _ h => h.elim) _ _ _ _ ⟨rfl, rfl⟩ (fun i hi j hj => by obtain ⟨_, oj, h2, _⟩ := waits_spec _ _ hj; have := (Array.getElem?_eq_some_iff.1 h2).1; simp [this]) (fun i _ _ => hC i) ?_)
  have := anyS_kp (Q := fun a w => Q .normal a w) hB ops.toList 0 (Array.replicate ops.size false) a { w with drawn := w.drawn + 1 } (by simp) ⟨by simp, fun j hj => by simp [hj]⟩ (fun i _ _ => hC i) h
  simpa using this
end

/-! ### in an order of one's own; one operation may end in a panic, if all that is left waits for it -/
section
variable {P : Program} {ops : Array Oper} {cl : Nat → Nat} {C : Nat → World → Prop} {X : Nat → List PanicEntry → World → Prop}
def ko (P : Program) (ops : Array Oper) (cl : Nat → Nat) (C : Nat → World → Prop) (X : Nat → List PanicEntry → World → Prop) (Q : Act → World → Prop) : List Nat → Act → World → Prop
  | [], a, w => Q a w
  | k :: rest, a, w => sOp P ops cl C X k (ko P ops cl C X Q rest) a w
def freeO (ops : Array Oper) (cl : Nat → Nat) (done : List Nat) (k : Nat) : Bool :=
  match ops[k]? with
  | none => false
  | some ok => !done.any (Nat.beq k) && (ok.after.all fun e => !Region.binds .any e || done.any (Nat.beq e.on)) && (List.range ops.size).all fun j => Nat.beq k j || done.any (Nat.beq j) || match ops[j]? with
      | some oj => (waits ops k ops.size).any (Nat.beq j) || (!Nat.beq (cl k) 3 && ok.apart ops oj && (decide (cl k = 0) || decide (cl j = 0) || (decide (cl k = 1) && decide (cl j = 1))))
      | none => true
def koB (ops : Array Oper) (cl : Nat → Nat) : List Nat → List Nat → Bool
  | done, [] => (List.range ops.size).all fun j => done.any (Nat.beq j)
  | done, k :: rest => freeO ops cl done k && koB ops cl (k :: done) rest
theorem any_beq {l : List Nat} {j : Nat} : l.any (Nat.beq j) = true ↔ j ∈ l := by
  rw [List.any_eq_true]
  exact ⟨fun ⟨x, hx, h⟩ => by rw [Nat.eq_of_beq_eq_true h]; exact hx, fun h => ⟨j, h, Nat.beq_refl j⟩⟩
theorem sOp_mono {k : Nat} {K K' : Act → World → Prop} {a : Act} {w : World} (h : ∀ a' w', (w' = w ∨ Dp ops C k w') → K a' w' → K' a' w') (hh : sOp P ops cl C X k K a w) : sOp P ops cl C X k K' a w := by
  unfold sOp at *
  cases ho : ops[k]? with
  | none => simp only [ho] at hh ⊢; exact h _ _ (.inl rfl) hh
  | some o =>
    simp only [ho] at hh ⊢
    split
    · rename_i hw
      rw [if_pos hw] at hh
      split
      · rename_i h0; rw [if_pos h0] at hh; obtain ⟨v, h1, h2⟩ := hh; exact ⟨v, h1, h _ _ (.inl rfl) h2⟩
      · rename_i h0
        rw [if_neg h0] at hh
        split
        · rename_i h1; rw [if_pos h1] at hh; obtain ⟨v, h1, h2⟩ := hh; exact ⟨v, h1, h _ _ (.inl rfl) h2⟩
        · rename_i h1; rw [if_neg h1] at hh; exact eff_mono (fun v w' hD hK => h _ _ (.inr hD) hK) hh
    · rename_i hw; rw [if_neg hw] at hh; exact h _ _ (.inl rfl) hh
theorem anyS_ko {Q : Act → World → Prop} (hns : Region.noSelect ops = true) (hX : ∀ k, cl k ≠ 3 → ∀ ch w, ¬ X k ch w) : ∀ (ord done : List Nat) (listed : Array Bool) (a : Act) (w : World), koB ops cl done ord = true → (∀ j, j ∈ done → j < ops.size) → listed.size = ops.size → (∀ j, j < ops.size → listed.getD j true = decide (j ∈ done)) → Wn ops listed → Good ops C listed w → ko P ops cl C X Q ord a w → anyS P ops cl C X Q ord.length listed a w
  | [], done, listed, a, w, hB, _, hsz, hl, hW, hC, h => by
    refine ⟨?_, h⟩
    apply Classical.byContradiction
    intro hne
    obtain ⟨i, hi⟩ := List.exists_mem_of_ne_nil _ hne
    obtain ⟨h1, o, ho, _⟩ := mem_ready.1 hi
    have hlt := (Array.getElem?_eq_some_iff.1 ho).1
    rw [hl i hlt] at h1
    simp only [koB, List.all_eq_true, List.mem_range] at hB
    have := any_beq.1 (hB i hlt)
    simp [this] at h1
  | k :: ord, done, listed, a, w, hB, hdn, hsz, hl, hW, hC, h => by
    simp only [koB, Bool.and_eq_true] at hB
    obtain ⟨hf, hB'⟩ := hB
    unfold freeO at hf
    cases h0 : ops[k]? with
    | none => simp [h0] at hf
    | some ok =>
    simp only [h0, Bool.and_eq_true, List.all_eq_true, List.mem_range, Array.all_eq_true_iff_forall_mem] at hf
    obtain ⟨⟨hnd, haf⟩, hall⟩ := hf
    have hlt := (Array.getElem?_eq_some_iff.1 h0).1
    have hkn : k ∉ done := fun hm => by rw [any_beq.2 hm] at hnd; cases hnd
    have hr : k ∈ Region.ready .any ops listed := by
      refine mem_ready.2 ⟨by rw [hl k hlt]; simp [hkn], ok, h0, fun e he hb => ?_⟩
      have := haf e he
      rw [hb] at this
      simp only [Bool.not_true, Bool.false_or] at this
      have hm := any_beq.1 this
      have hlo := hdn _ hm
      have h2 := hl e.on hlo
      rw [Array.getD_eq_getD_getElem?] at h2 ⊢
      have h3 : e.on < listed.size := by rw [hsz]; exact hlo
      simp [h3, hm] at h2 ⊢
      exact h2
    have hfree : ∀ j oj, ops[j]? = some oj → j ≠ k → listed.getD j true = false → j ∉ waits ops k ops.size → cl k ≠ 3 ∧ ok.apart ops oj = true ∧ (cl k = 0 ∨ cl j = 0 ∨ (cl k = 1 ∧ cl j = 1)) := by
      intro j oj hj hjk hun hno
      have hjl := (Array.getElem?_eq_some_iff.1 hj).1
      have h1 := hall j hjl
      rw [hl j hjl] at hun
      have hjd : j ∉ done := by simpa using hun
      have e1 : Nat.beq k j = false := by
        cases hb : Nat.beq k j
        · rfl
        · exact absurd (Nat.eq_of_beq_eq_true hb).symm hjk
      have e2 : done.any (Nat.beq j) = false := by
        cases hb : done.any (Nat.beq j)
        · rfl
        · exact absurd (any_beq.1 hb) hjd
      have e3 : (waits ops k ops.size).any (Nat.beq j) = false := by
        cases hb : (waits ops k ops.size).any (Nat.beq j)
        · rfl
        · exact absurd (any_beq.1 hb) hno
      simp only [e1, e2, hj, e3, Bool.false_or, Bool.and_eq_true, Bool.or_eq_true, decide_eq_true_eq, Bool.not_eq_true'] at h1
      obtain ⟨⟨h3, h4⟩, h5⟩ := h1
      refine ⟨fun e => ?_, h4, ?_⟩
      · rw [e] at h3; cases h3
      · rcases h5 with (h | h) | h
        · exact .inl h
        · exact .inr (.inl h)
        · exact .inr (.inr h)
    have hsz' : (listed.setIfInBounds k true).size = ops.size := by simp [hsz]
    have hl' : ∀ j, j < ops.size → (listed.setIfInBounds k true).getD j true = decide (j ∈ k :: done) := fun j hj => by
      by_cases hjk : k = j
      · subst hjk
        have : k < listed.size := by rw [hsz]; exact hj
        simp [this]
      · rw [getD_set_ne true hjk, hl j hj]
        have : j ≠ k := fun e => hjk e.symm
        simp [this]
    have go : ∀ a w, Good ops C (listed.setIfInBounds k true) w → ko P ops cl C X Q ord a w → anyS P ops cl C X Q ord.length (listed.setIfInBounds k true) a w := fun a w hC h => anyS_ko hns hX ord (k :: done) _ a w hB' (fun j hj => by rcases List.mem_cons.1 hj with rfl | hj; exact hlt; exact hdn j hj) hsz' hl' (hW.step hr) hC h
    have hs : sOp P ops cl C X k (anyS P ops cl C X Q ord.length (listed.setIfInBounds k true)) a w := by
      refine sOp_mono (fun a' w' hw' hK => go a' w' ?_ hK) h
      rcases hw' with rfl | hD
      · exact hC.keep
      · exact Good.step hW hr hD
    by_cases h3 : cl k = 3
    · refine ⟨fun h => (by rw [h] at hr; cases hr), fun j hj => ?_⟩
      by_cases hjk : j = k
      · subst hjk; exact hs
      · obtain ⟨hjun, oj, hoj, _⟩ := mem_ready.1 hj
        exact absurd h3 (hfree j oj hoj hjk hjun (ready_free hW hj (mem_ready.1 hr).1)).1
    · exact anyS_first (hX k h3) h0 (Region.noSelect_spec hns) ord.length listed a w hC hW (fun j oj hj hjk hun hno => (hfree j oj hj hjk hun hno).2) hr hs
theorem wp_region_ko {id : Nat} {Q : Exit → Act → World → Prop} {a : Act} {w : World} {ord : List Nat} (hm : P.follows .mixedOrders = true) (hns : Region.noSelect ops = true) (hB : koB ops cl [] ord = true) (hX : ∀ k, cl k ≠ 3 → ∀ ch w, ¬ X k ch w) (hlen : ord.length = ops.size) (hC : ∀ i, C i { w with drawn := w.drawn + 1 })
    (hQX : ∀ i ch a' w', Kept a.defers a.tmps.size a' → X i ch w' → Q (.panic ch) a' w')
    (h : ko P ops cl C X (fun a w => Q .normal a w) ord a { w with drawn := w.drawn + 1 }) : (Code.region id ops true).wp P Q a w := by
  refine wp_region_any hm (wpAny_of_anyS (Q := fun a w => Q .normal a w) (cl := cl) (C := C) (X := X) (Df := a.defers) (Nn := a.tmps.size) (fun _ _ h => h) hQX _ _ _ _ ⟨rfl, rfl⟩ (fun i hi j hj => by obtain ⟨_, oj, h2, _⟩ := waits_spec _ _ hj; have := (Array.getElem?_eq_some_iff.1 h2).1; simp [this]) (fun i _ _ => hC i) ?_)
  have := anyS_ko (Q := fun a w => Q .normal a w) hns hX ord [] (Array.replicate ops.size false) a { w with drawn := w.drawn + 1 } hB (fun _ h => by cases h) (by simp) (fun j hj => by simp [hj]) (fun i hi j hj => by obtain ⟨_, oj, h2, _⟩ := waits_spec _ _ hj; have := (Array.getElem?_eq_some_iff.1 h2).1; simp [this]) (fun i _ _ => hC i) h
  rw [hlen] at this
  exact this
end

/-- classes told by a list -/
def clOf : List (Nat × Nat) → Nat → Nat
  | [], _ => 0
  | (i, c) :: l, k => bif Nat.beq i k then c else clOf l k

/-! ### the same in the logic of walks -/
section
variable {P : Program} {n d k : Nat} {W0 : World} {Q : Exit → Act → World → Prop} {ops rest : List Oper} {o : Oper} {E : Env} {H : Heap} {v : Value} {cl : Nat → Nat} {C : Nat → Heap → Prop}

/-- what an operation keeps that changes memory -/
def Dk (ops : Array Oper) (C : Nat → Heap → Prop) (k : Nat) (H : Heap) : Prop := ∀ i, i ≠ k → k ∉ waits ops i ops.size → C i H
def KP (P : Program) (n : Nat) (W0 : World) (Q : Exit → Act → World → Prop) (cl : Nat → Nat) (C : Nat → Heap → Prop) (ops l : List Oper) (k : Nat) (E : Env) (H : Heap) : Prop :=
  ∀ a w, Rep n E a → St W0 H w → kp P ops.toArray cl (fun i w => C i w.heap ∧ St W0 w.heap w) (fun a w => Q .normal a w) l k a w
theorem KC.text {id : Nat} {l : List Oper} (cl : Nat → Nat) (C : Nat → Heap → Prop) (hm : P.follows .mixedOrders = true) (hB : kpB l.toArray cl = true) (hC : ∀ i, C i H) (h : KP P n W0 Q cl C l l 0 E H) : KC P n W0 Q (.region id l.toArray true) E H :=
  fun a w ha hw => wp_region_kp (C := fun i w => C i w.heap ∧ St W0 w.heap w) hm hB (fun i => show C i w.heap ∧ _ from ⟨by rw [hw.heap]; exact hC i, rfl, hw.os, hw.tape, hw.output⟩) (h a _ ha ⟨hw.heap, hw.os, hw.tape, hw.output⟩)
theorem KP.nil (h : KQ n W0 Q .normal E H) : KP P n W0 Q cl C ops [] k E H := fun a w ha hw => h a w ha hw
/-- a stable operation -/
theorem KP.op (hs : cl k = 0) (hr : ∀ H', C k H' → Run P E H' o v) (hd : o.dst = some d) (hn : Nat.blt d n = true) (hg : want ops E o.guard = some true) (h : KP P n W0 Q cl C ops rest (k + 1) ((d, v) :: E) H) : KP P n W0 Q cl C ops (o :: rest) k E H := by
  intro a w ha hw
  unfold kp
  rw [if_pos (want_wanted ha hg), if_pos hs]
  refine ⟨v, fun w' hw' => hr w'.heap hw'.1 a.eval w' ha.agree rfl, ?_⟩
  rw [hd]; exact h _ _ (ha.put hn v) hw
theorem KP.skip (hd : o.dst = some d) (hn : Nat.blt d n = true) (hg : want ops E o.guard = some false) (h : KP P n W0 Q cl C ops rest (k + 1) ((d, undef) :: E) H) : KP P n W0 Q cl C ops (o :: rest) k E H := by
  intro a w ha hw
  unfold kp
  rw [if_neg (by rw [want_wanted ha hg]; simp), hd]
  exact h _ _ (ha.put hn _) hw
theorem KP.case {c : Bool} (hget : get E d = some (.bool c)) (ht : c = true → KP P n W0 Q cl C ops rest k ((d, .bool true) :: E) H) (hf : c = false → KP P n W0 Q cl C ops rest k ((d, .bool false) :: E) H) : KP P n W0 Q cl C ops rest k E H := by
  intro a w ha hw
  cases hc : c with
  | true => exact ht hc a w (ha.sub (sub_case hget true hc)) hw
  | false => exact hf hc a w (ha.sub (sub_case hget false hc)) hw
/-- one that reads memory as it stands -/
theorem KP.now (hs : cl k = 1) (hr : Run P E H o v) (hd : o.dst = some d) (hn : Nat.blt d n = true) (hg : want ops E o.guard = some true) (h : KP P n W0 Q cl C ops rest (k + 1) ((d, v) :: E) H) : KP P n W0 Q cl C ops (o :: rest) k E H := by
  intro a w ha hw
  unfold kp
  rw [if_pos (want_wanted ha hg), if_neg (by rw [hs]; decide), if_pos hs]
  refine ⟨v, hr a.eval w ha.agree hw.heap, ?_⟩
  rw [hd]; exact h _ _ (ha.put hn v) hw
theorem KP.opM {R : Value → Heap → Prop} (hs : cl k = 2) (hr : RunM P E H o R) (hd : o.dst = some d) (hn : Nat.blt d n = true) (hg : want ops E o.guard = some true) (hC : ∀ v H', R v H' → Dk ops.toArray C k H') (h : ∀ v H', R v H' → KP P n W0 Q cl C ops rest (k + 1) ((d, v) :: E) H') : KP P n W0 Q cl C ops (o :: rest) k E H := by
  intro a w ha hw
  unfold kp
  rw [if_pos (want_wanted ha hg), if_neg (by rw [hs]; decide), if_neg (by rw [hs]; decide)]
  obtain ⟨v, w', hrun, hst, hR⟩ := hr a.eval w ha.agree hw.heap
  unfold eff
  rw [hrun]
  simp only [effUpon]
  rw [hd]
  have hst' := hw.trans hst
  exact ⟨fun i _ h1 h2 => ⟨hC _ _ hR i h1 h2, rfl, hst'.os, hst'.tape, hst'.output⟩, h v _ hR _ _ (ha.put hn v) hst'⟩
theorem KP.opS {R : Heap → Prop} (hs : cl k = 2) (hr : RunS P E H o R) (hd : o.dst = none) (hg : want ops E o.guard = some true) (hC : ∀ H', R H' → Dk ops.toArray C k H') (h : ∀ H', R H' → KP P n W0 Q cl C ops rest (k + 1) E H') : KP P n W0 Q cl C ops (o :: rest) k E H := by
  intro a w ha hw
  unfold kp
  rw [if_pos (want_wanted ha hg), if_neg (by rw [hs]; decide), if_neg (by rw [hs]; decide)]
  obtain ⟨w', hrun, hst, hR⟩ := hr a.eval w ha.agree hw.heap
  unfold eff
  rw [hrun]
  simp only [effUpon]
  rw [hd]
  have hst' := hw.trans hst
  exact ⟨fun i _ h1 h2 => ⟨hC _ hR i h1 h2, rfl, hst'.os, hst'.tape, hst'.output⟩, h _ hR _ _ ha hst'⟩
theorem KP.call {f : FuncId} {fo : Operand} {xs : Array Operand} {ts : Array TypeId} {first cap : Array Value} {vs args : List Value} {R : Value → Heap → Prop} (hs : cl k = 2) (ho : o.op = .call { callee := .value fo, args := xs, argTypes := ts })
    (hf : ev E fo = some (.func (.func f) first cap)) (has : evs E xs.toList = some vs) (hl : first.toList ++ vs ++ cap.toList = args) (hcall : Enters P f) (hd : o.dst = some d) (hn : Nat.blt d n = true) (hg : want ops E o.guard = some true)
    (hc : Ct P f args H R) (hC : ∀ v H', R v H' → Dk ops.toArray C k H') (h : ∀ v H', R v H' → KP P n W0 Q cl C ops rest (k + 1) ((d, v) :: E) H') : KP P n W0 Q cl C ops (o :: rest) k E H := by
  intro a w ha hw
  unfold kp
  rw [if_pos (want_wanted ha hg), if_neg (by rw [hs]; decide), if_neg (by rw [hs]; decide)]
  unfold eff
  rw [run_call ha.agree ho hf has hl hcall]
  simp only [effUpon]
  refine (hc w hw.heap).mono ?_
  rintro e w' ⟨v, rfl, hst, hR⟩
  have hst' := hw.trans hst
  rw [hd]
  refine .inl ?_
  exact ⟨v, rfl, fun i _ h1 h2 => ⟨hC _ _ hR i h1 h2, rfl, hst'.os, hst'.tape, hst'.output⟩, h v _ hR _ _ (ha.put hn v) hst'⟩
end
end Go.Proofs.Yticnkojpfmkjeaa
