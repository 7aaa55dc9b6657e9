/- What the proof of EncBytes leans on, part 2. No condition but those that each law states. -/
import Derived.Test.YtldmfchamcpmmaaDoorRows
import Derived.WalkKit
import Derived.Deep.Quiet
import Derived.Below
import Derived.WalkLawsBesides
import Derived.Lib.Hide
import Derived.Laws.AppendOwnNone
import Derived.Laws.CopyRow
import Derived.Laws.Tables
import Derived.Orders
import Derived.Deep.Slices
import Derived.Deep.Fields
import Derived.OpenShut
import Derived.Lib.AppendZerosOnto
import Derived.Maps.AppendAt
import Derived.ChangeKeysEq
import Derived.Laws.BytesString
import Derived.Lib.SlBytesConst
import Derived.Laws.IdiomStrings
import Derived.Lib.AppendStr
import Derived.Lib.EndianZ
import Derived.WalkSpells
import Derived.Lib.ItoaNum
import Derived.Lib.DecodeN
import Derived.Lib.ValidLaws
import Derived.Lib.EndianBits
import Derived.ProofKit
import Derived.Defers
import Derived.Recover
import Derived.Scope
import Derived.Test.YtldmfchamcpmmaaDoorEncBytesPA
set_option maxHeartbeats 4000000
set_option maxRecDepth 100000
namespace Go.Proofs.YtldmfchamcpmmaaDoor
open Go Go.RowKit
set_option linter.unusedVariables false
set_option linter.unusedSimpArgs false
section
variable {P : Program} {ops : Array Oper} {cl : Nat → Nat} {C : Nat → World → Prop} {D : World → Prop} {X : Nat → List PanicEntry → World → Prop} {Y : List PanicEntry → World → Prop}
def Oper.fixed (P : Program) (o : Oper) (a : Act) (w : World) (v : Value) : Prop := (execOp a.eval o).run P w = .ok (.value v) w
/-- an operation that is not stable: it comes to a value, or to nothing, and to a world of the class -/
def effUpon (P : Program) (C : World → Prop) (Y : List PanicEntry → World → Prop) (o : Oper) (a : Act) (K : Act → World → Prop) : Result Next → Prop
  | .ok (.value v) w' => C w' ∧ K (a.put o.dst v) w'
  | .ok .skip w' => C w' ∧ K (a.put o.dst undef) w'
  | .ok (.enter f args) w' => Calls P f args w' (fun e w'' => (∃ v, e = .returned v ∧ C w'' ∧ K (a.put o.dst v) w'') ∨ ∃ ch, e = .panicked ch ∧ Y ch w'')
  | _ => False
def eff (P : Program) (C : World → Prop) (Y : List PanicEntry → World → Prop) (o : Oper) (a : Act) (w : World) (K : Act → World → Prop) : Prop := effUpon P C Y o a K ((execOp a.eval o).run P w)
theorem eff_mono {o : Oper} {a : Act} {w : World} {K K' : Act → World → Prop} (h : ∀ v w', D w' → K (a.put o.dst v) w' → K' (a.put o.dst v) w') (hh : eff P D Y o a w K) : eff P D Y o a w K' := by
  unfold eff at *
  generalize (execOp a.eval o).run P w = r at *
  cases r with
  | halt x w' => exact hh
  | ok n w' =>
    cases n <;> simp only [effUpon] at hh ⊢
    case value v => exact ⟨hh.1, h _ _ hh.1 hh.2⟩
    case skip => exact ⟨hh.1, h _ _ hh.1 hh.2⟩
    case enter f args => exact hh.mono fun e w'' hq => hq.imp (fun ⟨v, he, hC, hK⟩ => ⟨v, he, hC, h _ _ hC hK⟩) id
/-- it comes to an end -/
theorem eff_some {o : Oper} {a : Act} {w : World} {K : Act → World → Prop} (hY : ∀ ch w, ¬ Y ch w) (hh : eff P D Y o a w K) : ∃ v w', D w' ∧ K (a.put o.dst v) w' := by
  unfold eff at *
  generalize (execOp a.eval o).run P w = r at *
  cases r with
  | halt x w' => exact hh.elim
  | ok n w' =>
    cases n <;> simp only [effUpon] at hh
    case value v => exact ⟨v, w', hh⟩
    case skip => exact ⟨undef, w', hh⟩
    case enter f args =>
      obtain ⟨e, w'', fr, hq, _⟩ := hh []
      rcases hq with ⟨v, _, hC, hK⟩ | ⟨ch, _, hy⟩
      · exact ⟨v, w'', hC, hK⟩
      exact absurd hy (hY _ _)
theorem eff_wp {o : Oper} {a : Act} {w : World} {K K' : Act → World → Prop} {Q : Exit → Act → World → Prop} (h : ∀ v w, D w → K (a.put o.dst v) w → K' (a.put o.dst v) w) (hY : ∀ ch w, Y ch w → Q (.panic ch) a w) (hh : eff P D Y o a w K) : o.wp P a w K' Q := by
  unfold eff at hh
  unfold Oper.wp
  generalize (execOp a.eval o).run P w = r at *
  cases r with
  | halt x w' => exact hh.elim
  | ok n w' =>
    cases n <;> simp only [effUpon] at hh <;> simp only [Oper.upon]
    case value v => exact h _ _ hh.1 hh.2
    case skip => exact h _ _ hh.1 hh.2
    case enter f args => exact hh.mono fun e w'' hq => hq.elim (fun ⟨v, he, hC, hK⟩ => by subst he; exact h _ _ hC hK) (fun ⟨ch, he, hy⟩ => by subst he; exact hY _ _ hy)
/-- what waits for operation k, be it by way of others -/
def waits (ops : Array Oper) (k : Nat) : Nat → List Nat
  | 0 => []
  | m + 1 => match ops[m]? with
    | none => waits ops k m
    | some o => bif o.after.any (fun e => Region.binds .any e && (Nat.beq e.on k || (waits ops k m).any (Nat.beq e.on))) && Nat.blt k m then m :: waits ops k m else waits ops k m
theorem waits_spec {k : Nat} : ∀ (m j : Nat), j ∈ waits ops k m → k < j ∧ ∃ oj, ops[j]? = some oj ∧ ∃ e ∈ oj.after, Region.binds .any e = true ∧ (e.on = k ∨ e.on ∈ waits ops k m)
  | 0, j, h => by cases h
  | m + 1, j, h => by
    have mono : ∀ x, x ∈ waits ops k m → x ∈ waits ops k (m + 1) := by
      intro x hx
      simp only [waits]
      split
      · exact hx
      rename_i o ho
      cases o.after.any (fun e => Region.binds .any e && (Nat.beq e.on k || (waits ops k m).any (Nat.beq e.on))) && Nat.blt k m
      · exact hx
      exact List.mem_cons_of_mem _ hx
    have old : j ∈ waits ops k m → k < j ∧ ∃ oj, ops[j]? = some oj ∧ ∃ e ∈ oj.after, Region.binds .any e = true ∧ (e.on = k ∨ e.on ∈ waits ops k (m + 1)) := by
      intro hj
      obtain ⟨h1, oj, h2, e, h3, h4, h5⟩ := waits_spec m j hj
      exact ⟨h1, oj, h2, e, h3, h4, h5.imp id (mono _)⟩
    rw [waits] at h
    split at h
    · exact old h
    rename_i o ho
    cases hb : o.after.any (fun e => Region.binds .any e && (Nat.beq e.on k || (waits ops k m).any (Nat.beq e.on))) && Nat.blt k m with
    | false => rw [hb] at h; exact old h
    | true =>
      rw [hb] at h
      rcases List.mem_cons.1 h with rfl | h
      · simp only [Bool.and_eq_true] at hb
        obtain ⟨e, he, h2⟩ := Array.any_eq_true'.1 hb.1
        simp only [Bool.and_eq_true, Bool.or_eq_true] at h2
        refine ⟨by simpa using hb.2, o, ho, e, he, h2.1, ?_⟩
        rcases h2.2 with h3 | h3
        · exact .inl (Nat.eq_of_beq_eq_true h3)
        obtain ⟨x, hx, hxe⟩ := List.any_eq_true.1 h3
        rw [Nat.eq_of_beq_eq_true hxe]
        exact .inr (mono _ hx)
      exact old h
/-- what an operation that is not stable keeps: what each stable one needs that need not come ahead of it -/
def Dp (ops : Array Oper) (C : Nat → World → Prop) (k : Nat) (w : World) : Prop := ∀ i, i < ops.size → i ≠ k → k ∉ waits ops i ops.size → C i w
/-- what the operations that have not come up need -/
def Good (ops : Array Oper) (C : Nat → World → Prop) (listed : Array Bool) (w : World) : Prop := ∀ i, i < ops.size → listed.getD i true = false → C i w
/-- what waits for an operation that has not come up has not come up -/
def Wn (ops : Array Oper) (listed : Array Bool) : Prop := ∀ i, listed.getD i true = false → ∀ j, j ∈ waits ops i ops.size → listed.getD j true = false
theorem ready_free {i j : Nat} {listed : Array Bool} (hw : Wn ops listed) (hj : j ∈ Region.ready .any ops listed) (hi : listed.getD i true = false) : j ∉ waits ops i ops.size := fun hm => by
  obtain ⟨hjun, oj, hoj, hall⟩ := mem_ready.1 hj
  obtain ⟨_, oj', h2, e, h3, h4, h5⟩ := waits_spec _ _ hm
  rw [hoj] at h2
  injection h2 with h2
  subst h2
  have hun : ∀ i, listed.getD i true = false → e.on ≠ i := fun i h0 heq => by
    have h1 := hall e h3 h4
    rw [heq] at h1
    rcases Nat.lt_or_ge i listed.size with h' | h'
    · simp [h'] at h0 h1; rw [h0] at h1; cases h1
    simp [Array.getElem?_eq_none h'] at h1
  rcases h5 with h5 | h5
  · exact hun i hi h5
  exact hun _ (hw i hi _ h5) rfl
theorem Wn.step {j : Nat} {listed : Array Bool} (hw : Wn ops listed) (hj : j ∈ Region.ready .any ops listed) : Wn ops (listed.setIfInBounds j true) := by
  intro i hi m hm
  have hij : j ≠ i := fun e => by
    subst e
    have h0 := (mem_ready.1 hj).1
    rcases Nat.lt_or_ge j listed.size with h' | h'
    · simp [h'] at hi
    simp [Array.getElem?_eq_none h'] at h0
  have hi0 : listed.getD i true = false := by rwa [getD_set_ne true hij] at hi
  have hjm : j ≠ m := fun e => ready_free hw hj hi0 (e ▸ hm)
  rw [getD_set_ne true hjm]
  exact hw i hi0 m hm
theorem Good.keep {j : Nat} {listed : Array Bool} {w : World} (hg : Good ops C listed w) : Good ops C (listed.setIfInBounds j true) w := by
  intro i hi hun
  refine hg i hi ?_
  by_cases hij : j = i
  · subst hij
    rcases Nat.lt_or_ge j listed.size with h' | h'
    · simp [h'] at hun
    rwa [Array.setIfInBounds_eq_of_size_le (by omega)] at hun
  rwa [getD_set_ne true hij] at hun
theorem Good.step {j : Nat} {listed : Array Bool} {w : World} (hw : Wn ops listed) (hj : j ∈ Region.ready .any ops listed) (hd : Dp ops C j w) : Good ops C (listed.setIfInBounds j true) w := by
  intro i hi hun
  have hij : j ≠ i := fun e => by
    subst e
    have h0 := (mem_ready.1 hj).1
    rcases Nat.lt_or_ge j listed.size with h' | h'
    · simp [h'] at hun
    simp [Array.getElem?_eq_none h'] at h0
  rw [getD_set_ne true hij] at hun
  exact hd i hi (fun e => hij e.symm) (ready_free hw hj hun)
/-- operation number i comes up -/
def sOp (P : Program) (ops : Array Oper) (cl : Nat → Nat) (C : Nat → World → Prop) (X : Nat → List PanicEntry → World → Prop) (i : Nat) (K : Act → World → Prop) (a : Act) (w : World) : Prop :=
  match ops[i]? with
  | none => K a w
  | some o => if Region.wanted o (yielded ops a.tmps) then
      (if cl i = 0 then ∃ v, (∀ w', C i w' → Oper.fixed P o a w' v) ∧ K (a.put o.dst v) w else if cl i = 1 then ∃ v, Oper.fixed P o a w v ∧ K (a.put o.dst v) w else eff P (Dp ops C i) (X i) o a w K)
    else K (a.put o.dst undef) w
def anyS (P : Program) (ops : Array Oper) (cl : Nat → Nat) (C : Nat → World → Prop) (X : Nat → List PanicEntry → World → Prop) (Q : Act → World → Prop) : Nat → Array Bool → Act → World → Prop
  | 0, listed, a, w => Region.ready .any ops listed = [] ∧ Q a w
  | fuel + 1, listed, a, w => (Region.ready .any ops listed = [] → Q a w) ∧ ∀ i ∈ Region.ready .any ops listed, sOp P ops cl C X i (anyS P ops cl C X Q fuel (listed.setIfInBounds i true)) a w
/-- what slots that are filled do not change -/
structure Kept (Df : List Deferred) (Nn : Nat) (a : Act) : Prop where
  defers : a.defers = Df
  size : a.tmps.size = Nn
theorem Kept.put {Df : List Deferred} {Nn : Nat} {a : Act} (h : Kept Df Nn a) (d : Option Tmp) (v : Value) : Kept Df Nn (a.put d v) := by
  cases d with
  | none => exact h
  | some d => exact ⟨h.defers, by simp [Act.put, h.size]⟩
theorem wpAny_of_anyS {Q : Act → World → Prop} {Q' : Exit → Act → World → Prop} {Df : List Deferred} {Nn : Nat} (hQ : ∀ a w, Q a w → Q' .normal a w) (hQX : ∀ i ch a w, Kept Df Nn a → X i ch w → Q' (.panic ch) a w) : ∀ (fuel : Nat) (listed : Array Bool) (a : Act) (w : World), Kept Df Nn a → Wn ops listed → Good ops C listed w → anyS P ops cl C X Q fuel listed a w → wpAny P .any ops Q' fuel listed a w
  | 0, _, _, _, _, _, hC, h => ⟨h.1, hQ _ _ h.2⟩
  | fuel + 1, listed, a, w, hDf, hW, hC, h => ⟨fun h0 => hQ _ _ (h.1 h0), fun i hi => by
      have h1 := h.2 i hi
      unfold sOp at h1
      unfold wpOp
      split
      · rename_i ho; simp only [ho] at h1; exact wpAny_of_anyS hQ hQX fuel _ _ _ hDf (hW.step hi) hC.keep h1
      rename_i o ho
      have hlt := (Array.getElem?_eq_some_iff.1 ho).1
      simp only [ho] at h1
      split
      · rename_i hw
        rw [if_pos hw] at h1
        left
        split at h1
        · obtain ⟨v, hv, hK⟩ := h1
          unfold Oper.wp
          rw [hv w (hC i hlt (mem_ready.1 hi).1)]
          exact wpAny_of_anyS hQ hQX fuel _ _ _ (by exact hDf.put _ _) (hW.step hi) hC.keep hK
        split at h1
        · obtain ⟨v, hv, hK⟩ := h1
          unfold Oper.wp
          rw [hv]
          exact wpAny_of_anyS hQ hQX fuel _ _ _ (by exact hDf.put _ _) (hW.step hi) hC.keep hK
        exact eff_wp (fun v w hD hK => wpAny_of_anyS hQ hQX fuel _ _ _ (by exact hDf.put _ _) (hW.step hi) (Good.step hW hi hD) hK) (fun ch w hy => hQX i ch a w hDf hy) h1
      rename_i hw; rw [if_neg hw] at h1; exact wpAny_of_anyS hQ hQX fuel _ _ _ (by exact hDf.put _ _) (hW.step hi) hC.keep h1⟩
/-- what is asked of operation k: it is ready when all ahead of it in the text are listed; whatever does not wait for it has other slots, and one of the two is stable -/
def freeS (ops : Array Oper) (cl : Nat → Nat) (k : Nat) : Bool :=
  match ops[k]? with
  | none => false
  | some ok => (List.range ops.size).all fun j => decide (j ≤ k) || match ops[j]? with
      | some oj => (waits ops k ops.size).any (Nat.beq j) || (ok.apart ops oj && (decide (cl k = 0) || decide (cl j = 0) || (decide (cl k = 1) && decide (cl j = 1))))
      | none => true
def kpB (ops : Array Oper) (cl : Nat → Nat) : Bool :=
  Region.noSelect ops && (List.range ops.size).all fun k => freeS ops cl k && match ops[k]? with
    | some o => o.after.all fun e => !Region.binds .any e || decide (e.on < k)
    | none => true
theorem freeS_spec {k j : Nat} {ok oj : Oper} (hk : ops[k]? = some ok) (hj : ops[j]? = some oj) (hf : freeS ops cl k = true) (hlt : k < j) (hno : j ∉ waits ops k ops.size) : ok.apart ops oj = true ∧ (cl k = 0 ∨ cl j = 0 ∨ (cl k = 1 ∧ cl j = 1)) := by
  simp only [freeS, hk, List.all_eq_true, List.mem_range] at hf
  have h1 := hf j (Array.getElem?_eq_some_iff.1 hj).1
  simp only [hj, Bool.or_eq_true, decide_eq_true_eq, Bool.and_eq_true] at h1
  rcases h1 with h1 | h1 | h1
  · omega
  · obtain ⟨x, hx, hb⟩ := List.any_eq_true.1 h1
    rw [← Nat.eq_of_beq_eq_true hb] at hx
    exact absurd hx hno
  obtain ⟨ha, hc⟩ := h1
  refine ⟨ha, ?_⟩
  rcases hc with (h | h) | h
  · exact .inl h
  · exact .inr (.inl h)
  exact .inr (.inr h)
/-- **An operation may be taken first** if it is ready, and each other that has not come up waits for it, or is apart from it and one of the two is stable. -/
theorem anyS_first {Q : Act → World → Prop} {k : Nat} {ok : Oper} (hXk : ∀ ch w, ¬ X k ch w) (hk : ops[k]? = some ok) (hsel : ∀ (j : Nat) (o : Oper) cs b, ops[j]? = some o → o.op ≠ .select cs b) :
    ∀ (fuel : Nat) (listed : Array Bool) (a : Act) (w : World), Good ops C listed w → Wn ops listed →
      (∀ j oj, ops[j]? = some oj → j ≠ k → listed.getD j true = false → j ∉ waits ops k ops.size → ok.apart ops oj = true ∧ (cl k = 0 ∨ cl j = 0 ∨ (cl k = 1 ∧ cl j = 1))) →
      k ∈ Region.ready .any ops listed → sOp P ops cl C X k (anyS P ops cl C X Q fuel (listed.setIfInBounds k true)) a w → anyS P ops cl C X Q (fuel + 1) listed a w := by
  intro fuel
  induction fuel with
  | zero =>
    intro listed a w hC hwt hfree hr H
    refine ⟨fun h => (by rw [h] at hr; cases hr), fun j hj => ?_⟩
    by_cases hjk : j = k
    · subst hjk; exact H
    exfalso
    have hj' := ready_mono hj hjk
    unfold sOp at H
    simp only [hk] at H
    split at H
    · split at H
      · obtain ⟨v, _, hK⟩ := H; rw [hK.1] at hj'; cases hj'
      split at H
      · obtain ⟨v, _, hK⟩ := H; rw [hK.1] at hj'; cases hj'
      obtain ⟨v, w', _, hK⟩ := eff_some hXk H; rw [hK.1] at hj'; cases hj'
    rw [H.1] at hj'; cases hj'
  | succ fuel ih =>
    intro listed a w hC hwt hfree hr H
    refine ⟨fun h => (by rw [h] at hr; cases hr), fun j hj => ?_⟩
    by_cases hjk : j = k
    · subst hjk; exact H
    obtain ⟨hjun, oj, hoj, hall⟩ := mem_ready.1 hj
    have hjlt := (Array.getElem?_eq_some_iff.1 hoj).1
    have hklt := (Array.getElem?_eq_some_iff.1 hk).1
    have hnot : j ∉ waits ops k ops.size := ready_free hwt hj (mem_ready.1 hr).1
    have hnot2 : k ∉ waits ops j ops.size := ready_free hwt hr hjun
    obtain ⟨hap, hst⟩ := hfree j oj hoj hjk hjun hnot
    obtain ⟨a1, a2, a3⟩ := Oper.apart_spec hap
    have hselk := fun cs b => hsel k ok cs b hk
    have hselj := fun cs b => hsel j oj cs b hoj
    have hcomm : (listed.setIfInBounds k true).setIfInBounds j true = (listed.setIfInBounds j true).setIfInBounds k true := Array.setIfInBounds_comm _ _ (fun h => hjk h.symm)
    have hfree' : ∀ i oi, ops[i]? = some oi → i ≠ k → (listed.setIfInBounds j true).getD i true = false → i ∉ waits ops k ops.size → ok.apart ops oi = true ∧ (cl k = 0 ∨ cl i = 0 ∨ (cl k = 1 ∧ cl i = 1)) := fun i oi hi hik hun hno => by
      refine hfree i oi hi hik ?_ hno
      by_cases hji : j = i
      · subst hji; exact hjun
      rw [getD_set_ne true hji] at hun; exact hun
    have hwt' : Wn ops (listed.setIfInBounds j true) := hwt.step hj
    have hrj : k ∈ Region.ready .any ops (listed.setIfInBounds j true) := ready_mono hr (fun h => hjk h.symm)
    have hjr : j ∈ Region.ready .any ops (listed.setIfInBounds k true) := ready_mono hj hjk
    have hwj : ∀ v, Region.wanted oj (yielded ops (a.put ok.dst v).tmps) = Region.wanted oj (yielded ops a.tmps) := fun v => wanted_put oj a ok.dst v a1
    have hwk : ∀ v, Region.wanted ok (yielded ops (a.put oj.dst v).tmps) = Region.wanted ok (yielded ops a.tmps) := fun v => wanted_put ok a oj.dst v a3
    have hex : ∀ v, execOp (a.put ok.dst v).eval oj = execOp a.eval oj := fun v => execOp_put oj hselj a ok.dst v a1
    have hek : ∀ v, execOp (a.put oj.dst v).eval ok = execOp a.eval ok := fun v => execOp_put ok hselk a oj.dst v a3
    have hpc : ∀ u v, (a.put ok.dst u).put oj.dst v = (a.put oj.dst v).put ok.dst u := fun u v => Act.put_comm a u v a2
    -- what k comes to, and what j makes of it
    have step : ∀ u w', anyS P ops cl C X Q (fuel + 1) (listed.setIfInBounds k true) (a.put ok.dst u) w' → sOp P ops cl C X j (anyS P ops cl C X Q fuel ((listed.setIfInBounds j true).setIfInBounds k true)) (a.put ok.dst u) w' := by
      intro u w' h
      have := h.2 j hjr
      rwa [hcomm] at this
    by_cases hkw : Region.wanted ok (yielded ops a.tmps) = true ∧ cl k ≠ 0 ∧ cl k ≠ 1
    · -- k is not stable: j is
      obtain ⟨hkw, hks, hks1⟩ := hkw
      have hjs : cl j = 0 := by
        rcases hst with h | h | h
        · exact absurd h hks
        · exact h
        exact absurd h.1 hks1
      unfold sOp at H
      simp only [hk] at H
      rw [if_pos hkw, if_neg hks, if_neg hks1] at H
      unfold sOp
      simp only [hoj]
      by_cases hjw : Region.wanted oj (yielded ops a.tmps) = true
      · rw [if_pos hjw, if_pos hjs]
        obtain ⟨u0, w0, hC0, hK0⟩ := eff_some hXk H
        have h1 := step u0 w0 hK0
        unfold sOp at h1
        simp only [hoj] at h1
        rw [if_pos (by rw [hwj]; exact hjw), if_pos hjs] at h1
        obtain ⟨v, hv, _⟩ := h1
        have hv' : ∀ w', C j w' → Oper.fixed P oj a w' v := fun w' hw' => by have := hv w' hw'; unfold Oper.fixed at *; rwa [hex] at this
        refine ⟨v, hv', ih _ _ _ hC.keep hwt' hfree' hrj ?_⟩
        unfold sOp
        simp only [hk]
        rw [if_pos (by rw [hwk]; exact hkw), if_neg hks, if_neg hks1]
        unfold eff at H ⊢
        rw [hek]
        generalize (execOp a.eval ok).run P w = r at *
        have fin : ∀ u w', Dp ops C k w' → anyS P ops cl C X Q (fuel + 1) (listed.setIfInBounds k true) (a.put ok.dst u) w' → anyS P ops cl C X Q fuel ((listed.setIfInBounds j true).setIfInBounds k true) ((a.put oj.dst v).put ok.dst u) w' := by
          intro u w' hC' hK'
          have h2 := step u w' hK'
          unfold sOp at h2
          simp only [hoj] at h2
          rw [if_pos (by rw [hwj]; exact hjw), if_pos hjs] at h2
          obtain ⟨v2, hv2, hK2⟩ := h2
          have hCj := hC' j hjlt hjk hnot2
          have e1 := hv2 w' hCj
          have e2 := hv' w' hCj
          unfold Oper.fixed at e1 e2
          rw [hex, e2] at e1
          injection e1 with e1
          injection e1 with e1
          subst e1
          rwa [hpc] at hK2
        cases r with
        | halt x w' => exact H
        | ok nx w' =>
          cases nx <;> simp only [effUpon] at H ⊢
          case value u => exact ⟨H.1, fin _ _ H.1 H.2⟩
          case skip => exact ⟨H.1, fin _ _ H.1 H.2⟩
          case enter f args => exact H.mono fun e w'' hq => hq.imp (fun ⟨u, he, hC', hK'⟩ => ⟨u, he, hC', fin _ _ hC' hK'⟩) id
      rw [if_neg hjw]
      refine ih _ _ _ hC.keep hwt' hfree' hrj ?_
      unfold sOp
      simp only [hk]
      rw [if_pos (by rw [hwk]; exact hkw), if_neg hks, if_neg hks1]
      unfold eff at H ⊢
      rw [hek]
      generalize (execOp a.eval ok).run P w = r at *
      have fin : ∀ u w', Dp ops C k w' → anyS P ops cl C X Q (fuel + 1) (listed.setIfInBounds k true) (a.put ok.dst u) w' → anyS P ops cl C X Q fuel ((listed.setIfInBounds j true).setIfInBounds k true) ((a.put oj.dst undef).put ok.dst u) w' := by
        intro u w' hC' hK'
        have h2 := step u w' hK'
        unfold sOp at h2
        simp only [hoj] at h2
        rw [if_neg (by rw [hwj]; exact hjw)] at h2
        rwa [hpc] at h2
      cases r with
      | halt x w' => exact H
      | ok nx w' =>
        cases nx <;> simp only [effUpon] at H ⊢
        case value u => exact ⟨H.1, fin _ _ H.1 H.2⟩
        case skip => exact ⟨H.1, fin _ _ H.1 H.2⟩
        case enter f args => exact H.mono fun e w'' hq => hq.imp (fun ⟨u, he, hC', hK'⟩ => ⟨u, he, hC', fin _ _ hC' hK'⟩) id
    by_cases hkr : Region.wanted ok (yielded ops a.tmps) = true ∧ cl k = 1
    · -- k reads memory as it stands: j leaves it alone
      obtain ⟨hkw', hk1⟩ := hkr
      have hjs : cl j = 0 ∨ cl j = 1 := by
        rcases hst with h | h | h
        · rw [hk1] at h; cases h
        · exact .inl h
        exact .inr h.2
      have hk0 : cl k ≠ 0 := by rw [hk1]; decide
      unfold sOp at H
      simp only [hk] at H
      rw [if_pos hkw', if_neg hk0, if_pos hk1] at H
      obtain ⟨u, hu, hK⟩ := H
      have hback : ∀ v, anyS P ops cl C X Q fuel ((listed.setIfInBounds j true).setIfInBounds k true) ((a.put oj.dst v).put ok.dst u) w → sOp P ops cl C X k (anyS P ops cl C X Q fuel ((listed.setIfInBounds j true).setIfInBounds k true)) (a.put oj.dst v) w := by
        intro v h
        unfold sOp
        simp only [hk]
        rw [if_pos (by rw [hwk]; exact hkw'), if_neg hk0, if_pos hk1]
        exact ⟨u, by unfold Oper.fixed; rw [hek]; exact hu, h⟩
      have h1 := step u w hK
      unfold sOp at h1 ⊢
      simp only [hoj] at h1 ⊢
      by_cases hjw : Region.wanted oj (yielded ops a.tmps) = true
      · rw [if_pos (by rw [hwj]; exact hjw)] at h1
        rw [if_pos hjw]
        by_cases hj0 : cl j = 0
        · rw [if_pos hj0] at h1 ⊢
          obtain ⟨v, hv, hK2⟩ := h1
          refine ⟨v, fun w' hw' => by have := hv w' hw'; unfold Oper.fixed at *; rwa [hex] at this, ih _ _ _ hC.keep hwt' hfree' hrj (hback v ?_)⟩
          rwa [hpc] at hK2
        have hj1 : cl j = 1 := by
          rcases hjs with h | h
          · exact absurd h hj0
          exact h
        rw [if_neg hj0, if_pos hj1] at h1 ⊢
        obtain ⟨v, hv, hK2⟩ := h1
        refine ⟨v, by unfold Oper.fixed at *; rwa [hex] at hv, ih _ _ _ hC.keep hwt' hfree' hrj (hback v ?_)⟩
        rwa [hpc] at hK2
      rw [if_neg (by rw [hwj]; exact hjw)] at h1
      rw [if_neg hjw]
      refine ih _ _ _ hC.keep hwt' hfree' hrj (hback undef ?_)
      rwa [hpc] at h1
    -- k is stable, or passed over: its value is one whatever comes ahead of it
    obtain ⟨u, hu, hK⟩ : ∃ u, ((Region.wanted ok (yielded ops a.tmps) = true ∧ cl k = 0 ∧ ∀ w', C k w' → Oper.fixed P ok a w' u) ∨ (Region.wanted ok (yielded ops a.tmps) = false ∧ u = undef)) ∧ anyS P ops cl C X Q (fuel + 1) (listed.setIfInBounds k true) (a.put ok.dst u) w := by
      unfold sOp at H
      simp only [hk] at H
      by_cases hkw' : Region.wanted ok (yielded ops a.tmps) = true
      · have hks : cl k = 0 := by
          apply Classical.byContradiction
          intro h0
          by_cases h1 : cl k = 1
          · exact hkr ⟨hkw', h1⟩
          exact hkw ⟨hkw', h0, h1⟩
        rw [if_pos hkw', if_pos hks] at H
        obtain ⟨u, h1, h2⟩ := H
        exact ⟨u, .inl ⟨hkw', hks, h1⟩, h2⟩
      rw [if_neg hkw'] at H
      exact ⟨undef, .inr ⟨by simpa using hkw', rfl⟩, H⟩
    have hback : ∀ v, ∀ w', anyS P ops cl C X Q fuel ((listed.setIfInBounds j true).setIfInBounds k true) ((a.put oj.dst v).put ok.dst u) w' → sOp P ops cl C X k (anyS P ops cl C X Q fuel ((listed.setIfInBounds j true).setIfInBounds k true)) (a.put oj.dst v) w' := by
      intro v w' h
      unfold sOp
      simp only [hk]
      rcases hu with ⟨h1, h2, h3⟩ | ⟨h1, rfl⟩
      · rw [if_pos (by rw [hwk]; exact h1), if_pos h2]
        exact ⟨u, fun w'' hw'' => by unfold Oper.fixed; rw [hek]; exact h3 w'' hw'', h⟩
      rw [if_neg (by rw [hwk, h1]; simp)]; exact h
    have h1 := step u w hK
    unfold sOp at h1 ⊢
    simp only [hoj] at h1 ⊢
    by_cases hjw : Region.wanted oj (yielded ops a.tmps) = true
    · rw [if_pos (by rw [hwj]; exact hjw)] at h1
      rw [if_pos hjw]
      by_cases hjs : cl j = 0
      · rw [if_pos hjs] at h1 ⊢
        obtain ⟨v, hv, hK2⟩ := h1
        refine ⟨v, fun w' hw' => by have := hv w' hw'; unfold Oper.fixed at *; rwa [hex] at this, ih _ _ _ hC.keep hwt' hfree' hrj (hback v w ?_)⟩
        rwa [hpc] at hK2
      by_cases hj1 : cl j = 1
      · rw [if_neg hjs, if_pos hj1] at h1 ⊢
        obtain ⟨v, hv, hK2⟩ := h1
        refine ⟨v, by unfold Oper.fixed at *; rwa [hex] at hv, ih _ _ _ hC.keep hwt' hfree' hrj (hback v w ?_)⟩
        rwa [hpc] at hK2
      rw [if_neg hjs, if_neg hj1] at h1 ⊢
      unfold eff at h1 ⊢
      rw [hex] at h1
      generalize (execOp a.eval oj).run P w = r at *
      have fin : ∀ v w', Dp ops C j w' → anyS P ops cl C X Q fuel ((listed.setIfInBounds j true).setIfInBounds k true) ((a.put ok.dst u).put oj.dst v) w' → anyS P ops cl C X Q (fuel + 1) (listed.setIfInBounds j true) (a.put oj.dst v) w' := by
        intro v w' hC' h
        rw [hpc] at h
        exact ih _ _ _ (Good.step hwt hj hC') hwt' hfree' hrj (hback v w' h)
      cases r with
      | halt x w' => exact h1
      | ok nx w' =>
        cases nx <;> simp only [effUpon] at h1 ⊢
        case value v => exact ⟨h1.1, fin _ _ h1.1 h1.2⟩
        case skip => exact ⟨h1.1, fin _ _ h1.1 h1.2⟩
        case enter f args => exact h1.mono fun e w'' hq => hq.imp (fun ⟨v, he, hC', hK'⟩ => ⟨v, he, hC', fin _ _ hC' hK'⟩) id
    rw [if_neg (by rw [hwj]; exact hjw)] at h1
    rw [if_neg hjw]
    refine ih _ _ _ hC.keep hwt' hfree' hrj (hback undef w ?_)
    rwa [hpc] at h1
/-- the walk in the order of the text -/
def kp (P : Program) (ops : Array Oper) (cl : Nat → Nat) (C : Nat → World → Prop) (Q : Act → World → Prop) : List Oper → Nat → Act → World → Prop
  | [], _, a, w => Q a w
  | o :: rest, k, a, w => if Region.wanted o (yielded ops a.tmps) then
      (if cl k = 0 then ∃ v, (∀ w', C k w' → Oper.fixed P o a w' v) ∧ kp P ops cl C Q rest (k + 1) (a.put o.dst v) w else if cl k = 1 then ∃ v, Oper.fixed P o a w v ∧ kp P ops cl C Q rest (k + 1) (a.put o.dst v) w else eff P (Dp ops C k) (fun _ _ => False) o a w (kp P ops cl C Q rest (k + 1)))
    else kp P ops cl C Q rest (k + 1) (a.put o.dst undef) w
/-- just those ahead of k are listed -/
def Upto (ops : Array Oper) (k : Nat) (listed : Array Bool) : Prop := listed.size = ops.size ∧ ∀ j, j < ops.size → listed.getD j true = decide (j < k)
theorem anyS_kp {Q : Act → World → Prop} (hB : kpB ops cl = true) : ∀ (l : List Oper) (k : Nat) (listed : Array Bool) (a : Act) (w : World), (∀ j, l[j]? = ops[k + j]?) → Upto ops k listed → Good ops C listed w → kp P ops cl C Q l k a w → anyS P ops cl C (fun _ _ _ => False) Q l.length listed a w
  | [], k, listed, a, w, hl, hu, hC, h => by
    refine ⟨?_, h⟩
    have hk : ops.size ≤ k := by
      have := hl 0; simpa using this
    apply Classical.byContradiction
    intro hne
    obtain ⟨i, hi⟩ := List.exists_mem_of_ne_nil _ hne
    obtain ⟨h1, o, ho, _⟩ := mem_ready.1 hi
    have hlt := (Array.getElem?_eq_some_iff.1 ho).1
    rw [hu.2 i hlt] at h1
    simp at h1
    omega
  | o :: l, k, listed, a, w, hl, hu, hC, h => by
    have h0 : ops[k]? = some o := by simpa using (hl 0).symm
    have hlt := (Array.getElem?_eq_some_iff.1 h0).1
    simp only [kpB, Bool.and_eq_true, List.all_eq_true, List.mem_range] at hB
    obtain ⟨hns, hall⟩ := hB
    obtain ⟨hf, haf⟩ := hall k hlt
    have hB' : kpB ops cl = true := by simp only [kpB, Bool.and_eq_true, List.all_eq_true, List.mem_range]; exact ⟨hns, hall⟩
    simp only [h0, Array.all_eq_true_iff_forall_mem] at haf
    have hr : k ∈ Region.ready .any ops listed := by
      refine mem_ready.2 ⟨by rw [hu.2 k hlt]; simp, o, h0, fun e he hb => ?_⟩
      have := haf e he
      rw [hb] at this
      simp at this
      have h2 := hu.2 e.on (by omega)
      rw [Array.getD_eq_getD_getElem?] at h2 ⊢
      have h3 : e.on < listed.size := by rw [hu.1]; omega
      simp [h3] at h2 ⊢
      rw [h2]; simpa using this
    have hWn : Wn ops listed := by
      intro i hi j hj
      obtain ⟨h1, oj, h2, _⟩ := waits_spec _ _ hj
      have hjl := (Array.getElem?_eq_some_iff.1 h2).1
      rw [hu.2 i (by omega)] at hi
      simp at hi
      rw [hu.2 j hjl]
      simp; omega
    refine anyS_first (fun _ _ h => h) h0 (Region.noSelect_spec hns) l.length listed a w hC hWn ?_ hr ?_
    · intro j oj hj hjk hun hno
      have hjl := (Array.getElem?_eq_some_iff.1 hj).1
      rw [hu.2 j hjl] at hun
      simp at hun
      exact freeS_spec h0 hj hf (by omega) hno
    have hu' : Upto ops (k + 1) (listed.setIfInBounds k true) := by
      refine ⟨by simp [hu.1], fun j hj => ?_⟩
      by_cases hjk : k = j
      · subst hjk
        have : k < listed.size := by rw [hu.1]; exact hj
        simp [this]
      rw [getD_set_ne true hjk, hu.2 j hj]
      by_cases h' : j < k
      · simp [h', show j < k + 1 by omega]
      simp [h', show ¬ j < k + 1 by omega]
    have hl' : ∀ j, l[j]? = ops[k + 1 + j]? := fun j => by have := hl (j + 1); simpa [Nat.add_assoc, Nat.add_comm 1 j] using this
    have go : ∀ a w, Good ops C (listed.setIfInBounds k true) w → kp P ops cl C Q l (k + 1) a w → anyS P ops cl C (fun _ _ _ => False) Q l.length (listed.setIfInBounds k true) a w := fun a w hC h => anyS_kp hB' l (k + 1) _ a w hl' hu' hC h
    unfold sOp
    simp only [h0]
    unfold kp at h
    split
    · rename_i hw
      rw [if_pos hw] at h
      split
      · rename_i hs; rw [if_pos hs] at h; obtain ⟨v, h1, h2⟩ := h; exact ⟨v, h1, go _ _ hC.keep h2⟩
      rename_i hs
      rw [if_neg hs] at h
      split
      · rename_i hs; rw [if_pos hs] at h; obtain ⟨v, h1, h2⟩ := h; exact ⟨v, h1, go _ _ hC.keep h2⟩
      rename_i hs; rw [if_neg hs] at h; exact eff_mono (fun v w' hC' hK => go _ _ (Good.step hWn hr hC') hK) h
    rename_i hw; rw [if_neg hw] at h; exact go _ _ hC.keep h
/-- A REGION THAT DRAWS ITS ORDER, walked in the order of the text. -/
theorem wp_region_kp {id : Nat} {Q : Exit → Act → World → Prop} {a : Act} {w : World} (hm : P.follows .mixedOrders = true) (hB : kpB ops cl = true) (hC : ∀ i, C i { w with drawn := w.drawn + 1 })
    (h : kp P ops cl C (fun a w => Q .normal a w) ops.toList 0 a { w with drawn := w.drawn + 1 }) : (Code.region id ops true).wp P Q a w := by
  refine wp_region_any hm (wpAny_of_anyS (Q := fun a w => Q .normal a w) (cl := cl) (C := C) (X := fun _ _ _ => False) (fun _ _ h => h) (fun _ _ _ _ _ h => h.elim) _ _ _ _ ⟨rfl, rfl⟩ (fun i hi j hj => by obtain ⟨_, oj, h2, _⟩ := waits_spec _ _ hj; have := (Array.getElem?_eq_some_iff.1 h2).1; simp [this]) (fun i _ _ => hC i) ?_)
  have := anyS_kp (Q := fun a w => Q .normal a w) hB ops.toList 0 (Array.replicate ops.size false) a { w with drawn := w.drawn + 1 } (by simp) ⟨by simp, fun j hj => by simp [hj]⟩ (fun i _ _ => hC i) h
  simpa using this
end
/-! ### in an order of one's own; one operation may end in a panic, if all that is left waits for it -/
section
variable {P : Program} {ops : Array Oper} {cl : Nat → Nat} {C : Nat → World → Prop} {X : Nat → List PanicEntry → World → Prop}
def ko (P : Program) (ops : Array Oper) (cl : Nat → Nat) (C : Nat → World → Prop) (X : Nat → List PanicEntry → World → Prop) (Q : Act → World → Prop) : List Nat → Act → World → Prop
  | [], a, w => Q a w
  | k :: rest, a, w => sOp P ops cl C X k (ko P ops cl C X Q rest) a w
def freeO (ops : Array Oper) (cl : Nat → Nat) (done : List Nat) (k : Nat) : Bool :=
  match ops[k]? with
  | none => false
  | some ok => !done.any (Nat.beq k) && (ok.after.all fun e => !Region.binds .any e || done.any (Nat.beq e.on)) && (List.range ops.size).all fun j => Nat.beq k j || done.any (Nat.beq j) || match ops[j]? with
      | some oj => (waits ops k ops.size).any (Nat.beq j) || (!Nat.beq (cl k) 3 && ok.apart ops oj && (decide (cl k = 0) || decide (cl j = 0) || (decide (cl k = 1) && decide (cl j = 1))))
      | none => true
def koB (ops : Array Oper) (cl : Nat → Nat) : List Nat → List Nat → Bool
  | done, [] => (List.range ops.size).all fun j => done.any (Nat.beq j)
  | done, k :: rest => freeO ops cl done k && koB ops cl (k :: done) rest
theorem any_beq {l : List Nat} {j : Nat} : l.any (Nat.beq j) = true ↔ j ∈ l := by
  rw [List.any_eq_true]
  exact ⟨fun ⟨x, hx, h⟩ => by rw [Nat.eq_of_beq_eq_true h]; exact hx, fun h => ⟨j, h, Nat.beq_refl j⟩⟩
theorem sOp_mono {k : Nat} {K K' : Act → World → Prop} {a : Act} {w : World} (h : ∀ a' w', (w' = w ∨ Dp ops C k w') → K a' w' → K' a' w') (hh : sOp P ops cl C X k K a w) : sOp P ops cl C X k K' a w := by
  unfold sOp at *
  cases ho : ops[k]? with
  | none => simp only [ho] at hh ⊢; exact h _ _ (.inl rfl) hh
  | some o =>
    simp only [ho] at hh ⊢
    split
    · rename_i hw
      rw [if_pos hw] at hh
      split
      · rename_i h0; rw [if_pos h0] at hh; obtain ⟨v, h1, h2⟩ := hh; exact ⟨v, h1, h _ _ (.inl rfl) h2⟩
      rename_i h0
      rw [if_neg h0] at hh
      split
      · rename_i h1; rw [if_pos h1] at hh; obtain ⟨v, h1, h2⟩ := hh; exact ⟨v, h1, h _ _ (.inl rfl) h2⟩
      rename_i h1; rw [if_neg h1] at hh; exact eff_mono (fun v w' hD hK => h _ _ (.inr hD) hK) hh
    rename_i hw; rw [if_neg hw] at hh; exact h _ _ (.inl rfl) hh
theorem anyS_ko {Q : Act → World → Prop} (hns : Region.noSelect ops = true) (hX : ∀ k, cl k ≠ 3 → ∀ ch w, ¬ X k ch w) : ∀ (ord done : List Nat) (listed : Array Bool) (a : Act) (w : World), koB ops cl done ord = true → (∀ j, j ∈ done → j < ops.size) → listed.size = ops.size → (∀ j, j < ops.size → listed.getD j true = decide (j ∈ done)) → Wn ops listed → Good ops C listed w → ko P ops cl C X Q ord a w → anyS P ops cl C X Q ord.length listed a w
  | [], done, listed, a, w, hB, _, hsz, hl, hW, hC, h => by
    refine ⟨?_, h⟩
    apply Classical.byContradiction
    intro hne
    obtain ⟨i, hi⟩ := List.exists_mem_of_ne_nil _ hne
    obtain ⟨h1, o, ho, _⟩ := mem_ready.1 hi
    have hlt := (Array.getElem?_eq_some_iff.1 ho).1
    rw [hl i hlt] at h1
    simp only [koB, List.all_eq_true, List.mem_range] at hB
    have := any_beq.1 (hB i hlt)
    simp [this] at h1
  | k :: ord, done, listed, a, w, hB, hdn, hsz, hl, hW, hC, h => by
    simp only [koB, Bool.and_eq_true] at hB
    obtain ⟨hf, hB'⟩ := hB
    unfold freeO at hf
    cases h0 : ops[k]? with
    | none => simp [h0] at hf
    | some ok =>
    simp only [h0, Bool.and_eq_true, List.all_eq_true, List.mem_range, Array.all_eq_true_iff_forall_mem] at hf
    obtain ⟨⟨hnd, haf⟩, hall⟩ := hf
    have hlt := (Array.getElem?_eq_some_iff.1 h0).1
    have hkn : k ∉ done := fun hm => by rw [any_beq.2 hm] at hnd; cases hnd
    have hr : k ∈ Region.ready .any ops listed := by
      refine mem_ready.2 ⟨by rw [hl k hlt]; simp [hkn], ok, h0, fun e he hb => ?_⟩
      have := haf e he
      rw [hb] at this
      simp only [Bool.not_true, Bool.false_or] at this
      have hm := any_beq.1 this
      have hlo := hdn _ hm
      have h2 := hl e.on hlo
      rw [Array.getD_eq_getD_getElem?] at h2 ⊢
      have h3 : e.on < listed.size := by rw [hsz]; exact hlo
      simp [h3, hm] at h2 ⊢
      exact h2
    have hfree : ∀ j oj, ops[j]? = some oj → j ≠ k → listed.getD j true = false → j ∉ waits ops k ops.size → cl k ≠ 3 ∧ ok.apart ops oj = true ∧ (cl k = 0 ∨ cl j = 0 ∨ (cl k = 1 ∧ cl j = 1)) := by
      intro j oj hj hjk hun hno
      have hjl := (Array.getElem?_eq_some_iff.1 hj).1
      have h1 := hall j hjl
      rw [hl j hjl] at hun
      have hjd : j ∉ done := by simpa using hun
      have e1 : Nat.beq k j = false := by
        cases hb : Nat.beq k j
        · rfl
        exact absurd (Nat.eq_of_beq_eq_true hb).symm hjk
      have e2 : done.any (Nat.beq j) = false := by
        cases hb : done.any (Nat.beq j)
        · rfl
        exact absurd (any_beq.1 hb) hjd
      have e3 : (waits ops k ops.size).any (Nat.beq j) = false := by
        cases hb : (waits ops k ops.size).any (Nat.beq j)
        · rfl
        exact absurd (any_beq.1 hb) hno
      simp only [e1, e2, hj, e3, Bool.false_or, Bool.and_eq_true, Bool.or_eq_true, decide_eq_true_eq, Bool.not_eq_true'] at h1
      obtain ⟨⟨h3, h4⟩, h5⟩ := h1
      refine ⟨fun e => ?_, h4, ?_⟩
      · rw [e] at h3; cases h3
      rcases h5 with (h | h) | h
      · exact .inl h
      · exact .inr (.inl h)
      exact .inr (.inr h)
    have hsz' : (listed.setIfInBounds k true).size = ops.size := by simp [hsz]
    have hl' : ∀ j, j < ops.size → (listed.setIfInBounds k true).getD j true = decide (j ∈ k :: done) := fun j hj => by
      by_cases hjk : k = j
      · subst hjk
        have : k < listed.size := by rw [hsz]; exact hj
        simp [this]
      rw [getD_set_ne true hjk, hl j hj]
      have : j ≠ k := fun e => hjk e.symm
      simp [this]
    have go : ∀ a w, Good ops C (listed.setIfInBounds k true) w → ko P ops cl C X Q ord a w → anyS P ops cl C X Q ord.length (listed.setIfInBounds k true) a w := fun a w hC h => anyS_ko hns hX ord (k :: done) _ a w hB' (fun j hj => by rcases List.mem_cons.1 hj with rfl | hj; exact hlt; exact hdn j hj) hsz' hl' (hW.step hr) hC h
    have hs : sOp P ops cl C X k (anyS P ops cl C X Q ord.length (listed.setIfInBounds k true)) a w := by
      refine sOp_mono (fun a' w' hw' hK => go a' w' ?_ hK) h
      rcases hw' with rfl | hD
      · exact hC.keep
      exact Good.step hW hr hD
    by_cases h3 : cl k = 3
    · refine ⟨fun h => (by rw [h] at hr; cases hr), fun j hj => ?_⟩
      by_cases hjk : j = k
      · subst hjk; exact hs
      obtain ⟨hjun, oj, hoj, _⟩ := mem_ready.1 hj
      exact absurd h3 (hfree j oj hoj hjk hjun (ready_free hW hj (mem_ready.1 hr).1)).1
    exact anyS_first (hX k h3) h0 (Region.noSelect_spec hns) ord.length listed a w hC hW (fun j oj hj hjk hun hno => (hfree j oj hj hjk hun hno).2) hr hs
theorem wp_region_ko {id : Nat} {Q : Exit → Act → World → Prop} {a : Act} {w : World} {ord : List Nat} (hm : P.follows .mixedOrders = true) (hns : Region.noSelect ops = true) (hB : koB ops cl [] ord = true) (hX : ∀ k, cl k ≠ 3 → ∀ ch w, ¬ X k ch w) (hlen : ord.length = ops.size) (hC : ∀ i, C i { w with drawn := w.drawn + 1 })
    (hQX : ∀ i ch a' w', Kept a.defers a.tmps.size a' → X i ch w' → Q (.panic ch) a' w')
    (h : ko P ops cl C X (fun a w => Q .normal a w) ord a { w with drawn := w.drawn + 1 }) : (Code.region id ops true).wp P Q a w := by
  refine wp_region_any hm (wpAny_of_anyS (Q := fun a w => Q .normal a w) (cl := cl) (C := C) (X := X) (Df := a.defers) (Nn := a.tmps.size) (fun _ _ h => h) hQX _ _ _ _ ⟨rfl, rfl⟩ (fun i hi j hj => by obtain ⟨_, oj, h2, _⟩ := waits_spec _ _ hj; have := (Array.getElem?_eq_some_iff.1 h2).1; simp [this]) (fun i _ _ => hC i) ?_)
  have := anyS_ko (Q := fun a w => Q .normal a w) hns hX ord [] (Array.replicate ops.size false) a { w with drawn := w.drawn + 1 } hB (fun _ h => by cases h) (by simp) (fun j hj => by simp [hj]) (fun i hi j hj => by obtain ⟨_, oj, h2, _⟩ := waits_spec _ _ hj; have := (Array.getElem?_eq_some_iff.1 h2).1; simp [this]) (fun i _ _ => hC i) h
  rw [hlen] at this
  exact this
end
/-- classes told by a list -/
def clOf : List (Nat × Nat) → Nat → Nat
  | [], _ => 0
  | (i, c) :: l, k => bif Nat.beq i k then c else clOf l k
/-! ### the same in the logic of walks -/
section
variable {P : Program} {n d k : Nat} {W0 : World} {Q : Exit → Act → World → Prop} {ops rest : List Oper} {o : Oper} {E : Env} {H : Heap} {v : Value} {cl : Nat → Nat} {C : Nat → Heap → Prop}
/-- what an operation keeps that changes memory -/
def Dk (ops : Array Oper) (C : Nat → Heap → Prop) (k : Nat) (H : Heap) : Prop := ∀ i, i ≠ k → k ∉ waits ops i ops.size → C i H
def KP (P : Program) (n : Nat) (W0 : World) (Q : Exit → Act → World → Prop) (cl : Nat → Nat) (C : Nat → Heap → Prop) (ops l : List Oper) (k : Nat) (E : Env) (H : Heap) : Prop :=
  ∀ a w, Rep n E a → St W0 H w → kp P ops.toArray cl (fun i w => C i w.heap ∧ St W0 w.heap w) (fun a w => Q .normal a w) l k a w
theorem KC.text {id : Nat} {l : List Oper} (cl : Nat → Nat) (C : Nat → Heap → Prop) (hm : P.follows .mixedOrders = true) (hB : kpB l.toArray cl = true) (hC : ∀ i, C i H) (h : KP P n W0 Q cl C l l 0 E H) : KC P n W0 Q (.region id l.toArray true) E H :=
  fun a w ha hw => wp_region_kp (C := fun i w => C i w.heap ∧ St W0 w.heap w) hm hB (fun i => show C i w.heap ∧ _ from ⟨by rw [hw.heap]; exact hC i, rfl, hw.os, hw.tape, hw.output⟩) (h a _ ha ⟨hw.heap, hw.os, hw.tape, hw.output⟩)
theorem KP.nil (h : KQ n W0 Q .normal E H) : KP P n W0 Q cl C ops [] k E H := fun a w ha hw => h a w ha hw
/-- a stable operation -/
theorem KP.op (hs : cl k = 0) (hr : ∀ H', C k H' → Run P E H' o v) (hd : o.dst = some d) (hn : Nat.blt d n = true) (hg : want ops E o.guard = some true) (h : KP P n W0 Q cl C ops rest (k + 1) ((d, v) :: E) H) : KP P n W0 Q cl C ops (o :: rest) k E H := by
  intro a w ha hw
  unfold kp
  rw [if_pos (want_wanted ha hg), if_pos hs]
  refine ⟨v, fun w' hw' => hr w'.heap hw'.1 a.eval w' ha.agree rfl, ?_⟩
  rw [hd]; exact h _ _ (ha.put hn v) hw
theorem KP.skip (hd : o.dst = some d) (hn : Nat.blt d n = true) (hg : want ops E o.guard = some false) (h : KP P n W0 Q cl C ops rest (k + 1) ((d, undef) :: E) H) : KP P n W0 Q cl C ops (o :: rest) k E H := by
  intro a w ha hw
  unfold kp
  rw [if_neg (by rw [want_wanted ha hg]; simp), hd]
  exact h _ _ (ha.put hn _) hw
theorem KP.case {c : Bool} (hget : get E d = some (.bool c)) (ht : c = true → KP P n W0 Q cl C ops rest k ((d, .bool true) :: E) H) (hf : c = false → KP P n W0 Q cl C ops rest k ((d, .bool false) :: E) H) : KP P n W0 Q cl C ops rest k E H := by
  intro a w ha hw
  cases hc : c with
  | true => exact ht hc a w (ha.sub (sub_case hget true hc)) hw
  | false => exact hf hc a w (ha.sub (sub_case hget false hc)) hw
theorem KP.opM {R : Value → Heap → Prop} (hs : cl k = 2) (hr : RunM P E H o R) (hd : o.dst = some d) (hn : Nat.blt d n = true) (hg : want ops E o.guard = some true) (hC : ∀ v H', R v H' → Dk ops.toArray C k H') (h : ∀ v H', R v H' → KP P n W0 Q cl C ops rest (k + 1) ((d, v) :: E) H') : KP P n W0 Q cl C ops (o :: rest) k E H := by
  intro a w ha hw
  unfold kp
  rw [if_pos (want_wanted ha hg), if_neg (by rw [hs]; decide), if_neg (by rw [hs]; decide)]
  obtain ⟨v, w', hrun, hst, hR⟩ := hr a.eval w ha.agree hw.heap
  unfold eff
  rw [hrun]
  simp only [effUpon]
  rw [hd]
  have hst' := hw.trans hst
  exact ⟨fun i _ h1 h2 => ⟨hC _ _ hR i h1 h2, rfl, hst'.os, hst'.tape, hst'.output⟩, h v _ hR _ _ (ha.put hn v) hst'⟩
theorem KP.opS {R : Heap → Prop} (hs : cl k = 2) (hr : RunS P E H o R) (hd : o.dst = none) (hg : want ops E o.guard = some true) (hC : ∀ H', R H' → Dk ops.toArray C k H') (h : ∀ H', R H' → KP P n W0 Q cl C ops rest (k + 1) E H') : KP P n W0 Q cl C ops (o :: rest) k E H := by
  intro a w ha hw
  unfold kp
  rw [if_pos (want_wanted ha hg), if_neg (by rw [hs]; decide), if_neg (by rw [hs]; decide)]
  obtain ⟨w', hrun, hst, hR⟩ := hr a.eval w ha.agree hw.heap
  unfold eff
  rw [hrun]
  simp only [effUpon]
  rw [hd]
  have hst' := hw.trans hst
  exact ⟨fun i _ h1 h2 => ⟨hC _ hR i h1 h2, rfl, hst'.os, hst'.tape, hst'.output⟩, h _ hR _ _ ha hst'⟩
theorem KP.call {f : FuncId} {fo : Operand} {xs : Array Operand} {ts : Array TypeId} {first cap : Array Value} {vs args : List Value} {R : Value → Heap → Prop} (hs : cl k = 2) (ho : o.op = .call { callee := .value fo, args := xs, argTypes := ts })
    (hf : ev E fo = some (.func (.func f) first cap)) (has : evs E xs.toList = some vs) (hl : first.toList ++ vs ++ cap.toList = args) (hcall : Enters P f) (hd : o.dst = some d) (hn : Nat.blt d n = true) (hg : want ops E o.guard = some true)
    (hc : Ct P f args H R) (hC : ∀ v H', R v H' → Dk ops.toArray C k H') (h : ∀ v H', R v H' → KP P n W0 Q cl C ops rest (k + 1) ((d, v) :: E) H') : KP P n W0 Q cl C ops (o :: rest) k E H := by
  intro a w ha hw
  unfold kp
  rw [if_pos (want_wanted ha hg), if_neg (by rw [hs]; decide), if_neg (by rw [hs]; decide)]
  unfold eff
  rw [run_call ha.agree ho hf has hl hcall]
  simp only [effUpon]
  refine (hc w hw.heap).mono ?_
  rintro e w' ⟨v, rfl, hst, hR⟩
  have hst' := hw.trans hst
  rw [hd]
  refine .inl ?_
  exact ⟨v, rfl, fun i _ h1 h2 => ⟨hC _ _ hR i h1 h2, rfl, hst'.os, hst'.tape, hst'.output⟩, h v _ hR _ _ (ha.put hn v) hst'⟩
end
end Go.Proofs.YtldmfchamcpmmaaDoor
namespace Go.Proofs.YtldmfchamcpmmaaDoor
open Go Go.RowKit
def faB (P : Program) (x : Nat × Nat × Nat) : Bool := match P.underlying x.1 with
  | some (.struct fields) => match nth fields.toList x.2.1 with
    | some fd => Nat.beq fd.offset x.2.2 && (match P.info? fd.type with
      | some i => Nat.blt 0 i.size
      | none => false)
    | none => false
  | _ => false
def fas : List (Nat × Nat × Nat) := [(7, 0, 0), (7, 1, 1), (7, 2, 2), (7, 3, 3), (13, 0, 0), (13, 1, 1), (18, 0, 0), (32, 0, 0), (32, 1, 1), (32, 2, 2), (32, 3, 3), (32, 4, 4), (32, 5, 5), (32, 6, 6), (32, 7, 7), (32, 8, 8), (32, 9, 9), (32, 10, 10), (32, 11, 11), (33, 0, 0), (33, 1, 1), (33, 2, 2), (33, 3, 3), (33, 4, 4), (33, 5, 5), (33, 6, 6), (33, 7, 7), (33, 8, 8), (33, 9, 9), (33, 10, 10), (33, 11, 11), (43, 0, 0), (43, 1, 1), (44, 0, 0), (44, 1, 1), (46, 0, 0), (46, 1, 1), (47, 0, 0), (47, 1, 1), (48, 0, 0), (48, 1, 1), (49, 0, 0), (49, 1, 1), (50, 0, 0), (50, 1, 1), (50, 2, 2), (50, 3, 3), (50, 4, 4), (50, 5, 6), (51, 0, 0), (51, 1, 1), (51, 2, 2), (51, 3, 3), (51, 4, 4), (51, 5, 6), (53, 0, 0), (53, 1, 2), (54, 0, 0), (54, 1, 2), (57, 0, 0), (57, 1, 1), (58, 0, 0), (58, 1, 1), (59, 0, 0), (59, 1, 1), (60, 0, 0), (60, 1, 1), (61, 0, 0), (61, 1, 1), (61, 2, 2), (62, 0, 0), (62, 1, 1), (62, 2, 2), (63, 0, 0), (63, 1, 1), (63, 2, 2), (64, 0, 0), (64, 1, 1), (64, 2, 2), (70, 0, 0), (70, 1, 1), (71, 0, 0), (71, 1, 1), (75, 0, 0), (75, 1, 1), (75, 2, 2), (76, 0, 0), (76, 1, 1), (76, 2, 2), (79, 0, 0), (79, 1, 1), (80, 0, 0), (80, 1, 1), (116, 0, 0), (117, 0, 0), (126, 0, 0), (126, 1, 1), (126, 2, 2), (126, 3, 3), (126, 4, 4), (127, 0, 0), (127, 1, 1), (127, 2, 2), (127, 3, 3), (127, 4, 4), (136, 0, 0), (136, 1, 1), (137, 0, 0), (137, 1, 1), (167, 0, 0), (168, 0, 0), (228, 0, 0), (228, 1, 1), (228, 2, 2), (228, 3, 3), (228, 4, 4), (229, 0, 0), (229, 1, 1), (229, 2, 2), (229, 3, 3), (229, 4, 4), (236, 0, 0), (236, 1, 1), (237, 0, 0), (237, 1, 1), (248, 0, 0), (249, 0, 0), (251, 0, 0), (251, 1, 1), (252, 0, 0), (252, 1, 1), (260, 0, 0), (260, 1, 1), (260, 2, 2), (260, 3, 3), (272, 0, 0), (272, 1, 1), (272, 2, 2), (272, 3, 3), (272, 4, 4), (272, 5, 5), (272, 6, 6), (272, 7, 7), (272, 8, 8), (272, 9, 9), (272, 10, 10)]
theorem fas_ok : fas.all (faB Tryd.prog) = true := by kernel_rfl
/-- types of one cell -/
def nagB (P : Program) (t : Nat) : Bool := match P.underlying t with
  | some ds => !isAggD ds
  | none => false
def nags : List Nat := [2, 3, 4, 5, 9, 12, 20, 21, 22, 23, 24, 25, 26, 27, 28, 29, 30, 31, 36, 37, 52, 56, 66, 74, 78, 82, 101, 120, 150, 157, 166, 222, 239, 243, 247, 258, 269, 274]
theorem nags_ok : nags.all (nagB Tryd.prog) = true := by kernel_rfl
/-- structs and arrays, and how many cells they have -/
def aggB (P : Program) (x : Nat × Nat) : Bool := match P.underlying x.1, P.info? x.1 with
  | some ds, some i => isAggD ds && Nat.beq i.size x.2
  | _, _ => false
def aggs : List (Nat × Nat) := [(7, 4), (13, 2), (18, 1), (32, 12), (33, 12), (43, 2), (44, 2), (46, 2), (47, 2), (48, 2), (49, 2), (50, 8), (51, 8), (53, 3), (54, 3), (57, 2), (58, 2), (59, 2), (60, 2), (61, 3), (62, 3), (63, 3), (64, 3), (70, 2), (71, 2), (75, 3), (76, 3), (79, 2), (80, 2), (116, 1), (117, 1), (126, 5), (127, 5), (136, 2), (137, 2), (167, 1), (168, 1), (228, 5), (229, 5), (235, 256), (236, 2), (237, 2), (238, 32), (240, 4), (248, 1), (249, 1), (251, 2), (252, 2), (260, 4), (262, 0), (263, 0), (272, 11)]
theorem aggs_ok : aggs.all (aggB Tryd.prog) = true := by kernel_rfl
def look1 : List (Nat × Nat) → Nat → Option Nat
  | [], _ => none
  | (t, k) :: l, T => bif Nat.beq t T then some k else look1 l T
theorem agg_of {T m : Nat} (h : look1 aggs T = some m) : ∃ ds, Tryd.prog.underlying T = some ds ∧ isAggD ds = true ∧ (Tryd.prog.info? T).map (·.size) = some m := by
  have key : ∀ l : List (Nat × Nat), l.all (aggB Tryd.prog) = true → look1 l T = some m → aggB Tryd.prog (T, m) = true := by
    intro l
    induction l with
    | nil => intro _ h2; cases h2
    | cons p l ih =>
      obtain ⟨t, k⟩ := p
      intro h1 h2
      simp only [List.all_cons, Bool.and_eq_true] at h1
      simp only [look1] at h2
      cases hb : Nat.beq t T with
      | true =>
        rw [hb] at h2
        have e3 := Nat.eq_of_beq_eq_true hb
        cases h2; subst e3; exact h1.1
      | false => rw [hb] at h2; exact ih h1.2 h2
  have hk := key aggs aggs_ok h
  unfold aggB at hk
  split at hk
  · next ds i e1 e2 =>
    simp only [Bool.and_eq_true] at hk
    exact ⟨ds, e1, hk.1, by rw [e2]; exact congrArg some (Nat.eq_of_beq_eq_true hk.2)⟩
  cases hk
/-- a struct that is built: its zero, where its fields stand -/
def Bt (P : Program) (T : Nat) (zs : List Value) (pl : List (Nat × Nat)) : Prop := ∃ fields, P.underlying T = some (.struct fields) ∧ (P.info? T).map (·.zero) = some (some (.agg zs.toArray)) ∧ (∀ w, (fields.mapM (m := Sem) fun f => Prod.mk f.offset <$> sizeOf f.type).run P w = .ok pl.toArray w) ∧ fields.toList.map (·.offset) = pl.map (·.1)
theorem bt33 : Bt Tryd.prog 33 [(.slice none 0 0), (.slice none 0 0), (.slice none 0 0), (.slice none 0 0), (.slice none 0 0), (.slice none 0 0), (.slice none 0 0), (.bool false), (.int .u32 0), (.slice none 0 0), (.slice none 0 0), (.slice none 0 0)] [(0, 1), (1, 1), (2, 1), (3, 1), (4, 1), (5, 1), (6, 1), (7, 1), (8, 1), (9, 1), (10, 1), (11, 1)] := ⟨_, Tryd.underlying33, zr33, fun w => by kernel_rfl, rfl⟩
theorem bt44 : Bt Tryd.prog 44 [(.slice none 0 0), (.slice none 0 0)] [(0, 1), (1, 1)] := ⟨_, Tryd.underlying44, zr44, fun w => by kernel_rfl, rfl⟩
theorem bt47 : Bt Tryd.prog 47 [(.int .u32 0), (.int .i64 0)] [(0, 1), (1, 1)] := ⟨_, Tryd.underlying47, zr47, fun w => by kernel_rfl, rfl⟩
theorem bt49 : Bt Tryd.prog 49 [(.int .u8 0), (.bool false)] [(0, 1), (1, 1)] := ⟨_, Tryd.underlying49, zr49, fun w => by kernel_rfl, rfl⟩
theorem bt51 : Bt Tryd.prog 51 [(.string ⟨#[]⟩), (.string ⟨#[]⟩), (.int .u8 0), (.int .u32 0), (.int .u32 0), (.int .i64 0), (.int .u8 0), (.bool false)] [(0, 1), (1, 1), (2, 1), (3, 1), (4, 2), (6, 2)] := ⟨_, Tryd.underlying51, zr51, fun w => by kernel_rfl, rfl⟩
theorem bt58 : Bt Tryd.prog 58 [(.slice none 0 0), (.slice none 0 0)] [(0, 1), (1, 1)] := ⟨_, Tryd.underlying58, zr58, fun w => by kernel_rfl, rfl⟩
theorem bt80 : Bt Tryd.prog 80 [(.slice none 0 0), (.bool false)] [(0, 1), (1, 1)] := ⟨_, Tryd.underlying80, zr80, fun w => by kernel_rfl, rfl⟩
theorem bt137 : Bt Tryd.prog 137 [(.slice none 0 0), (.bool false)] [(0, 1), (1, 1)] := ⟨_, Tryd.underlying137, zr137, fun w => by kernel_rfl, rfl⟩
theorem bt229 : Bt Tryd.prog 229 [(.int .u8 0), (.string ⟨#[]⟩), (.int .u8 0), (.string ⟨#[]⟩), (.int .i64 0)] [(0, 1), (1, 1), (2, 1), (3, 1), (4, 1)] := ⟨_, Tryd.underlying229, zr229, fun w => by kernel_rfl, rfl⟩
end Go.Proofs.YtldmfchamcpmmaaDoor
namespace Go.Proofs.YtldmfchamcpmmaaDoor
open Go Go.RowKit
set_option linter.unusedVariables false
set_option linter.unusedSimpArgs false
def sameK (a b : IntKind) : Bool := Nat.beq a.ctorIdx b.ctorIdx
theorem sameK_eq {a b : IntKind} (h : sameK a b = true) : a = b := by cases a <;> cases b <;> first | rfl | cases h
def cmpI (a b : Int) : BinOp → Option Value
  | .eql => some (.bool (decide (a = b)))
  | .neq => some (.bool (!decide (a = b)))
  | .lss => some (.bool (decide (a < b)))
  | .leq => some (.bool (decide (a ≤ b)))
  | .gtr => some (.bool (decide (b < a)))
  | .geq => some (.bool (decide (b ≤ a)))
  | _ => none
/-- where a struct's field stands -/
def look : List (Nat × Nat × Nat) → Nat → Nat → Option Nat
  | [], _, _ => none
  | (t, f, k) :: l, T, F => bif Nat.beq t T && Nat.beq f F then some k else look l T F
/-- one operation whose value is told by the slots that it names -/
def stp (fa : List (Nat × Nat × Nat)) (E : Env) : Op → Option Value
  | .move x => ev E x
  | .assign x => ev E x
  | .extract x i => match ev E x with
    | some (.tuple vs) => nth vs.toList i
    | _ => none
  | .pick c x y => match ev E c with
    | some (.bool true) => ev E x
    | some (.bool false) => ev E y
    | _ => none
  | .unOp .not _ x => match ev E x with
    | some (.bool b) => some (.bool (!b))
    | _ => none
  | .binOp op _ x y _ => match ev E x, ev E y with
    | some (.int k a), some (.int k' b) => bif sameK k k' then cmpI a b op else none
    | _, _ => none
  | .nilCheck x => match ev E x with
    | some (.pointer (some p)) => some (.pointer (some p))
    | _ => none
  | .fieldAddr S x f => match ev E x, look fa S f with
    | some (.pointer (some ⟨g, off, none⟩)), some k => some (.pointer (some ⟨g, off + k, none⟩))
    | _, _ => none
  | .makeFunc f xs ys => match evs E xs.toList, evs E ys.toList with
    | some us, some vs => some (.func f us.toArray vs.toArray)
    | _, _ => none
  | _ => none
theorem stp_run {P : Program} {fa : List (Nat × Nat × Nat)} (hfa : fa.all (faB P) = true) {E : Env} {H : Heap} {o : Oper} {v : Value} (h : stp fa E o.op = some v) : Run P E H o v := by
  cases ho : o.op <;> rw [ho] at h <;> try (simp [stp] at h; done)
  case move x => exact R.move ho h
  case assign x => exact R.assign ho h
  case pick c x y =>
    simp only [stp] at h
    split at h
    · next e => exact R.pick (t := true) ho e h
    · next e => exact R.pick (t := false) ho e h
    cases h
  case nilCheck x =>
    simp only [stp] at h
    split at h
    · next e => cases h; exact R.nilCheck ho e
    cases h
  case binOp op t x y t' =>
    simp only [stp] at h
    split at h
    · next k a k' b e1 e2 =>
      cases hk : sameK k k' with
      | false => rw [hk] at h; cases h
      | true =>
        rw [hk] at h
        have e := sameK_eq hk; subst e
        cases op <;> simp only [cmpI, cond_true] at h <;> cases h
        · exact R.eql ho e1 e2
        · exact R.neq ho e1 e2
        · exact R.lss ho e1 e2
        · exact R.leq ho e1 e2
        · exact R.gtr ho e1 e2
        exact R.geq ho e1 e2
    cases h
  case unOp op t x =>
    cases op <;> try (simp [stp] at h; done)
    simp only [stp] at h
    split at h
    · next e => cases h; exact R.not ho e
    cases h
  case makeFunc f xs ys =>
    simp only [stp] at h
    split at h
    · next e1 e2 => cases h; exact R.makeFunc ho e1 e2
    cases h
  case extract x i =>
    simp only [stp] at h
    split at h
    · next e => exact R.extract ho e h
    cases h
  case fieldAddr S x f =>
    simp only [stp] at h
    split at h
    · next g off k e1 e2 =>
      cases h
      have key : ∀ l : List (Nat × Nat × Nat), l.all (faB P) = true → look l S f = some k → faB P (S, f, k) = true := by
        intro l
        induction l with
        | nil => intro _ h2; cases h2
        | cons p l ih =>
          obtain ⟨t, f', k'⟩ := p
          intro h1 h2
          simp only [List.all_cons, Bool.and_eq_true] at h1
          simp only [look] at h2
          cases hb : (Nat.beq t S && Nat.beq f' f) with
          | true =>
            rw [hb] at h2
            simp only [Bool.and_eq_true] at hb
            have e3 := Nat.eq_of_beq_eq_true hb.1; have e4 := Nat.eq_of_beq_eq_true hb.2
            cases h2; subst e3; subst e4; exact h1.1
          | false => rw [hb] at h2; exact ih h1.2 h2
      have hk := key fa hfa e2
      unfold faB at hk
      split at hk
      · next fields e3 =>
        split at hk
        · next fd e4 =>
          simp only [Bool.and_eq_true] at hk
          have e5 := Nat.eq_of_beq_eq_true hk.1
          have h6 := hk.2
          split at h6
          · next i e6 =>
            have h7 : 0 < i.size := by simpa using h6
            exact R.fieldAddr (sz := i.size - 1) ho e3 e4 e5 (by rw [e6]; simp; omega) e1
          cases h6
        cases hk
      cases hk
    cases h
def runs (z : Bool) (fa : List (Nat × Nat × Nat)) (n : Nat) (ops : List Oper) : Nat → List Oper → Env → Option (List Oper × Env)
  | 0, l, E => some (l, E)
  | _ + 1, [], _ => none
  | k + 1, o :: l, E => match want ops E o.guard with
    | some true => match o.dst, stp fa E o.op with
      | some d, some v => bif Nat.blt d n then runs z fa n ops k l ((d, v) :: E) else none
      | _, _ => none
    | some false => match o.dst with
      | some d => bif Nat.blt d n then runs z fa n ops k l ((d, undef) :: E) else none
      | none => bif z then runs z fa n ops k l E else none
    | none => none
section
variable {n : Nat} {W0 : World} {Q : Exit → Act → World → Prop} {ops l l' : List Oper} {E E' : Env} {H : Heap}
theorem KL.runP {P : Program} {fa : List (Nat × Nat × Nat)} (hfa : fa.all (faB P) = true) : ∀ (k : Nat) (l : List Oper) (E : Env), runs true fa n ops k l E = some (l', E') → KL P n W0 Q ops l' E' H → KL P n W0 Q ops l E H
  | 0, l, E, hr, h => by cases hr; exact h
  | _ + 1, [], E, hr, h => by cases hr
  | k + 1, o :: l, E, hr, h => by
    unfold runs at hr
    split at hr
    · next hg =>
      split at hr
      · next d v e1 e2 =>
        cases hn : Nat.blt d n with
        | false => rw [hn] at hr; cases hr
        | true => rw [hn] at hr; exact KL.op (stp_run hfa e2) e1 hn hg (KL.runP hfa k l _ hr h)
      cases hr
    · next hg =>
      split at hr
      · next d e1 =>
        cases hn : Nat.blt d n with
        | false => rw [hn] at hr; cases hr
        | true => rw [hn] at hr; exact KL.skip e1 hn hg (KL.runP hfa k l _ hr h)
      next e1 => exact KL.skip0 e1 hg (KL.runP hfa k l _ hr h)
    cases hr
theorem KL.run (k : Nat) (hr : runs true fas n ops k l E = some (l', E')) (h : KL Tryd.prog n W0 Q ops l' E' H) : KL Tryd.prog n W0 Q ops l E H := KL.runP fas_ok k l E hr h
theorem KL.fin (k : Nat) (hr : runs true fas n ops k l E = some ([], E')) (h : KQ n W0 Q .normal E' H) : KL Tryd.prog n W0 Q ops l E H := KL.runP fas_ok k l E hr (KL.nil h)
theorem KD.runP {P : Program} {fa : List (Nat × Nat × Nat)} (hfa : fa.all (faB P) = true) : ∀ (k : Nat) (l : List Oper) (E : Env), runs false fa n ops k l E = some (l', E') → KD P n W0 Q ops l' E' H → KD P n W0 Q ops l E H
  | 0, l, E, hr, h => by cases hr; exact h
  | _ + 1, [], E, hr, h => by cases hr
  | k + 1, o :: l, E, hr, h => by
    unfold runs at hr
    split at hr
    · next hg =>
      split at hr
      · next d v e1 e2 =>
        cases hn : Nat.blt d n with
        | false => rw [hn] at hr; cases hr
        | true => rw [hn] at hr; exact KD.op (stp_run hfa e2) e1 hn hg (KD.runP hfa k l _ hr h)
      cases hr
    · next hg =>
      split at hr
      · next d e1 =>
        cases hn : Nat.blt d n with
        | false => rw [hn] at hr; cases hr
        | true => rw [hn] at hr; exact KD.skip e1 hn hg (KD.runP hfa k l _ hr h)
      next e1 => cases hr
    cases hr
theorem KD.run (k : Nat) (hr : runs false fas n ops k l E = some (l', E')) (h : KD Tryd.prog n W0 Q ops l' E' H) : KD Tryd.prog n W0 Q ops l E H := KD.runP fas_ok k l E hr h
theorem KD.fin (k : Nat) (hr : runs false fas n ops k l E = some ([], E')) (h : KQ n W0 Q .normal E' H) : KD Tryd.prog n W0 Q ops l E H := KD.runP fas_ok k l E hr (KD.nil h)
theorem KP.runP {P : Program} {fa : List (Nat × Nat × Nat)} (hfa : fa.all (faB P) = true) {cl : Nat → Nat} {C : Nat → Heap → Prop} : ∀ (k : Nat) (l : List Oper) (E : Env) (i : Nat), runs false fa n ops k l E = some (l', E') → (∀ j, j < k → cl (i + j) = 0) → KP P n W0 Q cl C ops l' (i + k) E' H → KP P n W0 Q cl C ops l i E H
  | 0, l, E, i, hr, hc, h => by cases hr; exact h
  | _ + 1, [], E, i, hr, hc, h => by cases hr
  | k + 1, o :: l, E, i, hr, hc, h => by
    have h : KP P n W0 Q cl C ops l' (i + 1 + k) E' H := by rw [show i + 1 + k = i + (k + 1) by omega]; exact h
    have hc' : ∀ j, j < k → cl (i + 1 + j) = 0 := fun j hj => by rw [show i + 1 + j = i + (j + 1) by omega]; exact hc _ (by omega)
    unfold runs at hr
    split at hr
    · next hg =>
      split at hr
      · next d v e1 e2 =>
        cases hn : Nat.blt d n with
        | false => rw [hn] at hr; cases hr
        | true => rw [hn] at hr; exact KP.op (hc 0 (by omega)) (fun H' _ => stp_run hfa e2) e1 hn hg (KP.runP hfa k l _ _ hr hc' h)
      cases hr
    · next hg =>
      split at hr
      · next d e1 =>
        cases hn : Nat.blt d n with
        | false => rw [hn] at hr; cases hr
        | true => rw [hn] at hr; exact KP.skip e1 hn hg (KP.runP hfa k l _ _ hr hc' h)
      next e1 => cases hr
    cases hr
def clz (cl : Nat → Nat) (i : Nat) : Nat → Bool
  | 0 => true
  | k + 1 => clz cl i k && Nat.beq (cl (i + k)) 0
theorem clz_all {cl : Nat → Nat} {i : Nat} : ∀ {k : Nat}, clz cl i k = true → ∀ j, j < k → cl (i + j) = 0
  | 0, _, j, hj => absurd hj (Nat.not_lt_zero j)
  | k + 1, h, j, hj => by
    simp only [clz, Bool.and_eq_true] at h
    by_cases e : j = k
    · subst e; exact Nat.eq_of_beq_eq_true h.2
    exact clz_all h.1 j (by omega)
theorem KP.run (k : Nat) {cl : Nat → Nat} {C : Nat → Heap → Prop} {i : Nat} (hr : runs false fas n ops k l E = some (l', E')) (hc : clz cl i k = true) (h : KP Tryd.prog n W0 Q cl C ops l' (i + k) E' H) : KP Tryd.prog n W0 Q cl C ops l i E H := KP.runP fas_ok k l E i hr (clz_all hc) h
theorem KP.fin (k : Nat) {cl : Nat → Nat} {C : Nat → Heap → Prop} {i : Nat} (hr : runs false fas n ops k l E = some ([], E')) (hc : clz cl i k = true) (h : KQ n W0 Q .normal E' H) : KP Tryd.prog n W0 Q cl C ops l i E H := KP.runP fas_ok k l E i hr (clz_all hc) (KP.nil h)
end
section
variable {P : Program} {n : Nat} {W0 : World} {Q : Exit → Act → World → Prop} {E : Env} {H : Heap}
theorem KC.sr {id : Nat} {l : List Oper} {y : Code} (h : KL P n W0 (Exit.then (y.wp P Q) Q) l l E H) : KC P n W0 Q (.seq (.region id l.toArray false) y) E H := KC.seq (KC.region h)
theorem KQ.sr {id : Nat} {l : List Oper} {y : Code} (h : KL P n W0 (Exit.then (y.wp P Q) Q) l l E H) : KQ n W0 (Exit.then ((Code.seq (.region id l.toArray false) y).wp P Q) Q) .normal E H := KQ.seq (KC.seq (KC.region h))
theorem KQ.r {id : Nat} {l : List Oper} (h : KL P n W0 Q l l E H) : KQ n W0 (Exit.then ((Code.region id l.toArray false).wp P Q) Q) .normal E H := KQ.seq (KC.region h)
variable {d : Nat} {ops rest : List Oper} {o : Oper} {v : Value}
/-- a load of one cell -/
def ldk (n : Nat) (ops : List Oper) (E : Env) (o : Oper) : Option (Nat × Addr) := match o.op, o.dst, want ops E o.guard with
  | .load T x, some d, some true => bif nags.elem T && Nat.blt d n then (match ev E x with
    | some (.pointer (some p)) => some (d, p)
    | _ => none) else none
  | _, _, _ => none
theorem ldk_run {p : Addr} (hr : ldk n ops E o = some (d, p)) (hc : cellH H p = some v) : Run Tryd.prog E H o v ∧ o.dst = some d ∧ Nat.blt d n = true ∧ want ops E o.guard = some true := by
  unfold ldk at hr
  split at hr
  · next T x d' e1 e2 e3 =>
    cases hb : (nags.elem T && Nat.blt d' n) with
    | false => rw [hb] at hr; cases hr
    | true =>
      rw [hb, cond_true] at hr
      simp only [Bool.and_eq_true] at hb
      split at hr
      · next p' e4 =>
        cases hr
        have hn := List.all_eq_true.1 nags_ok T (by simpa using hb.1)
        unfold nagB at hn
        split at hn
        · next ds e5 => exact ⟨R.load e1 e5 (by simpa using hn) e4 hc, e2, hb.2, e3⟩
        cases hn
      cases hr
  cases hr
theorem KL.ld {p : Addr} (hr : ldk n ops E o = some (d, p)) (hc : cellH H p = some v) (h : KL Tryd.prog n W0 Q ops rest ((d, v) :: E) H) : KL Tryd.prog n W0 Q ops (o :: rest) E H :=
  have q := ldk_run hr hc; KL.op q.1 q.2.1 q.2.2.1 q.2.2.2 h
theorem KD.ld {p : Addr} (hr : ldk n ops E o = some (d, p)) (hc : cellH H p = some v) (h : KD Tryd.prog n W0 Q ops rest ((d, v) :: E) H) : KD Tryd.prog n W0 Q ops (o :: rest) E H :=
  have q := ldk_run hr hc; KD.op q.1 q.2.1 q.2.2.1 q.2.2.2 h
/-- a load of all cells of a struct or an array -/
def ldaK (n : Nat) (ops : List Oper) (E : Env) (o : Oper) : Option (Nat × Addr × Nat) := match o.op, o.dst, want ops E o.guard with
  | .load T x, some d, some true => bif Nat.blt d n then (match ev E x, look1 aggs T with
    | some (.pointer (some p)), some m => some (d, p, m)
    | _, _ => none) else none
  | _, _, _ => none
theorem ldaK_run {p : Addr} {m : Nat} {cs : List Value} (hr : ldaK n ops E o = some (d, p, m)) (hc : CellsH H p cs) (hm : cs.length = m) : Run Tryd.prog E H o (.agg cs.toArray) ∧ o.dst = some d ∧ Nat.blt d n = true ∧ want ops E o.guard = some true := by
  unfold ldaK at hr
  split at hr
  · next T x d' e1 e2 e3 =>
    cases hb : Nat.blt d' n with
    | false => rw [hb] at hr; cases hr
    | true =>
      rw [hb, cond_true] at hr
      split at hr
      · next p' m' e4 e5 =>
        cases hr
        obtain ⟨ds, e6, e7, e8⟩ := agg_of e5
        exact ⟨R.loadAgg e1 e6 e7 e8 e4 hc hm, e2, hb, e3⟩
      cases hr
  cases hr
theorem KL.lda {p : Addr} {m : Nat} {cs : List Value} (hr : ldaK n ops E o = some (d, p, m)) (hc : CellsH H p cs) (hm : cs.length = m) (h : KL Tryd.prog n W0 Q ops rest ((d, .agg cs.toArray) :: E) H) : KL Tryd.prog n W0 Q ops (o :: rest) E H :=
  have q := ldaK_run hr hc hm; KL.op q.1 q.2.1 q.2.2.1 q.2.2.2 h
theorem KL.q (hr : Run P E H o v) (hc : (o.dst, Nat.blt d n, want ops E o.guard) = (some d, true, some true)) (h : KL P n W0 Q ops rest ((d, v) :: E) H) : KL P n W0 Q ops (o :: rest) E H :=
  KL.op hr (congrArg (·.1) hc) (congrArg (·.2.1) hc) (congrArg (·.2.2) hc) h
theorem KL.e0 {T T' : TypeId} {x y : Operand} {k : IntKind} {a b : Int} (hc : (o.op, ev E x, ev E y, o.dst, Nat.blt d n, want ops E o.guard) = (.binOp .eql T x y T', some (.int k a), some (.int k b), some d, true, some true)) (hne : ¬ a = b) (h : KL P n W0 Q ops rest ((d, .bool false) :: E) H) : KL P n W0 Q ops (o :: rest) E H :=
  KL.op ((R.eql (congrArg (·.1) hc) (congrArg (·.2.1) hc) (congrArg (·.2.2.1) hc)).val (congrArg Value.bool (decide_eq_false hne))) (congrArg (·.2.2.2.1) hc) (congrArg (·.2.2.2.2.1) hc) (congrArg (·.2.2.2.2.2) hc) h
theorem KL.e1 {T T' : TypeId} {x y : Operand} {k : IntKind} {a b : Int} (hc : (o.op, ev E x, ev E y, o.dst, Nat.blt d n, want ops E o.guard) = (.binOp .eql T x y T', some (.int k a), some (.int k b), some d, true, some true)) (hne : a = b) (h : KL P n W0 Q ops rest ((d, .bool true) :: E) H) : KL P n W0 Q ops (o :: rest) E H :=
  KL.op ((R.eql (congrArg (·.1) hc) (congrArg (·.2.1) hc) (congrArg (·.2.2.1) hc)).val (congrArg Value.bool (decide_eq_true hne))) (congrArg (·.2.2.2.1) hc) (congrArg (·.2.2.2.2.1) hc) (congrArg (·.2.2.2.2.2) hc) h
/-! ### structs built, calls, questions, what is kept -/
def offsP (pl : List (Nat × Nat)) : List (Nat × Operand) → Option (List (Nat × Operand))
  | [] => some []
  | (i, x) :: l => match nth pl i, offsP pl l with
    | some (o, s), some r => bif Nat.beq s 1 then some ((o, x) :: r) else none
    | _, _ => none
def AllOne : List Value → Prop
  | [] => True
  | v :: l => v.cells = #[v] ∧ AllOne l
def oneB : Value → Bool
  | .int _ _ | .bool _ | .string _ | .pointer _ | .slice _ _ _ => true
  | _ => false
theorem allOne_of : ∀ {l : List Value}, l.all oneB = true → AllOne l
  | [], _ => trivial
  | v :: l, h => by
    simp only [List.all_cons, Bool.and_eq_true] at h
    exact ⟨by have h1 := h.1; cases v <;> first | rfl | (simp [oneB] at h1), allOne_of h.2⟩
def bdk (n : Nat) (ops : List Oper) (E : Env) (o : Oper) (T : Nat) (zs : List Value) (pl : List (Nat × Nat)) : Option (Nat × List Value × List Value) := match o.op, o.dst, want ops E o.guard with
  | .build T' parts, some d, some true => match offsP pl parts.toList with
    | some offs => bif Nat.beq T T' && Nat.blt d n && apartB offs && (offs.all fun p => Nat.blt p.1 zs.length) then (match buildL E zs 0 offs, evs E (parts.toList.map (·.2)) with
      | some us, some vs => some (d, us, vs)
      | _, _ => none) else none
    | none => none
  | _, _, _ => none
theorem bdk_run {P : Program} {T : Nat} {zs us vs : List Value} {pl : List (Nat × Nat)} (hb : Bt P T zs pl) (hr : bdk n ops E o T zs pl = some (d, us, vs)) (h1 : AllOne vs) : Run P E H o (.agg us.toArray) ∧ o.dst = some d ∧ Nat.blt d n = true ∧ want ops E o.guard = some true := by
  obtain ⟨fields, f1, f2, f3, f4⟩ := hb
  unfold bdk at hr
  split at hr
  · next T' parts d' e1 e2 e3 =>
    split at hr
    · next offs e4 =>
      cases hq : (Nat.beq T T' && Nat.blt d' n && apartB offs && (offs.all fun p => Nat.blt p.1 zs.length)) with
      | false => rw [hq] at hr; cases hr
      | true =>
        rw [hq, cond_true] at hr
        simp only [Bool.and_eq_true] at hq
        obtain ⟨⟨⟨q1, q2⟩, q3⟩, q4⟩ := hq
        have q1 := Nat.eq_of_beq_eq_true q1
        subst q1
        split at hr
        · next us' vs' e5 e6 =>
          cases hr
          have key : ∀ (l : List (Nat × Operand)) (r : List (Nat × Operand)) (vs : List Value), offsP pl l = some r → evs E (l.map (·.2)) = some vs → AllOne vs → offsOf fields.toList l = some r ∧ szOk pl fields.toList l ∧ OneAll E l := by
            intro l
            induction l with
            | nil => intro r vs h _ _; exact ⟨h, trivial, trivial⟩
            | cons p l ih =>
              obtain ⟨i, x⟩ := p
              intro r vs h2 h3 h4
              simp only [offsP] at h2
              simp only [List.map_cons, evs] at h3
              split at h2
              · next off sz r' g1 g2 =>
                cases hs : Nat.beq sz 1 with
                | false => rw [hs] at h2; cases h2
                | true =>
                  rw [hs, cond_true] at h2
                  cases h2
                  have hs := Nat.eq_of_beq_eq_true hs
                  subst hs
                  split at h3
                  · next v vs' g3 g4 =>
                    cases h3
                    obtain ⟨k1, k2, k3⟩ := ih _ _ g2 g4 h4.2
                    have hf : ∃ fd, nth fields.toList i = some fd ∧ fd.offset = off := by
                      have hm := congrArg (fun l => l[i]?) f4
                      simp only [List.getElem?_map] at hm
                      rw [nth_eq] at g1
                      rw [g1] at hm
                      cases hn : fields.toList[i]? with
                      | none => rw [hn] at hm; simp at hm
                      | some fd =>
                        rw [hn] at hm
                        simp only [Option.map_some, Option.some.injEq] at hm
                        exact ⟨fd, by rw [nth_eq]; exact hn, hm⟩
                    obtain ⟨fd, hf1, hf2⟩ := hf
                    refine ⟨by simp only [offsOf, hf1, k1]; rw [hf2], ⟨⟨fd, hf1, by rw [g1, hf2]⟩, k2⟩, ⟨⟨v, g3, h4.1⟩, k3⟩⟩
                  cases h3
              cases h2
          obtain ⟨k1, k2, k3⟩ := key _ _ _ e4 e6 h1
          exact ⟨R.buildL e1 f1 f2 pl f3 k1 k2 q3 q4 k3 e5, e2, q2, e3⟩
        cases hr
    cases hr
  cases hr
theorem KL.bd {P : Program} {T : Nat} {zs us vs : List Value} {pl : List (Nat × Nat)} (hb : Bt P T zs pl) (hr : bdk n ops E o T zs pl = some (d, us, vs)) (h1 : AllOne vs) (h : KL P n W0 Q ops rest ((d, .agg us.toArray) :: E) H) : KL P n W0 Q ops (o :: rest) E H :=
  have q := bdk_run hb hr h1; KL.op q.1 q.2.1 q.2.2.1 q.2.2.2 h
theorem KL.b0 {P : Program} {T : Nat} {zs us vs : List Value} {pl : List (Nat × Nat)} (hb : Bt P T zs pl) (hr : bdk n ops E o T zs pl = some (d, us, vs)) (h1 : vs.all oneB = true) (h : KL P n W0 Q ops rest ((d, .agg us.toArray) :: E) H) : KL P n W0 Q ops (o :: rest) E H :=
  KL.bd hb hr (allOne_of h1) h
/-- a call's function and arguments -/
def clk (n : Nat) (ops : List Oper) (E : Env) (o : Oper) : Option (Nat × FuncId × List Value) := match o.op, o.dst, want ops E o.guard with
  | .call { callee := .value fo, args := xs, argTypes := _ }, some d, some true => match ev E fo, evs E xs.toList with
    | some (.func (.func f) first cap), some vs => bif Nat.blt d n then some (d, f, first.toList ++ vs ++ cap.toList) else none
    | _, _ => none
  | _, _, _ => none
theorem KL.c {f : FuncId} {args : List Value} {R : Value → Heap → Prop} (hr : clk n ops E o = some (d, f, args)) (he : Enters P f) (hc : Ct P f args H R) (h : ∀ v H', R v H' → KL P n W0 Q ops rest ((d, v) :: E) H') : KL P n W0 Q ops (o :: rest) E H := by
  unfold clk at hr
  split at hr
  · next fo xs ts d' e1 e2 e3 =>
    split at hr
    · next f' first cap vs e4 e5 =>
      cases hn : Nat.blt d' n with
      | false => rw [hn] at hr; cases hr
      | true => rw [hn, cond_true] at hr; cases hr; exact KL.call e1 e4 e5 rfl he e2 hn e3 hc h
    cases hr
  cases hr
theorem KL.m {R : Value → Heap → Prop} (hr : RunM P E H o R) (hc : (o.dst, Nat.blt d n, want ops E o.guard) = (some d, true, some true)) (h : ∀ v H', R v H' → KL P n W0 Q ops rest ((d, v) :: E) H') : KL P n W0 Q ops (o :: rest) E H :=
  KL.opM hr (congrArg (·.1) hc) (congrArg (·.2.1) hc) (congrArg (·.2.2) hc) h
/-- what a Bool's being true, being false, says -/
class Nf (b : Bool) (t f : outParam Prop) : Prop where
  t : b = true → t
  f : b = false → f
instance (priority := low) (b : Bool) : Nf b (b = true) (b = false) := ⟨id, id⟩
instance (p : Prop) [Decidable p] : Nf (decide p) p (¬ p) := ⟨of_decide_eq_true, of_decide_eq_false⟩
instance (b : Bool) (t f : Prop) [h : Nf b t f] : Nf (!b) f t := ⟨fun e => h.f (by simpa using e), fun e => h.t (by simpa using e)⟩
instance (a b : Bool) (t f t' f' : Prop) [h : Nf a t f] [k : Nf b t' f'] : Nf (a && b) (t ∧ t') ((a && b) = false) := ⟨fun e => by simp only [Bool.and_eq_true] at e; exact ⟨h.t e.1, k.t e.2⟩, id⟩
instance (a b : Bool) (t f t' f' : Prop) [h : Nf a t f] [k : Nf b t' f'] : Nf (a || b) ((a || b) = true) (f ∧ f') := ⟨id, fun e => by simp only [Bool.or_eq_false_iff] at e; exact ⟨h.f e.1, k.f e.2⟩⟩
theorem KC.iq {x y : Code} {b : Bool} {t f : Prop} [k : Nf b t f] (hc : get E d = some (.bool b)) (ht : t → KC P n W0 Q x ((d, .bool true) :: E) H) (hf : f → KC P n W0 Q y ((d, .bool false) :: E) H) : KC P n W0 Q (.cond (.tmp d) x y) E H :=
  KC.iteL hc (fun h => ht (k.t h)) (fun h => hf (k.f h))
theorem KL.cq (d : Nat) {b : Bool} {t f : Prop} (hget : get E d = some (.bool b)) [k : Nf b t f] (ht : t → KL P n W0 Q ops rest ((d, .bool true) :: E) H) (hf : f → KL P n W0 Q ops rest ((d, .bool false) :: E) H) : KL P n W0 Q ops rest E H :=
  KL.case hget (fun h => ht (k.t h)) (fun h => hf (k.f h))
theorem KD.cq (d : Nat) {b : Bool} {t f : Prop} (hget : get E d = some (.bool b)) [k : Nf b t f] (ht : t → KD P n W0 Q ops rest ((d, .bool true) :: E) H) (hf : f → KD P n W0 Q ops rest ((d, .bool false) :: E) H) : KD P n W0 Q ops rest E H :=
  KD.case hget (fun h => ht (k.t h)) (fun h => hf (k.f h))
/-- the slots that count, each once -/
def uniq : List Nat → Env → Env
  | _, [] => []
  | seen, (d, v) :: E => bif seen.elem d then uniq seen E else (d, v) :: uniq (d :: seen) E
theorem get_uniq {seen : List Nat} {E : Env} {t : Nat} (h : seen.elem t = false) : get (uniq seen E) t = get E t := by
  induction E generalizing seen with
  | nil => rfl
  | cons p E ih =>
    obtain ⟨d, v⟩ := p
    simp only [uniq, get]
    cases hb : Nat.beq d t with
    | true =>
      have e := Nat.eq_of_beq_eq_true hb; subst e
      rw [h]; simp [get]
    | false =>
      cases hs : seen.elem d with
      | true => simp only [cond_true, cond_false]; exact ih h
      | false =>
        simp only [cond_false, get, hb]
        refine ih ?_
        have hne : t ≠ d := fun e => by rw [e, Nat.beq_refl] at hb; cases hb
        have hb' : (t == d) = false := beq_eq_false_iff_ne.2 hne
        rw [List.elem_cons, hb', h]
theorem Sub.all {L E : Env} (h : (uniq [] L).map (fun p => get E p.1) = (uniq [] L).map (fun p => some p.2)) : Sub L E := by
  have key : ∀ U : Env, U.map (fun p => get E p.1) = U.map (fun p => some p.2) → ∀ t v, get U t = some v → get E t = some v := by
    intro U
    induction U with
    | nil => intro _ t v h; cases h
    | cons p U ih =>
      obtain ⟨d, u⟩ := p
      intro hU t v ht
      simp only [List.map_cons, List.cons.injEq] at hU
      simp only [get] at ht
      cases hb : Nat.beq d t with
      | true => have e := Nat.eq_of_beq_eq_true hb; subst e; rw [hb] at ht; simp at ht; subst ht; exact hU.1
      | false => rw [hb] at ht; exact ih hU.2 t v ht
  intro t v ht
  exact key _ h t v (by rw [get_uniq rfl]; exact ht)
end
theorem sd : (∀ (p : Prop) [Decidable p], (decide p = true) = p) ∧ (∀ (p : Prop) [Decidable p], (decide p = false) ↔ ¬ p) ∧ (∀ b : Bool, ((!b) = true) = (b = false)) ∧ (∀ b : Bool, ((!b) = false) = (b = true)) ∧ (∀ a b : Bool, ((a && b) = true) = (a = true ∧ b = true)) ∧ (∀ a b : Bool, (a || b) = false ↔ a = false ∧ b = false) :=
  ⟨fun _ _ => decide_eq_true_eq, fun _ _ => decide_eq_false_iff_not, fun b => by simp, fun b => by simp, fun a b => by simp, fun a b => by simp⟩
end Go.Proofs.YtldmfchamcpmmaaDoor
namespace Go.Proofs.YtldmfchamcpmmaaDoor
open Go Go.RowKit
set_option linter.unusedVariables false
/-- an instruction -/
structure Ins where
  op : Int
  a : Int
  b : Int
  c : Int
  l : List Int
  deriving Inhabited
def EIns : El Ins := fun H cs x => ∃ v, cs = [.int .u8 x.op, .int .u32 x.a, .int .u32 x.b, .int .i64 x.c, v] ∧ Sl 1 (EInt .u32) H v x.l ∧ InR .u8 x.op ∧ InR .u32 x.a ∧ InR .u32 x.b ∧ InR .i64 x.c
instance keepsIns : Keeps EIns := ⟨fun ho h => by
  obtain ⟨v, hv, hs, r⟩ := h
  exact ⟨v, hv, hs.old ho, r⟩⟩
instance oneIns : One EIns := ⟨fun h u hu => by
  obtain ⟨v, rfl, hs, _⟩ := h
  simp only [List.mem_cons, List.not_mem_nil, or_false] at hu
  rcases hu with rfl | rfl | rfl | rfl | rfl <;> first | rfl | exact hs.one⟩
theorem Sl.insAt {H : Heap} {v : Value} {l : List Ins} (h : Sl 5 EIns H v l) (j : Nat) (hj : j < l.length) : ∃ u, CellsH H ((vbase v).add (j * 5)) [.int .u8 (l.getD j default).op, .int .u32 (l.getD j default).a, .int .u32 (l.getD j default).b, .int .i64 (l.getD j default).c, u] ∧
    Sl 1 (EInt .u32) H u (l.getD j default).l ∧ InR .u8 (l.getD j default).op ∧ InR .u32 (l.getD j default).a ∧ InR .u32 (l.getD j default).b ∧ InR .i64 (l.getD j default).c := by
  obtain ⟨cs, hl, hc, u, rfl, hu, h1⟩ := h.at j hj
  exact ⟨u, hc, hu, h1⟩
end Go.Proofs.YtldmfchamcpmmaaDoor
namespace Go.Proofs.YtldmfchamcpmmaaDoor
open Go Go.RowKit
set_option linter.unusedVariables false
set_option linter.unusedSimpArgs false
set_option linter.unnecessarySimpa false
/-- the library's two tables, as they are laid -/
structure TabU (H : Heap) : Prop where
  first : ∀ c : Nat, c < 256 → cellH H ⟨0, c, none⟩ = some (.int .u8 (Lib.firstT c : Nat))
  lo : ∀ i : Nat, i < 16 → cellH H ⟨1, i * 2, none⟩ = some (.int .u8 (Lib.accLo i : Nat))
  hi : ∀ i : Nat, i < 16 → cellH H ⟨1, i * 2 + 1, none⟩ = some (.int .u8 (Lib.accHi i : Nat))
theorem TabU.old {H H' : Heap} (h : TabU H) (o : Old H H') : TabU H' := ⟨fun c hc => o.cell (h.first c hc), fun i hi => o.cell (h.lo i hi), fun i hi => o.cell (h.hi i hi)⟩
theorem TabU.at {H : Heap} (h : TabU H) {c : Int} (r : InR .u8 c) : cellH H ((⟨0, 0, none⟩ : Addr).add (c.toNat * 1)) = some (.int .u8 (Utf.ft c : Nat)) := by
  dsimp only [InR] at r
  rw [add1, Nat.zero_add]; exact h.first _ (by omega)
theorem TabU.acc {H : Heap} (h : TabU H) {c : Int} (hc : Utf.ft c / 16 < 16) : CellsH H ((⟨1, 0, none⟩ : Addr).add (Utf.ft c / 16 * 2)) [.int .u8 (Utf.lo c), .int .u8 (Utf.hi c)] := by
  have e : ∀ k, (⟨1, 0, none⟩ : Addr).add k = ⟨1, k, none⟩ := fun k => by unfold Addr.add; split <;> simp_all
  have e2 : ∀ j k, (⟨1, j, none⟩ : Addr).add k = ⟨1, j + k, none⟩ := fun j k => by unfold Addr.add; split <;> simp_all
  intro i v hv
  rw [e, e2]
  match i, hv with
  | 0, hv => cases hv; exact h.lo _ hc
  | 1, hv => cases hv; exact h.hi _ hc
theorem word_any {H : Heap} (v : Value) (l : List Int) (hs : Sl 1 (EInt .u8) H v l) (h8 : 8 ≤ l.length) : Ct Tryd.prog 152 [v] H (fun u H' => u = .int .u64 (Utf.wd8 l) ∧ H = H') := by
  refine Ct.mk Tryd.func152 rfl Tryd.ntmps152 rfl ?_
  intro W0 hW0
  have o0 : Old H H := Old.refl H
  have q0 := (hs.int 0 (by omega)).2
  have q1 := (hs.int 1 (by omega)).2
  have q2 := (hs.int 2 (by omega)).2
  have q3 := (hs.int 3 (by omega)).2
  have q4 := (hs.int 4 (by omega)).2
  have q5 := (hs.int 5 (by omega)).2
  have q6 := (hs.int 6 (by omega)).2
  have q7 := (hs.int 7 (by omega)).2
  have p0 := q0
  dsimp only [InR] at p0
  have p1 := q1
  dsimp only [InR] at p1
  have p2 := q2
  dsimp only [InR] at p2
  have p3 := q3
  dsimp only [InR] at p3
  have p4 := q4
  dsimp only [InR] at p4
  have p5 := q5
  dsimp only [InR] at p5
  have p6 := q6
  dsimp only [InR] at p6
  have p7 := q7
  dsimp only [InR] at p7
  refine KC.sr (KL.fin 1 rfl (KQ.seq (KC.seq (KC.condF rfl (KC.skip (KQ.seq (KC.seq (KC.quiet (by kernel_rfl) (by kernel_rfl) (KD.run 1 rfl ?_)))))))))
  refine KD.op (R.index1 (j := 0) rfl Tryd.underlying36 sz5 rfl rfl hs rfl (by omega)) rfl rfl rfl ?_
  refine KD.ld rfl ((hs.int 0 (by omega)).1) ?_
  refine KD.op (R.convI rfl Tryd.underlying5 Tryd.underlying101 rfl (by dsimp only [InR]; omega)) rfl rfl rfl ?_
  refine KD.run 1 rfl ?_
  refine KD.op (R.index1 (j := 1) rfl Tryd.underlying36 sz5 rfl rfl hs rfl (by omega)) rfl rfl rfl ?_
  refine KD.ld rfl ((hs.int 1 (by omega)).1) ?_
  refine KD.op (R.convI rfl Tryd.underlying5 Tryd.underlying101 rfl (by dsimp only [InR]; omega)) rfl rfl rfl ?_
  refine KD.op (R.shl rfl rfl rfl (by omega)) rfl rfl rfl ?_
  refine KD.op (R.bits rfl rfl rfl rfl) rfl rfl rfl (KD.run 1 rfl ?_)
  refine KD.op (R.index1 (j := 2) rfl Tryd.underlying36 sz5 rfl rfl hs rfl (by omega)) rfl rfl rfl ?_
  refine KD.ld rfl ((hs.int 2 (by omega)).1) ?_
  refine KD.op (R.convI rfl Tryd.underlying5 Tryd.underlying101 rfl (by dsimp only [InR]; omega)) rfl rfl rfl ?_
  refine KD.op (R.shl rfl rfl rfl (by omega)) rfl rfl rfl ?_
  refine KD.op (R.bits rfl rfl rfl rfl) rfl rfl rfl (KD.run 1 rfl ?_)
  refine KD.op (R.index1 (j := 3) rfl Tryd.underlying36 sz5 rfl rfl hs rfl (by omega)) rfl rfl rfl ?_
  refine KD.ld rfl ((hs.int 3 (by omega)).1) ?_
  refine KD.op (R.convI rfl Tryd.underlying5 Tryd.underlying101 rfl (by dsimp only [InR]; omega)) rfl rfl rfl ?_
  refine KD.op (R.shl rfl rfl rfl (by omega)) rfl rfl rfl ?_
  refine KD.op (R.bits rfl rfl rfl rfl) rfl rfl rfl (KD.run 1 rfl ?_)
  refine KD.op (R.index1 (j := 4) rfl Tryd.underlying36 sz5 rfl rfl hs rfl (by omega)) rfl rfl rfl ?_
  refine KD.ld rfl ((hs.int 4 (by omega)).1) ?_
  refine KD.op (R.convI rfl Tryd.underlying5 Tryd.underlying101 rfl (by dsimp only [InR]; omega)) rfl rfl rfl ?_
  refine KD.op (R.shl rfl rfl rfl (by omega)) rfl rfl rfl ?_
  refine KD.op (R.bits rfl rfl rfl rfl) rfl rfl rfl (KD.run 1 rfl ?_)
  refine KD.op (R.index1 (j := 5) rfl Tryd.underlying36 sz5 rfl rfl hs rfl (by omega)) rfl rfl rfl ?_
  refine KD.ld rfl ((hs.int 5 (by omega)).1) ?_
  refine KD.op (R.convI rfl Tryd.underlying5 Tryd.underlying101 rfl (by dsimp only [InR]; omega)) rfl rfl rfl ?_
  refine KD.op (R.shl rfl rfl rfl (by omega)) rfl rfl rfl ?_
  refine KD.op (R.bits rfl rfl rfl rfl) rfl rfl rfl (KD.run 1 rfl ?_)
  refine KD.op (R.index1 (j := 6) rfl Tryd.underlying36 sz5 rfl rfl hs rfl (by omega)) rfl rfl rfl ?_
  refine KD.ld rfl ((hs.int 6 (by omega)).1) ?_
  refine KD.op (R.convI rfl Tryd.underlying5 Tryd.underlying101 rfl (by dsimp only [InR]; omega)) rfl rfl rfl ?_
  refine KD.op (R.shl rfl rfl rfl (by omega)) rfl rfl rfl ?_
  refine KD.op (R.bits rfl rfl rfl rfl) rfl rfl rfl (KD.run 1 rfl ?_)
  refine KD.op (R.index1 (j := 7) rfl Tryd.underlying36 sz5 rfl rfl hs rfl (by omega)) rfl rfl rfl ?_
  refine KD.ld rfl ((hs.int 7 (by omega)).1) ?_
  refine KD.op (R.convI rfl Tryd.underlying5 Tryd.underlying101 rfl (by dsimp only [InR]; omega)) rfl rfl rfl ?_
  refine KD.op (R.shl rfl rfl rfl (by omega)) rfl rfl rfl ?_
  refine KD.op ((R.bits rfl rfl rfl rfl).val (congrArg (Value.int .u64) ((Utf.word_or q0 q1 q2 q3 q4 q5 q6 q7).trans (Utf.wd8_eq l).symm))) rfl rfl rfl (KD.fin 1 rfl (KQ.seq (KC.ret (KQ.ofRet (KQ.fin1 Tryd.results152 rfl ?_)))))
  exact ⟨rfl, rfl⟩
namespace Utf
theorem asc16 {l : List Int} (h : ∀ i, i < 8 → l.getD i default < 128) (k : ∀ i, i < 8 → (l.drop 8).getD i default < 128) : ∀ i, i < 16 → l.getD i default < 128 := by
  intro i hi
  by_cases h8 : i < 8
  · exact h i h8
  have := k (i - 8) (by omega)
  rw [getD_drop, show 8 + (i - 8) = i by omega] at this; exact this
theorem asc32 {l : List Int} (h : ∀ i, i < 8 → l.getD i default < 128) (k : ∀ i, i < 8 → (l.drop 8).getD i default < 128) (p : ∀ i, i < 8 → (l.drop 16).getD i default < 128) (q : ∀ i, i < 8 → (l.drop 24).getD i default < 128) : ∀ i, i < 32 → l.getD i default < 128 := by
  intro i hi
  by_cases h16 : i < 16
  · exact asc16 h k i h16
  by_cases h24 : i < 24
  · have := p (i - 16) (by omega)
    rw [getD_drop, show 16 + (i - 16) = i by omega] at this; exact this
  have := q (i - 24) (by omega)
  rw [getD_drop, show 24 + (i - 24) = i by omega] at this; exact this
end Utf
theorem utf8Valid_any {H : Heap} (v : Value) (l : List Int) (hs : Sl 1 (EInt .u8) H v l) (hT : TabU H) : Ct Tryd.prog 143 [v] H (fun u H' => u = .bool (Utf.valid l) ∧ Old H H') := by
  refine Ct.mk Tryd.func143 rfl Tryd.ntmps143 rfl ?_
  intro W0 hW0
  have o0 : Old H H := Old.refl H
  refine KC.sr (KL.fin 1 rfl (KQ.sr (KL.run 2 rfl ?_)))
  refine KL.q (by exact R.lenS rfl Tryd.underlying36 rfl hs) rfl ?_
  refine KL.run 1 rfl ?_
  refine KL.q (by exact R.lenS rfl Tryd.underlying36 rfl hs) rfl ?_
  refine KL.q (R.slice3 rfl Tryd.underlying36 sz5 rfl hs bnd.no rfl rfl rfl rfl (Nat.zero_le _) (Nat.le_refl _)) rfl ?_
  have s0 : Sl 1 (EInt .u8) H (sub3 1 v 0 l.length l.length) l := by
    have := hs.sub3 (lo := 0) (hi := l.length) (by omega) (by omega)
    simpa using this
  refine KL.fin 1 rfl (KQ.seq (KC.seq (KC.block ?_)))
  refine KC.loopD (κ := Value × List Int) [13, 14, 15, 16, 17, 18, 3, 19, 20, 21, 22, 0, 23, 24, 25, 26, 27, 28, 29, 30, 31, 32, 33, 34, 35, 36, 37, 38, 39, 40, 41, 42, 43, 44, 45, 46, 47, 48, 49, 50, 51, 52, 53, 54, 55, 56, 57, 58, 59, 60, 61, 62, 63, 64, 65, 66, 67, 68, 69, 70, 71, 72, 73, 74, 4, 75, 76, 77, 5, 78, 79, 80, 81, 6, 82, 84, 83, 85, 86, 87, 88, 89, 90, 91, 92, 93, 94, 95, 96, 97, 98, 99, 100, 101, 102, 103, 2, 104, 105, 107, 106, 108, 109, 110, 111, 112, 113, 114, 115, 116, 117, 118, 119, 120, 121, 122, 123, 124, 125, 126, 127, 128, 129, 130, 131, 132, 133, 134, 135, 136, 137, 138, 139, 140, 142, 141, 143, 144, 145, 146, 147, 148, 149, 150, 151, 152, 153, 154, 155, 156, 157, 158, 159, 160, 161, 162, 163, 164, 165, 166, 167, 168, 169, 170, 171, 172, 173, 174, 175, 176, 177, 178, 179, 180, 181, 182, 183, 184, 185, 186, 187] (fun k => [(0, k.1)]) (fun k Hl => Sl 1 (EInt .u8) Hl k.1 k.2 ∧ Utf.valid k.2 = Utf.valid l ∧ k.2.length ≤ l.length ∧ Old H Hl) (fun k => k.2.length) (sub3 1 v 0 l.length l.length, l) ?_ ?_ ?_
  · exact Sub.all rfl
  · exact ⟨s0, rfl, Nat.le_refl _, o0⟩
  rintro ⟨va, m⟩ H1 ⟨sa, hv, hle, o0⟩
  have zl_H1 := o0.1
  dsimp only at sa hv hle
  have hTa := hT.old o0
  have sa0 := sa
  have ox : Old H1 H1 := Old.refl _
  refine KC.seq (KC.sr (KL.run 1 rfl ?_))
  refine KL.q (by exact R.lenS rfl Tryd.underlying36 rfl sa) rfl ?_
  refine KL.fin 1 rfl (KQ.seq ?_)
  refine KC.iq rfl ?_ ?_
  · intro hc15
    try dsimp only at hc15
    refine KC.skip (KQ.seq (KC.block (KC.sr (KL.run 1 rfl ?_))))
    refine KL.q (R.index1 (j := 0) rfl Tryd.underlying36 sz5 rfl rfl sa rfl (by omega)) rfl ?_
    refine KL.ld rfl ((sa.int 0 (by omega)).1) ?_
    refine KL.fin 1 rfl (KQ.seq (KC.seq (KC.sr (KL.fin 2 rfl (KQ.seq ?_)))))
    refine KC.iq rfl ?_ ?_
    · intro hc20
      try dsimp only at hc20
      have q0 := (sa.int 0 (by omega)).2
      refine KC.sr (KL.run 1 rfl ?_)
      refine KL.q (R.slice rfl Tryd.underlying36 sz5 rfl sa (bnd.mk (r := 1) rfl rfl) bnd.no (by omega) (Nat.le_refl _)) rfl ?_
      have s1 : Sl 1 (EInt .u8) H1 (subV 1 (va) 1 (m).length) ((m).drop 1) := sa.tail (by omega)
      have vs1 : Utf.valid ((m).drop 1) = Utf.valid l := (Utf.ok1 (by omega) hc20).trans hv
      have sn := s1
      have vn := vs1
      refine KL.fin 1 rfl (KQ.seq (KC.seq (KC.sr (KL.run 1 rfl ?_))))
      refine KL.q (by exact R.lenS rfl Tryd.underlying36 rfl s1) rfl ?_
      refine KL.run 2 rfl ?_
      refine KL.cq 26 rfl ?_ ?_
      · intro hg26
        try dsimp only at hg26
        refine KL.run 1 rfl ?_
        refine KL.c rfl Tryd.call152 (word_any _ _ s1 (by omega)) ?_
        rintro _ _ ⟨rfl, rfl⟩
        refine KL.q (R.bits rfl rfl rfl rfl) rfl (KL.fin 2 rfl (KQ.seq ?_))
        refine KC.iq rfl ?_ ?_
        · intro hc31
          try dsimp only at hc31
          have a1 := Utf.asc1 (s1.r8 (by omega)) (by assumption)
          refine KC.sr (KL.run 1 rfl ?_)
          refine KL.q (R.slice rfl Tryd.underlying36 sz5 rfl s1 (bnd.mk (r := 8) rfl rfl) bnd.no (by omega) (Nat.le_refl _)) rfl ?_
          have s2 : Sl 1 (EInt .u8) H1 (subV 1 (subV 1 (va) 1 (m).length) 8 ((m).drop 1).length) (((m).drop 1).drop 8) := s1.tail (by omega)
          have vs2 : Utf.valid (((m).drop 1).drop 8) = Utf.valid l := (Utf.okAsc (by omega) a1).trans vs1
          have sn := s2
          have vn := vs2
          refine KL.fin 1 rfl (KQ.seq (KC.seq (KC.quiet (by kernel_rfl) (by kernel_rfl) (KD.run 1 rfl ?_))))
          refine KD.op (by exact R.lenS rfl Tryd.underlying36 rfl s2) rfl rfl rfl ?_
          refine KD.run 2 rfl ?_
          refine KD.cq 37 rfl ?_ ?_
          · intro hg37
            try dsimp only at hg37
            refine KD.run 1 rfl ?_
            refine KD.call rfl rfl rfl rfl Tryd.call152 rfl rfl rfl (word_any _ _ s2 (by omega)) ?_
            refine KD.run 1 rfl ?_
            refine KD.op (R.slice rfl Tryd.underlying36 sz5 rfl s2 (bnd.mk (r := 8) rfl rfl) bnd.no (by omega) (Nat.le_refl _)) rfl rfl rfl ?_
            have s2b : Sl 1 (EInt .u8) H1 (subV 1 (subV 1 (subV 1 (va) 1 (m).length) 8 ((m).drop 1).length) 8 (((m).drop 1).drop 8).length) ((((m).drop 1).drop 8).drop 8) := s2.tail (by omega)
            refine KD.call rfl rfl rfl rfl Tryd.call152 rfl rfl rfl (word_any _ _ s2b (by (simp only [List.length_drop] at *; omega))) ?_
            refine KD.op (R.bits rfl rfl rfl rfl) rfl rfl rfl (KD.op (R.bits rfl rfl rfl rfl) rfl rfl rfl (KD.fin 2 rfl (KQ.seq ?_)))
            refine KC.iq rfl ?_ ?_
            · intro hc46
              try dsimp only at hc46
              have a2 := Utf.asc2 (s2.r8 (by omega)) (s2b.r8 (by (simp only [List.length_drop] at *; omega))) (by assumption)
              refine KC.sr (KL.run 1 rfl ?_)
              refine KL.q (R.slice rfl Tryd.underlying36 sz5 rfl s2 (bnd.mk (r := 16) rfl rfl) bnd.no (by omega) (Nat.le_refl _)) rfl ?_
              have s3 : Sl 1 (EInt .u8) H1 (subV 1 (subV 1 (subV 1 (va) 1 (m).length) 8 ((m).drop 1).length) 16 (((m).drop 1).drop 8).length) ((((m).drop 1).drop 8).drop 16) := s2.tail (by omega)
              have vs3 : Utf.valid ((((m).drop 1).drop 8).drop 16) = Utf.valid l := (Utf.okAsc (by omega) (Utf.asc16 a2.1 a2.2)).trans vs2
              have sn := s3
              have vn := vs3
              refine KL.fin 1 rfl (KQ.seq (KC.block ?_))
              refine KC.loopD (κ := Value × List Int) [49, 50, 51, 52, 53, 54, 55, 56, 57, 58, 59, 60, 61, 62, 63, 64, 65, 66, 67, 68, 69, 70, 71, 0] (fun k => [(0, k.1)]) (fun k Hl => H1 = Hl ∧ Sl 1 (EInt .u8) Hl k.1 k.2 ∧ Utf.valid k.2 = Utf.valid l ∧ k.2.length < m.length) (fun k => k.2.length) (subV 1 (subV 1 (subV 1 (va) 1 (m).length) 8 ((m).drop 1).length) 16 (((m).drop 1).drop 8).length, (((m).drop 1).drop 8).drop 16) ?_ ?_ ?_
              · exact Sub.all rfl
              · exact ⟨rfl, sn, vn, (by (simp only [List.length_drop] at *; omega))⟩
              rintro ⟨vb, mb⟩ H2 ⟨rfl, sb, hvb, hlb⟩
              dsimp only at sb hvb hlb
              have sn := sb
              have vn := hvb
              refine KC.seq (KC.seq (KC.quiet (by kernel_rfl) (by kernel_rfl) (KD.run 1 rfl ?_)))
              refine KD.op (by exact R.lenS rfl Tryd.underlying36 rfl sb) rfl rfl rfl ?_
              refine KD.run 2 rfl ?_
              refine KD.cq 52 rfl ?_ ?_
              · intro hg52
                try dsimp only at hg52
                refine KD.run 1 rfl ?_
                refine KD.call rfl rfl rfl rfl Tryd.call152 rfl rfl rfl (word_any _ _ sb (by omega)) ?_
                refine KD.run 1 rfl ?_
                refine KD.op (R.slice rfl Tryd.underlying36 sz5 rfl sb (bnd.mk (r := 8) rfl rfl) bnd.no (by omega) (Nat.le_refl _)) rfl rfl rfl ?_
                have sb1 : Sl 1 (EInt .u8) H1 (subV 1 (vb) 8 (mb).length) ((mb).drop 8) := sb.tail (by omega)
                refine KD.call rfl rfl rfl rfl Tryd.call152 rfl rfl rfl (word_any _ _ sb1 (by (simp only [List.length_drop] at *; omega))) ?_
                refine KD.op (R.bits rfl rfl rfl rfl) rfl rfl rfl (KD.run 1 rfl ?_)
                refine KD.op (R.slice rfl Tryd.underlying36 sz5 rfl sb (bnd.mk (r := 16) rfl rfl) bnd.no (by omega) (Nat.le_refl _)) rfl rfl rfl ?_
                have sb2 : Sl 1 (EInt .u8) H1 (subV 1 (vb) 16 (mb).length) ((mb).drop 16) := sb.tail (by omega)
                refine KD.call rfl rfl rfl rfl Tryd.call152 rfl rfl rfl (word_any _ _ sb2 (by (simp only [List.length_drop] at *; omega))) ?_
                refine KD.run 1 rfl ?_
                refine KD.op (R.slice rfl Tryd.underlying36 sz5 rfl sb (bnd.mk (r := 24) rfl rfl) bnd.no (by omega) (Nat.le_refl _)) rfl rfl rfl ?_
                have sb3 : Sl 1 (EInt .u8) H1 (subV 1 (vb) 24 (mb).length) ((mb).drop 24) := sb.tail (by omega)
                refine KD.call rfl rfl rfl rfl Tryd.call152 rfl rfl rfl (word_any _ _ sb3 (by (simp only [List.length_drop] at *; omega))) ?_
                refine KD.op (R.bits rfl rfl rfl rfl) rfl rfl rfl (KD.op (R.bits rfl rfl rfl rfl) rfl rfl rfl (KD.op (R.bits rfl rfl rfl rfl) rfl rfl rfl (KD.fin 2 rfl (KQ.seq ?_))))
                refine KC.iq rfl ?_ ?_
                · intro hc69
                  try dsimp only at hc69
                  have a4 := Utf.asc4 (sb.r8 (by omega)) (sb1.r8 (by (simp only [List.length_drop] at *; omega))) (sb2.r8 (by (simp only [List.length_drop] at *; omega))) (sb3.r8 (by (simp only [List.length_drop] at *; omega))) (by assumption)
                  refine KC.skip (KQ.seq (KC.block (KC.region (KL.run 1 rfl ?_))))
                  refine KL.q (R.slice rfl Tryd.underlying36 sz5 rfl sb (bnd.mk (r := 32) rfl rfl) bnd.no (by omega) (Nat.le_refl _)) rfl ?_
                  have s32 : Sl 1 (EInt .u8) H1 (subV 1 (vb) 32 (mb).length) ((mb).drop 32) := sb.tail (by omega)
                  have vs32 : Utf.valid ((mb).drop 32) = Utf.valid l := (Utf.okAsc (by omega) (Utf.asc32 a4.1.1 a4.1.2 a4.2.1 a4.2.2)).trans hvb
                  have sn := s32
                  have vn := vs32
                  refine KL.fin 1 rfl (KQ.normBlock ?_)
                  refine KQ.again ((subV 1 (vb) 32 (mb).length, (mb).drop 32)) ?_ ?_ ?_
                  · exact Sub.all rfl
                  · show _ < _; ((simp only [List.length_drop] at *; omega))
                  exact ⟨rfl, sn, vn, (by (simp only [List.length_drop] at *; omega))⟩
                intro hc69
                try dsimp only at hc69
                refine KC.exit (KQ.exitThen (KQ.exitThen (KQ.hit (KQ.seq (KC.exit (KQ.exitThen (KQ.hit ?_)))))))
                refine KQ.again ((vb, mb)) ?_ ?_ ?_
                · exact Sub.all rfl
                · show _ < _; omega
                exact ⟨sn, vn, by show _ ≤ _; ((simp only [List.length_drop] at *; omega)), o0⟩
              intro hg52
              try dsimp only at hg52
              refine KD.fin 17 rfl (KQ.seq (KC.condF rfl (KC.exit (KQ.exitThen (KQ.exitThen (KQ.hit (KQ.seq (KC.exit (KQ.exitThen (KQ.hit ?_))))))))))
              refine KQ.again ((vb, mb)) ?_ ?_ ?_
              · exact Sub.all rfl
              · show _ < _; omega
              exact ⟨sn, vn, by show _ ≤ _; ((simp only [List.length_drop] at *; omega)), o0⟩
            intro hc46
            try dsimp only at hc46
            refine KC.skip (KQ.seq (KC.exit (KQ.exitThen (KQ.hit ?_))))
            refine KQ.again ((subV 1 (subV 1 (va) 1 (m).length) 8 ((m).drop 1).length, ((m).drop 1).drop 8)) ?_ ?_ ?_
            · exact Sub.all rfl
            · show _ < _; ((simp only [List.length_drop] at *; omega))
            exact ⟨sn, vn, by show _ ≤ _; ((simp only [List.length_drop] at *; omega)), o0⟩
          intro hg37
          try dsimp only at hg37
          refine KD.fin 9 rfl (KQ.seq (KC.condF rfl (KC.skip (KQ.seq (KC.exit (KQ.exitThen (KQ.hit ?_)))))))
          refine KQ.again ((subV 1 (subV 1 (va) 1 (m).length) 8 ((m).drop 1).length, ((m).drop 1).drop 8)) ?_ ?_ ?_
          · exact Sub.all rfl
          · show _ < _; ((simp only [List.length_drop] at *; omega))
          exact ⟨sn, vn, by show _ ≤ _; ((simp only [List.length_drop] at *; omega)), o0⟩
        intro hc31
        try dsimp only at hc31
        refine KC.skip (KQ.seq (KC.exit (KQ.exitThen (KQ.hit ?_))))
        refine KQ.again ((subV 1 (va) 1 (m).length, (m).drop 1)) ?_ ?_ ?_
        · exact Sub.all rfl
        · show _ < _; ((simp only [List.length_drop] at *; omega))
        exact ⟨sn, vn, by show _ ≤ _; ((simp only [List.length_drop] at *; omega)), o0⟩
      intro hg26
      try dsimp only at hg26
      refine KL.fin 5 rfl (KQ.seq (KC.condF rfl (KC.skip (KQ.seq (KC.exit (KQ.exitThen (KQ.hit ?_)))))))
      refine KQ.again ((subV 1 (va) 1 (m).length, (m).drop 1)) ?_ ?_ ?_
      · exact Sub.all rfl
      · show _ < _; ((simp only [List.length_drop] at *; omega))
      exact ⟨sn, vn, by show _ ≤ _; ((simp only [List.length_drop] at *; omega)), o0⟩
    intro hc20
    try dsimp only at hc20
    have q0 := (sa.int 0 (by omega)).2
    have ha := Utf.ftk q0 hc20
    have hb := Utf.ftc q0
    have q1 := q0
    dsimp only [InR] at q1
    refine KC.skip (KQ.sr (KL.run 1 rfl ?_))
    refine KL.q (R.indexAddrArr (j := (m.getD 0 default).toNat) rfl Tryd.underlying235 sz5 rfl rfl (by omega) (by omega)) rfl ?_
    refine KL.ld rfl (hTa.at q0) (KL.fin 1 rfl (KQ.sr (KL.run 1 rfl (KL.q ((R.bits rfl rfl rfl rfl).val (congrArg (Value.int .u8) hb.2)) rfl ?_))))
    refine KL.q (R.convI rfl Tryd.underlying5 Tryd.underlying3 rfl (by dsimp only [InR]; omega)) rfl ?_
    refine KL.fin 1 rfl (KQ.sr (KL.run 1 rfl ?_))
    refine KL.q ((R.shr rfl rfl rfl (by omega)).val (congrArg (Value.int .u8) (Utf.shr4 _))) rfl ?_
    refine KL.q (R.indexAddrArr (j := Utf.ft (m.getD 0 default) / 16) rfl Tryd.underlying238 sz237 rfl rfl rfl ha.2) rfl (KL.lda rfl (hTa.acc ha.2) rfl ?_)
    refine KL.m (M.alloc (cs := [.int .u8 0, .int .u8 0]) rfl zr237 rfl) rfl ?_
    rintro _ H3 ⟨rfl, n3⟩
    have z3 := n3.2.1
    have o0 := o0.trans n3.1
    have sa := sa.old n3.1
    have ox := ox.trans n3.1
    have b3 := n3.2.2
    have ba := b3
    refine KL.opS (S.storeAgg (us := [.int .u8 (Utf.lo (m.getD 0 default)), .int .u8 (Utf.hi (m.getD 0 default))]) rfl sz237 rfl rfl (rfl) (by simp [Value.oneCell']) ba (by simp)) rfl rfl ?_
    rintro H4 ⟨u4, b4⟩
    have o0 := o0.upd u4 (by omega)
    have zu4 := u4.1
    have ox := ox.upd u4 (by omega)
    have ba := b4
    have sa := sa0.old ox
    refine KL.nil (KQ.sr (KL.fin 1 rfl (KQ.seq (KC.block (KC.sr (KL.fin 2 rfl (KQ.seq ?_)))))))
    refine KC.iq rfl ?_ ?_
    · intro hc83
      try dsimp only at hc83
      refine KC.seq (KC.seq (KC.quiet (by kernel_rfl) (by kernel_rfl) (KD.run 1 rfl ?_)))
      refine KD.op (by exact R.lenS rfl Tryd.underlying36 rfl sa) rfl rfl rfl ?_
      refine KD.run 2 rfl ?_
      refine KD.cq 88 rfl ?_ ?_
      · intro hg88
        try dsimp only at hg88
        refine KD.fin 15 rfl (KQ.seq (KC.condT rfl (KC.sr (KL.fin 1 rfl (KQ.seq (KC.ret (KQ.retThen (KQ.retBlock (KQ.retBlock (KQ.retThen (KQ.retBlock (KQ.retThen ?_))))))))))))
        refine KQ.ofRet (KQ.fin1 Tryd.results143 rfl ?_)
        (exact ⟨congrArg Value.bool (show false = Utf.valid l by rw [← hv]; exact (Utf.bad2 (by omega) hc20 (by omega) (by omega)).symm), o0⟩)
      intro hg88
      try dsimp only at hg88
      refine KD.run 1 rfl ?_
      refine KD.op (R.index1 (j := 1) rfl Tryd.underlying36 sz5 rfl rfl sa rfl (by omega)) rfl rfl rfl ?_
      refine KD.ld rfl ((sa.int 1 (by omega)).1) ?_
      refine KD.run 1 rfl (KD.ld rfl (cell_of ba rfl) (KD.run 3 rfl ?_))
      refine KD.cq 96 rfl ?_ ?_
      · intro hg96
        try dsimp only at hg96
        refine KD.fin 7 rfl (KQ.seq (KC.condT rfl (KC.sr (KL.fin 1 rfl (KQ.seq (KC.ret (KQ.retThen (KQ.retBlock (KQ.retBlock (KQ.retThen (KQ.retBlock (KQ.retThen ?_))))))))))))
        refine KQ.ofRet (KQ.fin1 Tryd.results143 rfl ?_)
        (exact ⟨congrArg Value.bool (show false = Utf.valid l by rw [← hv]; exact (Utf.bad2 (by omega) hc20 (by omega) (by omega)).symm), o0⟩)
      intro hg96
      try dsimp only at hg96
      refine KD.run 1 rfl (KD.ld rfl (cell_of ba rfl) (KD.run 1 rfl ?_))
      refine KD.op (R.index1 (j := 1) rfl Tryd.underlying36 sz5 rfl rfl sa rfl (by omega)) rfl rfl rfl ?_
      refine KD.ld rfl ((sa.int 1 (by omega)).1) ?_
      refine KD.fin 2 rfl (KQ.seq ?_)
      refine KC.iq rfl ?_ ?_
      · intro hc103
        try dsimp only at hc103
        refine KC.sr (KL.fin 1 rfl (KQ.seq (KC.ret (KQ.retThen (KQ.retBlock (KQ.retBlock (KQ.retThen (KQ.retBlock (KQ.retThen (KQ.ofRet (KQ.fin1 Tryd.results143 rfl ?_)))))))))))
        (exact ⟨congrArg Value.bool (show false = Utf.valid l by rw [← hv]; exact (Utf.bad2 (by omega) hc20 (by omega) (by omega)).symm), o0⟩)
      intro hc103
      try dsimp only at hc103
      refine KC.skip (KQ.r (KL.run 1 rfl ?_))
      refine KL.q (R.slice rfl Tryd.underlying36 sz5 rfl sa (bnd.mk (r := 2) rfl rfl) bnd.no (by omega) (Nat.le_refl _)) rfl ?_
      have sc : Sl 1 (EInt .u8) H4 (subV 1 (va) 2 (m).length) ((m).drop 2) := sa.tail (by omega)
      have vsc : Utf.valid ((m).drop 2) = Utf.valid l := (Utf.good2 (by omega) hc20 (by omega) (by omega)).trans hv
      have sn := sc
      have vn := vsc
      refine KL.fin 1 rfl (KQ.normBlock (KQ.normBlock ?_))
      refine KQ.again ((subV 1 (va) 2 (m).length, (m).drop 2)) ?_ ?_ ?_
      · exact Sub.all rfl
      · show _ < _; ((simp only [List.length_drop] at *; omega))
      exact ⟨sn, vn, by show _ ≤ _; ((simp only [List.length_drop] at *; omega)), o0⟩
    intro hc83
    try dsimp only at hc83
    refine KC.sr (KL.fin 2 rfl (KQ.seq ?_))
    refine KC.iq rfl ?_ ?_
    · intro hc106
      try dsimp only at hc106
      refine KC.seq (KC.seq (KC.quiet (by kernel_rfl) (by kernel_rfl) (KD.run 1 rfl ?_)))
      refine KD.op (by exact R.lenS rfl Tryd.underlying36 rfl sa) rfl rfl rfl ?_
      refine KD.run 2 rfl ?_
      refine KD.cq 111 rfl ?_ ?_
      · intro hg111
        try dsimp only at hg111
        refine KD.fin 27 rfl (KQ.seq (KC.condT rfl (KC.sr (KL.fin 1 rfl (KQ.seq (KC.ret (KQ.retThen (KQ.retBlock (KQ.retBlock (KQ.retThen (KQ.retBlock (KQ.retThen ?_))))))))))))
        refine KQ.ofRet (KQ.fin1 Tryd.results143 rfl ?_)
        (exact ⟨congrArg Value.bool (show false = Utf.valid l by rw [← hv]; exact (Utf.bad3 (by omega) hc20 (by omega) (by omega)).symm), o0⟩)
      intro hg111
      try dsimp only at hg111
      refine KD.run 1 rfl ?_
      refine KD.op (R.index1 (j := 1) rfl Tryd.underlying36 sz5 rfl rfl sa rfl (by omega)) rfl rfl rfl ?_
      refine KD.ld rfl ((sa.int 1 (by omega)).1) ?_
      refine KD.run 1 rfl (KD.ld rfl (cell_of ba rfl) (KD.run 3 rfl ?_))
      refine KD.cq 119 rfl ?_ ?_
      · intro hg119
        try dsimp only at hg119
        refine KD.fin 19 rfl (KQ.seq (KC.condT rfl (KC.sr (KL.fin 1 rfl (KQ.seq (KC.ret (KQ.retThen (KQ.retBlock (KQ.retBlock (KQ.retThen (KQ.retBlock (KQ.retThen ?_))))))))))))
        refine KQ.ofRet (KQ.fin1 Tryd.results143 rfl ?_)
        (exact ⟨congrArg Value.bool (show false = Utf.valid l by rw [← hv]; exact (Utf.bad3 (by omega) hc20 (by omega) (by omega)).symm), o0⟩)
      intro hg119
      try dsimp only at hg119
      refine KD.run 1 rfl (KD.ld rfl (cell_of ba rfl) (KD.run 1 rfl ?_))
      refine KD.op (R.index1 (j := 1) rfl Tryd.underlying36 sz5 rfl rfl sa rfl (by omega)) rfl rfl rfl ?_
      refine KD.ld rfl ((sa.int 1 (by omega)).1) ?_
      refine KD.run 3 rfl ?_
      refine KD.cq 127 rfl ?_ ?_
      · intro hg127
        try dsimp only at hg127
        refine KD.fin 11 rfl (KQ.seq (KC.condT rfl (KC.sr (KL.fin 1 rfl (KQ.seq (KC.ret (KQ.retThen (KQ.retBlock (KQ.retBlock (KQ.retThen (KQ.retBlock (KQ.retThen ?_))))))))))))
        refine KQ.ofRet (KQ.fin1 Tryd.results143 rfl ?_)
        (exact ⟨congrArg Value.bool (show false = Utf.valid l by rw [← hv]; exact (Utf.bad3 (by omega) hc20 (by omega) (by omega)).symm), o0⟩)
      intro hg127
      try dsimp only at hg127
      refine KD.run 1 rfl ?_
      refine KD.op (R.index1 (j := 2) rfl Tryd.underlying36 sz5 rfl rfl sa rfl (by omega)) rfl rfl rfl ?_
      refine KD.ld rfl ((sa.int 2 (by omega)).1) ?_
      refine KD.run 3 rfl ?_
      refine KD.cq 133 rfl ?_ ?_
      · intro hg133
        try dsimp only at hg133
        refine KD.fin 5 rfl (KQ.seq (KC.condT rfl (KC.sr (KL.fin 1 rfl (KQ.seq (KC.ret (KQ.retThen (KQ.retBlock (KQ.retBlock (KQ.retThen (KQ.retBlock (KQ.retThen ?_))))))))))))
        refine KQ.ofRet (KQ.fin1 Tryd.results143 rfl ?_)
        (exact ⟨congrArg Value.bool (show false = Utf.valid l by rw [← hv]; exact (Utf.bad3 (by omega) hc20 (by omega) (by omega)).symm), o0⟩)
      intro hg133
      try dsimp only at hg133
      refine KD.run 1 rfl ?_
      refine KD.op (R.index1 (j := 2) rfl Tryd.underlying36 sz5 rfl rfl sa rfl (by omega)) rfl rfl rfl ?_
      refine KD.ld rfl ((sa.int 2 (by omega)).1) ?_
      refine KD.fin 2 rfl (KQ.seq ?_)
      refine KC.iq rfl ?_ ?_
      · intro hc138
        try dsimp only at hc138
        refine KC.sr (KL.fin 1 rfl (KQ.seq (KC.ret (KQ.retThen (KQ.retBlock (KQ.retBlock (KQ.retThen (KQ.retBlock (KQ.retThen (KQ.ofRet (KQ.fin1 Tryd.results143 rfl ?_)))))))))))
        (exact ⟨congrArg Value.bool (show false = Utf.valid l by rw [← hv]; exact (Utf.bad3 (by omega) hc20 (by omega) (by omega)).symm), o0⟩)
      intro hc138
      try dsimp only at hc138
      refine KC.skip (KQ.r (KL.run 1 rfl ?_))
      refine KL.q (R.slice rfl Tryd.underlying36 sz5 rfl sa (bnd.mk (r := 3) rfl rfl) bnd.no (by omega) (Nat.le_refl _)) rfl ?_
      have sc : Sl 1 (EInt .u8) H4 (subV 1 (va) 3 (m).length) ((m).drop 3) := sa.tail (by omega)
      have vsc : Utf.valid ((m).drop 3) = Utf.valid l := (Utf.good3 (by omega) hc20 (by omega) (by omega)).trans hv
      have sn := sc
      have vn := vsc
      refine KL.fin 1 rfl (KQ.normBlock (KQ.normBlock ?_))
      refine KQ.again ((subV 1 (va) 3 (m).length, (m).drop 3)) ?_ ?_ ?_
      · exact Sub.all rfl
      · show _ < _; ((simp only [List.length_drop] at *; omega))
      exact ⟨sn, vn, by show _ ≤ _; ((simp only [List.length_drop] at *; omega)), o0⟩
    intro hc106
    try dsimp only at hc106
    refine KC.sr (KL.fin 2 rfl (KQ.seq ?_))
    refine KC.iq rfl ?_ ?_
    · intro hc141
      try dsimp only at hc141
      refine KC.seq (KC.seq (KC.quiet (by kernel_rfl) (by kernel_rfl) (KD.run 1 rfl ?_)))
      refine KD.op (by exact R.lenS rfl Tryd.underlying36 rfl sa) rfl rfl rfl ?_
      refine KD.run 2 rfl ?_
      refine KD.cq 146 rfl ?_ ?_
      · intro hg146
        try dsimp only at hg146
        refine KD.fin 39 rfl (KQ.seq (KC.condT rfl (KC.sr (KL.fin 1 rfl (KQ.seq (KC.ret (KQ.retThen (KQ.retBlock (KQ.retBlock (KQ.retThen (KQ.retBlock (KQ.retThen ?_))))))))))))
        refine KQ.ofRet (KQ.fin1 Tryd.results143 rfl ?_)
        (exact ⟨congrArg Value.bool (show false = Utf.valid l by rw [← hv]; exact (Utf.bad4 (by omega) hc20 (by omega) (by omega)).symm), o0⟩)
      intro hg146
      try dsimp only at hg146
      refine KD.run 1 rfl ?_
      refine KD.op (R.index1 (j := 1) rfl Tryd.underlying36 sz5 rfl rfl sa rfl (by omega)) rfl rfl rfl ?_
      refine KD.ld rfl ((sa.int 1 (by omega)).1) ?_
      refine KD.run 1 rfl (KD.ld rfl (cell_of ba rfl) (KD.run 3 rfl ?_))
      refine KD.cq 154 rfl ?_ ?_
      · intro hg154
        try dsimp only at hg154
        refine KD.fin 31 rfl (KQ.seq (KC.condT rfl (KC.sr (KL.fin 1 rfl (KQ.seq (KC.ret (KQ.retThen (KQ.retBlock (KQ.retBlock (KQ.retThen (KQ.retBlock (KQ.retThen ?_))))))))))))
        refine KQ.ofRet (KQ.fin1 Tryd.results143 rfl ?_)
        (exact ⟨congrArg Value.bool (show false = Utf.valid l by rw [← hv]; exact (Utf.bad4 (by omega) hc20 (by omega) (by omega)).symm), o0⟩)
      intro hg154
      try dsimp only at hg154
      refine KD.run 1 rfl (KD.ld rfl (cell_of ba rfl) (KD.run 1 rfl ?_))
      refine KD.op (R.index1 (j := 1) rfl Tryd.underlying36 sz5 rfl rfl sa rfl (by omega)) rfl rfl rfl ?_
      refine KD.ld rfl ((sa.int 1 (by omega)).1) ?_
      refine KD.run 3 rfl ?_
      refine KD.cq 162 rfl ?_ ?_
      · intro hg162
        try dsimp only at hg162
        refine KD.fin 23 rfl (KQ.seq (KC.condT rfl (KC.sr (KL.fin 1 rfl (KQ.seq (KC.ret (KQ.retThen (KQ.retBlock (KQ.retBlock (KQ.retThen (KQ.retBlock (KQ.retThen ?_))))))))))))
        refine KQ.ofRet (KQ.fin1 Tryd.results143 rfl ?_)
        (exact ⟨congrArg Value.bool (show false = Utf.valid l by rw [← hv]; exact (Utf.bad4 (by omega) hc20 (by omega) (by omega)).symm), o0⟩)
      intro hg162
      try dsimp only at hg162
      refine KD.run 1 rfl ?_
      refine KD.op (R.index1 (j := 2) rfl Tryd.underlying36 sz5 rfl rfl sa rfl (by omega)) rfl rfl rfl ?_
      refine KD.ld rfl ((sa.int 2 (by omega)).1) ?_
      refine KD.run 3 rfl ?_
      refine KD.cq 168 rfl ?_ ?_
      · intro hg168
        try dsimp only at hg168
        refine KD.fin 17 rfl (KQ.seq (KC.condT rfl (KC.sr (KL.fin 1 rfl (KQ.seq (KC.ret (KQ.retThen (KQ.retBlock (KQ.retBlock (KQ.retThen (KQ.retBlock (KQ.retThen ?_))))))))))))
        refine KQ.ofRet (KQ.fin1 Tryd.results143 rfl ?_)
        (exact ⟨congrArg Value.bool (show false = Utf.valid l by rw [← hv]; exact (Utf.bad4 (by omega) hc20 (by omega) (by omega)).symm), o0⟩)
      intro hg168
      try dsimp only at hg168
      refine KD.run 1 rfl ?_
      refine KD.op (R.index1 (j := 2) rfl Tryd.underlying36 sz5 rfl rfl sa rfl (by omega)) rfl rfl rfl ?_
      refine KD.ld rfl ((sa.int 2 (by omega)).1) ?_
      refine KD.run 3 rfl ?_
      refine KD.cq 174 rfl ?_ ?_
      · intro hg174
        try dsimp only at hg174
        refine KD.fin 11 rfl (KQ.seq (KC.condT rfl (KC.sr (KL.fin 1 rfl (KQ.seq (KC.ret (KQ.retThen (KQ.retBlock (KQ.retBlock (KQ.retThen (KQ.retBlock (KQ.retThen ?_))))))))))))
        refine KQ.ofRet (KQ.fin1 Tryd.results143 rfl ?_)
        (exact ⟨congrArg Value.bool (show false = Utf.valid l by rw [← hv]; exact (Utf.bad4 (by omega) hc20 (by omega) (by omega)).symm), o0⟩)
      intro hg174
      try dsimp only at hg174
      refine KD.run 1 rfl ?_
      refine KD.op (R.index1 (j := 3) rfl Tryd.underlying36 sz5 rfl rfl sa rfl (by omega)) rfl rfl rfl ?_
      refine KD.ld rfl ((sa.int 3 (by omega)).1) ?_
      refine KD.run 3 rfl ?_
      refine KD.cq 180 rfl ?_ ?_
      · intro hg180
        try dsimp only at hg180
        refine KD.fin 5 rfl (KQ.seq (KC.condT rfl (KC.sr (KL.fin 1 rfl (KQ.seq (KC.ret (KQ.retThen (KQ.retBlock (KQ.retBlock (KQ.retThen (KQ.retBlock (KQ.retThen ?_))))))))))))
        refine KQ.ofRet (KQ.fin1 Tryd.results143 rfl ?_)
        (exact ⟨congrArg Value.bool (show false = Utf.valid l by rw [← hv]; exact (Utf.bad4 (by omega) hc20 (by omega) (by omega)).symm), o0⟩)
      intro hg180
      try dsimp only at hg180
      refine KD.run 1 rfl ?_
      refine KD.op (R.index1 (j := 3) rfl Tryd.underlying36 sz5 rfl rfl sa rfl (by omega)) rfl rfl rfl ?_
      refine KD.ld rfl ((sa.int 3 (by omega)).1) ?_
      refine KD.fin 2 rfl (KQ.seq ?_)
      refine KC.iq rfl ?_ ?_
      · intro hc185
        try dsimp only at hc185
        refine KC.sr (KL.fin 1 rfl (KQ.seq (KC.ret (KQ.retThen (KQ.retBlock (KQ.retBlock (KQ.retThen (KQ.retBlock (KQ.retThen (KQ.ofRet (KQ.fin1 Tryd.results143 rfl ?_)))))))))))
        (exact ⟨congrArg Value.bool (show false = Utf.valid l by rw [← hv]; exact (Utf.bad4 (by omega) hc20 (by omega) (by omega)).symm), o0⟩)
      intro hc185
      try dsimp only at hc185
      refine KC.skip (KQ.r (KL.run 1 rfl ?_))
      refine KL.q (R.slice rfl Tryd.underlying36 sz5 rfl sa (bnd.mk (r := 4) rfl rfl) bnd.no (by omega) (Nat.le_refl _)) rfl ?_
      have sc : Sl 1 (EInt .u8) H4 (subV 1 (va) 4 (m).length) ((m).drop 4) := sa.tail (by omega)
      have vsc : Utf.valid ((m).drop 4) = Utf.valid l := (Utf.good4 (by omega) hc20 (by omega) (by omega)).trans hv
      have sn := sc
      have vn := vsc
      refine KL.fin 1 rfl (KQ.normBlock (KQ.normBlock ?_))
      refine KQ.again ((subV 1 (va) 4 (m).length, (m).drop 4)) ?_ ?_ ?_
      · exact Sub.all rfl
      · show _ < _; ((simp only [List.length_drop] at *; omega))
      exact ⟨sn, vn, by show _ ≤ _; ((simp only [List.length_drop] at *; omega)), o0⟩
    intro hc141
    try dsimp only at hc141
    refine KC.sr (KL.fin 1 rfl (KQ.seq (KC.ret (KQ.retBlock (KQ.retBlock (KQ.retThen (KQ.retBlock (KQ.retThen (KQ.ofRet (KQ.fin1 Tryd.results143 rfl ?_))))))))))
    (exact ⟨congrArg Value.bool (show false = Utf.valid l by rw [← hv]; exact (Utf.bad1 (by omega) hc20 (by omega)).symm), o0⟩)
  intro hc15
  try dsimp only at hc15
  refine KC.exit (KQ.exitThen (KQ.exitThen (KQ.hit (KQ.sr (KL.fin 1 rfl (KQ.seq (KC.ret (KQ.ofRet (KQ.fin1 Tryd.results143 rfl ?_)))))))))
  (exact ⟨congrArg Value.bool (show true = Utf.valid l by rw [← hv]; exact (Utf.valid_nil (by omega)).symm), o0⟩)
end Go.Proofs.YtldmfchamcpmmaaDoor
namespace Go.Proofs.YtldmfchamcpmmaaDoor
open Go Go.RowKit
set_option linter.unusedVariables false
set_option linter.unusedSimpArgs false
set_option linter.unnecessarySimpa false
theorem One_any {H : Heap} (v : Value) (l : List Int) (hs : Sl 1 (EInt .u8) H v l) (h0 : 0 < l.length) : Ct Tryd.prog 130 [v] H (fun u H' => u = .int .i64 (Utf.chr l : Nat) ∧ H = H') := by
  refine Ct.mk Tryd.func130 rfl Tryd.ntmps130 rfl ?_
  intro W0 hW0
  have o0 : Old H H := Old.refl H
  have q0 := (hs.int 0 h0).2
  have q1 := q0
  dsimp only [InR] at q1
  refine KC.sr (KL.fin 1 rfl (KQ.sr (KL.run 1 rfl ?_)))
  refine KL.q (R.index1 (j := 0) rfl Tryd.underlying36 sz5 rfl rfl hs rfl (by omega)) rfl ?_
  refine KL.ld rfl ((hs.int 0 (by omega)).1) ?_
  refine KL.q (R.convI rfl Tryd.underlying5 Tryd.underlying28 rfl (by dsimp only [InR]; omega)) rfl ?_
  refine KL.fin 1 rfl (KQ.sr (KL.fin 1 rfl (KQ.sr (KL.fin 1 rfl (KQ.seq (KC.seq (KC.block (KC.sr ?_))))))))
  refine KL.fin 3 rfl (KQ.seq ?_)
  refine KC.iq rfl ?_ ?_
  · intro hc11
    refine KC.skip (KQ.normBlock (KQ.seq (KC.seq (KC.sr (KL.run 1 rfl ?_)))))
    refine KL.q (by exact R.lenS rfl Tryd.underlying36 rfl hs) rfl ?_
    refine KL.fin 2 rfl (KQ.seq ?_)
    refine KC.iq rfl ?_ ?_
    · intro hc44
      refine KC.sr (KL.fin 1 rfl (KQ.seq (KC.ret (KQ.retThen (KQ.ofRet (KQ.fin1 Tryd.results130 rfl ?_))))))
      (exact ⟨congrArg (Value.int .i64) (show (0 : Int) = ((Utf.chr l : Nat) : Int) by rw [Utf.chr0 q0 (by omega)]; rfl), rfl⟩)
    intro hc44
    refine KC.skip (KQ.seq (KC.seq (KC.sr (KL.fin 1 rfl (KQ.seq (KC.block ?_))))))
    refine KC.loopD (κ := Nat × Int) [45, 46, 47, 50, 51, 52, 53, 54, 55, 56, 57, 58, 59, 60, 61, 2, 62, 63, 64, 65, 66, 67, 68, 69, 70, 3, 48, 49, 6] (fun k => [(6, .int .i64 (k.1 : Nat)), (3, .int .u32 k.2)]) (fun k Hl => H = Hl ∧ 1 ≤ k.1 ∧ k.1 ≤ 1 ∧ k.2 = Utf.cp ((l.getD 0 default)) l k.1 ∧ (∀ j, 1 ≤ j → j < k.1 → 128 ≤ l.getD j default ∧ l.getD j default ≤ 191)) (fun k => 1 - k.1) (1, (l.getD 0 default)) ?_ ?_ ?_
    · exact Sub.all rfl
    · exact ⟨rfl, Nat.le_refl _, by show 1 ≤ 1; omega, rfl, (fun j h1 h2 => absurd h2 (by show ¬ j < 1; omega))⟩
    rintro ⟨k, cc⟩ H1 ⟨rfl, hk1, hkn, hcp, hco⟩
    dsimp only at hk1 hkn hcp hco
    refine KC.seq (KC.sr (KL.fin 3 rfl (KQ.seq ?_)))
    refine KC.iq rfl ?_ ?_
    · intro hc47
      try dsimp only at hc47
      exfalso; omega
    intro hc47
    try dsimp only at hc47
    have ek : k = 1 := (by omega)
    subst ek
    simp only [Utf.cp, Nat.zero_add, Nat.reduceAdd] at hcp
    refine KC.exit (KQ.exitThen (KQ.exitThen (KQ.hit (KQ.seq (KC.seq (KC.sr (KL.run 4 rfl ?_)))))))
    refine KL.cq 74 rfl ?_ ?_
    · intro hg74
      try dsimp only at hg74
      refine KL.fin 11 rfl (KQ.seq (KC.condT rfl (KC.sr (KL.fin 1 rfl (KQ.seq (KC.ret (KQ.retThen (KQ.ofRet (KQ.fin1 Tryd.results130 rfl ?_)))))))))
      (exact ⟨congrArg (Value.int .i64) (show (0 : Int) = ((Utf.chr l : Nat) : Int) by rw [Utf.chr0 q0 (by omega)]; rfl), rfl⟩)
    intro hg74
    try dsimp only at hg74
    refine KL.run 4 rfl ?_
    refine KL.cq 78 rfl ?_ ?_
    · intro hg78
      try dsimp only at hg78
      refine KL.fin 7 rfl (KQ.seq (KC.condT rfl (KC.sr (KL.fin 1 rfl (KQ.seq (KC.ret (KQ.retThen (KQ.ofRet (KQ.fin1 Tryd.results130 rfl ?_)))))))))
      (exact ⟨congrArg (Value.int .i64) (show (0 : Int) = ((Utf.chr l : Nat) : Int) by rw [Utf.chr0 q0 (by omega)]; rfl), rfl⟩)
    intro hg78
    try dsimp only at hg78
    refine KL.run 3 rfl ?_
    refine KL.cq 81 rfl ?_ ?_
    · intro hg81
      try dsimp only at hg81
      refine KL.fin 4 rfl (KQ.seq ?_)
      refine KC.iq rfl ?_ ?_
      · intro hc85
        try dsimp only at hc85
        refine KC.sr (KL.fin 1 rfl (KQ.seq (KC.ret (KQ.retThen (KQ.ofRet (KQ.fin1 Tryd.results130 rfl ?_))))))
        (exact ⟨congrArg (Value.int .i64) (show (0 : Int) = ((Utf.chr l : Nat) : Int) by rw [Utf.chr0 q0 (by omega)]; rfl), rfl⟩)
      intro hc85
      try dsimp only at hc85
      refine KC.skip (KQ.sr (KL.fin 2 rfl (KQ.seq (KC.ret (KQ.ofRet (KQ.fin1 Tryd.results130 rfl ?_))))))
      (exact ⟨congrArg (Value.int .i64) (show (1 : Int) = ((Utf.chr l : Nat) : Int) by rw [Utf.chr1 (by omega)]; rfl), rfl⟩)
    intro hg81
    try dsimp only at hg81
    refine KL.fin 4 rfl (KQ.seq (KC.condF rfl (KC.skip (KQ.sr (KL.fin 2 rfl (KQ.seq (KC.ret (KQ.ofRet (KQ.fin1 Tryd.results130 rfl ?_)))))))))
    (exact ⟨congrArg (Value.int .i64) (show (1 : Int) = ((Utf.chr l : Nat) : Int) by rw [Utf.chr1 (by omega)]; rfl), rfl⟩)
  intro hc11
  refine KC.sr (KL.run 3 rfl ?_)
  refine KL.cq 17 rfl ?_ ?_
  · intro hg17
    try dsimp only at hg17
    refine KL.fin 4 rfl (KQ.seq ?_)
    refine KC.iq rfl ?_ ?_
    · intro hc14
      try dsimp only at hc14
      refine KC.sr (KL.fin 1 rfl (KQ.sr (KL.run 1 rfl ?_)))
      refine KL.q (R.sub rfl rfl rfl (by dsimp only [InR]; omega)) rfl ?_
      refine KL.fin 1 rfl (KQ.r (KL.fin 1 rfl (KQ.normBlock (KQ.seq (KC.seq (KC.sr (KL.run 1 rfl ?_)))))))
      refine KL.q (by exact R.lenS rfl Tryd.underlying36 rfl hs) rfl ?_
      refine KL.fin 2 rfl (KQ.seq ?_)
      refine KC.iq rfl ?_ ?_
      · intro hc44
        try dsimp only at hc44
        refine KC.sr (KL.fin 1 rfl (KQ.seq (KC.ret (KQ.retThen (KQ.ofRet (KQ.fin1 Tryd.results130 rfl ?_))))))
        (exact ⟨congrArg (Value.int .i64) (show (0 : Int) = ((Utf.chr l : Nat) : Int) by rw [Utf.chr2 q0 (by omega), if_pos (by omega)]; rfl), rfl⟩)
      intro hc44
      try dsimp only at hc44
      refine KC.skip (KQ.seq (KC.seq (KC.sr (KL.fin 1 rfl (KQ.seq (KC.block ?_))))))
      refine KC.loopD (κ := Nat × Int) [45, 46, 47, 50, 51, 52, 53, 54, 55, 56, 57, 58, 59, 60, 61, 2, 62, 63, 64, 65, 66, 67, 68, 69, 70, 3, 48, 49, 6] (fun k => [(6, .int .i64 (k.1 : Nat)), (3, .int .u32 k.2)]) (fun k Hl => H = Hl ∧ 1 ≤ k.1 ∧ k.1 ≤ 2 ∧ k.2 = Utf.cp ((l.getD 0 default) - 192) l k.1 ∧ (∀ j, 1 ≤ j → j < k.1 → 128 ≤ l.getD j default ∧ l.getD j default ≤ 191) ∧ 0 ≤ k.2 ∧ k.2 < Utf.bd k.1) (fun k => 2 - k.1) (1, (l.getD 0 default) - 192) ?_ ?_ ?_
      · exact Sub.all rfl
      · exact ⟨rfl, Nat.le_refl _, by show 1 ≤ 2; omega, rfl, (fun j h1 h2 => absurd h2 (by show ¬ j < 1; omega)), by show 0 ≤ (l.getD 0 default) - 192; omega, by show (l.getD 0 default) - 192 < 32; omega⟩
      rintro ⟨k, cc⟩ H2 ⟨rfl, hk1, hkn, hcp, hco, hc0, hc1⟩
      dsimp only at hk1 hkn hcp hco hc0 hc1
      refine KC.seq (KC.sr (KL.fin 3 rfl (KQ.seq ?_)))
      refine KC.iq rfl ?_ ?_
      · intro hc47
        try dsimp only at hc47
        refine KC.skip (KQ.seq (KC.seq (KC.block (KC.seq (KC.sr (KL.run 2 rfl ?_))))))
        have qk := (hs.int k (by omega)).2
        dsimp only [InR] at qk
        have hbd := Utf.bd_succ hk1 (show k < 4 by omega)
        refine KL.q (R.index1 (j := k) rfl Tryd.underlying36 sz5 rfl rfl hs rfl (by omega)) rfl ?_
        refine KL.ld rfl ((hs.int k (by omega)).1) ?_
        refine KL.run 2 rfl ?_
        refine KL.cq 55 rfl ?_ ?_
        · intro hg55
          try dsimp only at hg55
          refine KL.fin 6 rfl (KQ.seq (KC.condT rfl (KC.seq ?_)))
          have hba := Utf.bad_at (l := l) (k := k) hk1 (by omega) (by omega)
          refine KC.region (KL.fin 1 rfl (KQ.seq (KC.ret (KQ.retThen (KQ.retBlock (KQ.retThen (KQ.retThen (KQ.retBlock (KQ.retThen (KQ.ofRet (KQ.fin1 Tryd.results130 rfl ?_)))))))))))
          (exact ⟨congrArg (Value.int .i64) (show (0 : Int) = ((Utf.chr l : Nat) : Int) by rw [Utf.chr2 q0 (by omega), if_pos (by omega)]; rfl), rfl⟩)
        intro hg55
        try dsimp only at hg55
        refine KL.run 2 rfl ?_
        refine KL.q (R.index1 (j := k) rfl Tryd.underlying36 sz5 rfl rfl hs rfl (by omega)) rfl ?_
        refine KL.ld rfl ((hs.int k (by omega)).1) ?_
        refine KL.fin 2 rfl (KQ.seq ?_)
        refine KC.iq rfl ?_ ?_
        · intro hc61
          try dsimp only at hc61
          refine KC.seq ?_
          have hba := Utf.bad_at (l := l) (k := k) hk1 (by omega) (by omega)
          refine KC.region (KL.fin 1 rfl (KQ.seq (KC.ret (KQ.retThen (KQ.retBlock (KQ.retThen (KQ.retThen (KQ.retBlock (KQ.retThen (KQ.ofRet (KQ.fin1 Tryd.results130 rfl ?_)))))))))))
          (exact ⟨congrArg (Value.int .i64) (show (0 : Int) = ((Utf.chr l : Nat) : Int) by rw [Utf.chr2 q0 (by omega), if_pos (by omega)]; rfl), rfl⟩)
        intro hc61
        try dsimp only at hc61
        refine KC.skip (KQ.r (KL.run 1 rfl ?_))
        refine KL.q (R.mul rfl rfl rfl (by dsimp only [InR]; omega)) rfl ?_
        refine KL.run 2 rfl ?_
        refine KL.q (R.index1 (j := k) rfl Tryd.underlying36 sz5 rfl rfl hs rfl (by omega)) rfl ?_
        refine KL.ld rfl ((hs.int k (by omega)).1) ?_
        refine KL.q (R.convI rfl Tryd.underlying5 Tryd.underlying28 rfl (by dsimp only [InR]; omega)) rfl ?_
        refine KL.q (R.add rfl rfl rfl (by dsimp only [InR]; omega)) rfl ?_
        refine KL.q (R.sub rfl rfl rfl (by dsimp only [InR]; omega)) rfl ?_
        refine KL.fin 1 rfl (KQ.normBlock (KQ.r (KL.run 1 rfl ?_)))
        refine KL.q ((R.add rfl rfl rfl (by dsimp only [InR]; omega)).val (congrArg (Value.int .i64) (show _ = ((k + 1 : Nat) : Int) from by omega))) rfl ?_
        refine KL.fin 1 rfl ?_
        refine KQ.again ((k + 1, 64 * cc + l.getD k default - 128)) ?_ ?_ ?_
        · exact Sub.all rfl
        · show 2 - (k + 1) < 2 - k; omega
        exact ⟨rfl, by show 1 ≤ k + 1; omega, by show k + 1 ≤ 2; omega, (by show _ = Utf.cp _ l (k + 1); rw [Utf.cp_succ _ _ hk1, ← hcp]), (fun j h1 h2 => by
              by_cases e : j = k
              · subst e; omega
              exact hco j h1 (by have h2 : j < k + 1 := h2; omega)), (by show 0 ≤ 64 * cc + _ - 128; omega), (by show 64 * cc + _ - 128 < Utf.bd (k + 1); rw [hbd.1]; omega)⟩
      intro hc47
      try dsimp only at hc47
      have ek : k = 2 := (by omega)
      subst ek
      have ho1 := hco 1 (by omega) (by omega)
      simp only [Utf.cp, Nat.zero_add, Nat.reduceAdd] at hcp
      refine KC.exit (KQ.exitThen (KQ.exitThen (KQ.hit (KQ.seq (KC.seq (KC.sr (KL.run 4 rfl ?_)))))))
      refine KL.cq 74 rfl ?_ ?_
      · intro hg74
        try dsimp only at hg74
        refine KL.fin 11 rfl (KQ.seq (KC.condT rfl (KC.sr (KL.fin 1 rfl (KQ.seq (KC.ret (KQ.retThen (KQ.ofRet (KQ.fin1 Tryd.results130 rfl ?_)))))))))
        (exact ⟨congrArg (Value.int .i64) (show (0 : Int) = ((Utf.chr l : Nat) : Int) by rw [Utf.chr2 q0 (by omega), if_pos (by omega)]; rfl), rfl⟩)
      intro hg74
      try dsimp only at hg74
      refine KL.run 4 rfl ?_
      refine KL.cq 78 rfl ?_ ?_
      · intro hg78
        try dsimp only at hg78
        refine KL.fin 7 rfl (KQ.seq (KC.condT rfl (KC.sr (KL.fin 1 rfl (KQ.seq (KC.ret (KQ.retThen (KQ.ofRet (KQ.fin1 Tryd.results130 rfl ?_)))))))))
        (exact ⟨congrArg (Value.int .i64) (show (0 : Int) = ((Utf.chr l : Nat) : Int) by rw [Utf.chr0 q0 (by omega)]; rfl), rfl⟩)
      intro hg78
      try dsimp only at hg78
      refine KL.run 3 rfl ?_
      refine KL.cq 81 rfl ?_ ?_
      · intro hg81
        try dsimp only at hg81
        refine KL.fin 4 rfl (KQ.seq ?_)
        refine KC.iq rfl ?_ ?_
        · intro hc85
          try dsimp only at hc85
          refine KC.sr (KL.fin 1 rfl (KQ.seq (KC.ret (KQ.retThen (KQ.ofRet (KQ.fin1 Tryd.results130 rfl ?_))))))
          (exact ⟨congrArg (Value.int .i64) (show (0 : Int) = ((Utf.chr l : Nat) : Int) by rw [Utf.chr0 q0 (by omega)]; rfl), rfl⟩)
        intro hc85
        try dsimp only at hc85
        refine KC.skip (KQ.sr (KL.fin 2 rfl (KQ.seq (KC.ret (KQ.ofRet (KQ.fin1 Tryd.results130 rfl ?_))))))
        (exact ⟨congrArg (Value.int .i64) (show (2 : Int) = ((Utf.chr l : Nat) : Int) by rw [Utf.chr2 q0 (by omega), if_neg (by omega)]; rfl), rfl⟩)
      intro hg81
      try dsimp only at hg81
      refine KL.fin 4 rfl (KQ.seq (KC.condF rfl (KC.skip (KQ.sr (KL.fin 2 rfl (KQ.seq (KC.ret (KQ.ofRet (KQ.fin1 Tryd.results130 rfl ?_)))))))))
      (exact ⟨congrArg (Value.int .i64) (show (2 : Int) = ((Utf.chr l : Nat) : Int) by rw [Utf.chr2 q0 (by omega), if_neg (by omega)]; rfl), rfl⟩)
    intro hc14
    try dsimp only at hc14
    refine KC.sr (KL.run 3 rfl ?_)
    refine KL.cq 26 rfl ?_ ?_
    · intro hg26
      try dsimp only at hg26
      refine KL.fin 4 rfl (KQ.seq ?_)
      refine KC.iq rfl ?_ ?_
      · intro hc23
        try dsimp only at hc23
        refine KC.sr (KL.fin 1 rfl (KQ.sr (KL.run 1 rfl ?_)))
        refine KL.q (R.sub rfl rfl rfl (by dsimp only [InR]; omega)) rfl ?_
        refine KL.fin 1 rfl (KQ.r (KL.fin 1 rfl (KQ.normBlock (KQ.seq (KC.seq (KC.sr (KL.run 1 rfl ?_)))))))
        refine KL.q (by exact R.lenS rfl Tryd.underlying36 rfl hs) rfl ?_
        refine KL.fin 2 rfl (KQ.seq ?_)
        refine KC.iq rfl ?_ ?_
        · intro hc44
          try dsimp only at hc44
          refine KC.sr (KL.fin 1 rfl (KQ.seq (KC.ret (KQ.retThen (KQ.ofRet (KQ.fin1 Tryd.results130 rfl ?_))))))
          (exact ⟨congrArg (Value.int .i64) (show (0 : Int) = ((Utf.chr l : Nat) : Int) by rw [Utf.chr3 q0 (by omega), if_pos (by omega)]; rfl), rfl⟩)
        intro hc44
        try dsimp only at hc44
        refine KC.skip (KQ.seq (KC.seq (KC.sr (KL.fin 1 rfl (KQ.seq (KC.block ?_))))))
        refine KC.loopD (κ := Nat × Int) [45, 46, 47, 50, 51, 52, 53, 54, 55, 56, 57, 58, 59, 60, 61, 2, 62, 63, 64, 65, 66, 67, 68, 69, 70, 3, 48, 49, 6] (fun k => [(6, .int .i64 (k.1 : Nat)), (3, .int .u32 k.2)]) (fun k Hl => H = Hl ∧ 1 ≤ k.1 ∧ k.1 ≤ 3 ∧ k.2 = Utf.cp ((l.getD 0 default) - 224) l k.1 ∧ (∀ j, 1 ≤ j → j < k.1 → 128 ≤ l.getD j default ∧ l.getD j default ≤ 191) ∧ 0 ≤ k.2 ∧ k.2 < Utf.bd k.1) (fun k => 3 - k.1) (1, (l.getD 0 default) - 224) ?_ ?_ ?_
        · exact Sub.all rfl
        · exact ⟨rfl, Nat.le_refl _, by show 1 ≤ 3; omega, rfl, (fun j h1 h2 => absurd h2 (by show ¬ j < 1; omega)), by show 0 ≤ (l.getD 0 default) - 224; omega, by show (l.getD 0 default) - 224 < 32; omega⟩
        rintro ⟨k, cc⟩ H3 ⟨rfl, hk1, hkn, hcp, hco, hc0, hc1⟩
        dsimp only at hk1 hkn hcp hco hc0 hc1
        refine KC.seq (KC.sr (KL.fin 3 rfl (KQ.seq ?_)))
        refine KC.iq rfl ?_ ?_
        · intro hc47
          try dsimp only at hc47
          refine KC.skip (KQ.seq (KC.seq (KC.block (KC.seq (KC.sr (KL.run 2 rfl ?_))))))
          have qk := (hs.int k (by omega)).2
          dsimp only [InR] at qk
          have hbd := Utf.bd_succ hk1 (show k < 4 by omega)
          refine KL.q (R.index1 (j := k) rfl Tryd.underlying36 sz5 rfl rfl hs rfl (by omega)) rfl ?_
          refine KL.ld rfl ((hs.int k (by omega)).1) ?_
          refine KL.run 2 rfl ?_
          refine KL.cq 55 rfl ?_ ?_
          · intro hg55
            try dsimp only at hg55
            refine KL.fin 6 rfl (KQ.seq (KC.condT rfl (KC.seq ?_)))
            have hba := Utf.bad_at (l := l) (k := k) hk1 (by omega) (by omega)
            refine KC.region (KL.fin 1 rfl (KQ.seq (KC.ret (KQ.retThen (KQ.retBlock (KQ.retThen (KQ.retThen (KQ.retBlock (KQ.retThen (KQ.ofRet (KQ.fin1 Tryd.results130 rfl ?_)))))))))))
            (exact ⟨congrArg (Value.int .i64) (show (0 : Int) = ((Utf.chr l : Nat) : Int) by rw [Utf.chr3 q0 (by omega), if_pos (by omega)]; rfl), rfl⟩)
          intro hg55
          try dsimp only at hg55
          refine KL.run 2 rfl ?_
          refine KL.q (R.index1 (j := k) rfl Tryd.underlying36 sz5 rfl rfl hs rfl (by omega)) rfl ?_
          refine KL.ld rfl ((hs.int k (by omega)).1) ?_
          refine KL.fin 2 rfl (KQ.seq ?_)
          refine KC.iq rfl ?_ ?_
          · intro hc61
            try dsimp only at hc61
            refine KC.seq ?_
            have hba := Utf.bad_at (l := l) (k := k) hk1 (by omega) (by omega)
            refine KC.region (KL.fin 1 rfl (KQ.seq (KC.ret (KQ.retThen (KQ.retBlock (KQ.retThen (KQ.retThen (KQ.retBlock (KQ.retThen (KQ.ofRet (KQ.fin1 Tryd.results130 rfl ?_)))))))))))
            (exact ⟨congrArg (Value.int .i64) (show (0 : Int) = ((Utf.chr l : Nat) : Int) by rw [Utf.chr3 q0 (by omega), if_pos (by omega)]; rfl), rfl⟩)
          intro hc61
          try dsimp only at hc61
          refine KC.skip (KQ.r (KL.run 1 rfl ?_))
          refine KL.q (R.mul rfl rfl rfl (by dsimp only [InR]; omega)) rfl ?_
          refine KL.run 2 rfl ?_
          refine KL.q (R.index1 (j := k) rfl Tryd.underlying36 sz5 rfl rfl hs rfl (by omega)) rfl ?_
          refine KL.ld rfl ((hs.int k (by omega)).1) ?_
          refine KL.q (R.convI rfl Tryd.underlying5 Tryd.underlying28 rfl (by dsimp only [InR]; omega)) rfl ?_
          refine KL.q (R.add rfl rfl rfl (by dsimp only [InR]; omega)) rfl ?_
          refine KL.q (R.sub rfl rfl rfl (by dsimp only [InR]; omega)) rfl ?_
          refine KL.fin 1 rfl (KQ.normBlock (KQ.r (KL.run 1 rfl ?_)))
          refine KL.q ((R.add rfl rfl rfl (by dsimp only [InR]; omega)).val (congrArg (Value.int .i64) (show _ = ((k + 1 : Nat) : Int) from by omega))) rfl ?_
          refine KL.fin 1 rfl ?_
          refine KQ.again ((k + 1, 64 * cc + l.getD k default - 128)) ?_ ?_ ?_
          · exact Sub.all rfl
          · show 3 - (k + 1) < 3 - k; omega
          exact ⟨rfl, by show 1 ≤ k + 1; omega, by show k + 1 ≤ 3; omega, (by show _ = Utf.cp _ l (k + 1); rw [Utf.cp_succ _ _ hk1, ← hcp]), (fun j h1 h2 => by
                by_cases e : j = k
                · subst e; omega
                exact hco j h1 (by have h2 : j < k + 1 := h2; omega)), (by show 0 ≤ 64 * cc + _ - 128; omega), (by show 64 * cc + _ - 128 < Utf.bd (k + 1); rw [hbd.1]; omega)⟩
        intro hc47
        try dsimp only at hc47
        have ek : k = 3 := (by omega)
        subst ek
        have ho1 := hco 1 (by omega) (by omega)
        have ho2 := hco 2 (by omega) (by omega)
        simp only [Utf.cp, Nat.zero_add, Nat.reduceAdd] at hcp
        refine KC.exit (KQ.exitThen (KQ.exitThen (KQ.hit (KQ.seq (KC.seq (KC.sr (KL.run 4 rfl ?_)))))))
        refine KL.cq 74 rfl ?_ ?_
        · intro hg74
          try dsimp only at hg74
          refine KL.fin 11 rfl (KQ.seq (KC.condT rfl (KC.sr (KL.fin 1 rfl (KQ.seq (KC.ret (KQ.retThen (KQ.ofRet (KQ.fin1 Tryd.results130 rfl ?_)))))))))
          (exact ⟨congrArg (Value.int .i64) (show (0 : Int) = ((Utf.chr l : Nat) : Int) by rw [Utf.chr3 q0 (by omega), if_pos (by omega)]; rfl), rfl⟩)
        intro hg74
        try dsimp only at hg74
        refine KL.run 4 rfl ?_
        refine KL.cq 78 rfl ?_ ?_
        · intro hg78
          try dsimp only at hg78
          refine KL.fin 7 rfl (KQ.seq (KC.condT rfl (KC.sr (KL.fin 1 rfl (KQ.seq (KC.ret (KQ.retThen (KQ.ofRet (KQ.fin1 Tryd.results130 rfl ?_)))))))))
          (exact ⟨congrArg (Value.int .i64) (show (0 : Int) = ((Utf.chr l : Nat) : Int) by rw [Utf.chr0 q0 (by omega)]; rfl), rfl⟩)
        intro hg78
        try dsimp only at hg78
        refine KL.run 3 rfl ?_
        refine KL.cq 81 rfl ?_ ?_
        · intro hg81
          try dsimp only at hg81
          refine KL.fin 4 rfl (KQ.seq ?_)
          refine KC.iq rfl ?_ ?_
          · intro hc85
            try dsimp only at hc85
            refine KC.sr (KL.fin 1 rfl (KQ.seq (KC.ret (KQ.retThen (KQ.ofRet (KQ.fin1 Tryd.results130 rfl ?_))))))
            (exact ⟨congrArg (Value.int .i64) (show (0 : Int) = ((Utf.chr l : Nat) : Int) by rw [Utf.chr3 q0 (by omega), if_pos (by omega)]; rfl), rfl⟩)
          intro hc85
          try dsimp only at hc85
          refine KC.skip (KQ.sr (KL.fin 2 rfl (KQ.seq (KC.ret (KQ.ofRet (KQ.fin1 Tryd.results130 rfl ?_))))))
          (exact ⟨congrArg (Value.int .i64) (show (3 : Int) = ((Utf.chr l : Nat) : Int) by rw [Utf.chr3 q0 (by omega), if_neg (by omega)]; rfl), rfl⟩)
        intro hg81
        try dsimp only at hg81
        refine KL.fin 4 rfl (KQ.seq (KC.condF rfl (KC.skip (KQ.sr (KL.fin 2 rfl (KQ.seq (KC.ret (KQ.ofRet (KQ.fin1 Tryd.results130 rfl ?_)))))))))
        (exact ⟨congrArg (Value.int .i64) (show (3 : Int) = ((Utf.chr l : Nat) : Int) by rw [Utf.chr3 q0 (by omega), if_neg (by omega)]; rfl), rfl⟩)
      intro hc23
      try dsimp only at hc23
      refine KC.sr (KL.run 3 rfl ?_)
      refine KL.cq 35 rfl ?_ ?_
      · intro hg35
        try dsimp only at hg35
        refine KL.fin 4 rfl (KQ.seq ?_)
        refine KC.iq rfl ?_ ?_
        · intro hc32
          try dsimp only at hc32
          refine KC.sr (KL.fin 1 rfl (KQ.sr (KL.run 1 rfl ?_)))
          refine KL.q (R.sub rfl rfl rfl (by dsimp only [InR]; omega)) rfl ?_
          refine KL.fin 1 rfl (KQ.r (KL.fin 1 rfl (KQ.normBlock (KQ.seq (KC.seq (KC.sr (KL.run 1 rfl ?_)))))))
          refine KL.q (by exact R.lenS rfl Tryd.underlying36 rfl hs) rfl ?_
          refine KL.fin 2 rfl (KQ.seq ?_)
          refine KC.iq rfl ?_ ?_
          · intro hc44
            try dsimp only at hc44
            refine KC.sr (KL.fin 1 rfl (KQ.seq (KC.ret (KQ.retThen (KQ.ofRet (KQ.fin1 Tryd.results130 rfl ?_))))))
            (exact ⟨congrArg (Value.int .i64) (show (0 : Int) = ((Utf.chr l : Nat) : Int) by rw [Utf.chr4 q0 (by omega), if_pos (by omega)]; rfl), rfl⟩)
          intro hc44
          try dsimp only at hc44
          refine KC.skip (KQ.seq (KC.seq (KC.sr (KL.fin 1 rfl (KQ.seq (KC.block ?_))))))
          refine KC.loopD (κ := Nat × Int) [45, 46, 47, 50, 51, 52, 53, 54, 55, 56, 57, 58, 59, 60, 61, 2, 62, 63, 64, 65, 66, 67, 68, 69, 70, 3, 48, 49, 6] (fun k => [(6, .int .i64 (k.1 : Nat)), (3, .int .u32 k.2)]) (fun k Hl => H = Hl ∧ 1 ≤ k.1 ∧ k.1 ≤ 4 ∧ k.2 = Utf.cp ((l.getD 0 default) - 240) l k.1 ∧ (∀ j, 1 ≤ j → j < k.1 → 128 ≤ l.getD j default ∧ l.getD j default ≤ 191) ∧ 0 ≤ k.2 ∧ k.2 < Utf.bd k.1) (fun k => 4 - k.1) (1, (l.getD 0 default) - 240) ?_ ?_ ?_
          · exact Sub.all rfl
          · exact ⟨rfl, Nat.le_refl _, by show 1 ≤ 4; omega, rfl, (fun j h1 h2 => absurd h2 (by show ¬ j < 1; omega)), by show 0 ≤ (l.getD 0 default) - 240; omega, by show (l.getD 0 default) - 240 < 32; omega⟩
          rintro ⟨k, cc⟩ H4 ⟨rfl, hk1, hkn, hcp, hco, hc0, hc1⟩
          dsimp only at hk1 hkn hcp hco hc0 hc1
          refine KC.seq (KC.sr (KL.fin 3 rfl (KQ.seq ?_)))
          refine KC.iq rfl ?_ ?_
          · intro hc47
            try dsimp only at hc47
            refine KC.skip (KQ.seq (KC.seq (KC.block (KC.seq (KC.sr (KL.run 2 rfl ?_))))))
            have qk := (hs.int k (by omega)).2
            dsimp only [InR] at qk
            have hbd := Utf.bd_succ hk1 (show k < 4 by omega)
            refine KL.q (R.index1 (j := k) rfl Tryd.underlying36 sz5 rfl rfl hs rfl (by omega)) rfl ?_
            refine KL.ld rfl ((hs.int k (by omega)).1) ?_
            refine KL.run 2 rfl ?_
            refine KL.cq 55 rfl ?_ ?_
            · intro hg55
              try dsimp only at hg55
              refine KL.fin 6 rfl (KQ.seq (KC.condT rfl (KC.seq ?_)))
              have hba := Utf.bad_at (l := l) (k := k) hk1 (by omega) (by omega)
              refine KC.region (KL.fin 1 rfl (KQ.seq (KC.ret (KQ.retThen (KQ.retBlock (KQ.retThen (KQ.retThen (KQ.retBlock (KQ.retThen (KQ.ofRet (KQ.fin1 Tryd.results130 rfl ?_)))))))))))
              (exact ⟨congrArg (Value.int .i64) (show (0 : Int) = ((Utf.chr l : Nat) : Int) by rw [Utf.chr4 q0 (by omega), if_pos (by omega)]; rfl), rfl⟩)
            intro hg55
            try dsimp only at hg55
            refine KL.run 2 rfl ?_
            refine KL.q (R.index1 (j := k) rfl Tryd.underlying36 sz5 rfl rfl hs rfl (by omega)) rfl ?_
            refine KL.ld rfl ((hs.int k (by omega)).1) ?_
            refine KL.fin 2 rfl (KQ.seq ?_)
            refine KC.iq rfl ?_ ?_
            · intro hc61
              try dsimp only at hc61
              refine KC.seq ?_
              have hba := Utf.bad_at (l := l) (k := k) hk1 (by omega) (by omega)
              refine KC.region (KL.fin 1 rfl (KQ.seq (KC.ret (KQ.retThen (KQ.retBlock (KQ.retThen (KQ.retThen (KQ.retBlock (KQ.retThen (KQ.ofRet (KQ.fin1 Tryd.results130 rfl ?_)))))))))))
              (exact ⟨congrArg (Value.int .i64) (show (0 : Int) = ((Utf.chr l : Nat) : Int) by rw [Utf.chr4 q0 (by omega), if_pos (by omega)]; rfl), rfl⟩)
            intro hc61
            try dsimp only at hc61
            refine KC.skip (KQ.r (KL.run 1 rfl ?_))
            refine KL.q (R.mul rfl rfl rfl (by dsimp only [InR]; omega)) rfl ?_
            refine KL.run 2 rfl ?_
            refine KL.q (R.index1 (j := k) rfl Tryd.underlying36 sz5 rfl rfl hs rfl (by omega)) rfl ?_
            refine KL.ld rfl ((hs.int k (by omega)).1) ?_
            refine KL.q (R.convI rfl Tryd.underlying5 Tryd.underlying28 rfl (by dsimp only [InR]; omega)) rfl ?_
            refine KL.q (R.add rfl rfl rfl (by dsimp only [InR]; omega)) rfl ?_
            refine KL.q (R.sub rfl rfl rfl (by dsimp only [InR]; omega)) rfl ?_
            refine KL.fin 1 rfl (KQ.normBlock (KQ.r (KL.run 1 rfl ?_)))
            refine KL.q ((R.add rfl rfl rfl (by dsimp only [InR]; omega)).val (congrArg (Value.int .i64) (show _ = ((k + 1 : Nat) : Int) from by omega))) rfl ?_
            refine KL.fin 1 rfl ?_
            refine KQ.again ((k + 1, 64 * cc + l.getD k default - 128)) ?_ ?_ ?_
            · exact Sub.all rfl
            · show 4 - (k + 1) < 4 - k; omega
            exact ⟨rfl, by show 1 ≤ k + 1; omega, by show k + 1 ≤ 4; omega, (by show _ = Utf.cp _ l (k + 1); rw [Utf.cp_succ _ _ hk1, ← hcp]), (fun j h1 h2 => by
                  by_cases e : j = k
                  · subst e; omega
                  exact hco j h1 (by have h2 : j < k + 1 := h2; omega)), (by show 0 ≤ 64 * cc + _ - 128; omega), (by show 64 * cc + _ - 128 < Utf.bd (k + 1); rw [hbd.1]; omega)⟩
          intro hc47
          try dsimp only at hc47
          have ek : k = 4 := (by omega)
          subst ek
          have ho1 := hco 1 (by omega) (by omega)
          have ho2 := hco 2 (by omega) (by omega)
          have ho3 := hco 3 (by omega) (by omega)
          simp only [Utf.cp, Nat.zero_add, Nat.reduceAdd] at hcp
          refine KC.exit (KQ.exitThen (KQ.exitThen (KQ.hit (KQ.seq (KC.seq (KC.sr (KL.run 4 rfl ?_)))))))
          refine KL.cq 74 rfl ?_ ?_
          · intro hg74
            try dsimp only at hg74
            refine KL.fin 11 rfl (KQ.seq (KC.condT rfl (KC.sr (KL.fin 1 rfl (KQ.seq (KC.ret (KQ.retThen (KQ.ofRet (KQ.fin1 Tryd.results130 rfl ?_)))))))))
            (exact ⟨congrArg (Value.int .i64) (show (0 : Int) = ((Utf.chr l : Nat) : Int) by rw [Utf.chr4 q0 (by omega), if_pos (by omega)]; rfl), rfl⟩)
          intro hg74
          try dsimp only at hg74
          refine KL.run 4 rfl ?_
          refine KL.cq 78 rfl ?_ ?_
          · intro hg78
            try dsimp only at hg78
            refine KL.fin 7 rfl (KQ.seq (KC.condT rfl (KC.sr (KL.fin 1 rfl (KQ.seq (KC.ret (KQ.retThen (KQ.ofRet (KQ.fin1 Tryd.results130 rfl ?_)))))))))
            (exact ⟨congrArg (Value.int .i64) (show (0 : Int) = ((Utf.chr l : Nat) : Int) by rw [Utf.chr4 q0 (by omega), if_pos (by omega)]; rfl), rfl⟩)
          intro hg78
          try dsimp only at hg78
          refine KL.run 3 rfl ?_
          refine KL.cq 81 rfl ?_ ?_
          · intro hg81
            try dsimp only at hg81
            refine KL.fin 4 rfl (KQ.seq ?_)
            refine KC.iq rfl ?_ ?_
            · intro hc85
              try dsimp only at hc85
              refine KC.sr (KL.fin 1 rfl (KQ.seq (KC.ret (KQ.retThen (KQ.ofRet (KQ.fin1 Tryd.results130 rfl ?_))))))
              (exact ⟨congrArg (Value.int .i64) (show (0 : Int) = ((Utf.chr l : Nat) : Int) by rw [Utf.chr0 q0 (by omega)]; rfl), rfl⟩)
            intro hc85
            try dsimp only at hc85
            refine KC.skip (KQ.sr (KL.fin 2 rfl (KQ.seq (KC.ret (KQ.ofRet (KQ.fin1 Tryd.results130 rfl ?_))))))
            (exact ⟨congrArg (Value.int .i64) (show (4 : Int) = ((Utf.chr l : Nat) : Int) by rw [Utf.chr4 q0 (by omega), if_neg (by omega)]; rfl), rfl⟩)
          intro hg81
          try dsimp only at hg81
          refine KL.fin 4 rfl (KQ.seq (KC.condF rfl (KC.skip (KQ.sr (KL.fin 2 rfl (KQ.seq (KC.ret (KQ.ofRet (KQ.fin1 Tryd.results130 rfl ?_)))))))))
          (exact ⟨congrArg (Value.int .i64) (show (4 : Int) = ((Utf.chr l : Nat) : Int) by rw [Utf.chr4 q0 (by omega), if_neg (by omega)]; rfl), rfl⟩)
        intro hc32
        try dsimp only at hc32
        refine KC.sr (KL.fin 1 rfl (KQ.seq (KC.ret (KQ.retBlock (KQ.retThen (KQ.ofRet (KQ.fin1 Tryd.results130 rfl ?_)))))))
        (exact ⟨congrArg (Value.int .i64) (show (0 : Int) = ((Utf.chr l : Nat) : Int) by rw [Utf.chr0 q0 (by omega)]; rfl), rfl⟩)
      intro hg35
      try dsimp only at hg35
      refine KL.fin 4 rfl (KQ.seq (KC.condF rfl (KC.sr (KL.fin 1 rfl (KQ.seq (KC.ret (KQ.retBlock (KQ.retThen (KQ.ofRet (KQ.fin1 Tryd.results130 rfl ?_))))))))))
      (exact ⟨congrArg (Value.int .i64) (show (0 : Int) = ((Utf.chr l : Nat) : Int) by rw [Utf.chr0 q0 (by omega)]; rfl), rfl⟩)
    intro hg26
    try dsimp only at hg26
    refine KL.fin 4 rfl (KQ.seq (KC.condF rfl (KC.sr (KL.run 3 rfl ?_))))
    refine KL.cq 35 rfl ?_ ?_
    · intro hg35
      try dsimp only at hg35
      refine KL.fin 4 rfl (KQ.seq ?_)
      refine KC.iq rfl ?_ ?_
      · intro hc32
        try dsimp only at hc32
        refine KC.sr (KL.fin 1 rfl (KQ.sr (KL.run 1 rfl ?_)))
        refine KL.q (R.sub rfl rfl rfl (by dsimp only [InR]; omega)) rfl ?_
        refine KL.fin 1 rfl (KQ.r (KL.fin 1 rfl (KQ.normBlock (KQ.seq (KC.seq (KC.sr (KL.run 1 rfl ?_)))))))
        refine KL.q (by exact R.lenS rfl Tryd.underlying36 rfl hs) rfl ?_
        refine KL.fin 2 rfl (KQ.seq ?_)
        refine KC.iq rfl ?_ ?_
        · intro hc44
          try dsimp only at hc44
          refine KC.sr (KL.fin 1 rfl (KQ.seq (KC.ret (KQ.retThen (KQ.ofRet (KQ.fin1 Tryd.results130 rfl ?_))))))
          (exact ⟨congrArg (Value.int .i64) (show (0 : Int) = ((Utf.chr l : Nat) : Int) by rw [Utf.chr0 q0 (by omega)]; rfl), rfl⟩)
        intro hc44
        try dsimp only at hc44
        refine KC.skip (KQ.seq (KC.seq (KC.sr (KL.fin 1 rfl (KQ.seq (KC.block ?_))))))
        refine KC.loopD (κ := Nat × Int) [45, 46, 47, 50, 51, 52, 53, 54, 55, 56, 57, 58, 59, 60, 61, 2, 62, 63, 64, 65, 66, 67, 68, 69, 70, 3, 48, 49, 6] (fun k => [(6, .int .i64 (k.1 : Nat)), (3, .int .u32 k.2)]) (fun k Hl => H = Hl ∧ 1 ≤ k.1 ∧ k.1 ≤ 4 ∧ k.2 = Utf.cp ((l.getD 0 default) - 240) l k.1 ∧ (∀ j, 1 ≤ j → j < k.1 → 128 ≤ l.getD j default ∧ l.getD j default ≤ 191) ∧ 0 ≤ k.2 ∧ k.2 < Utf.bd k.1) (fun k => 4 - k.1) (1, (l.getD 0 default) - 240) ?_ ?_ ?_
        · exact Sub.all rfl
        · exact ⟨rfl, Nat.le_refl _, by show 1 ≤ 4; omega, rfl, (fun j h1 h2 => absurd h2 (by show ¬ j < 1; omega)), by show 0 ≤ (l.getD 0 default) - 240; omega, by show (l.getD 0 default) - 240 < 32; omega⟩
        rintro ⟨k, cc⟩ H5 ⟨rfl, hk1, hkn, hcp, hco, hc0, hc1⟩
        dsimp only at hk1 hkn hcp hco hc0 hc1
        refine KC.seq (KC.sr (KL.fin 3 rfl (KQ.seq ?_)))
        refine KC.iq rfl ?_ ?_
        · intro hc47
          try dsimp only at hc47
          refine KC.skip (KQ.seq (KC.seq (KC.block (KC.seq (KC.sr (KL.run 2 rfl ?_))))))
          have qk := (hs.int k (by omega)).2
          dsimp only [InR] at qk
          have hbd := Utf.bd_succ hk1 (show k < 4 by omega)
          refine KL.q (R.index1 (j := k) rfl Tryd.underlying36 sz5 rfl rfl hs rfl (by omega)) rfl ?_
          refine KL.ld rfl ((hs.int k (by omega)).1) ?_
          refine KL.run 2 rfl ?_
          refine KL.cq 55 rfl ?_ ?_
          · intro hg55
            try dsimp only at hg55
            refine KL.fin 6 rfl (KQ.seq (KC.condT rfl (KC.seq ?_)))
            have hba := Utf.bad_at (l := l) (k := k) hk1 (by omega) (by omega)
            refine KC.region (KL.fin 1 rfl (KQ.seq (KC.ret (KQ.retThen (KQ.retBlock (KQ.retThen (KQ.retThen (KQ.retBlock (KQ.retThen (KQ.ofRet (KQ.fin1 Tryd.results130 rfl ?_)))))))))))
            (exact ⟨congrArg (Value.int .i64) (show (0 : Int) = ((Utf.chr l : Nat) : Int) by rw [Utf.chr0 q0 (by omega)]; rfl), rfl⟩)
          intro hg55
          try dsimp only at hg55
          refine KL.run 2 rfl ?_
          refine KL.q (R.index1 (j := k) rfl Tryd.underlying36 sz5 rfl rfl hs rfl (by omega)) rfl ?_
          refine KL.ld rfl ((hs.int k (by omega)).1) ?_
          refine KL.fin 2 rfl (KQ.seq ?_)
          refine KC.iq rfl ?_ ?_
          · intro hc61
            try dsimp only at hc61
            refine KC.seq ?_
            have hba := Utf.bad_at (l := l) (k := k) hk1 (by omega) (by omega)
            refine KC.region (KL.fin 1 rfl (KQ.seq (KC.ret (KQ.retThen (KQ.retBlock (KQ.retThen (KQ.retThen (KQ.retBlock (KQ.retThen (KQ.ofRet (KQ.fin1 Tryd.results130 rfl ?_)))))))))))
            (exact ⟨congrArg (Value.int .i64) (show (0 : Int) = ((Utf.chr l : Nat) : Int) by rw [Utf.chr0 q0 (by omega)]; rfl), rfl⟩)
          intro hc61
          try dsimp only at hc61
          refine KC.skip (KQ.r (KL.run 1 rfl ?_))
          refine KL.q (R.mul rfl rfl rfl (by dsimp only [InR]; omega)) rfl ?_
          refine KL.run 2 rfl ?_
          refine KL.q (R.index1 (j := k) rfl Tryd.underlying36 sz5 rfl rfl hs rfl (by omega)) rfl ?_
          refine KL.ld rfl ((hs.int k (by omega)).1) ?_
          refine KL.q (R.convI rfl Tryd.underlying5 Tryd.underlying28 rfl (by dsimp only [InR]; omega)) rfl ?_
          refine KL.q (R.add rfl rfl rfl (by dsimp only [InR]; omega)) rfl ?_
          refine KL.q (R.sub rfl rfl rfl (by dsimp only [InR]; omega)) rfl ?_
          refine KL.fin 1 rfl (KQ.normBlock (KQ.r (KL.run 1 rfl ?_)))
          refine KL.q ((R.add rfl rfl rfl (by dsimp only [InR]; omega)).val (congrArg (Value.int .i64) (show _ = ((k + 1 : Nat) : Int) from by omega))) rfl ?_
          refine KL.fin 1 rfl ?_
          refine KQ.again ((k + 1, 64 * cc + l.getD k default - 128)) ?_ ?_ ?_
          · exact Sub.all rfl
          · show 4 - (k + 1) < 4 - k; omega
          exact ⟨rfl, by show 1 ≤ k + 1; omega, by show k + 1 ≤ 4; omega, (by show _ = Utf.cp _ l (k + 1); rw [Utf.cp_succ _ _ hk1, ← hcp]), (fun j h1 h2 => by
                by_cases e : j = k
                · subst e; omega
                exact hco j h1 (by have h2 : j < k + 1 := h2; omega)), (by show 0 ≤ 64 * cc + _ - 128; omega), (by show 64 * cc + _ - 128 < Utf.bd (k + 1); rw [hbd.1]; omega)⟩
        intro hc47
        try dsimp only at hc47
        have ek : k = 4 := (by omega)
        subst ek
        have ho1 := hco 1 (by omega) (by omega)
        have ho2 := hco 2 (by omega) (by omega)
        have ho3 := hco 3 (by omega) (by omega)
        simp only [Utf.cp, Nat.zero_add, Nat.reduceAdd] at hcp
        refine KC.exit (KQ.exitThen (KQ.exitThen (KQ.hit (KQ.seq (KC.seq (KC.sr (KL.run 4 rfl ?_)))))))
        refine KL.cq 74 rfl ?_ ?_
        · intro hg74
          try dsimp only at hg74
          refine KL.fin 11 rfl (KQ.seq (KC.condT rfl (KC.sr (KL.fin 1 rfl (KQ.seq (KC.ret (KQ.retThen (KQ.ofRet (KQ.fin1 Tryd.results130 rfl ?_)))))))))
          (exact ⟨congrArg (Value.int .i64) (show (0 : Int) = ((Utf.chr l : Nat) : Int) by rw [Utf.chr0 q0 (by omega)]; rfl), rfl⟩)
        intro hg74
        try dsimp only at hg74
        refine KL.run 4 rfl ?_
        refine KL.cq 78 rfl ?_ ?_
        · intro hg78
          try dsimp only at hg78
          refine KL.fin 7 rfl (KQ.seq (KC.condT rfl (KC.sr (KL.fin 1 rfl (KQ.seq (KC.ret (KQ.retThen (KQ.ofRet (KQ.fin1 Tryd.results130 rfl ?_)))))))))
          (exact ⟨congrArg (Value.int .i64) (show (0 : Int) = ((Utf.chr l : Nat) : Int) by rw [Utf.chr0 q0 (by omega)]; rfl), rfl⟩)
        intro hg78
        try dsimp only at hg78
        refine KL.run 3 rfl ?_
        refine KL.cq 81 rfl ?_ ?_
        · intro hg81
          try dsimp only at hg81
          refine KL.fin 4 rfl (KQ.seq ?_)
          refine KC.iq rfl ?_ ?_
          · intro hc85
            try dsimp only at hc85
            refine KC.sr (KL.fin 1 rfl (KQ.seq (KC.ret (KQ.retThen (KQ.ofRet (KQ.fin1 Tryd.results130 rfl ?_))))))
            (exact ⟨congrArg (Value.int .i64) (show (0 : Int) = ((Utf.chr l : Nat) : Int) by rw [Utf.chr0 q0 (by omega)]; rfl), rfl⟩)
          intro hc85
          try dsimp only at hc85
          refine KC.skip (KQ.sr (KL.fin 2 rfl (KQ.seq (KC.ret (KQ.ofRet (KQ.fin1 Tryd.results130 rfl ?_))))))
          (exact ⟨congrArg (Value.int .i64) (show (4 : Int) = ((Utf.chr l : Nat) : Int) by rw [Utf.chr4 q0 (by omega), if_neg (by omega)]; rfl), rfl⟩)
        intro hg81
        try dsimp only at hg81
        refine KL.fin 4 rfl (KQ.seq (KC.condF rfl (KC.skip (KQ.sr (KL.fin 2 rfl (KQ.seq (KC.ret (KQ.ofRet (KQ.fin1 Tryd.results130 rfl ?_)))))))))
        (exact ⟨congrArg (Value.int .i64) (show (4 : Int) = ((Utf.chr l : Nat) : Int) by rw [Utf.chr4 q0 (by omega), if_neg (by omega)]; rfl), rfl⟩)
      intro hc32
      try dsimp only at hc32
      refine KC.sr (KL.fin 1 rfl (KQ.seq (KC.ret (KQ.retBlock (KQ.retThen (KQ.ofRet (KQ.fin1 Tryd.results130 rfl ?_)))))))
      (exact ⟨congrArg (Value.int .i64) (show (0 : Int) = ((Utf.chr l : Nat) : Int) by rw [Utf.chr0 q0 (by omega)]; rfl), rfl⟩)
    intro hg35
    try dsimp only at hg35
    refine KL.fin 4 rfl (KQ.seq (KC.condF rfl (KC.sr (KL.fin 1 rfl (KQ.seq (KC.ret (KQ.retBlock (KQ.retThen (KQ.ofRet (KQ.fin1 Tryd.results130 rfl ?_))))))))))
    (exact ⟨congrArg (Value.int .i64) (show (0 : Int) = ((Utf.chr l : Nat) : Int) by rw [Utf.chr0 q0 (by omega)]; rfl), rfl⟩)
  intro hg17
  try dsimp only at hg17
  refine KL.fin 4 rfl (KQ.seq (KC.condF rfl (KC.sr (KL.run 3 rfl ?_))))
  refine KL.cq 26 rfl ?_ ?_
  · intro hg26
    try dsimp only at hg26
    refine KL.fin 4 rfl (KQ.seq ?_)
    refine KC.iq rfl ?_ ?_
    · intro hc23
      try dsimp only at hc23
      refine KC.sr (KL.fin 1 rfl (KQ.sr (KL.run 1 rfl ?_)))
      refine KL.q (R.sub rfl rfl rfl (by dsimp only [InR]; omega)) rfl ?_
      refine KL.fin 1 rfl (KQ.r (KL.fin 1 rfl (KQ.normBlock (KQ.seq (KC.seq (KC.sr (KL.run 1 rfl ?_)))))))
      refine KL.q (by exact R.lenS rfl Tryd.underlying36 rfl hs) rfl ?_
      refine KL.fin 2 rfl (KQ.seq ?_)
      refine KC.iq rfl ?_ ?_
      · intro hc44
        try dsimp only at hc44
        refine KC.sr (KL.fin 1 rfl (KQ.seq (KC.ret (KQ.retThen (KQ.ofRet (KQ.fin1 Tryd.results130 rfl ?_))))))
        (exact ⟨congrArg (Value.int .i64) (show (0 : Int) = ((Utf.chr l : Nat) : Int) by rw [Utf.chr0 q0 (by omega)]; rfl), rfl⟩)
      intro hc44
      try dsimp only at hc44
      refine KC.skip (KQ.seq (KC.seq (KC.sr (KL.fin 1 rfl (KQ.seq (KC.block ?_))))))
      refine KC.loopD (κ := Nat × Int) [45, 46, 47, 50, 51, 52, 53, 54, 55, 56, 57, 58, 59, 60, 61, 2, 62, 63, 64, 65, 66, 67, 68, 69, 70, 3, 48, 49, 6] (fun k => [(6, .int .i64 (k.1 : Nat)), (3, .int .u32 k.2)]) (fun k Hl => H = Hl ∧ 1 ≤ k.1 ∧ k.1 ≤ 3 ∧ k.2 = Utf.cp ((l.getD 0 default) - 224) l k.1 ∧ (∀ j, 1 ≤ j → j < k.1 → 128 ≤ l.getD j default ∧ l.getD j default ≤ 191) ∧ 0 ≤ k.2 ∧ k.2 < Utf.bd k.1) (fun k => 3 - k.1) (1, (l.getD 0 default) - 224) ?_ ?_ ?_
      · exact Sub.all rfl
      · exact ⟨rfl, Nat.le_refl _, by show 1 ≤ 3; omega, rfl, (fun j h1 h2 => absurd h2 (by show ¬ j < 1; omega)), by show 0 ≤ (l.getD 0 default) - 224; omega, by show (l.getD 0 default) - 224 < 32; omega⟩
      rintro ⟨k, cc⟩ H6 ⟨rfl, hk1, hkn, hcp, hco, hc0, hc1⟩
      dsimp only at hk1 hkn hcp hco hc0 hc1
      refine KC.seq (KC.sr (KL.fin 3 rfl (KQ.seq ?_)))
      refine KC.iq rfl ?_ ?_
      · intro hc47
        try dsimp only at hc47
        refine KC.skip (KQ.seq (KC.seq (KC.block (KC.seq (KC.sr (KL.run 2 rfl ?_))))))
        have qk := (hs.int k (by omega)).2
        dsimp only [InR] at qk
        have hbd := Utf.bd_succ hk1 (show k < 4 by omega)
        refine KL.q (R.index1 (j := k) rfl Tryd.underlying36 sz5 rfl rfl hs rfl (by omega)) rfl ?_
        refine KL.ld rfl ((hs.int k (by omega)).1) ?_
        refine KL.run 2 rfl ?_
        refine KL.cq 55 rfl ?_ ?_
        · intro hg55
          try dsimp only at hg55
          refine KL.fin 6 rfl (KQ.seq (KC.condT rfl (KC.seq ?_)))
          have hba := Utf.bad_at (l := l) (k := k) hk1 (by omega) (by omega)
          refine KC.region (KL.fin 1 rfl (KQ.seq (KC.ret (KQ.retThen (KQ.retBlock (KQ.retThen (KQ.retThen (KQ.retBlock (KQ.retThen (KQ.ofRet (KQ.fin1 Tryd.results130 rfl ?_)))))))))))
          (exact ⟨congrArg (Value.int .i64) (show (0 : Int) = ((Utf.chr l : Nat) : Int) by rw [Utf.chr0 q0 (by omega)]; rfl), rfl⟩)
        intro hg55
        try dsimp only at hg55
        refine KL.run 2 rfl ?_
        refine KL.q (R.index1 (j := k) rfl Tryd.underlying36 sz5 rfl rfl hs rfl (by omega)) rfl ?_
        refine KL.ld rfl ((hs.int k (by omega)).1) ?_
        refine KL.fin 2 rfl (KQ.seq ?_)
        refine KC.iq rfl ?_ ?_
        · intro hc61
          try dsimp only at hc61
          refine KC.seq ?_
          have hba := Utf.bad_at (l := l) (k := k) hk1 (by omega) (by omega)
          refine KC.region (KL.fin 1 rfl (KQ.seq (KC.ret (KQ.retThen (KQ.retBlock (KQ.retThen (KQ.retThen (KQ.retBlock (KQ.retThen (KQ.ofRet (KQ.fin1 Tryd.results130 rfl ?_)))))))))))
          (exact ⟨congrArg (Value.int .i64) (show (0 : Int) = ((Utf.chr l : Nat) : Int) by rw [Utf.chr0 q0 (by omega)]; rfl), rfl⟩)
        intro hc61
        try dsimp only at hc61
        refine KC.skip (KQ.r (KL.run 1 rfl ?_))
        refine KL.q (R.mul rfl rfl rfl (by dsimp only [InR]; omega)) rfl ?_
        refine KL.run 2 rfl ?_
        refine KL.q (R.index1 (j := k) rfl Tryd.underlying36 sz5 rfl rfl hs rfl (by omega)) rfl ?_
        refine KL.ld rfl ((hs.int k (by omega)).1) ?_
        refine KL.q (R.convI rfl Tryd.underlying5 Tryd.underlying28 rfl (by dsimp only [InR]; omega)) rfl ?_
        refine KL.q (R.add rfl rfl rfl (by dsimp only [InR]; omega)) rfl ?_
        refine KL.q (R.sub rfl rfl rfl (by dsimp only [InR]; omega)) rfl ?_
        refine KL.fin 1 rfl (KQ.normBlock (KQ.r (KL.run 1 rfl ?_)))
        refine KL.q ((R.add rfl rfl rfl (by dsimp only [InR]; omega)).val (congrArg (Value.int .i64) (show _ = ((k + 1 : Nat) : Int) from by omega))) rfl ?_
        refine KL.fin 1 rfl ?_
        refine KQ.again ((k + 1, 64 * cc + l.getD k default - 128)) ?_ ?_ ?_
        · exact Sub.all rfl
        · show 3 - (k + 1) < 3 - k; omega
        exact ⟨rfl, by show 1 ≤ k + 1; omega, by show k + 1 ≤ 3; omega, (by show _ = Utf.cp _ l (k + 1); rw [Utf.cp_succ _ _ hk1, ← hcp]), (fun j h1 h2 => by
              by_cases e : j = k
              · subst e; omega
              exact hco j h1 (by have h2 : j < k + 1 := h2; omega)), (by show 0 ≤ 64 * cc + _ - 128; omega), (by show 64 * cc + _ - 128 < Utf.bd (k + 1); rw [hbd.1]; omega)⟩
      intro hc47
      try dsimp only at hc47
      have ek : k = 3 := (by omega)
      subst ek
      have ho1 := hco 1 (by omega) (by omega)
      have ho2 := hco 2 (by omega) (by omega)
      simp only [Utf.cp, Nat.zero_add, Nat.reduceAdd] at hcp
      refine KC.exit (KQ.exitThen (KQ.exitThen (KQ.hit (KQ.seq (KC.seq (KC.sr (KL.run 4 rfl ?_)))))))
      refine KL.cq 74 rfl ?_ ?_
      · intro hg74
        try dsimp only at hg74
        refine KL.fin 11 rfl (KQ.seq (KC.condT rfl (KC.sr (KL.fin 1 rfl (KQ.seq (KC.ret (KQ.retThen (KQ.ofRet (KQ.fin1 Tryd.results130 rfl ?_)))))))))
        (exact ⟨congrArg (Value.int .i64) (show (0 : Int) = ((Utf.chr l : Nat) : Int) by rw [Utf.chr0 q0 (by omega)]; rfl), rfl⟩)
      intro hg74
      try dsimp only at hg74
      refine KL.run 4 rfl ?_
      refine KL.cq 78 rfl ?_ ?_
      · intro hg78
        try dsimp only at hg78
        refine KL.fin 7 rfl (KQ.seq (KC.condT rfl (KC.sr (KL.fin 1 rfl (KQ.seq (KC.ret (KQ.retThen (KQ.ofRet (KQ.fin1 Tryd.results130 rfl ?_)))))))))
        (exact ⟨congrArg (Value.int .i64) (show (0 : Int) = ((Utf.chr l : Nat) : Int) by rw [Utf.chr0 q0 (by omega)]; rfl), rfl⟩)
      intro hg78
      try dsimp only at hg78
      refine KL.run 3 rfl ?_
      refine KL.cq 81 rfl ?_ ?_
      · intro hg81
        try dsimp only at hg81
        refine KL.fin 4 rfl (KQ.seq ?_)
        refine KC.iq rfl ?_ ?_
        · intro hc85
          try dsimp only at hc85
          refine KC.sr (KL.fin 1 rfl (KQ.seq (KC.ret (KQ.retThen (KQ.ofRet (KQ.fin1 Tryd.results130 rfl ?_))))))
          (exact ⟨congrArg (Value.int .i64) (show (0 : Int) = ((Utf.chr l : Nat) : Int) by rw [Utf.chr0 q0 (by omega)]; rfl), rfl⟩)
        intro hc85
        try dsimp only at hc85
        refine KC.skip (KQ.sr (KL.fin 2 rfl (KQ.seq (KC.ret (KQ.ofRet (KQ.fin1 Tryd.results130 rfl ?_))))))
        (exact ⟨congrArg (Value.int .i64) (show (3 : Int) = ((Utf.chr l : Nat) : Int) by rw [Utf.chr3 q0 (by omega), if_neg (by omega)]; rfl), rfl⟩)
      intro hg81
      try dsimp only at hg81
      refine KL.fin 4 rfl (KQ.seq (KC.condF rfl (KC.skip (KQ.sr (KL.fin 2 rfl (KQ.seq (KC.ret (KQ.ofRet (KQ.fin1 Tryd.results130 rfl ?_)))))))))
      (exact ⟨congrArg (Value.int .i64) (show (3 : Int) = ((Utf.chr l : Nat) : Int) by rw [Utf.chr3 q0 (by omega), if_neg (by omega)]; rfl), rfl⟩)
    intro hc23
    try dsimp only at hc23
    refine KC.sr (KL.run 3 rfl ?_)
    refine KL.cq 35 rfl ?_ ?_
    · intro hg35
      try dsimp only at hg35
      refine KL.fin 4 rfl (KQ.seq ?_)
      refine KC.iq rfl ?_ ?_
      · intro hc32
        try dsimp only at hc32
        refine KC.sr (KL.fin 1 rfl (KQ.sr (KL.run 1 rfl ?_)))
        refine KL.q (R.sub rfl rfl rfl (by dsimp only [InR]; omega)) rfl ?_
        refine KL.fin 1 rfl (KQ.r (KL.fin 1 rfl (KQ.normBlock (KQ.seq (KC.seq (KC.sr (KL.run 1 rfl ?_)))))))
        refine KL.q (by exact R.lenS rfl Tryd.underlying36 rfl hs) rfl ?_
        refine KL.fin 2 rfl (KQ.seq ?_)
        refine KC.iq rfl ?_ ?_
        · intro hc44
          try dsimp only at hc44
          refine KC.sr (KL.fin 1 rfl (KQ.seq (KC.ret (KQ.retThen (KQ.ofRet (KQ.fin1 Tryd.results130 rfl ?_))))))
          (exact ⟨congrArg (Value.int .i64) (show (0 : Int) = ((Utf.chr l : Nat) : Int) by rw [Utf.chr0 q0 (by omega)]; rfl), rfl⟩)
        intro hc44
        try dsimp only at hc44
        refine KC.skip (KQ.seq (KC.seq (KC.sr (KL.fin 1 rfl (KQ.seq (KC.block ?_))))))
        refine KC.loopD (κ := Nat × Int) [45, 46, 47, 50, 51, 52, 53, 54, 55, 56, 57, 58, 59, 60, 61, 2, 62, 63, 64, 65, 66, 67, 68, 69, 70, 3, 48, 49, 6] (fun k => [(6, .int .i64 (k.1 : Nat)), (3, .int .u32 k.2)]) (fun k Hl => H = Hl ∧ 1 ≤ k.1 ∧ k.1 ≤ 4 ∧ k.2 = Utf.cp ((l.getD 0 default) - 240) l k.1 ∧ (∀ j, 1 ≤ j → j < k.1 → 128 ≤ l.getD j default ∧ l.getD j default ≤ 191) ∧ 0 ≤ k.2 ∧ k.2 < Utf.bd k.1) (fun k => 4 - k.1) (1, (l.getD 0 default) - 240) ?_ ?_ ?_
        · exact Sub.all rfl
        · exact ⟨rfl, Nat.le_refl _, by show 1 ≤ 4; omega, rfl, (fun j h1 h2 => absurd h2 (by show ¬ j < 1; omega)), by show 0 ≤ (l.getD 0 default) - 240; omega, by show (l.getD 0 default) - 240 < 32; omega⟩
        rintro ⟨k, cc⟩ H7 ⟨rfl, hk1, hkn, hcp, hco, hc0, hc1⟩
        dsimp only at hk1 hkn hcp hco hc0 hc1
        refine KC.seq (KC.sr (KL.fin 3 rfl (KQ.seq ?_)))
        refine KC.iq rfl ?_ ?_
        · intro hc47
          try dsimp only at hc47
          refine KC.skip (KQ.seq (KC.seq (KC.block (KC.seq (KC.sr (KL.run 2 rfl ?_))))))
          have qk := (hs.int k (by omega)).2
          dsimp only [InR] at qk
          have hbd := Utf.bd_succ hk1 (show k < 4 by omega)
          refine KL.q (R.index1 (j := k) rfl Tryd.underlying36 sz5 rfl rfl hs rfl (by omega)) rfl ?_
          refine KL.ld rfl ((hs.int k (by omega)).1) ?_
          refine KL.run 2 rfl ?_
          refine KL.cq 55 rfl ?_ ?_
          · intro hg55
            try dsimp only at hg55
            refine KL.fin 6 rfl (KQ.seq (KC.condT rfl (KC.seq ?_)))
            have hba := Utf.bad_at (l := l) (k := k) hk1 (by omega) (by omega)
            refine KC.region (KL.fin 1 rfl (KQ.seq (KC.ret (KQ.retThen (KQ.retBlock (KQ.retThen (KQ.retThen (KQ.retBlock (KQ.retThen (KQ.ofRet (KQ.fin1 Tryd.results130 rfl ?_)))))))))))
            (exact ⟨congrArg (Value.int .i64) (show (0 : Int) = ((Utf.chr l : Nat) : Int) by rw [Utf.chr0 q0 (by omega)]; rfl), rfl⟩)
          intro hg55
          try dsimp only at hg55
          refine KL.run 2 rfl ?_
          refine KL.q (R.index1 (j := k) rfl Tryd.underlying36 sz5 rfl rfl hs rfl (by omega)) rfl ?_
          refine KL.ld rfl ((hs.int k (by omega)).1) ?_
          refine KL.fin 2 rfl (KQ.seq ?_)
          refine KC.iq rfl ?_ ?_
          · intro hc61
            try dsimp only at hc61
            refine KC.seq ?_
            have hba := Utf.bad_at (l := l) (k := k) hk1 (by omega) (by omega)
            refine KC.region (KL.fin 1 rfl (KQ.seq (KC.ret (KQ.retThen (KQ.retBlock (KQ.retThen (KQ.retThen (KQ.retBlock (KQ.retThen (KQ.ofRet (KQ.fin1 Tryd.results130 rfl ?_)))))))))))
            (exact ⟨congrArg (Value.int .i64) (show (0 : Int) = ((Utf.chr l : Nat) : Int) by rw [Utf.chr0 q0 (by omega)]; rfl), rfl⟩)
          intro hc61
          try dsimp only at hc61
          refine KC.skip (KQ.r (KL.run 1 rfl ?_))
          refine KL.q (R.mul rfl rfl rfl (by dsimp only [InR]; omega)) rfl ?_
          refine KL.run 2 rfl ?_
          refine KL.q (R.index1 (j := k) rfl Tryd.underlying36 sz5 rfl rfl hs rfl (by omega)) rfl ?_
          refine KL.ld rfl ((hs.int k (by omega)).1) ?_
          refine KL.q (R.convI rfl Tryd.underlying5 Tryd.underlying28 rfl (by dsimp only [InR]; omega)) rfl ?_
          refine KL.q (R.add rfl rfl rfl (by dsimp only [InR]; omega)) rfl ?_
          refine KL.q (R.sub rfl rfl rfl (by dsimp only [InR]; omega)) rfl ?_
          refine KL.fin 1 rfl (KQ.normBlock (KQ.r (KL.run 1 rfl ?_)))
          refine KL.q ((R.add rfl rfl rfl (by dsimp only [InR]; omega)).val (congrArg (Value.int .i64) (show _ = ((k + 1 : Nat) : Int) from by omega))) rfl ?_
          refine KL.fin 1 rfl ?_
          refine KQ.again ((k + 1, 64 * cc + l.getD k default - 128)) ?_ ?_ ?_
          · exact Sub.all rfl
          · show 4 - (k + 1) < 4 - k; omega
          exact ⟨rfl, by show 1 ≤ k + 1; omega, by show k + 1 ≤ 4; omega, (by show _ = Utf.cp _ l (k + 1); rw [Utf.cp_succ _ _ hk1, ← hcp]), (fun j h1 h2 => by
                by_cases e : j = k
                · subst e; omega
                exact hco j h1 (by have h2 : j < k + 1 := h2; omega)), (by show 0 ≤ 64 * cc + _ - 128; omega), (by show 64 * cc + _ - 128 < Utf.bd (k + 1); rw [hbd.1]; omega)⟩
        intro hc47
        try dsimp only at hc47
        have ek : k = 4 := (by omega)
        subst ek
        have ho1 := hco 1 (by omega) (by omega)
        have ho2 := hco 2 (by omega) (by omega)
        have ho3 := hco 3 (by omega) (by omega)
        simp only [Utf.cp, Nat.zero_add, Nat.reduceAdd] at hcp
        refine KC.exit (KQ.exitThen (KQ.exitThen (KQ.hit (KQ.seq (KC.seq (KC.sr (KL.run 4 rfl ?_)))))))
        refine KL.cq 74 rfl ?_ ?_
        · intro hg74
          try dsimp only at hg74
          refine KL.fin 11 rfl (KQ.seq (KC.condT rfl (KC.sr (KL.fin 1 rfl (KQ.seq (KC.ret (KQ.retThen (KQ.ofRet (KQ.fin1 Tryd.results130 rfl ?_)))))))))
          (exact ⟨congrArg (Value.int .i64) (show (0 : Int) = ((Utf.chr l : Nat) : Int) by rw [Utf.chr0 q0 (by omega)]; rfl), rfl⟩)
        intro hg74
        try dsimp only at hg74
        refine KL.run 4 rfl ?_
        refine KL.cq 78 rfl ?_ ?_
        · intro hg78
          try dsimp only at hg78
          refine KL.fin 7 rfl (KQ.seq (KC.condT rfl (KC.sr (KL.fin 1 rfl (KQ.seq (KC.ret (KQ.retThen (KQ.ofRet (KQ.fin1 Tryd.results130 rfl ?_)))))))))
          (exact ⟨congrArg (Value.int .i64) (show (0 : Int) = ((Utf.chr l : Nat) : Int) by rw [Utf.chr0 q0 (by omega)]; rfl), rfl⟩)
        intro hg78
        try dsimp only at hg78
        refine KL.run 3 rfl ?_
        refine KL.cq 81 rfl ?_ ?_
        · intro hg81
          try dsimp only at hg81
          refine KL.fin 4 rfl (KQ.seq ?_)
          refine KC.iq rfl ?_ ?_
          · intro hc85
            try dsimp only at hc85
            refine KC.sr (KL.fin 1 rfl (KQ.seq (KC.ret (KQ.retThen (KQ.ofRet (KQ.fin1 Tryd.results130 rfl ?_))))))
            (exact ⟨congrArg (Value.int .i64) (show (0 : Int) = ((Utf.chr l : Nat) : Int) by rw [Utf.chr0 q0 (by omega)]; rfl), rfl⟩)
          intro hc85
          try dsimp only at hc85
          refine KC.skip (KQ.sr (KL.fin 2 rfl (KQ.seq (KC.ret (KQ.ofRet (KQ.fin1 Tryd.results130 rfl ?_))))))
          (exact ⟨congrArg (Value.int .i64) (show (4 : Int) = ((Utf.chr l : Nat) : Int) by rw [Utf.chr4 q0 (by omega), if_neg (by omega)]; rfl), rfl⟩)
        intro hg81
        try dsimp only at hg81
        refine KL.fin 4 rfl (KQ.seq (KC.condF rfl (KC.skip (KQ.sr (KL.fin 2 rfl (KQ.seq (KC.ret (KQ.ofRet (KQ.fin1 Tryd.results130 rfl ?_)))))))))
        (exact ⟨congrArg (Value.int .i64) (show (4 : Int) = ((Utf.chr l : Nat) : Int) by rw [Utf.chr4 q0 (by omega), if_neg (by omega)]; rfl), rfl⟩)
      intro hc32
      try dsimp only at hc32
      refine KC.sr (KL.fin 1 rfl (KQ.seq (KC.ret (KQ.retBlock (KQ.retThen (KQ.ofRet (KQ.fin1 Tryd.results130 rfl ?_)))))))
      (exact ⟨congrArg (Value.int .i64) (show (0 : Int) = ((Utf.chr l : Nat) : Int) by rw [Utf.chr0 q0 (by omega)]; rfl), rfl⟩)
    intro hg35
    try dsimp only at hg35
    refine KL.fin 4 rfl (KQ.seq (KC.condF rfl (KC.sr (KL.fin 1 rfl (KQ.seq (KC.ret (KQ.retBlock (KQ.retThen (KQ.ofRet (KQ.fin1 Tryd.results130 rfl ?_))))))))))
    (exact ⟨congrArg (Value.int .i64) (show (0 : Int) = ((Utf.chr l : Nat) : Int) by rw [Utf.chr0 q0 (by omega)]; rfl), rfl⟩)
  intro hg26
  try dsimp only at hg26
  refine KL.fin 4 rfl (KQ.seq (KC.condF rfl (KC.sr (KL.run 3 rfl ?_))))
  refine KL.cq 35 rfl ?_ ?_
  · intro hg35
    try dsimp only at hg35
    refine KL.fin 4 rfl (KQ.seq ?_)
    refine KC.iq rfl ?_ ?_
    · intro hc32
      try dsimp only at hc32
      refine KC.sr (KL.fin 1 rfl (KQ.sr (KL.run 1 rfl ?_)))
      refine KL.q (R.sub rfl rfl rfl (by dsimp only [InR]; omega)) rfl ?_
      refine KL.fin 1 rfl (KQ.r (KL.fin 1 rfl (KQ.normBlock (KQ.seq (KC.seq (KC.sr (KL.run 1 rfl ?_)))))))
      refine KL.q (by exact R.lenS rfl Tryd.underlying36 rfl hs) rfl ?_
      refine KL.fin 2 rfl (KQ.seq ?_)
      refine KC.iq rfl ?_ ?_
      · intro hc44
        try dsimp only at hc44
        refine KC.sr (KL.fin 1 rfl (KQ.seq (KC.ret (KQ.retThen (KQ.ofRet (KQ.fin1 Tryd.results130 rfl ?_))))))
        (exact ⟨congrArg (Value.int .i64) (show (0 : Int) = ((Utf.chr l : Nat) : Int) by rw [Utf.chr0 q0 (by omega)]; rfl), rfl⟩)
      intro hc44
      try dsimp only at hc44
      refine KC.skip (KQ.seq (KC.seq (KC.sr (KL.fin 1 rfl (KQ.seq (KC.block ?_))))))
      refine KC.loopD (κ := Nat × Int) [45, 46, 47, 50, 51, 52, 53, 54, 55, 56, 57, 58, 59, 60, 61, 2, 62, 63, 64, 65, 66, 67, 68, 69, 70, 3, 48, 49, 6] (fun k => [(6, .int .i64 (k.1 : Nat)), (3, .int .u32 k.2)]) (fun k Hl => H = Hl ∧ 1 ≤ k.1 ∧ k.1 ≤ 4 ∧ k.2 = Utf.cp ((l.getD 0 default) - 240) l k.1 ∧ (∀ j, 1 ≤ j → j < k.1 → 128 ≤ l.getD j default ∧ l.getD j default ≤ 191) ∧ 0 ≤ k.2 ∧ k.2 < Utf.bd k.1) (fun k => 4 - k.1) (1, (l.getD 0 default) - 240) ?_ ?_ ?_
      · exact Sub.all rfl
      · exact ⟨rfl, Nat.le_refl _, by show 1 ≤ 4; omega, rfl, (fun j h1 h2 => absurd h2 (by show ¬ j < 1; omega)), by show 0 ≤ (l.getD 0 default) - 240; omega, by show (l.getD 0 default) - 240 < 32; omega⟩
      rintro ⟨k, cc⟩ H8 ⟨rfl, hk1, hkn, hcp, hco, hc0, hc1⟩
      dsimp only at hk1 hkn hcp hco hc0 hc1
      refine KC.seq (KC.sr (KL.fin 3 rfl (KQ.seq ?_)))
      refine KC.iq rfl ?_ ?_
      · intro hc47
        try dsimp only at hc47
        refine KC.skip (KQ.seq (KC.seq (KC.block (KC.seq (KC.sr (KL.run 2 rfl ?_))))))
        have qk := (hs.int k (by omega)).2
        dsimp only [InR] at qk
        have hbd := Utf.bd_succ hk1 (show k < 4 by omega)
        refine KL.q (R.index1 (j := k) rfl Tryd.underlying36 sz5 rfl rfl hs rfl (by omega)) rfl ?_
        refine KL.ld rfl ((hs.int k (by omega)).1) ?_
        refine KL.run 2 rfl ?_
        refine KL.cq 55 rfl ?_ ?_
        · intro hg55
          try dsimp only at hg55
          refine KL.fin 6 rfl (KQ.seq (KC.condT rfl (KC.seq ?_)))
          have hba := Utf.bad_at (l := l) (k := k) hk1 (by omega) (by omega)
          refine KC.region (KL.fin 1 rfl (KQ.seq (KC.ret (KQ.retThen (KQ.retBlock (KQ.retThen (KQ.retThen (KQ.retBlock (KQ.retThen (KQ.ofRet (KQ.fin1 Tryd.results130 rfl ?_)))))))))))
          (exact ⟨congrArg (Value.int .i64) (show (0 : Int) = ((Utf.chr l : Nat) : Int) by rw [Utf.chr0 q0 (by omega)]; rfl), rfl⟩)
        intro hg55
        try dsimp only at hg55
        refine KL.run 2 rfl ?_
        refine KL.q (R.index1 (j := k) rfl Tryd.underlying36 sz5 rfl rfl hs rfl (by omega)) rfl ?_
        refine KL.ld rfl ((hs.int k (by omega)).1) ?_
        refine KL.fin 2 rfl (KQ.seq ?_)
        refine KC.iq rfl ?_ ?_
        · intro hc61
          try dsimp only at hc61
          refine KC.seq ?_
          have hba := Utf.bad_at (l := l) (k := k) hk1 (by omega) (by omega)
          refine KC.region (KL.fin 1 rfl (KQ.seq (KC.ret (KQ.retThen (KQ.retBlock (KQ.retThen (KQ.retThen (KQ.retBlock (KQ.retThen (KQ.ofRet (KQ.fin1 Tryd.results130 rfl ?_)))))))))))
          (exact ⟨congrArg (Value.int .i64) (show (0 : Int) = ((Utf.chr l : Nat) : Int) by rw [Utf.chr0 q0 (by omega)]; rfl), rfl⟩)
        intro hc61
        try dsimp only at hc61
        refine KC.skip (KQ.r (KL.run 1 rfl ?_))
        refine KL.q (R.mul rfl rfl rfl (by dsimp only [InR]; omega)) rfl ?_
        refine KL.run 2 rfl ?_
        refine KL.q (R.index1 (j := k) rfl Tryd.underlying36 sz5 rfl rfl hs rfl (by omega)) rfl ?_
        refine KL.ld rfl ((hs.int k (by omega)).1) ?_
        refine KL.q (R.convI rfl Tryd.underlying5 Tryd.underlying28 rfl (by dsimp only [InR]; omega)) rfl ?_
        refine KL.q (R.add rfl rfl rfl (by dsimp only [InR]; omega)) rfl ?_
        refine KL.q (R.sub rfl rfl rfl (by dsimp only [InR]; omega)) rfl ?_
        refine KL.fin 1 rfl (KQ.normBlock (KQ.r (KL.run 1 rfl ?_)))
        refine KL.q ((R.add rfl rfl rfl (by dsimp only [InR]; omega)).val (congrArg (Value.int .i64) (show _ = ((k + 1 : Nat) : Int) from by omega))) rfl ?_
        refine KL.fin 1 rfl ?_
        refine KQ.again ((k + 1, 64 * cc + l.getD k default - 128)) ?_ ?_ ?_
        · exact Sub.all rfl
        · show 4 - (k + 1) < 4 - k; omega
        exact ⟨rfl, by show 1 ≤ k + 1; omega, by show k + 1 ≤ 4; omega, (by show _ = Utf.cp _ l (k + 1); rw [Utf.cp_succ _ _ hk1, ← hcp]), (fun j h1 h2 => by
              by_cases e : j = k
              · subst e; omega
              exact hco j h1 (by have h2 : j < k + 1 := h2; omega)), (by show 0 ≤ 64 * cc + _ - 128; omega), (by show 64 * cc + _ - 128 < Utf.bd (k + 1); rw [hbd.1]; omega)⟩
      intro hc47
      try dsimp only at hc47
      have ek : k = 4 := (by omega)
      subst ek
      have ho1 := hco 1 (by omega) (by omega)
      have ho2 := hco 2 (by omega) (by omega)
      have ho3 := hco 3 (by omega) (by omega)
      simp only [Utf.cp, Nat.zero_add, Nat.reduceAdd] at hcp
      refine KC.exit (KQ.exitThen (KQ.exitThen (KQ.hit (KQ.seq (KC.seq (KC.sr (KL.run 4 rfl ?_)))))))
      refine KL.cq 74 rfl ?_ ?_
      · intro hg74
        try dsimp only at hg74
        refine KL.fin 11 rfl (KQ.seq (KC.condT rfl (KC.sr (KL.fin 1 rfl (KQ.seq (KC.ret (KQ.retThen (KQ.ofRet (KQ.fin1 Tryd.results130 rfl ?_)))))))))
        (exact ⟨congrArg (Value.int .i64) (show (0 : Int) = ((Utf.chr l : Nat) : Int) by rw [Utf.chr0 q0 (by omega)]; rfl), rfl⟩)
      intro hg74
      try dsimp only at hg74
      refine KL.run 4 rfl ?_
      refine KL.cq 78 rfl ?_ ?_
      · intro hg78
        try dsimp only at hg78
        refine KL.fin 7 rfl (KQ.seq (KC.condT rfl (KC.sr (KL.fin 1 rfl (KQ.seq (KC.ret (KQ.retThen (KQ.ofRet (KQ.fin1 Tryd.results130 rfl ?_)))))))))
        (exact ⟨congrArg (Value.int .i64) (show (0 : Int) = ((Utf.chr l : Nat) : Int) by rw [Utf.chr0 q0 (by omega)]; rfl), rfl⟩)
      intro hg78
      try dsimp only at hg78
      refine KL.run 3 rfl ?_
      refine KL.cq 81 rfl ?_ ?_
      · intro hg81
        try dsimp only at hg81
        refine KL.fin 4 rfl (KQ.seq ?_)
        refine KC.iq rfl ?_ ?_
        · intro hc85
          try dsimp only at hc85
          refine KC.sr (KL.fin 1 rfl (KQ.seq (KC.ret (KQ.retThen (KQ.ofRet (KQ.fin1 Tryd.results130 rfl ?_))))))
          (exact ⟨congrArg (Value.int .i64) (show (0 : Int) = ((Utf.chr l : Nat) : Int) by rw [Utf.chr0 q0 (by omega)]; rfl), rfl⟩)
        intro hc85
        try dsimp only at hc85
        refine KC.skip (KQ.sr (KL.fin 2 rfl (KQ.seq (KC.ret (KQ.ofRet (KQ.fin1 Tryd.results130 rfl ?_))))))
        (exact ⟨congrArg (Value.int .i64) (show (4 : Int) = ((Utf.chr l : Nat) : Int) by rw [Utf.chr4 q0 (by omega), if_neg (by omega)]; rfl), rfl⟩)
      intro hg81
      try dsimp only at hg81
      refine KL.fin 4 rfl (KQ.seq (KC.condF rfl (KC.skip (KQ.sr (KL.fin 2 rfl (KQ.seq (KC.ret (KQ.ofRet (KQ.fin1 Tryd.results130 rfl ?_)))))))))
      (exact ⟨congrArg (Value.int .i64) (show (4 : Int) = ((Utf.chr l : Nat) : Int) by rw [Utf.chr4 q0 (by omega), if_neg (by omega)]; rfl), rfl⟩)
    intro hc32
    try dsimp only at hc32
    refine KC.sr (KL.fin 1 rfl (KQ.seq (KC.ret (KQ.retBlock (KQ.retThen (KQ.ofRet (KQ.fin1 Tryd.results130 rfl ?_)))))))
    (exact ⟨congrArg (Value.int .i64) (show (0 : Int) = ((Utf.chr l : Nat) : Int) by rw [Utf.chr0 q0 (by omega)]; rfl), rfl⟩)
  intro hg35
  try dsimp only at hg35
  refine KL.fin 4 rfl (KQ.seq (KC.condF rfl (KC.sr (KL.fin 1 rfl (KQ.seq (KC.ret (KQ.retBlock (KQ.retThen (KQ.ofRet (KQ.fin1 Tryd.results130 rfl ?_))))))))))
  (exact ⟨congrArg (Value.int .i64) (show (0 : Int) = ((Utf.chr l : Nat) : Int) by rw [Utf.chr0 q0 (by omega)]; rfl), rfl⟩)
theorem refValid_any {H : Heap} (v : Value) (l : List Int) (hs : Sl 1 (EInt .u8) H v l) : Ct Tryd.prog 93 [v] H (fun u H' => u = .bool (Utf.valid l) ∧ H = H') := by
  refine Ct.mk Tryd.func93 rfl Tryd.ntmps93 rfl ?_
  intro W0 hW0
  have o0 : Old H H := Old.refl H
  refine KC.sr (KL.fin 1 rfl (KQ.seq (KC.seq (KC.sr (KL.fin 1 rfl (KQ.seq (KC.block ?_)))))))
  refine KC.loopD (κ := Nat) [5, 6, 7, 8, 9, 10, 11, 12, 4, 13, 14, 2, 15, 16, 17, 3] (fun k => [(3, .int .i64 (k : Nat))]) (fun k Hl => H = Hl ∧ k ≤ l.length ∧ Utf.valid (l.drop k) = Utf.valid l) (fun k => l.length - k) 0 ?_ ?_ ?_
  · exact Sub.all rfl
  · exact ⟨rfl, Nat.zero_le _, rfl⟩
  rintro k H1 ⟨rfl, hk, hv⟩
  refine KC.seq (KC.sr (KL.run 2 rfl ?_))
  refine KL.q (by exact R.lenS rfl Tryd.underlying36 rfl hs) rfl ?_
  refine KL.fin 1 rfl (KQ.seq ?_)
  refine KC.iq rfl ?_ ?_
  · intro hc8
    refine KC.skip (KQ.seq (KC.block (KC.sr (KL.run 2 rfl ?_))))
    refine KL.q (R.slice rfl Tryd.underlying36 sz5 rfl hs (bnd.mk (r := k) rfl rfl) bnd.no (by omega) (Nat.le_refl _)) rfl ?_
    have s1 := hs.tail (lo := k) (by omega)
    refine KL.c rfl Tryd.call130 (One_any _ _ s1 (by rw [List.length_drop]; omega)) ?_
    rintro _ _ ⟨rfl, rfl⟩
    have hcl := Utf.chr_le (l := l.drop k) (by rw [List.length_drop]; omega)
    have hcl2 := hcl
    rw [List.length_drop] at hcl2
    refine KL.fin 1 rfl (KQ.seq (KC.seq (KC.sr (KL.fin 2 rfl (KQ.seq ?_)))))
    refine KC.iq rfl ?_ ?_
    · intro hc14
      refine KC.sr (KL.fin 1 rfl (KQ.seq (KC.ret (KQ.retThen (KQ.retBlock (KQ.retThen (KQ.retBlock (KQ.retThen (KQ.ofRet (KQ.fin1 Tryd.results93 rfl ?_))))))))))
      (exact ⟨congrArg Value.bool (show false = Utf.valid l by rw [← hv]; exact (Utf.valid_bad (by rw [List.length_drop]; omega) (by omega)).symm), rfl⟩)
    intro hc14
    refine KC.skip (KQ.r (KL.run 2 rfl ?_))
    refine KL.q ((R.add rfl rfl rfl (by have := hs.len; dsimp only [InR]; omega)).val (congrArg (Value.int .i64) (show _ = ((k + Utf.chr (l.drop k) : Nat) : Int) from by omega))) rfl ?_
    refine KL.fin 1 rfl (KQ.normBlock ?_)
    refine KQ.again (k + Utf.chr (l.drop k)) ?_ ?_ ?_
    · exact Sub.all rfl
    · omega
    exact ⟨rfl, by rw [List.length_drop] at hcl; omega, (by rw [← List.drop_drop, ← hv]; exact Utf.valid_ok (by rw [List.length_drop]; omega) rfl (by omega))⟩
  intro hc8
  refine KC.exit (KQ.exitThen (KQ.exitThen (KQ.hit (KQ.sr (KL.fin 1 rfl (KQ.seq (KC.ret (KQ.ofRet (KQ.fin1 Tryd.results93 rfl ?_)))))))))
  (exact ⟨congrArg Value.bool (show true = Utf.valid l by rw [← hv]; exact (Utf.valid_nil (by rw [List.length_drop]; omega)).symm), rfl⟩)
theorem nameValid_any {H : Heap} (v : Value) (l : List Int) (hs : Sl 1 (EInt .u8) H v l) (hT : TabU H) : Ct Tryd.prog 121 [v] H (fun u H' => u = .bool (Utf.valid l) ∧ Old H H') := by
  refine Ct.mk Tryd.func121 rfl Tryd.ntmps121 rfl ?_
  intro W0 hW0
  have o0 : Old H H := Old.refl H
  refine KC.sr (KL.fin 1 rfl (KQ.sr (KL.run 1 rfl ?_)))
  refine KL.c rfl Tryd.call143 (utf8Valid_any _ _ hs hT) ?_
  rintro _ H1 ⟨rfl, ox⟩
  have zc_H1 := (ox).1
  have o0 := o0.trans ox
  refine KL.fin 1 rfl (KQ.seq (KC.ret (KQ.ofRet (KQ.fin1 Tryd.results121 rfl ?_))))
  exact ⟨rfl, o0⟩
end Go.Proofs.YtldmfchamcpmmaaDoor
namespace Go.Proofs.YtldmfchamcpmmaaDoor
open Go Go.RowKit
set_option linter.unusedVariables false
set_option linter.unusedSimpArgs false
set_option linter.unnecessarySimpa false
theorem NAppend_any {H : Heap} (v : Value) (l : List Int) (s : ByteArray) (hs : Sl 1 (EInt .u8) H v l) (hl : l.length ≤ 100000) (hz : s.size ≤ 100000) : Ct Tryd.prog 122 [v, .string s] H (fun u H' => Own 1 (EInt .u8) 5 #[] H.size H' u (l ++ Lb.ap (s.size : Nat) ++ ints s) ∧ Old H H') := by
  refine Ct.mk Tryd.func122 rfl Tryd.ntmps122 rfl ?_
  intro W0 hW0
  have o0 : Old H H := Old.refl H
  refine KC.sr (KL.fin 1 rfl (KQ.sr (KL.run 2 rfl (KL.q (R.lenStr (ty := 0) rfl Tryd.underlying9 rfl) rfl ?_))))
  refine KL.q (R.convI rfl Tryd.underlying3 Tryd.underlying101 rfl (by dsimp only [InR]; omega)) rfl ?_
  refine KL.c rfl Tryd.call39 (AppendU_k _ _ _ hs (by omega) (by omega) (by omega)) ?_
  rintro va H1 ⟨wa, ox⟩
  have zc_H1 := (ox).1
  have o0 := o0.trans ox
  have hs := hs.old ox
  have hal := (Lb.ap_length (z := (s.size : Int)) (by omega) (by omega)).2
  refine KL.run 1 rfl ?_
  have lt2 := wa.lt
  refine KL.m (M.appendStr rfl Tryd.underlying36 Tryd.underlying9 inf5 rfl rfl wa (by omega) (by rw [List.length_append]; omega)) rfl ?_
  rintro v2 H2 ⟨w2, g2⟩
  have ob2 := g2.oldB wa (by omega)
  have o0 := o0.then ob2 (by omega)
  have z2 := ob2.1
  have wa := w2
  refine KL.fin 1 rfl (KQ.seq (KC.ret (KQ.ofRet (KQ.fin1 Tryd.results122 rfl ?_))))
  exact ⟨wa, o0⟩
end Go.Proofs.YtldmfchamcpmmaaDoor
namespace Go.Proofs.YtldmfchamcpmmaaDoor
open Go Go.RowKit Go.ChangeShapes Go.WideShapes Go.Deep
set_option linter.unusedVariables false
set_option linter.unusedSimpArgs false
/-- what a row tells of such a type is such a reading -/
def Opens (P : Program) (t : TypeId) {α : Type} (E : El α) : Prop :=
  ∀ (H : Type) (enc : TypeId × Value → H) (w : World) (base : Nat) (spare : Nat → Bool) (held : Bool) (fuel : Nat) (cs : List Value) (x : DataW H × List MemPlace), DataW.trod enc P w base spare held fuel t cs = some x → ∃ y, E w.heap cs y
theorem opens_int {P : Program} {t : TypeId} {k : IntKind} (ht : P.underlying t = some (.int k)) : Opens P t (EInt k) := by
  intro H enc w base spare held fuel cs x h
  obtain ⟨n, hn, _, hw⟩ := DataW.trod_int ht h
  exact ⟨n, hn, inR_wf.1 hw⟩
theorem opens_bool {P : Program} {t : TypeId} (ht : P.underlying t = some .bool) : Opens P t EBool := by
  intro H enc w base spare held fuel cs x h
  obtain ⟨n, hn, _⟩ := DataW.trod_bool ht h
  exact ⟨n, hn⟩
end Go.Proofs.YtldmfchamcpmmaaDoor
namespace Go.Proofs.YtldmfchamcpmmaaDoor
open Go Go.RowKit Go.ChangeShapes Go.WideShapes Go.Deep
set_option linter.unusedVariables false
def ELim : El (Int × Int) := fun _ cs x => cs = [.int .u32 x.1, .int .i64 x.2] ∧ InR .u32 x.1 ∧ InR .i64 x.2
end Go.Proofs.YtldmfchamcpmmaaDoor
namespace Go.Proofs.YtldmfchamcpmmaaDoor
open Go Go.RowKit
set_option linter.unusedVariables false
set_option linter.unusedSimpArgs false
abbrev FTy := List Int × List Int
abbrev Glb := Int × Bool
structure Imp where
  mod : ByteArray
  nam : ByteArray
  kind : Int
  typ : Int
  lim : Int × Int
  glob : Glb
structure Exp where
  nam : ByteArray
  kind : Int
  idx : Int
abbrev Glo := Glb × List Ins
abbrev Elm := Int × List Ins × List Int
abbrev Cod := List (Int × Int) × List Ins
structure Mo where
  types : List FTy
  imports : List Imp
  funcs : List Int
  tables : List (Int × Int)
  mems : List (Int × Int)
  globs : List Glo
  exports : List Exp
  hasStart : Bool
  start : Int
  elems : List Elm
  codes : List Cod
  datas : List Elm
instance : Inhabited Imp := ⟨⟨⟨#[]⟩, ⟨#[]⟩, 0, 0, (0, 0), (0, false)⟩⟩
instance : Inhabited Exp := ⟨⟨⟨#[]⟩, 0, 0⟩⟩
namespace En
def u (z : Int) : List Int := Lb.ap z
def vOk (t : Int) : Bool := decide (t = 127 ∨ t = 126)
/-- the bytes of a list -/
def lst {α : Type} (f : α → List Int) (l : List α) : List Int := u (l.length : Nat) ++ l.flatMap f
def txt (s : ByteArray) : List Int := u (s.size : Nat) ++ ints s
def limB (x : Int × Int) : List Int := if x.2 < 0 then 0 :: u x.1 else 1 :: (u x.1 ++ u (x.2 % 4294967296))
def limO (x : Int × Int) : Bool := decide (-1 ≤ x.2 ∧ x.2 < 4294967296)
def tabB (x : Int × Int) : List Int := 112 :: limB x
def globB (g : Glb) : List Int := [g.1, if g.2 = true then 1 else 0]
def globO (g : Glb) : Bool := vOk g.1
def valB (t : Int) : List Int := [t]
def typB (x : FTy) : List Int := 96 :: (lst valB x.1 ++ lst valB x.2)
def typO (x : FTy) : Bool := x.1.all vOk && x.2.all vOk
def impM (x : Imp) : List Int := if x.kind = 0 then u x.typ else if x.kind = 1 then tabB x.lim else if x.kind = 2 then limB x.lim else if x.kind = 3 then globB x.glob else []
def impO2 (x : Imp) : Bool := if x.kind = 0 then true else if x.kind = 1 then limO x.lim else if x.kind = 2 then limO x.lim else if x.kind = 3 then globO x.glob else false
def impB (x : Imp) : List Int := txt x.mod ++ txt x.nam ++ x.kind :: impM x
def impO (x : Imp) : Bool := Utf.valid (ints x.mod) && Utf.valid (ints x.nam) && decide (x.kind = 0 ∨ x.typ = 0) && decide (x.kind = 1 ∨ x.kind = 2 ∨ x.lim = (0, 0)) && decide (x.kind = 3 ∨ x.glob = (0, false)) && impO2 x
def expB (x : Exp) : List Int := txt x.nam ++ x.kind :: u x.idx
def expO (x : Exp) : Bool := Utf.valid (ints x.nam) && decide (x.kind ≤ 3)
def locB (x : Int × Int) : List Int := u x.1 ++ [x.2]
def locO (x : Int × Int) : Bool := vOk x.2
def locS : List (Int × Int) → Int
  | [] => 0
  | x :: l => x.1 + locS l
/-- a section of a list, if it has an entry -/
def sec {α : Type} (id : Int) (f : α → List Int) (l : List α) : List Sec := if l.length = 0 then [] else [(id, lst f l)]
end En
end Go.Proofs.YtldmfchamcpmmaaDoor
namespace Go.Proofs.YtldmfchamcpmmaaDoor
open Go Go.RowKit
set_option linter.unusedVariables false
set_option linter.unusedSimpArgs false
namespace En
theorem apl (sg : Bool) : ∀ (f : Nat) (z : Int), (Leb.ap sg f z).length ≤ f
  | 0, z => by simp [Leb.ap]
  | f + 1, z => by
    have := apl sg f (z / 128)
    unfold Leb.ap
    split <;> simp <;> omega
theorem u_le (z : Int) : (u z).length ≤ 10 := by
  unfold u Lb.ap uints
  rw [List.length_map]; exact apl false 10 z
theorem flatMap_le {α : Type} {f : α → List Int} {c : Nat} : ∀ {l : List α}, (∀ x ∈ l, (f x).length ≤ c) → (l.flatMap f).length ≤ c * l.length
  | [], _ => by simp
  | x :: l, h => by
    have h1 := h x List.mem_cons_self
    have h2 := flatMap_le (l := l) (fun y hy => h y (List.mem_cons_of_mem _ hy))
    rw [List.flatMap_cons, List.length_append, List.length_cons, Nat.mul_add, Nat.mul_one]; omega
theorem lst_le {α : Type} {f : α → List Int} {c : Nat} {l : List α} (h : ∀ x ∈ l, (f x).length ≤ c) : (lst f l).length ≤ 10 + c * l.length := by
  have h1 := flatMap_le h
  have h2 := u_le (l.length : Nat)
  unfold lst; rw [List.length_append]; omega
theorem txt_le {s : ByteArray} {c : Nat} (h : s.size ≤ c) : (txt s).length ≤ 10 + c := by
  have := u_le (s.size : Nat)
  unfold txt; rw [List.length_append, ints_length]; omega
theorem lim_le (x : Int × Int) : (limB x).length ≤ 21 := by
  have h1 := u_le x.1
  have h2 := u_le (x.2 % 4294967296)
  unfold limB
  split <;> simp only [List.length_cons, List.length_append] <;> omega
theorem tab_le (x : Int × Int) : (tabB x).length ≤ 22 := by
  have := lim_le x
  unfold tabB; rw [List.length_cons]; omega
theorem glob_le (g : Glb) : (globB g).length ≤ 2 := by unfold globB; simp
theorem typ_le {x : FTy} (h : x.1.length ≤ 4000 ∧ x.2.length ≤ 4000) : (typB x).length ≤ 1000000 := by
  have h1 := lst_le (f := valB) (c := 1) (l := x.1) (fun _ _ => by simp [valB])
  have h2 := lst_le (f := valB) (c := 1) (l := x.2) (fun _ _ => by simp [valB])
  unfold typB; simp only [List.length_cons, List.length_append]; omega
theorem imp_le {x : Imp} (h : x.mod.size ≤ 4000 ∧ x.nam.size ≤ 4000) : (impB x).length ≤ 1000000 := by
  have h1 := txt_le h.1
  have h2 := txt_le h.2
  have h3 : (impM x).length ≤ 22 := by
    have a1 := u_le x.typ
    have a2 := tab_le x.lim
    have a3 := lim_le x.lim
    have a4 := glob_le x.glob
    unfold impM
    repeat' split
    all_goals first | omega | (simp; done)
  unfold impB; simp only [List.length_cons, List.length_append]; omega
theorem exp_le {x : Exp} (h : x.nam.size ≤ 4000) : (expB x).length ≤ 1000000 := by
  have h1 := txt_le h
  have h2 := u_le x.idx
  unfold expB; simp only [List.length_cons, List.length_append]; omega
theorem take_succD {α : Type} [Inhabited α] {l : List α} {k : Nat} (h : k < l.length) : l.take (k + 1) = l.take k ++ [l.getD k default] := by
  rw [List.take_succ_eq_append_getElem h, List.getD_eq_getElem?_getD, List.getElem?_eq_getElem h]; rfl
theorem getD_memD {α : Type} [Inhabited α] {l : List α} {k : Nat} (h : k < l.length) : l.getD k default ∈ l := by
  rw [List.getD_eq_getElem?_getD, List.getElem?_eq_getElem h]; exact List.getElem_mem _
theorem lst_step {α : Type} [Inhabited α] {f : α → List Int} {l : List α} {k : Nat} {a b : List Int} (h : k < l.length) : (a ++ (b ++ (l.take k).flatMap f)) ++ f (l.getD k default) = a ++ (b ++ (l.take (k + 1)).flatMap f) := by
  rw [take_succD h, List.flatMap_append, List.flatMap_singleton]; simp only [List.append_assoc]
theorem all_step {α : Type} [Inhabited α] {p : α → Bool} {l : List α} {k : Nat} {b : Bool} (h : k < l.length) : ((b || !(l.take k).all p) || !p (l.getD k default)) = (b || !(l.take (k + 1)).all p) := by
  rw [take_succD h, List.all_append]
  simp only [List.all_cons, List.all_nil, Bool.and_true, Bool.not_and, Bool.or_assoc]
theorem take_le {α : Type} {f : α → List Int} (l : List α) (k : Nat) : ((l.take k).flatMap f).length ≤ (l.flatMap f).length := by
  conv => rhs; rw [← List.take_append_drop k l, List.flatMap_append, List.length_append]
  omega
/-- what has been written of a list, and the next of it -/
theorem room {α : Type} [Inhabited α] {f : α → List Int} {l : List α} {k c : Nat} {a : List Int} (h : k < l.length) (hN : a.length + (lst f l).length ≤ c) : (a ++ (u (l.length : Nat) ++ (l.take k).flatMap f)).length + (f (l.getD k default)).length ≤ c := by
  have h1 := take_le (f := f) l (k + 1)
  rw [take_succD h, List.flatMap_append, List.flatMap_singleton, List.length_append] at h1
  unfold lst at hN
  simp only [List.length_append] at hN ⊢
  omega
theorem locS_app : ∀ (l m : List (Int × Int)), locS (l ++ m) = locS l + locS m
  | [], m => by simp [locS]
  | x :: l, m => by simp only [List.cons_append, locS]; rw [locS_app l m]; omega
theorem locS_rng : ∀ {l : List (Int × Int)}, (∀ x ∈ l, 0 ≤ x.1 ∧ x.1 ≤ 4294967295) → 0 ≤ locS l ∧ locS l ≤ 4294967295 * (l.length : Nat)
  | [], _ => by simp [locS]
  | x :: l, h => by
    have h1 := h x List.mem_cons_self
    have h2 := locS_rng (l := l) (fun y hy => h y (List.mem_cons_of_mem _ hy))
    simp only [locS, List.length_cons]; omega
theorem locS_step {l : List (Int × Int)} {k : Nat} (h : k < l.length) : locS (l.take (k + 1)) = locS (l.take k) + (l.getD k default).1 := by
  rw [take_succD h, locS_app]; simp [locS]
end En
end Go.Proofs.YtldmfchamcpmmaaDoor
namespace Go.Proofs.YtldmfchamcpmmaaDoor
open Go Go.RowKit
set_option linter.unusedVariables false
set_option linter.unusedSimpArgs false
/-- a writer: its row, and whether something has no bytes -/
structure WA (H : Heap) (g : Nat) (v : Value) (l : List Int) (bad : Bool) : Prop where
  b : H[g]? = some (.cells [v, .bool bad].toArray 137 (0, 0))
  w : Own 1 (EInt .u8) 5 #[] (g + 1) H v l
section
variable {H H' : Heap} {g : Nat} {v v' : Value} {l l' : List Int} {bad bad' : Bool}
theorem WA.lt (h : WA H g v l bad) : g < H.size := blk_lt h.b
theorem WA.old (h : WA H g v l bad) (o : Old H H') : WA H' g v l bad := ⟨o.blk h.b, h.w.old o⟩
/-- what is behind the writer's blocks changes -/
theorem WA.keep (h : WA H g v l bad) {B : Nat} (o : OldB B H H') (h1 : g < B) (h2 : v = .slice none 0 0 ∨ vblock v < B) : WA H' g v l bad :=
  ⟨(o.2 g h1).trans h.b, h.w.keepN (h2.imp id (fun e => o.2 _ e))⟩
theorem WA.cast (h : WA H g v l bad) (e1 : l = l') (e2 : bad = bad') : WA H g v l' bad' := by subst e1 e2; exact h
end
/-- a step of the writer: only its struct, its row and new blocks change -/
structure WS (g : Nat) (v : Value) (H : Heap) (v' : Value) (H' : Heap) : Prop where
  f : Fr g v H H'
  nx : Nx H v v'
section
variable {H H' H1 A B C Hb : Heap} {g k : Nat} {v v' v1 v2 : Value} {l : List Int} {bad : Bool} {o : Obj}
theorem WS.refl (g : Nat) (v : Value) (H : Heap) : WS g v H v H := ⟨Fr.refl _ _ _, Nx.refl _ _⟩
theorem WS.trans (h : WS g v A v1 B) (k : WS g v1 B v2 C) : WS g v A v2 C := ⟨h.f.trans h.nx k.f, h.nx.trans h.f.1 k.nx⟩
theorem WS.old (h : WS g v A v1 B) (o : Old B C) : WS g v A v1 C := ⟨h.f.old o, h.nx⟩
theorem WS.blk (h : WS g v A v1 B) (hb : A[k]? = some o) (h1 : k ≠ g) (h2 : v = .slice none 0 0 ∨ vblock v ≠ k) : B[k]? = some o :=
  (h.f.2 k (blk_lt hb) h1 (h2.imp id (fun e e2 => e e2.symm))).trans hb
theorem WS.apart (h : WS g v A v1 B) (h2 : v = .slice none 0 0 ∨ vblock v ≠ k) (hk : k < A.size) : v1 = .slice none 0 0 ∨ vblock v1 ≠ k := by
  rcases h.nx with e | ⟨e1, e2⟩ | e
  · exact .inl e
  · exact .inr (by rw [e2]; exact h2.resolve_left e1)
  exact .inr (by omega)
theorem WS.om (h : WS g v A v1 B) (w : WA A g v l bad) (o : Old Hb A) (hg : Hb.size ≤ g) : Old Hb B :=
  ⟨Nat.le_trans o.1 h.f.1, fun k hk => (h.f.2 k (by have := o.1; omega) (by omega) (w.w.lt.imp id (fun e => by omega))).trans (o.2 k hk)⟩
theorem WS.ob0 (h : WS g v A v1 B) : OldB 0 A B := ⟨h.f.1, fun k hk => absurd hk (by omega)⟩
theorem WS.sz (h : WS g v A v1 B) : A.size ≤ B.size := h.f.1
theorem WS.own {α : Type} {n : Nat} {E : El α} {e : TypeId} {H0 : Heap} {Bw : Nat} {x : Value} {lx : List α} (h : WS g v A v1 B) (w : Own n E e H0 Bw A x lx) (h1 : x = .slice none 0 0 ∨ vblock x ≠ g) (h2 : x = .slice none 0 0 ∨ v = .slice none 0 0 ∨ vblock v ≠ vblock x) : Own n E e H0 Bw B x lx := by
  refine w.keepN ?_
  rcases w.lt with e | e
  · exact .inl e
  by_cases hx : x = .slice none 0 0
  · exact .inl hx
  exact .inr (h.f.2 _ e.2 (h1.resolve_left hx) ((h2.resolve_left hx).imp id (fun q q2 => q q2.symm)))
/-- what is behind changes -/
theorem WS.behind (h : WS g v A v1 B) {g2 : Nat} (o : OldB g2 B C) (hz : A.size ≤ g2) : WS g v A v1 C :=
  ⟨⟨Nat.le_trans h.f.1 o.1, fun k hk h1 h2 => (o.2 k (by omega)).trans (h.f.2 k hk h1 h2)⟩, h.nx⟩
theorem WS.low (h : WS g v A v1 B) (w : WA A g v l bad) : OldB g A B := ⟨h.f.1, fun k hk => h.f.2 k (by have := w.lt; omega) (by omega) (w.w.lt.imp id (fun e => by omega))⟩
end
end Go.Proofs.YtldmfchamcpmmaaDoor
namespace Go.Proofs.YtldmfchamcpmmaaDoor
open Go Go.RowKit
set_option linter.unusedVariables false
set_option linter.unusedSimpArgs false
set_option linter.unnecessarySimpa false
theorem wmay_any {H : Heap} {g : Nat} {v : Value} {l : List Int} {bad : Bool} (wa : WA H g v l bad) (b : Bool) : Ct Tryd.prog 73 [.pointer (some ⟨g, 0, none⟩), .bool b] H (fun _ H' => WA H' g v l (bad || !b) ∧ WS g v H v H') := by
  refine Ct.mk Tryd.func73 rfl Tryd.ntmps73 rfl ?_
  intro W0 hW0
  have o0 : OldB 0 H H := OldB.refl _ H
  have bb := wa.b
  have ww := wa.w
  have zg := blk_lt bb
  have zw := ww.lt
  refine KC.region (KL.run 4 rfl (KL.ld rfl (cell_of bb rfl) (KL.run 1 rfl ?_)))
  refine KL.cq 9 rfl ?_ ?_
  · intro hg9
    refine KL.run 5 rfl ?_
    refine KL.opS (S.store rfl sz4 rfl rfl rfl rfl bb (by simp)) rfl rfl ?_
    rintro H1 ⟨u1, b1⟩
    have o0 := o0.trans (OldB.upd u1 (by omega))
    have zu1 := u1.1
    have ww := ww.upd u1 (by exact ww.lt.imp id (fun h => by omega))
    have bb := b1
    have ws : WS g v H v H1 := ⟨(Fr.refl _ _ _).upd u1, Nx.refl _ _⟩
    refine KL.nil (KQ.fin0 Tryd.results73 ?_)
    exact ⟨(WA.mk bb ww).cast rfl (by simp_all), ws⟩
  intro hg9
  refine KL.run 5 rfl ?_
  refine KL.opS (S.store rfl sz4 rfl rfl rfl rfl bb (by simp)) rfl rfl ?_
  rintro H2 ⟨u2, b2⟩
  have o0 := o0.trans (OldB.upd u2 (by omega))
  have zu2 := u2.1
  have ww := ww.upd u2 (by exact ww.lt.imp id (fun h => by omega))
  have bb := b2
  have ws : WS g v H v H2 := ⟨(Fr.refl _ _ _).upd u2, Nx.refl _ _⟩
  refine KL.nil (KQ.fin0 Tryd.results73 ?_)
  exact ⟨(WA.mk bb ww).cast rfl (by simp_all), ws⟩
theorem wbyte_any {H : Heap} {g : Nat} {v : Value} {l : List Int} {bad : Bool} (wa : WA H g v l bad) {u : Value} {m : List Int} (hs : Sl 1 (EInt .u8) H u m) (hN : l.length + m.length ≤ 1099511627776) : Ct Tryd.prog 68 [.pointer (some ⟨g, 0, none⟩), u] H (fun _ H' => ∃ v', WA H' g v' (l ++ m) (bad) ∧ WS g v H v' H') := by
  refine Ct.mk Tryd.func68 rfl Tryd.ntmps68 rfl ?_
  intro W0 hW0
  have o0 : OldB 0 H H := OldB.refl _ H
  have bb := wa.b
  have ww := wa.w
  have zg := blk_lt bb
  have zw := ww.lt
  refine KC.region (KL.run 4 rfl (KL.ld rfl (cell_of bb rfl) (KL.run 1 rfl ?_)))
  have lt1 := ww.lt
  refine KL.m (M.appendN rfl Tryd.underlying36 inf5 rfl (by decide) rfl rfl ww hs (fun _ _ h _ => h) (by omega) (by omega) (by unfold maxLen; omega)) rfl ?_
  rintro vn H1 ⟨w1, g1, nx1⟩
  try dsimp only at g1 nx1
  have ob1 := g1.oldB ww (by omega)
  have o0 := o0.trans (ob1.mono (by omega))
  have z1 := ob1.1
  have bb := (g1.2 _ (blk_lt bb) (by exact ww.lt.imp id (fun h => by omega))).trans bb
  have ww := w1
  have gA := g1
  have nxA := nx1
  refine KL.run 2 rfl ?_
  refine KL.opS (S.store rfl sz36 rfl rfl ww.cells1 ww.one bb (by simp)) rfl rfl ?_
  rintro H2 ⟨u2, b2⟩
  have o0 := o0.trans (OldB.upd u2 (by omega))
  have zu2 := u2.1
  have ww := ww.upd u2 (by exact ww.lt.imp id (fun h => by omega))
  have bb := b2
  have ws : WS g v H vn H2 := ⟨((Fr.refl _ _ _).grown (Nx.refl _ _) gA).upd u2, nxA⟩
  refine KL.nil (KQ.fin0 Tryd.results68 ?_)
  exact ⟨_, ⟨bb, ww⟩, ws⟩
theorem Nx.le {A B : Heap} {v v' : Value} (h : Nx A v v') (hs : B.size ≤ A.size) : Nx B v v' := h.imp id (fun h => h.imp id (fun h => by omega))
theorem wu32_any {H : Heap} {g : Nat} {v : Value} {l : List Int} {bad : Bool} (wa : WA H g v l bad) (n : Int) (rn : InR .u32 n) (hN : l.length + 10 ≤ 1099511627776) : Ct Tryd.prog 27 [.pointer (some ⟨g, 0, none⟩), .int .u32 n] H (fun _ H' => ∃ v', WA H' g v' (l ++ En.u n) (bad) ∧ WS g v H v' H') := by
  refine Ct.mk Tryd.func27 rfl Tryd.ntmps27 rfl ?_
  intro W0 hW0
  have o0 : OldB 0 H H := OldB.refl _ H
  have bb := wa.b
  have ww := wa.w
  have zg := blk_lt bb
  have zw := ww.lt
  dsimp only [InR] at rn
  refine KC.text (clOf [(7, 2), (8, 2), (11, 2)]) (fun j Hc => j = 4 → Hc[g]? = some (.cells [v, .bool bad].toArray 137 (0, 0))) (by kernel_rfl) (by kernel_rfl) (fun _ _ => bb) ?_
  refine KP.run 4 rfl rfl ?_
  refine KP.op rfl (fun Hg hg => R.load rfl Tryd.underlying36 rfl rfl (cell_of (hg rfl) rfl)) rfl rfl rfl ?_
  refine KP.run 1 rfl rfl ?_
  refine KP.op rfl (fun Hg hg => R.convI rfl Tryd.underlying28 Tryd.underlying101 rfl (by dsimp only [InR]; omega)) rfl rfl rfl ?_
  refine KP.call rfl rfl rfl rfl rfl Tryd.call39 rfl rfl rfl (AppendU_k _ [] n (Sl.nil _ _ _) (by decide) (by omega) (by omega)) (fun _ _ hR j _ _ _ => hR.2.blk bb) ?_
  rintro u H1 ⟨wu, ox⟩
  rw [List.nil_append] at wu
  have zc_H1 := (ox).1
  have o0 := o0.trans ((ox).b (by omega))
  have bb := (ox).blk bb
  have ww := ww.old ox
  have su := wu.sl (emptyOld _) (by decide)
  have hu := En.u_le n
  unfold En.u at hu
  have oA := ox
  have lt2 := ww.lt
  refine KP.opM rfl (M.appendN rfl Tryd.underlying36 inf5 rfl (by decide) rfl rfl ww su (fun _ _ h _ => h) (by omega) (by omega) (by unfold maxLen; omega)) rfl rfl rfl (fun _ _ _ j _ hj2 hj => by subst hj; exact absurd (by decide +kernel) hj2) ?_
  rintro vn H2 ⟨w2, g2, nx2⟩
  try dsimp only at g2 nx2
  have ob2 := g2.oldB ww (by omega)
  have o0 := o0.trans (ob2.mono (by omega))
  have z2 := ob2.1
  have bb := (g2.2 _ (blk_lt bb) (by exact ww.lt.imp id (fun h => by omega))).trans bb
  have ww := w2
  have gA := g2
  have nxA := nx2
  refine KP.run 2 rfl rfl ?_
  refine KP.opS rfl (S.store rfl sz36 rfl rfl ww.cells1 ww.one bb (by simp)) rfl rfl (fun _ _ j _ hj2 hj => by subst hj; exact absurd (by decide +kernel) hj2) ?_
  rintro H3 ⟨u3, b3⟩
  have o0 := o0.trans (OldB.upd u3 (by omega))
  have zu3 := u3.1
  have ww := ww.upd u3 (by exact ww.lt.imp id (fun h => by omega))
  have bb := b3
  have ws : WS g v H vn H3 := ⟨((Fr.ofOld oA).grown (Nx.refl _ _) gA).upd u3, nxA.le (by omega)⟩
  refine KP.nil (KQ.fin0 Tryd.results27 ?_)
  exact ⟨_, ⟨bb, ww⟩, ws⟩
end Go.Proofs.YtldmfchamcpmmaaDoor
namespace Go.Proofs.YtldmfchamcpmmaaDoor
open Go Go.RowKit
set_option linter.unusedVariables false
set_option linter.unusedSimpArgs false
set_option linter.unnecessarySimpa false
theorem wbytes_any {H : Heap} {g : Nat} {v : Value} {l : List Int} {bad : Bool} (wa : WA H g v l bad) {Hb : Heap} (oB : Old Hb H) (hgB : Hb.size ≤ g) {u : Value} {m : List Int} (hs : Sl 1 (EInt .u8) Hb u m) (hm : m.length ≤ 4294967295) (hN : l.length + m.length + 10 ≤ 1099511627776) : Ct Tryd.prog 84 [.pointer (some ⟨g, 0, none⟩), u] H (fun _ H' => ∃ v', WA H' g v' (l ++ (En.u (m.length : Nat) ++ m)) (bad) ∧ WS g v H v' H') := by
  refine Ct.mk Tryd.func84 rfl Tryd.ntmps84 rfl ?_
  intro W0 hW0
  have o0 : OldB 0 H H := OldB.refl _ H
  have ws := WS.refl g v H
  have zg := wa.lt
  refine KC.sr (KL.run 2 rfl (KL.q (R.lenS rfl Tryd.underlying36 rfl hs) rfl ?_))
  refine KL.q (R.convI rfl Tryd.underlying3 Tryd.underlying28 rfl (by dsimp only [InR]; omega)) rfl ?_
  refine KL.c rfl Tryd.call27 (wu32_any wa _ (by dsimp only [InR]; omega) (by omega)) ?_
  rintro _ H1 ⟨v_1, wa_1, s_1⟩
  have oB := s_1.om wa oB hgB
  have zs_1 := s_1.sz
  have ws := ws.trans s_1
  have wa := wa_1
  have o0 := o0.trans s_1.ob0
  have hul := En.u_le (m.length : Nat)
  refine KL.nil (KQ.r (KL.run 2 rfl ?_))
  refine KL.c rfl Tryd.call68 (wbyte_any wa (hs.old oB) (by rw [List.length_append]; omega)) ?_
  rintro _ H2 ⟨v_2, wa_2, s_2⟩
  have oB := s_2.om wa oB hgB
  have zs_2 := s_2.sz
  have ws := ws.trans s_2
  have wa := wa_2
  have o0 := o0.trans s_2.ob0
  refine KL.nil (KQ.fin0 Tryd.results84 ?_)
  exact ⟨_, wa.cast (List.append_assoc _ _ _) (rfl), ws⟩
theorem wbytes_own {H : Heap} {g : Nat} {v : Value} {l : List Int} {bad : Bool} (wa : WA H g v l bad) {u : Value} {m : List Int} {Bu : Nat} (hw : Own 1 (EInt .u8) 5 #[] Bu H u m) (h1 : u = .slice none 0 0 ∨ vblock u ≠ g) (h2 : u = .slice none 0 0 ∨ v = .slice none 0 0 ∨ vblock v ≠ vblock u) (hm : m.length ≤ 4294967295) (hN : l.length + m.length + 10 ≤ 1099511627776) : Ct Tryd.prog 84 [.pointer (some ⟨g, 0, none⟩), u] H (fun _ H' => ∃ v', WA H' g v' (l ++ (En.u (m.length : Nat) ++ m)) (bad) ∧ WS g v H v' H') := by
  refine Ct.mk Tryd.func84 rfl Tryd.ntmps84 rfl ?_
  intro W0 hW0
  have o0 : OldB 0 H H := OldB.refl _ H
  have ws := WS.refl g v H
  have zg := wa.lt
  refine KC.sr (KL.run 2 rfl (KL.q (R.lenO rfl Tryd.underlying36 rfl hw) rfl ?_))
  refine KL.q (R.convI rfl Tryd.underlying3 Tryd.underlying28 rfl (by dsimp only [InR]; omega)) rfl ?_
  refine KL.c rfl Tryd.call27 (wu32_any wa _ (by dsimp only [InR]; omega) (by omega)) ?_
  rintro _ H1 ⟨v_3, wa_3, s_3⟩
  have sw := (s_3.own hw h1 h2).sl (emptyOld _) (by decide)
  have zs_3 := s_3.sz
  have ws := ws.trans s_3
  have wa := wa_3
  have o0 := o0.trans s_3.ob0
  have hul := En.u_le (m.length : Nat)
  refine KL.nil (KQ.r (KL.run 2 rfl ?_))
  refine KL.c rfl Tryd.call68 (wbyte_any wa sw (by rw [List.length_append]; omega)) ?_
  rintro _ H2 ⟨v_4, wa_4, s_4⟩
  have zs_4 := s_4.sz
  have ws := ws.trans s_4
  have wa := wa_4
  have o0 := o0.trans s_4.ob0
  refine KL.nil (KQ.fin0 Tryd.results84 ?_)
  exact ⟨_, wa.cast (List.append_assoc _ _ _) (rfl), ws⟩
theorem wvalue_any {H : Heap} {g : Nat} {v : Value} {l : List Int} {bad : Bool} (wa : WA H g v l bad) (t : Int) (rt : InR .u8 t) (hN : l.length + 1 ≤ 1099511627776) : Ct Tryd.prog 70 [.pointer (some ⟨g, 0, none⟩), .int .u8 t] H (fun _ H' => ∃ v', WA H' g v' (l ++ [t]) (bad || !En.vOk t) ∧ WS g v H v' H') := by
  refine Ct.mk Tryd.func70 rfl Tryd.ntmps70 rfl ?_
  intro W0 hW0
  have o0 : OldB 0 H H := OldB.refl _ H
  have ws := WS.refl g v H
  have zg := wa.lt
  refine KC.sr (KL.run 4 rfl ?_)
  refine KL.cq 7 rfl ?_ ?_
  · intro hg7
    refine KL.run 3 rfl ?_
    refine KL.c rfl Tryd.call73 (wmay_any wa _) ?_
    rintro _ H1 ⟨wa_5, s_5⟩
    have zs_5 := s_5.sz
    have ws := ws.trans s_5
    have wa := wa_5
    have o0 := o0.trans s_5.ob0
    refine KL.nil (KQ.r (KL.run 2 rfl ?_))
    refine KL.m (M.lit rfl Tryd.underlying36 zs5 (by decide) rfl rfl rfl) rfl ?_
    rintro _ H2 ⟨rfl, n2⟩
    have z2 := n2.2.1
    have o0 := o0.trans ((n2.1).b (by omega))
    have wa := wa.old n2.1
    have ws := ws.old n2.1
    have b2 := n2.2.2
    have st : Sl 1 (EInt .u8) H2 _ [t] := Sl.lits (l := [t]) n2 rfl (by simp) (by intro y hy; simp only [List.mem_cons, List.not_mem_nil, or_false] at hy; subst hy; dsimp only [InR] at *; omega)
    refine KL.c rfl Tryd.call68 (wbyte_any wa st (by simp only [List.length_singleton]; omega)) ?_
    rintro _ H3 ⟨v_6, wa_6, s_6⟩
    have zs_6 := s_6.sz
    have ws := ws.trans s_6
    have wa := wa_6
    have o0 := o0.trans s_6.ob0
    refine KL.nil (KQ.fin0 Tryd.results70 ?_)
    exact ⟨_, wa.cast (rfl) (congrArg (bad || !·) (by unfold En.vOk; ((symm; exact decide_eq_true (.inl (by omega)))))), ws⟩
  intro hg7
  refine KL.run 3 rfl ?_
  refine KL.c rfl Tryd.call73 (wmay_any wa _) ?_
  rintro _ H4 ⟨wa_7, s_7⟩
  have zs_7 := s_7.sz
  have ws := ws.trans s_7
  have wa := wa_7
  have o0 := o0.trans s_7.ob0
  refine KL.nil (KQ.r (KL.run 2 rfl ?_))
  refine KL.m (M.lit rfl Tryd.underlying36 zs5 (by decide) rfl rfl rfl) rfl ?_
  rintro _ H5 ⟨rfl, n5⟩
  have z5 := n5.2.1
  have o0 := o0.trans ((n5.1).b (by omega))
  have wa := wa.old n5.1
  have ws := ws.old n5.1
  have b5 := n5.2.2
  have st : Sl 1 (EInt .u8) H5 _ [t] := Sl.lits (l := [t]) n5 rfl (by simp) (by intro y hy; simp only [List.mem_cons, List.not_mem_nil, or_false] at hy; subst hy; dsimp only [InR] at *; omega)
  refine KL.c rfl Tryd.call68 (wbyte_any wa st (by simp only [List.length_singleton]; omega)) ?_
  rintro _ H6 ⟨v_8, wa_8, s_8⟩
  have zs_8 := s_8.sz
  have ws := ws.trans s_8
  have wa := wa_8
  have o0 := o0.trans s_8.ob0
  refine KL.nil (KQ.fin0 Tryd.results70 ?_)
  exact ⟨_, wa.cast (rfl) (congrArg (bad || !·) (by unfold En.vOk; (exact decide_eq_decide.2 (by omega)))), ws⟩
theorem wlimits_any {H : Heap} {g : Nat} {v : Value} {l : List Int} {bad : Bool} (wa : WA H g v l bad) (a b : Int) (ra : InR .u32 a) (rb : InR .i64 b) (hN : l.length + 21 ≤ 1099511627776) : Ct Tryd.prog 32 [.pointer (some ⟨g, 0, none⟩), .agg [.int .u32 a, .int .i64 b].toArray] H (fun _ H' => ∃ v', WA H' g v' (l ++ En.limB (a, b)) (bad || !En.limO (a, b)) ∧ WS g v H v' H') := by
  refine Ct.mk Tryd.func32 rfl Tryd.ntmps32 rfl ?_
  intro W0 hW0
  have o0 : OldB 0 H H := OldB.refl _ H
  have ws := WS.refl g v H
  have zg := wa.lt
  dsimp only [InR] at rb
  refine KC.sr ?_
  have abx : v = .slice none 0 0 ∨ vblock v ≠ Array.size H := wa.w.lt.imp id (fun e => by omega)
  refine KL.m (M.box rfl rfl rfl) rfl ?_
  rintro _ H1 ⟨rfl, n1⟩
  have z1 := n1.2.1
  have o0 := o0.trans ((n1.1).b (by omega))
  have wa := wa.old n1.1
  have ws := ws.old n1.1
  have b1 := n1.2.2
  have bx := b1
  refine KL.nil (KQ.sr (KL.run 2 rfl (KL.ld rfl (cell_of bx rfl) (KL.run 2 rfl ?_))))
  refine KL.cq 8 rfl ?_ ?_
  · intro hg8
    refine KL.run 1 rfl (KL.ld rfl (cell_of bx rfl) (KL.run 2 rfl ?_))
    refine KL.c rfl Tryd.call73 (wmay_any wa _) ?_
    rintro _ H2 ⟨wa_9, s_9⟩
    have abx2 := s_9.apart abx (blk_lt bx)
    have bx := s_9.blk bx (by omega) abx
    have abx := abx2
    have zs_9 := s_9.sz
    have ws := ws.trans s_9
    have wa := wa_9
    have o0 := o0.trans s_9.ob0
    refine KL.nil (KQ.seq (KC.seq (KC.sr (KL.run 1 rfl (KL.ld rfl (cell_of bx rfl) (KL.fin 1 rfl (KQ.seq ?_)))))))
    refine KC.iq rfl ?_ ?_
    · intro hc16
      refine KC.sr (KL.run 1 rfl ?_)
      refine KL.m (M.lit rfl Tryd.underlying36 zs5 (by decide) rfl rfl rfl) rfl ?_
      rintro _ H3 ⟨rfl, n3⟩
      have z3 := n3.2.1
      have o0 := o0.trans ((n3.1).b (by omega))
      have wa := wa.old n3.1
      have ws := ws.old n3.1
      have bx := (n3.1).blk bx
      have b3 := n3.2.2
      have s0 : Sl 1 (EInt .u8) H3 _ [0] := Sl.lits (l := [0]) n3 rfl (by simp) (by intro y hy; simp only [List.mem_cons, List.not_mem_nil, or_false] at hy; subst hy; dsimp only [InR] at *; omega)
      refine KL.c rfl Tryd.call68 (wbyte_any wa s0 (by simp only [List.length_singleton]; omega)) ?_
      rintro _ H4 ⟨v_10, wa_10, s_10⟩
      have abx2 := s_10.apart abx (blk_lt bx)
      have bx := s_10.blk bx (by omega) abx
      have abx := abx2
      have zs_10 := s_10.sz
      have ws := ws.trans s_10
      have wa := wa_10
      have o0 := o0.trans s_10.ob0
      refine KL.nil (KQ.sr (KL.run 2 rfl (KL.ld rfl (cell_of bx rfl) ?_)))
      refine KL.c rfl Tryd.call27 (wu32_any wa _ ra (by simp only [List.length_append, List.length_cons, List.length_nil]; omega)) ?_
      rintro _ H5 ⟨v_11, wa_11, s_11⟩
      have abx2 := s_11.apart abx (blk_lt bx)
      have bx := s_11.blk bx (by omega) abx
      have abx := abx2
      have zs_11 := s_11.sz
      have ws := ws.trans s_11
      have wa := wa_11
      have o0 := o0.trans s_11.ob0
      refine KL.nil (KQ.seq (KC.ret (KQ.retThen (KQ.ofRet (KQ.fin0 Tryd.results32 ?_)))))
      exact ⟨_, wa.cast (by unfold En.limB; ((rw [if_pos (by assumption)]; simp))) (congrArg (bad || !·) (by unfold En.limO; ((exact decide_eq_decide.2 (by dsimp only; omega))))), ws⟩
    intro hc16
    refine KC.skip (KQ.sr (KL.run 1 rfl ?_))
    refine KL.m (M.lit rfl Tryd.underlying36 zs5 (by decide) rfl rfl rfl) rfl ?_
    rintro _ H6 ⟨rfl, n6⟩
    have z6 := n6.2.1
    have o0 := o0.trans ((n6.1).b (by omega))
    have wa := wa.old n6.1
    have ws := ws.old n6.1
    have bx := (n6.1).blk bx
    have b6 := n6.2.2
    have s1 : Sl 1 (EInt .u8) H6 _ [1] := Sl.lits (l := [1]) n6 rfl (by simp) (by intro y hy; simp only [List.mem_cons, List.not_mem_nil, or_false] at hy; subst hy; dsimp only [InR] at *; omega)
    refine KL.c rfl Tryd.call68 (wbyte_any wa s1 (by simp only [List.length_singleton]; omega)) ?_
    rintro _ H7 ⟨v_12, wa_12, s_12⟩
    have abx2 := s_12.apart abx (blk_lt bx)
    have bx := s_12.blk bx (by omega) abx
    have abx := abx2
    have zs_12 := s_12.sz
    have ws := ws.trans s_12
    have wa := wa_12
    have o0 := o0.trans s_12.ob0
    refine KL.nil (KQ.sr (KL.run 2 rfl (KL.ld rfl (cell_of bx rfl) ?_)))
    refine KL.c rfl Tryd.call27 (wu32_any wa _ ra (by simp only [List.length_append, List.length_cons, List.length_nil]; omega)) ?_
    rintro _ H8 ⟨v_13, wa_13, s_13⟩
    have abx2 := s_13.apart abx (blk_lt bx)
    have bx := s_13.blk bx (by omega) abx
    have abx := abx2
    have zs_13 := s_13.sz
    have ws := ws.trans s_13
    have wa := wa_13
    have o0 := o0.trans s_13.ob0
    have hua := En.u_le a
    refine KL.nil (KQ.r (KL.run 2 rfl (KL.ld rfl (cell_of bx rfl) ?_)))
    refine KL.q ((R.convW rfl Tryd.underlying2 Tryd.underlying28 rfl).val (congrArg (Value.int .u32) (show IntKind.u32.wrap b = b % 4294967296 from by simp [IntKind.wrap, IntKind.bits, IntKind.signed]))) rfl ?_
    refine KL.c rfl Tryd.call27 (wu32_any wa _ (by dsimp only [InR]; omega) (by simp only [List.length_append, List.length_cons, List.length_nil]; omega)) ?_
    rintro _ H9 ⟨v_14, wa_14, s_14⟩
    have abx2 := s_14.apart abx (blk_lt bx)
    have bx := s_14.blk bx (by omega) abx
    have abx := abx2
    have zs_14 := s_14.sz
    have ws := ws.trans s_14
    have wa := wa_14
    have o0 := o0.trans s_14.ob0
    refine KL.nil (KQ.fin0 Tryd.results32 ?_)
    exact ⟨_, wa.cast (by unfold En.limB; ((rw [if_neg (by assumption)]; simp))) (congrArg (bad || !·) (by unfold En.limO; ((exact decide_eq_decide.2 (by dsimp only; omega))))), ws⟩
  intro hg8
  refine KL.run 4 rfl ?_
  refine KL.c rfl Tryd.call73 (wmay_any wa _) ?_
  rintro _ H10 ⟨wa_15, s_15⟩
  have abx2 := s_15.apart abx (blk_lt bx)
  have bx := s_15.blk bx (by omega) abx
  have abx := abx2
  have zs_15 := s_15.sz
  have ws := ws.trans s_15
  have wa := wa_15
  have o0 := o0.trans s_15.ob0
  refine KL.nil (KQ.seq (KC.seq (KC.sr (KL.run 1 rfl (KL.ld rfl (cell_of bx rfl) (KL.fin 1 rfl (KQ.seq ?_)))))))
  refine KC.iq rfl ?_ ?_
  · intro hc16
    refine KC.sr (KL.run 1 rfl ?_)
    refine KL.m (M.lit rfl Tryd.underlying36 zs5 (by decide) rfl rfl rfl) rfl ?_
    rintro _ H11 ⟨rfl, n11⟩
    have z11 := n11.2.1
    have o0 := o0.trans ((n11.1).b (by omega))
    have wa := wa.old n11.1
    have ws := ws.old n11.1
    have bx := (n11.1).blk bx
    have b11 := n11.2.2
    have s0 : Sl 1 (EInt .u8) H11 _ [0] := Sl.lits (l := [0]) n11 rfl (by simp) (by intro y hy; simp only [List.mem_cons, List.not_mem_nil, or_false] at hy; subst hy; dsimp only [InR] at *; omega)
    refine KL.c rfl Tryd.call68 (wbyte_any wa s0 (by simp only [List.length_singleton]; omega)) ?_
    rintro _ H12 ⟨v_16, wa_16, s_16⟩
    have abx2 := s_16.apart abx (blk_lt bx)
    have bx := s_16.blk bx (by omega) abx
    have abx := abx2
    have zs_16 := s_16.sz
    have ws := ws.trans s_16
    have wa := wa_16
    have o0 := o0.trans s_16.ob0
    refine KL.nil (KQ.sr (KL.run 2 rfl (KL.ld rfl (cell_of bx rfl) ?_)))
    refine KL.c rfl Tryd.call27 (wu32_any wa _ ra (by simp only [List.length_append, List.length_cons, List.length_nil]; omega)) ?_
    rintro _ H13 ⟨v_17, wa_17, s_17⟩
    have abx2 := s_17.apart abx (blk_lt bx)
    have bx := s_17.blk bx (by omega) abx
    have abx := abx2
    have zs_17 := s_17.sz
    have ws := ws.trans s_17
    have wa := wa_17
    have o0 := o0.trans s_17.ob0
    refine KL.nil (KQ.seq (KC.ret (KQ.retThen (KQ.ofRet (KQ.fin0 Tryd.results32 ?_)))))
    exact ⟨_, wa.cast (by unfold En.limB; ((rw [if_pos (by assumption)]; simp))) (congrArg (bad || !·) (by unfold En.limO; ((symm; exact decide_eq_false (by dsimp only; omega))))), ws⟩
  intro hc16
  refine KC.skip (KQ.sr (KL.run 1 rfl ?_))
  refine KL.m (M.lit rfl Tryd.underlying36 zs5 (by decide) rfl rfl rfl) rfl ?_
  rintro _ H14 ⟨rfl, n14⟩
  have z14 := n14.2.1
  have o0 := o0.trans ((n14.1).b (by omega))
  have wa := wa.old n14.1
  have ws := ws.old n14.1
  have bx := (n14.1).blk bx
  have b14 := n14.2.2
  have s1 : Sl 1 (EInt .u8) H14 _ [1] := Sl.lits (l := [1]) n14 rfl (by simp) (by intro y hy; simp only [List.mem_cons, List.not_mem_nil, or_false] at hy; subst hy; dsimp only [InR] at *; omega)
  refine KL.c rfl Tryd.call68 (wbyte_any wa s1 (by simp only [List.length_singleton]; omega)) ?_
  rintro _ H15 ⟨v_18, wa_18, s_18⟩
  have abx2 := s_18.apart abx (blk_lt bx)
  have bx := s_18.blk bx (by omega) abx
  have abx := abx2
  have zs_18 := s_18.sz
  have ws := ws.trans s_18
  have wa := wa_18
  have o0 := o0.trans s_18.ob0
  refine KL.nil (KQ.sr (KL.run 2 rfl (KL.ld rfl (cell_of bx rfl) ?_)))
  refine KL.c rfl Tryd.call27 (wu32_any wa _ ra (by simp only [List.length_append, List.length_cons, List.length_nil]; omega)) ?_
  rintro _ H16 ⟨v_19, wa_19, s_19⟩
  have abx2 := s_19.apart abx (blk_lt bx)
  have bx := s_19.blk bx (by omega) abx
  have abx := abx2
  have zs_19 := s_19.sz
  have ws := ws.trans s_19
  have wa := wa_19
  have o0 := o0.trans s_19.ob0
  have hua := En.u_le a
  refine KL.nil (KQ.r (KL.run 2 rfl (KL.ld rfl (cell_of bx rfl) ?_)))
  refine KL.q ((R.convW rfl Tryd.underlying2 Tryd.underlying28 rfl).val (congrArg (Value.int .u32) (show IntKind.u32.wrap b = b % 4294967296 from by simp [IntKind.wrap, IntKind.bits, IntKind.signed]))) rfl ?_
  refine KL.c rfl Tryd.call27 (wu32_any wa _ (by dsimp only [InR]; omega) (by simp only [List.length_append, List.length_cons, List.length_nil]; omega)) ?_
  rintro _ H17 ⟨v_20, wa_20, s_20⟩
  have abx2 := s_20.apart abx (blk_lt bx)
  have bx := s_20.blk bx (by omega) abx
  have abx := abx2
  have zs_20 := s_20.sz
  have ws := ws.trans s_20
  have wa := wa_20
  have o0 := o0.trans s_20.ob0
  refine KL.nil (KQ.fin0 Tryd.results32 ?_)
  exact ⟨_, wa.cast (by unfold En.limB; ((rw [if_neg (by assumption)]; simp))) (congrArg (bad || !·) (by unfold En.limO; ((symm; exact decide_eq_false (by dsimp only; omega))))), ws⟩
theorem wtable_any {H : Heap} {g : Nat} {v : Value} {l : List Int} {bad : Bool} (wa : WA H g v l bad) (a b : Int) (ra : InR .u32 a) (rb : InR .i64 b) (hN : l.length + 22 ≤ 1099511627776) : Ct Tryd.prog 30 [.pointer (some ⟨g, 0, none⟩), .agg [.int .u32 a, .int .i64 b].toArray] H (fun _ H' => ∃ v', WA H' g v' (l ++ En.tabB (a, b)) (bad || !En.limO (a, b)) ∧ WS g v H v' H') := by
  refine Ct.mk Tryd.func30 rfl Tryd.ntmps30 rfl ?_
  intro W0 hW0
  have o0 : OldB 0 H H := OldB.refl _ H
  have ws := WS.refl g v H
  have zg := wa.lt
  refine KC.sr ?_
  have abx : v = .slice none 0 0 ∨ vblock v ≠ Array.size H := wa.w.lt.imp id (fun e => by omega)
  refine KL.m (M.box rfl rfl rfl) rfl ?_
  rintro _ H1 ⟨rfl, n1⟩
  have z1 := n1.2.1
  have o0 := o0.trans ((n1.1).b (by omega))
  have wa := wa.old n1.1
  have ws := ws.old n1.1
  have b1 := n1.2.2
  have bx := b1
  refine KL.nil (KQ.sr (KL.run 1 rfl ?_))
  refine KL.m (M.lit rfl Tryd.underlying36 zs5 (by decide) rfl rfl rfl) rfl ?_
  rintro _ H2 ⟨rfl, n2⟩
  have z2 := n2.2.1
  have o0 := o0.trans ((n2.1).b (by omega))
  have wa := wa.old n2.1
  have ws := ws.old n2.1
  have bx := (n2.1).blk bx
  have b2 := n2.2.2
  have s0 : Sl 1 (EInt .u8) H2 _ [112] := Sl.lits (l := [112]) n2 rfl (by simp) (by intro y hy; simp only [List.mem_cons, List.not_mem_nil, or_false] at hy; subst hy; dsimp only [InR] at *; omega)
  refine KL.c rfl Tryd.call68 (wbyte_any wa s0 (by simp only [List.length_singleton]; omega)) ?_
  rintro _ H3 ⟨v_21, wa_21, s_21⟩
  have abx2 := s_21.apart abx (blk_lt bx)
  have bx := s_21.blk bx (by omega) abx
  have abx := abx2
  have zs_21 := s_21.sz
  have ws := ws.trans s_21
  have wa := wa_21
  have o0 := o0.trans s_21.ob0
  refine KL.nil (KQ.r (KL.run 1 rfl (KL.lda rfl (cells_of bx) rfl ?_)))
  refine KL.c rfl Tryd.call32 (wlimits_any wa a b ra rb (by simp only [List.length_append, List.length_cons, List.length_nil]; omega)) ?_
  rintro _ H4 ⟨v_22, wa_22, s_22⟩
  have abx2 := s_22.apart abx (blk_lt bx)
  have bx := s_22.blk bx (by omega) abx
  have abx := abx2
  have zs_22 := s_22.sz
  have ws := ws.trans s_22
  have wa := wa_22
  have o0 := o0.trans s_22.ob0
  refine KL.nil (KQ.fin0 Tryd.results30 ?_)
  exact ⟨_, wa.cast (by unfold En.tabB; simp) (rfl), ws⟩
theorem wglob_any {H : Heap} {g : Nat} {v : Value} {l : List Int} {bad : Bool} (wa : WA H g v l bad) (t : Int) (mu : Bool) (rt : InR .u8 t) (hN : l.length + 2 ≤ 1099511627776) : Ct Tryd.prog 74 [.pointer (some ⟨g, 0, none⟩), .agg [.int .u8 t, .bool mu].toArray] H (fun _ H' => ∃ v', WA H' g v' (l ++ En.globB (t, mu)) (bad || !En.globO (t, mu)) ∧ WS g v H v' H') := by
  refine Ct.mk Tryd.func74 rfl Tryd.ntmps74 rfl ?_
  intro W0 hW0
  have o0 : OldB 0 H H := OldB.refl _ H
  have ws := WS.refl g v H
  have zg := wa.lt
  refine KC.sr ?_
  have abx : v = .slice none 0 0 ∨ vblock v ≠ Array.size H := wa.w.lt.imp id (fun e => by omega)
  refine KL.m (M.box rfl rfl rfl) rfl ?_
  rintro _ H1 ⟨rfl, n1⟩
  have z1 := n1.2.1
  have o0 := o0.trans ((n1.1).b (by omega))
  have wa := wa.old n1.1
  have ws := ws.old n1.1
  have b1 := n1.2.2
  have bx := b1
  refine KL.nil (KQ.sr (KL.run 2 rfl (KL.ld rfl (cell_of bx rfl) ?_)))
  refine KL.c rfl Tryd.call70 (wvalue_any wa t rt (by omega)) ?_
  rintro _ H2 ⟨v_23, wa_23, s_23⟩
  have abx2 := s_23.apart abx (blk_lt bx)
  have bx := s_23.blk bx (by omega) abx
  have abx := abx2
  have zs_23 := s_23.sz
  have ws := ws.trans s_23
  have wa := wa_23
  have o0 := o0.trans s_23.ob0
  refine KL.nil (KQ.sr (KL.fin 1 rfl (KQ.seq (KC.seq (KC.sr (KL.run 1 rfl (KL.ld rfl (cell_of bx rfl) (KL.nil (KQ.seq ?_)))))))))
  refine KC.iq rfl ?_ ?_
  · intro hc10
    refine KC.region (KL.fin 1 rfl (KQ.r (KL.run 2 rfl ?_)))
    refine KL.m (M.lit rfl Tryd.underlying36 zs5 (by decide) rfl rfl rfl) rfl ?_
    rintro _ H3 ⟨rfl, n3⟩
    have z3 := n3.2.1
    have o0 := o0.trans ((n3.1).b (by omega))
    have wa := wa.old n3.1
    have ws := ws.old n3.1
    have bx := (n3.1).blk bx
    have b3 := n3.2.2
    have s0 : Sl 1 (EInt .u8) H3 (.slice (some ⟨Array.size H2, 0, none⟩) 1 1) [if mu = true then 1 else 0] := by
      have h := Sl.lits (l := [_]) n3 rfl (by simp) (by intro y hy; simp only [List.mem_cons, List.not_mem_nil, or_false] at hy; subst hy; dsimp only [InR]; omega)
      ((rw [if_pos (by assumption)]; exact h))
    refine KL.c rfl Tryd.call68 (wbyte_any wa s0 (by simp only [List.length_append, List.length_cons, List.length_nil]; omega)) ?_
    rintro _ H4 ⟨v_24, wa_24, s_24⟩
    have abx2 := s_24.apart abx (blk_lt bx)
    have bx := s_24.blk bx (by omega) abx
    have abx := abx2
    have zs_24 := s_24.sz
    have ws := ws.trans s_24
    have wa := wa_24
    have o0 := o0.trans s_24.ob0
    refine KL.nil (KQ.fin0 Tryd.results74 ?_)
    exact ⟨_, wa.cast (by unfold En.globB; simp) (rfl), ws⟩
  intro hc10
  refine KC.skip (KQ.r (KL.run 2 rfl ?_))
  refine KL.m (M.lit rfl Tryd.underlying36 zs5 (by decide) rfl rfl rfl) rfl ?_
  rintro _ H5 ⟨rfl, n5⟩
  have z5 := n5.2.1
  have o0 := o0.trans ((n5.1).b (by omega))
  have wa := wa.old n5.1
  have ws := ws.old n5.1
  have bx := (n5.1).blk bx
  have b5 := n5.2.2
  have s0 : Sl 1 (EInt .u8) H5 (.slice (some ⟨Array.size H2, 0, none⟩) 1 1) [if mu = true then 1 else 0] := by
    have h := Sl.lits (l := [_]) n5 rfl (by simp) (by intro y hy; simp only [List.mem_cons, List.not_mem_nil, or_false] at hy; subst hy; dsimp only [InR]; omega)
    ((rw [if_neg (by simp_all)]; exact h))
  refine KL.c rfl Tryd.call68 (wbyte_any wa s0 (by simp only [List.length_append, List.length_cons, List.length_nil]; omega)) ?_
  rintro _ H6 ⟨v_25, wa_25, s_25⟩
  have abx2 := s_25.apart abx (blk_lt bx)
  have bx := s_25.blk bx (by omega) abx
  have abx := abx2
  have zs_25 := s_25.sz
  have ws := ws.trans s_25
  have wa := wa_25
  have o0 := o0.trans s_25.ob0
  refine KL.nil (KQ.fin0 Tryd.results74 ?_)
  exact ⟨_, wa.cast (by unfold En.globB; simp) (rfl), ws⟩
end Go.Proofs.YtldmfchamcpmmaaDoor
namespace Go.Proofs.YtldmfchamcpmmaaDoor
open Go.RowKit
set_option linter.unusedVariables false
namespace Opc
def inR (op a b : Int) : Bool := decide (a ≤ op ∧ op ≤ b)
def float (op : Int) : Bool := inR op 0x2a 0x2b || inR op 0x38 0x39 || inR op 0x43 0x44 || inR op 0x5b 0x66 || inR op 0x8b 0xa6 || inR op 0xa8 0xab || inR op 0xae 0xbf
def known (op : Int) : Bool := !float op && (decide (op ≤ 5) || inR op 0x0b 0x11 || inR op 0x1a 0x1b || inR op 0x20 0x24 || inR op 0x28 0xad)
def form (op : Int) : Int :=
  if known op = false then 0 else if inR op 2 4 then 1 else if op = 0x0c ∨ op = 0x0d then 2 else if op = 0x0e then 3 else if op = 0x10 ∨ inR op 0x20 0x24 then 4
  else if op = 0x11 then 5 else if inR op 0x28 0x3e then 6 else if op = 0x3f ∨ op = 0x40 then 7 else if op = 0x41 then 8 else if op = 0x42 then 9 else 0
end Opc
theorem in_any (op a b : Int) (w : World) : Calls Tryd.prog 115 #[.int .u8 op, .int .u8 a, .int .u8 b] w fun e w' => e = .returned (.bool (Opc.inR op a b)) ∧ w = w' := by
  have hb : Opc.inR op a b = (decide (a ≤ op) && decide (op ≤ b)) := by unfold Opc.inR; rw [Bool.eq_iff_iff]; simp
  have HB := Lib.hid hb; clear hb
  go_enter Tryd.func115, Tryd.ntmps115
  by_cases h1 : a ≤ op
  · by_cases h2 : op ≤ b
    · go_wp2
      go_ret
      exact ⟨congrArg (fun b => Ending.returned (.bool b)) (by rw [HB.out]; simp [h1, h2]), rfl⟩
    go_wp2
    go_ret
    exact ⟨congrArg (fun b => Ending.returned (.bool b)) (by rw [HB.out]; simp; omega), rfl⟩
  go_wp2
  go_ret
  exact ⟨congrArg (fun b => Ending.returned (.bool b)) (by rw [HB.out]; simp; omega), rfl⟩
theorem retB {x y : Bool} (h : x = y) : Ending.returned (.bool x) = Ending.returned (.bool y) := by rw [h]
theorem Float_any (op : Int) (w : World) : Calls Tryd.prog 61 #[.int .u8 op] w fun e w' => e = .returned (.bool (Opc.float op)) ∧ w = w' := by
  go_enter Tryd.func61, Tryd.ntmps61
  go_wp2_with (go_at_call 115; refine (in_any _ _ _ _).mono ?_; rintro e w' ⟨rfl, rfl⟩)
  all_goals
    go_ret
    exact ⟨retB (by simp [Opc.float, *]), rfl⟩
theorem Known_any (op : Int) (w : World) : Calls Tryd.prog 60 #[.int .u8 op] w fun e w' => e = .returned (.bool (Opc.known op)) ∧ w = w' := by
  go_enter Tryd.func60, Tryd.ntmps60
  cases hf : Opc.float op
  · by_cases h5 : op ≤ 5
    · go_wp2_with (first | (go_at_call 61; refine (Float_any _ _).mono ?_; rintro e w' ⟨rfl, rfl⟩) | (go_at_call 115; refine (in_any _ _ _ _).mono ?_; rintro e w' ⟨rfl, rfl⟩))
      all_goals
        go_ret
        exact ⟨retB (by simp [Opc.known, *]), rfl⟩
    go_wp2_with (first | (go_at_call 61; refine (Float_any _ _).mono ?_; rintro e w' ⟨rfl, rfl⟩) | (go_at_call 115; refine (in_any _ _ _ _).mono ?_; rintro e w' ⟨rfl, rfl⟩))
    all_goals
      go_ret
      exact ⟨retB (by simp [Opc.known, *]), rfl⟩
  go_wp2_with (first | (go_at_call 61; refine (Float_any _ _).mono ?_; rintro e w' ⟨rfl, rfl⟩))
  all_goals
    go_ret
    exact ⟨retB (by simp [Opc.known, *]), rfl⟩
theorem Form_0 (op : Int) (w : World) (hf : Opc.known op = true)  (b0 : Opc.inR op 2 4 = true) : Calls Tryd.prog 153 #[.int .u8 op] w fun e w' => e = .returned (.int .u8 1) ∧ w = w' := by
  go_enter Tryd.func153, Tryd.ntmps153
  go_wp2_with (first | (go_at_call 60; refine (Known_any _ _).mono ?_; rintro e w' ⟨rfl, rfl⟩) | (go_at_call 115; refine (in_any _ _ _ _).mono ?_; rintro e w' ⟨rfl, rfl⟩))
  go_ret
  exact ⟨rfl, rfl⟩
theorem Form_1 (op : Int) (w : World) (hf : Opc.known op = true) (b0 : Opc.inR op 2 4 = false) (b1 : (op == 12) = true) : Calls Tryd.prog 153 #[.int .u8 op] w fun e w' => e = .returned (.int .u8 2) ∧ w = w' := by
  go_enter Tryd.func153, Tryd.ntmps153
  go_wp2_with (first | (go_at_call 60; refine (Known_any _ _).mono ?_; rintro e w' ⟨rfl, rfl⟩) | (go_at_call 115; refine (in_any _ _ _ _).mono ?_; rintro e w' ⟨rfl, rfl⟩))
  go_ret
  exact ⟨rfl, rfl⟩
theorem Form_2 (op : Int) (w : World) (hf : Opc.known op = true) (b0 : Opc.inR op 2 4 = false) (b1 : (op == 12) = false) (b2 : (op == 13) = true) : Calls Tryd.prog 153 #[.int .u8 op] w fun e w' => e = .returned (.int .u8 2) ∧ w = w' := by
  go_enter Tryd.func153, Tryd.ntmps153
  go_wp2_with (first | (go_at_call 60; refine (Known_any _ _).mono ?_; rintro e w' ⟨rfl, rfl⟩) | (go_at_call 115; refine (in_any _ _ _ _).mono ?_; rintro e w' ⟨rfl, rfl⟩))
  go_ret
  exact ⟨rfl, rfl⟩
theorem Form_3 (op : Int) (w : World) (hf : Opc.known op = true) (b0 : Opc.inR op 2 4 = false) (b1 : (op == 12) = false) (b2 : (op == 13) = false) (b3 : (op == 14) = true) : Calls Tryd.prog 153 #[.int .u8 op] w fun e w' => e = .returned (.int .u8 3) ∧ w = w' := by
  go_enter Tryd.func153, Tryd.ntmps153
  go_wp2_with (first | (go_at_call 60; refine (Known_any _ _).mono ?_; rintro e w' ⟨rfl, rfl⟩) | (go_at_call 115; refine (in_any _ _ _ _).mono ?_; rintro e w' ⟨rfl, rfl⟩))
  go_ret
  exact ⟨rfl, rfl⟩
theorem Form_4 (op : Int) (w : World) (hf : Opc.known op = true) (b0 : Opc.inR op 2 4 = false) (b1 : (op == 12) = false) (b2 : (op == 13) = false) (b3 : (op == 14) = false) (b4 : (op == 16) = true) : Calls Tryd.prog 153 #[.int .u8 op] w fun e w' => e = .returned (.int .u8 4) ∧ w = w' := by
  go_enter Tryd.func153, Tryd.ntmps153
  go_wp2_with (first | (go_at_call 60; refine (Known_any _ _).mono ?_; rintro e w' ⟨rfl, rfl⟩) | (go_at_call 115; refine (in_any _ _ _ _).mono ?_; rintro e w' ⟨rfl, rfl⟩))
  go_ret
  exact ⟨rfl, rfl⟩
theorem Form_5 (op : Int) (w : World) (hf : Opc.known op = true) (b0 : Opc.inR op 2 4 = false) (b1 : (op == 12) = false) (b2 : (op == 13) = false) (b3 : (op == 14) = false) (b4 : (op == 16) = false) (b5 : Opc.inR op 32 36 = true) : Calls Tryd.prog 153 #[.int .u8 op] w fun e w' => e = .returned (.int .u8 4) ∧ w = w' := by
  go_enter Tryd.func153, Tryd.ntmps153
  go_wp2_with (first | (go_at_call 60; refine (Known_any _ _).mono ?_; rintro e w' ⟨rfl, rfl⟩) | (go_at_call 115; refine (in_any _ _ _ _).mono ?_; rintro e w' ⟨rfl, rfl⟩))
  go_ret
  exact ⟨rfl, rfl⟩
theorem Form_6 (op : Int) (w : World) (hf : Opc.known op = true) (b0 : Opc.inR op 2 4 = false) (b1 : (op == 12) = false) (b2 : (op == 13) = false) (b3 : (op == 14) = false) (b4 : (op == 16) = false) (b5 : Opc.inR op 32 36 = false) (b6 : (op == 17) = true) : Calls Tryd.prog 153 #[.int .u8 op] w fun e w' => e = .returned (.int .u8 5) ∧ w = w' := by
  go_enter Tryd.func153, Tryd.ntmps153
  go_wp2_with (first | (go_at_call 60; refine (Known_any _ _).mono ?_; rintro e w' ⟨rfl, rfl⟩) | (go_at_call 115; refine (in_any _ _ _ _).mono ?_; rintro e w' ⟨rfl, rfl⟩))
  go_ret
  exact ⟨rfl, rfl⟩
theorem Form_7 (op : Int) (w : World) (hf : Opc.known op = true) (b0 : Opc.inR op 2 4 = false) (b1 : (op == 12) = false) (b2 : (op == 13) = false) (b3 : (op == 14) = false) (b4 : (op == 16) = false) (b5 : Opc.inR op 32 36 = false) (b6 : (op == 17) = false) (b7 : Opc.inR op 40 62 = true) : Calls Tryd.prog 153 #[.int .u8 op] w fun e w' => e = .returned (.int .u8 6) ∧ w = w' := by
  go_enter Tryd.func153, Tryd.ntmps153
  go_wp2_with (first | (go_at_call 60; refine (Known_any _ _).mono ?_; rintro e w' ⟨rfl, rfl⟩) | (go_at_call 115; refine (in_any _ _ _ _).mono ?_; rintro e w' ⟨rfl, rfl⟩))
  go_ret
  exact ⟨rfl, rfl⟩
theorem Form_8 (op : Int) (w : World) (hf : Opc.known op = true) (b0 : Opc.inR op 2 4 = false) (b1 : (op == 12) = false) (b2 : (op == 13) = false) (b3 : (op == 14) = false) (b4 : (op == 16) = false) (b5 : Opc.inR op 32 36 = false) (b6 : (op == 17) = false) (b7 : Opc.inR op 40 62 = false) (b8 : (op == 63) = true) : Calls Tryd.prog 153 #[.int .u8 op] w fun e w' => e = .returned (.int .u8 7) ∧ w = w' := by
  go_enter Tryd.func153, Tryd.ntmps153
  go_wp2_with (first | (go_at_call 60; refine (Known_any _ _).mono ?_; rintro e w' ⟨rfl, rfl⟩) | (go_at_call 115; refine (in_any _ _ _ _).mono ?_; rintro e w' ⟨rfl, rfl⟩))
  go_ret
  exact ⟨rfl, rfl⟩
theorem Form_9 (op : Int) (w : World) (hf : Opc.known op = true) (b0 : Opc.inR op 2 4 = false) (b1 : (op == 12) = false) (b2 : (op == 13) = false) (b3 : (op == 14) = false) (b4 : (op == 16) = false) (b5 : Opc.inR op 32 36 = false) (b6 : (op == 17) = false) (b7 : Opc.inR op 40 62 = false) (b8 : (op == 63) = false) (b9 : (op == 64) = true) : Calls Tryd.prog 153 #[.int .u8 op] w fun e w' => e = .returned (.int .u8 7) ∧ w = w' := by
  go_enter Tryd.func153, Tryd.ntmps153
  go_wp2_with (first | (go_at_call 60; refine (Known_any _ _).mono ?_; rintro e w' ⟨rfl, rfl⟩) | (go_at_call 115; refine (in_any _ _ _ _).mono ?_; rintro e w' ⟨rfl, rfl⟩))
  go_ret
  exact ⟨rfl, rfl⟩
theorem Form_10 (op : Int) (w : World) (hf : Opc.known op = true) (b0 : Opc.inR op 2 4 = false) (b1 : (op == 12) = false) (b2 : (op == 13) = false) (b3 : (op == 14) = false) (b4 : (op == 16) = false) (b5 : Opc.inR op 32 36 = false) (b6 : (op == 17) = false) (b7 : Opc.inR op 40 62 = false) (b8 : (op == 63) = false) (b9 : (op == 64) = false) (b10 : (op == 65) = true) : Calls Tryd.prog 153 #[.int .u8 op] w fun e w' => e = .returned (.int .u8 8) ∧ w = w' := by
  go_enter Tryd.func153, Tryd.ntmps153
  go_wp2_with (first | (go_at_call 60; refine (Known_any _ _).mono ?_; rintro e w' ⟨rfl, rfl⟩) | (go_at_call 115; refine (in_any _ _ _ _).mono ?_; rintro e w' ⟨rfl, rfl⟩))
  go_ret
  exact ⟨rfl, rfl⟩
theorem Form_11 (op : Int) (w : World) (hf : Opc.known op = true) (b0 : Opc.inR op 2 4 = false) (b1 : (op == 12) = false) (b2 : (op == 13) = false) (b3 : (op == 14) = false) (b4 : (op == 16) = false) (b5 : Opc.inR op 32 36 = false) (b6 : (op == 17) = false) (b7 : Opc.inR op 40 62 = false) (b8 : (op == 63) = false) (b9 : (op == 64) = false) (b10 : (op == 65) = false) (b11 : (op == 66) = true) : Calls Tryd.prog 153 #[.int .u8 op] w fun e w' => e = .returned (.int .u8 9) ∧ w = w' := by
  go_enter Tryd.func153, Tryd.ntmps153
  go_wp2_with (first | (go_at_call 60; refine (Known_any _ _).mono ?_; rintro e w' ⟨rfl, rfl⟩) | (go_at_call 115; refine (in_any _ _ _ _).mono ?_; rintro e w' ⟨rfl, rfl⟩))
  go_ret
  exact ⟨rfl, rfl⟩
theorem Form_12 (op : Int) (w : World) (hf : Opc.known op = true) (b0 : Opc.inR op 2 4 = false) (b1 : (op == 12) = false) (b2 : (op == 13) = false) (b3 : (op == 14) = false) (b4 : (op == 16) = false) (b5 : Opc.inR op 32 36 = false) (b6 : (op == 17) = false) (b7 : Opc.inR op 40 62 = false) (b8 : (op == 63) = false) (b9 : (op == 64) = false) (b10 : (op == 65) = false) (b11 : (op == 66) = false) : Calls Tryd.prog 153 #[.int .u8 op] w fun e w' => e = .returned (.int .u8 0) ∧ w = w' := by
  go_enter Tryd.func153, Tryd.ntmps153
  go_wp2_with (first | (go_at_call 60; refine (Known_any _ _).mono ?_; rintro e w' ⟨rfl, rfl⟩) | (go_at_call 115; refine (in_any _ _ _ _).mono ?_; rintro e w' ⟨rfl, rfl⟩))
  go_ret
  exact ⟨rfl, rfl⟩
theorem Form_no (op : Int) (w : World) (hf : Opc.known op = false) : Calls Tryd.prog 153 #[.int .u8 op] w fun e w' => e = .returned (.int .u8 0) ∧ w = w' := by
  go_enter Tryd.func153, Tryd.ntmps153
  go_wp2_with (first | (go_at_call 60; refine (Known_any _ _).mono ?_; rintro e w' ⟨rfl, rfl⟩) | (go_at_call 115; refine (in_any _ _ _ _).mono ?_; rintro e w' ⟨rfl, rfl⟩))
  go_ret
  exact ⟨rfl, rfl⟩
theorem Form_any (op : Int) (w : World) : Calls Tryd.prog 153 #[.int .u8 op] w fun e w' => e = .returned (.int .u8 (Opc.form op)) ∧ w = w' := by
  cases hf : Opc.known op
  · rw [show Opc.form op = 0 by unfold Opc.form; simp [hf]]; exact Form_no op w hf
  cases b0 : Opc.inR op 2 4
  rotate_left
  · rw [show Opc.form op = 1 by unfold Opc.form; simp [hf, b0]]; exact Form_0 op w hf b0
  cases b1 : (op == 12)
  rotate_left
  · rw [show Opc.form op = 2 by (have e := beq_iff_eq.1 b1; subst e; rfl)]; exact Form_1 op w hf b0 b1
  cases b2 : (op == 13)
  rotate_left
  · rw [show Opc.form op = 2 by (have e := beq_iff_eq.1 b2; subst e; rfl)]; exact Form_2 op w hf b0 b1 b2
  cases b3 : (op == 14)
  rotate_left
  · rw [show Opc.form op = 3 by (have e := beq_iff_eq.1 b3; subst e; rfl)]; exact Form_3 op w hf b0 b1 b2 b3
  cases b4 : (op == 16)
  rotate_left
  · rw [show Opc.form op = 4 by (have e := beq_iff_eq.1 b4; subst e; rfl)]; exact Form_4 op w hf b0 b1 b2 b3 b4
  cases b5 : Opc.inR op 32 36
  rotate_left
  · rw [show Opc.form op = 4 by unfold Opc.form; simp [hf, b0, beq_eq_false_iff_ne.1 b1, beq_eq_false_iff_ne.1 b2, beq_eq_false_iff_ne.1 b3, beq_eq_false_iff_ne.1 b4, b5]]; exact Form_5 op w hf b0 b1 b2 b3 b4 b5
  cases b6 : (op == 17)
  rotate_left
  · rw [show Opc.form op = 5 by (have e := beq_iff_eq.1 b6; subst e; rfl)]; exact Form_6 op w hf b0 b1 b2 b3 b4 b5 b6
  cases b7 : Opc.inR op 40 62
  rotate_left
  · rw [show Opc.form op = 6 by unfold Opc.form; simp [hf, b0, beq_eq_false_iff_ne.1 b1, beq_eq_false_iff_ne.1 b2, beq_eq_false_iff_ne.1 b3, beq_eq_false_iff_ne.1 b4, b5, beq_eq_false_iff_ne.1 b6, b7]]; exact Form_7 op w hf b0 b1 b2 b3 b4 b5 b6 b7
  cases b8 : (op == 63)
  rotate_left
  · rw [show Opc.form op = 7 by (have e := beq_iff_eq.1 b8; subst e; rfl)]; exact Form_8 op w hf b0 b1 b2 b3 b4 b5 b6 b7 b8
  cases b9 : (op == 64)
  rotate_left
  · rw [show Opc.form op = 7 by (have e := beq_iff_eq.1 b9; subst e; rfl)]; exact Form_9 op w hf b0 b1 b2 b3 b4 b5 b6 b7 b8 b9
  cases b10 : (op == 65)
  rotate_left
  · rw [show Opc.form op = 8 by (have e := beq_iff_eq.1 b10; subst e; rfl)]; exact Form_10 op w hf b0 b1 b2 b3 b4 b5 b6 b7 b8 b9 b10
  cases b11 : (op == 66)
  rotate_left
  · rw [show Opc.form op = 9 by (have e := beq_iff_eq.1 b11; subst e; rfl)]; exact Form_11 op w hf b0 b1 b2 b3 b4 b5 b6 b7 b8 b9 b10 b11
  rw [show Opc.form op = 0 by unfold Opc.form; simp [hf, b0, beq_eq_false_iff_ne.1 b1, beq_eq_false_iff_ne.1 b2, beq_eq_false_iff_ne.1 b3, beq_eq_false_iff_ne.1 b4, b5, beq_eq_false_iff_ne.1 b6, b7, beq_eq_false_iff_ne.1 b8, beq_eq_false_iff_ne.1 b9, beq_eq_false_iff_ne.1 b10, beq_eq_false_iff_ne.1 b11]]; exact Form_12 op w hf b0 b1 b2 b3 b4 b5 b6 b7 b8 b9 b10 b11
end Go.Proofs.YtldmfchamcpmmaaDoor
namespace Go.Proofs.YtldmfchamcpmmaaDoor
open Go Go.RowKit
set_option linter.unusedVariables false
set_option linter.unusedSimpArgs false
namespace Isp
/-- a reader: what bytes begin with, and of how many bytes it is; or why there is none -/
abbrev Prs (α : Type) := List Int → Except Int (α × Nat)
/-- what is written is read, whatever stands behind; what is read may be written, and is no longer then; cut anywhere it is none -/
structure Cod {α : Type} (p : Prs α) (e : α → List Int) (V : α → Prop) : Prop where
  back : ∀ x, V x → ∀ r, p (e x ++ r) = .ok (x, (e x).length)
  sound : ∀ r x k, p r = .ok (x, k) → V x ∧ (e x).length ≤ k ∧ k ≤ r.length
  cut : ∀ x, V x → ∀ i, i < (e x).length → p ((e x).take i) = .error 60
def bindP {α β : Type} (p : Prs α) (q : α → Prs β) : Prs (α × β) := fun r => match p r with
  | .error e => .error e
  | .ok (x, k) => match q x (r.drop k) with
    | .error e => .error e
    | .ok (y, m) => .ok ((x, y), k + m)
theorem Cod.bind {α β : Type} {p : Prs α} {q : α → Prs β} {e : α → List Int} {d : α → β → List Int} {V : α → Prop} {U : α → β → Prop} (hp : Cod p e V) (hq : ∀ x, Cod (q x) (d x) (U x)) :
    Cod (bindP p q) (fun z => e z.1 ++ d z.1 z.2) (fun z => V z.1 ∧ U z.1 z.2) := by
  refine ⟨fun z ⟨h1, h2⟩ r => ?_, fun r z k h => ?_, fun z ⟨h1, h2⟩ i hi => ?_⟩
  · unfold bindP
    rw [List.append_assoc, hp.back _ h1]
    simp only [List.drop_left]
    rw [(hq z.1).back _ h2]
    simp
  · unfold bindP at h
    split at h
    · cases h
    next x k1 hx =>
    split at h
    · cases h
    next y m hy =>
    injection h with h
    injection h with h3 h4
    subst h3; subst h4
    obtain ⟨a1, a2, a3⟩ := hp.sound _ _ _ hx
    obtain ⟨b1, b2, b3⟩ := (hq x).sound _ _ _ hy
    simp only [List.length_append, List.length_drop] at *
    exact ⟨⟨a1, b1⟩, by omega, by omega⟩
  unfold bindP
  simp only [List.length_append] at hi
  by_cases hlt : i < (e z.1).length
  · rw [List.take_append_of_le_length (by omega), hp.cut _ h1 _ hlt]
  rw [List.take_append, List.take_of_length_le (by omega), hp.back _ h1]
  simp only [List.drop_left]
  rw [(hq z.1).cut _ h2 _ (by omega)]
def mapP {α β : Type} (g : α → β) (p : Prs α) : Prs β := fun r => match p r with
  | .error e => .error e
  | .ok (x, k) => .ok (g x, k)
theorem Cod.map {α β : Type} {p : Prs α} {e : α → List Int} {V : α → Prop} (hp : Cod p e V) (g : α → β) (h : β → α) (hgh : ∀ x, V x → h (g x) = x) : Cod (mapP g p) (fun y => e (h y)) (fun y => V (h y) ∧ g (h y) = y) := by
  refine ⟨fun y ⟨h1, h2⟩ r => ?_, fun r y k hy => ?_, fun y ⟨h1, h2⟩ i hi => ?_⟩
  · unfold mapP; rw [hp.back _ h1]; simp only [h2]
  · unfold mapP at hy
    split at hy
    · cases hy
    next x k1 hx =>
    injection hy with hy
    injection hy with h3 h4
    subst h3; subst h4
    obtain ⟨a1, a2, a3⟩ := hp.sound _ _ _ hx
    rw [hgh x a1]
    exact ⟨⟨a1, rfl⟩, a2, a3⟩
  unfold mapP; rw [hp.cut _ h1 _ hi]
theorem Cod.as {α : Type} {p : Prs α} {e e' : α → List Int} {V V' : α → Prop} (hp : Cod p e V) (hV : ∀ x, V' x ↔ V x) (he : ∀ x, V x → e' x = e x) : Cod p e' V' := by
  refine ⟨fun x h r => ?_, fun r x k h => ?_, fun x h i hi => ?_⟩
  · have hv := (hV x).1 h
    rw [he x hv]; exact hp.back _ hv _
  · obtain ⟨a1, a2, a3⟩ := hp.sound _ _ _ h
    exact ⟨(hV x).2 a1, by rw [he x a1]; exact a2, a3⟩
  have hv := (hV x).1 h
  rw [he x hv] at hi ⊢; exact hp.cut _ hv _ hi
/-- numbers -/
def okN (sg : Bool) (b : Nat) (z : Int) : Prop := if sg then -(2 ^ b : Int) ≤ 2 * z ∧ 2 * z < 2 ^ b else 0 ≤ z ∧ z < 2 ^ b
def apN (sg : Bool) (z : Int) : List Int := uints (Leb.ap sg 10 z)
theorem fit_of {sg : Bool} {b : Nat} {z : Int} (hb : b ≤ 64) (h : okN sg b z) : Leb.fit7 sg 10 z := by
  have hp : (2 : Int) ^ b ≤ 2 ^ 64 := Leb.pow_le hb
  unfold okN at h
  unfold Leb.fit7
  rw [show (128 : Int) ^ 10 = 1180591620717411303424 by decide]
  rw [show (2 : Int) ^ 64 = 18446744073709551616 by decide] at hp
  cases sg <;> simp at h ⊢ <;> omega
theorem apN_len {sg : Bool} {b : Nat} {z : Int} (hb : b ≤ 64) (h : okN sg b z) : 1 ≤ (apN sg z).length ∧ (apN sg z).length ≤ 10 := by
  unfold apN; rw [uints_length]
  exact ⟨Leb.ap_pos (fit_of hb h), Leb.ap_le (fit_of hb h)⟩
def okU (z : Int) : Prop := 0 ≤ z ∧ z < 4294967296
theorem okU_iff (z : Int) : okU z ↔ okN false 32 z := by unfold okU okN; simp
def blkOk (t : Int) : Prop := t = 64 ∨ t = 127 ∨ t = 126
instance (t : Int) : Decidable (blkOk t) := by unfold blkOk; infer_instance
def labsE (z : List Int × Int) : List Int := apN false z.1.length ++ z.1.flatMap (apN false) ++ apN false z.2
def labsV (z : List Int × Int) : Prop := z.1.length < 4294967296 ∧ (∀ x ∈ z.1, okU x) ∧ okU z.2
/-- what stands behind an opcode: A, B, C, L -/
abbrev Rest := Int × Int × Int × List Int
def bodyE (f : Int) (x : Rest) : List Int :=
  if f = 1 then [x.1]
  else if f = 2 ∨ f = 4 then apN false x.1
  else if f = 3 then labsE (x.2.2.2, x.1)
  else if f = 5 then apN false x.1 ++ [0]
  else if f = 6 then apN false x.1 ++ apN false x.2.1
  else if f = 7 then [0]
  else if f = 8 ∨ f = 9 then apN true x.2.2.1
  else []
def bodyV (f : Int) (x : Rest) : Prop :=
  if f = 1 then blkOk x.1 ∧ x.2 = (0, 0, [])
  else if f = 2 ∨ f = 4 then okU x.1 ∧ x.2 = (0, 0, [])
  else if f = 3 then labsV (x.2.2.2, x.1) ∧ x.2.1 = 0 ∧ x.2.2.1 = 0
  else if f = 5 then okU x.1 ∧ x.2 = (0, 0, [])
  else if f = 6 then okU x.1 ∧ okU x.2.1 ∧ x.2.2 = (0, [])
  else if f = 7 then x = (0, 0, 0, [])
  else if f = 8 then okN true 32 x.2.2.1 ∧ x.1 = 0 ∧ x.2.1 = 0 ∧ x.2.2.2 = []
  else if f = 9 then okN true 64 x.2.2.1 ∧ x.1 = 0 ∧ x.2.1 = 0 ∧ x.2.2.2 = []
  else x = (0, 0, 0, [])
/-- an instruction -/
def mk (op : Int) (x : Rest) : Ins := ⟨op, x.1, x.2.1, x.2.2.1, x.2.2.2⟩
def rest (x : Ins) : Rest := (x.a, x.b, x.c, x.l)
def bytes (x : Ins) : List Int := x.op :: bodyE (Opc.form x.op) (rest x)
/-- it has bytes -/
def May (x : Ins) : Prop := Opc.known x.op = true ∧ bodyV (Opc.form x.op) (rest x)
/-- marks of open blocks -/
inductive Mk where
  | bad
  | over
  | go (m : List Int)
def nx (m : List Int) (op : Int) : Mk :=
  if op = 2 ∨ op = 3 ∨ op = 4 then .go (m ++ [op])
  else if op = 5 then (if m = [] ∨ m.getD (m.length - 1) default ≠ 4 then .bad else .go (m.take (m.length - 1) ++ [5]))
  else if op = 11 then (if m = [] then .over else .go (m.take (m.length - 1)))
  else .go m
def walkM : List Int → List Ins → Option (List Int)
  | m, [] => some m
  | m, x :: xs => match nx m x.op with
    | .go m' => walkM m' xs
    | _ => none
def flat (l : List Ins) : List Int := l.flatMap bytes
def fin : Ins := ⟨11, 0, 0, 0, []⟩
end Isp
end Go.Proofs.YtldmfchamcpmmaaDoor
namespace Go.Proofs.YtldmfchamcpmmaaDoor
open Go Go.RowKit
set_option linter.unusedVariables false
set_option linter.unusedSimpArgs false
/-- a panic of one's own -/
def Pan (v : Value) : List PanicEntry := [{ v := v, recovered := false }]
section
variable {P : Program} {n d : Nat} {W0 : World} {Q : Exit → Act → World → Prop} {ops rest : List Oper} {o : Oper} {E : Env} {H : Heap} {v : Value} {ch : List PanicEntry}
theorem Fr.at_ {g : Nat} {A B : Heap} (f : Fr g (.slice none 0 0) A B) {i : Nat} {o : Obj} (h : A[i]? = some o) (hne : i ≠ g) : B[i]? = some o := (f.2 i (blk_lt h) hne (.inl rfl)).trans h
theorem Fr.low {g B0 : Nat} {A B : Heap} (f : Fr g (.slice none 0 0) A B) (h1 : B0 ≤ A.size) (h2 : B0 ≤ g) : OldB B0 A B := f.oldB h1 h2 (.inl rfl)
theorem KL.panic {x : Operand} {T : TypeId} (ho : o.op = .panic x) (hx : ev E x = some (.iface T v)) (hg : want ops E o.guard = some true) (h : KQ n W0 Q (.panic (Pan (.iface T v))) E H) : KL P n W0 Q ops (o :: rest) E H := by
  intro a w ha hw
  refine wpList_step fun K hK => ?_
  rw [if_pos (want_wanted ha hg)]
  unfold Oper.wp
  have hr : (execOp a.eval o).run P w = .halt (.panic (.iface T v)) w := by
    simp [execOp, ho, ha.agree x _ hx]
    rfl
  rw [hr]
  exact h _ _ ha hw
/-! ### a drawn region in an order of one's own -/
variable {cl : Nat → Nat} {C : Nat → Heap → Prop} {X : Value → Heap → Prop} {k : Nat} {ord : List Nat}
def Xs (cl : Nat → Nat) (W0 : World) (X : Value → Heap → Prop) (i : Nat) (ch : List PanicEntry) (w : World) : Prop := cl i = 3 ∧ ∃ v, ch = Pan v ∧ St W0 w.heap w ∧ X v w.heap
def KO (P : Program) (n : Nat) (W0 : World) (Q : Exit → Act → World → Prop) (cl : Nat → Nat) (C : Nat → Heap → Prop) (X : Value → Heap → Prop) (ops : List Oper) (ord : List Nat) (E : Env) (H : Heap) : Prop :=
  ∀ a w, Rep n E a → St W0 H w → ko P ops.toArray cl (fun i w => C i w.heap ∧ St W0 w.heap w) (Xs cl W0 X) (fun a w => Q .normal a w) ord a w
theorem KC.order {id : Nat} {l : List Oper} (ord : List Nat) (cl : Nat → Nat) (C : Nat → Heap → Prop) (X : Value → Heap → Prop) (hm : P.follows .mixedOrders = true) (hns : Region.noSelect l.toArray = true) (hB : koB l.toArray cl [] ord = true) (hlen : ord.length = l.length) (hC : ∀ i, C i H)
    (hX : ∀ v H', X v H' → KQ n W0 Q (.panic (Pan v)) [] H') (h : KO P n W0 Q cl C X l ord E H) : KC P n W0 Q (.region id l.toArray true) E H :=
  fun a w ha hw => wp_region_ko (C := fun i w => C i w.heap ∧ St W0 w.heap w) (X := Xs cl W0 X) hm hns hB (fun k hk ch w hx => hk hx.1) (by simpa using hlen) (fun i => show C i w.heap ∧ _ from ⟨by rw [hw.heap]; exact hC i, rfl, hw.os, hw.tape, hw.output⟩)
    (fun i ch a' w' hk hx => by
      obtain ⟨_, v, rfl, hst, hv⟩ := hx
      exact hX v w'.heap hv a' w' ⟨hk.defers.trans ha.defers, hk.size.trans ha.size, fun t u ht => by cases ht⟩ hst) (h a _ ha ⟨hw.heap, hw.os, hw.tape, hw.output⟩)
theorem KO.nil (h : KQ n W0 Q .normal E H) : KO P n W0 Q cl C X ops [] E H := fun a w ha hw => h a w ha hw
theorem nth_arr {l : List Oper} {k : Nat} (h : nth l k = some o) : l.toArray[k]? = some o := by rw [nth_eq] at h; simpa using h
theorem KO.op (hk : nth ops k = some o) (hs : cl k = 0) (hr : ∀ H', C k H' → Run P E H' o v) (hd : o.dst = some d) (hn : Nat.blt d n = true) (hg : want ops E o.guard = some true) (h : KO P n W0 Q cl C X ops ord ((d, v) :: E) H) : KO P n W0 Q cl C X ops (k :: ord) E H := by
  intro a w ha hw
  unfold ko sOp
  simp only [nth_arr hk]
  rw [if_pos (want_wanted ha hg), if_pos hs]
  refine ⟨v, fun w' hw' => hr w'.heap hw'.1 a.eval w' ha.agree rfl, ?_⟩
  rw [hd]; exact h _ _ (ha.put hn v) hw
theorem KO.skip (hk : nth ops k = some o) (hd : o.dst = some d) (hn : Nat.blt d n = true) (hg : want ops E o.guard = some false) (h : KO P n W0 Q cl C X ops ord ((d, undef) :: E) H) : KO P n W0 Q cl C X ops (k :: ord) E H := by
  intro a w ha hw
  unfold ko sOp
  simp only [nth_arr hk]
  rw [if_neg (by rw [want_wanted ha hg]; simp), hd]
  exact h _ _ (ha.put hn _) hw
theorem KO.case {c : Bool} (hget : get E d = some (.bool c)) (ht : c = true → KO P n W0 Q cl C X ops ord ((d, .bool true) :: E) H) (hf : c = false → KO P n W0 Q cl C X ops ord ((d, .bool false) :: E) H) : KO P n W0 Q cl C X ops ord E H := by
  intro a w ha hw
  cases hc : c with
  | true => exact ht hc a w (ha.sub (sub_case hget true hc)) hw
  | false => exact hf hc a w (ha.sub (sub_case hget false hc)) hw
theorem KO.opM {R : Value → Heap → Prop} (hk : nth ops k = some o) (hs : cl k = 2) (hr : RunM P E H o R) (hd : o.dst = some d) (hn : Nat.blt d n = true) (hg : want ops E o.guard = some true) (hC : ∀ v H', R v H' → Dk ops.toArray C k H') (h : ∀ v H', R v H' → KO P n W0 Q cl C X ops ord ((d, v) :: E) H') : KO P n W0 Q cl C X ops (k :: ord) E H := by
  intro a w ha hw
  unfold ko sOp
  simp only [nth_arr hk]
  rw [if_pos (want_wanted ha hg), if_neg (by rw [hs]; decide), if_neg (by rw [hs]; decide)]
  obtain ⟨v, w', hrun, hst, hR⟩ := hr a.eval w ha.agree hw.heap
  unfold eff
  rw [hrun]
  simp only [effUpon]
  rw [hd]
  have hst' := hw.trans hst
  exact ⟨fun i _ h1 h2 => ⟨hC _ _ hR i h1 h2, rfl, hst'.os, hst'.tape, hst'.output⟩, h v _ hR _ _ (ha.put hn v) hst'⟩
theorem KO.opS {R : Heap → Prop} (hk : nth ops k = some o) (hs : cl k = 2) (hr : RunS P E H o R) (hd : o.dst = none) (hg : want ops E o.guard = some true) (hC : ∀ H', R H' → Dk ops.toArray C k H') (h : ∀ H', R H' → KO P n W0 Q cl C X ops ord E H') : KO P n W0 Q cl C X ops (k :: ord) E H := by
  intro a w ha hw
  unfold ko sOp
  simp only [nth_arr hk]
  rw [if_pos (want_wanted ha hg), if_neg (by rw [hs]; decide), if_neg (by rw [hs]; decide)]
  obtain ⟨w', hrun, hst, hR⟩ := hr a.eval w ha.agree hw.heap
  unfold eff
  rw [hrun]
  simp only [effUpon]
  rw [hd]
  have hst' := hw.trans hst
  exact ⟨fun i _ h1 h2 => ⟨hC _ hR i h1 h2, rfl, hst'.os, hst'.tape, hst'.output⟩, h _ hR _ _ ha hst'⟩
theorem KO.call {f : FuncId} {fo : Operand} {xs : Array Operand} {ts : Array TypeId} {first cap : Array Value} {vs args : List Value} {R : Value → Heap → Prop} (hk : nth ops k = some o) (hs : cl k = 2) (ho : o.op = .call { callee := .value fo, args := xs, argTypes := ts })
    (hf : ev E fo = some (.func (.func f) first cap)) (has : evs E xs.toList = some vs) (hl : first.toList ++ vs ++ cap.toList = args) (hcall : Enters P f) (hd : o.dst = some d) (hn : Nat.blt d n = true) (hg : want ops E o.guard = some true)
    (hc : Ct P f args H R) (hC : ∀ v H', R v H' → Dk ops.toArray C k H') (h : ∀ v H', R v H' → KO P n W0 Q cl C X ops ord ((d, v) :: E) H') : KO P n W0 Q cl C X ops (k :: ord) E H := by
  intro a w ha hw
  unfold ko sOp
  simp only [nth_arr hk]
  rw [if_pos (want_wanted ha hg), if_neg (by rw [hs]; decide), if_neg (by rw [hs]; decide)]
  unfold eff
  rw [run_call ha.agree ho hf has hl hcall]
  simp only [effUpon]
  refine (hc w hw.heap).mono ?_
  rintro e w' ⟨v, rfl, hst, hR⟩
  have hst' := hw.trans hst
  rw [hd]
  refine .inl ?_
  exact ⟨v, rfl, fun i _ h1 h2 => ⟨hC _ _ hR i h1 h2, rfl, hst'.os, hst'.tape, hst'.output⟩, h v _ hR _ _ (ha.put hn v) hst'⟩
end
end Go.Proofs.YtldmfchamcpmmaaDoor
namespace Go.Proofs.YtldmfchamcpmmaaDoor
open Go Go.RowKit
set_option linter.unusedVariables false
set_option linter.unusedSimpArgs false
section
variable {P : Program} {n : Nat} {W0 : World} {Q : Exit → Act → World → Prop} {E : Env} {H : Heap}
theorem KQ.finCell2 {fn : Func} {R : Value → Heap → Prop} {t T u : Nat} {cs : List Value} {x : Value} {p : Addr} {ds : TypeDesc} {m : Nat} (hr : fn.results = #[.cell t T, .tmp u]) (ht : get E t = some (.pointer (some p))) (hu : P.underlying T = some ds) (hd : isAggD ds = true) (hs : (P.info? T).map (·.size) = some m) (hc : CellsH H p cs) (hm : cs.length = m) (hx : get E u = some x) (hR : R (.tuple #[.agg cs.toArray, x]) H) : KQ n W0 (Post P fn W0 R) .normal E H :=
  KQ.fin _ (fun a w ha hw => by
    subst hm
    have h1 := ha.val t _ ht
    have h4 := ha.val u _ hx
    have h2 : (isAgg T).run P w = .ok true w := by
      cases ds <;> simp [isAggD] at hd <;> simp [isAgg, underlying, program, hu, Sem.run_bind, Sem.run_pure, Result.andThen, Sem.run]
    have h3 := run_loadCells_list (P := P) (w := w) p cs (fun j u hj => by rw [cell_w hw]; exact hc j u (by rw [nth_eq]; exact hj))
    unfold loadCells at h3
    cases hq : P.info? T with
    | none => simp [hq] at hs
    | some i =>
      simp [hq] at hs
      simp [results, hr, go_sem, Array.getD_eq_getD_getElem?, h1, h4, asAddr, loadVar, Sem.run_bind, Sem.run_pure, Result.andThen, h2, sizeOf, typeInfo, program, Sem.run, hq, hs, h3]) hR
end
end Go.Proofs.YtldmfchamcpmmaaDoor
namespace Go.Proofs.YtldmfchamcpmmaaDoor
open Go Go.RowKit
set_option linter.unusedVariables false
set_option linter.unusedSimpArgs false
set_option linter.unnecessarySimpa false
section
variable {H H' : Heap} {g : Nat} {v : Value} {l : List Int} {i : Nat}
end
theorem over_all {cs us : List Value} (h : us.length = cs.length) : cs.take 0 ++ us ++ cs.drop (0 + us.length) = us := by simp [h]
theorem Known_k {H : Heap} (op : Int) : Ct Tryd.prog 60 [.int .u8 op] H (fun u H' => u = .bool (Opc.known op) ∧ H = H') := Ct.same fun w _ => Known_any op w
theorem Form_k {H : Heap} (op : Int) : Ct Tryd.prog 153 [.int .u8 op] H (fun u H' => u = .int .u8 (Opc.form op) ∧ H = H') := Ct.same fun w _ => Form_any op w
end Go.Proofs.YtldmfchamcpmmaaDoor
namespace Go.Proofs.YtldmfchamcpmmaaDoor
open Go Go.RowKit
set_option linter.unusedVariables false
set_option linter.unusedSimpArgs false
set_option linter.unnecessarySimpa false
/-- an instruction as a value -/
def insV (x : Ins) (vl : Value) : Value := .agg [.int .u8 x.op, .int .u32 x.a, .int .u32 x.b, .int .i64 x.c, vl].toArray
def InsR (x : Ins) : Prop := InR .u8 x.op ∧ InR .u32 x.a ∧ InR .u32 x.b ∧ InR .i64 x.c
namespace Isp
section
variable {r r1 : List Int} {op e : Int} {k : Nat} {x : Rest}
end
end Isp
end Go.Proofs.YtldmfchamcpmmaaDoor
namespace Go.Proofs.YtldmfchamcpmmaaDoor
open Go Go.RowKit
set_option linter.unusedVariables false
set_option linter.unusedSimpArgs false
namespace Isp
section
variable {F f k k2 : Nat} {l m m' : List Int} {acc : List Ins} {x : Ins} {e : Int}
theorem set_last {m : List Int} (h : 0 < m.length) (x : Int) : m.set (m.length - 1) x = m.take (m.length - 1) ++ [x] := by
  rw [List.set_eq_take_append_cons_drop, if_pos (by omega), List.drop_of_length_le (by omega)]
end
end Isp
section
variable {H H' : Heap} {g gm B : Nat} {vm vo : Value} {m : List Int} {acc : List Ins}
theorem KeepX.fr {gs : List Nat} {A B D : Heap} {g : Nat} (f : Fr g (.slice none 0 0) A B) (hg : g ∈ gs) (k : KeepX gs B D) : KeepX gs A D :=
  ⟨Nat.le_trans f.1 k.1, fun i hi hn => (k.2 i (by have := f.1; omega) hn).trans (f.2 i hi (fun e => hn (e ▸ hg)) (.inl rfl))⟩
end
end Go.Proofs.YtldmfchamcpmmaaDoor
namespace Go.Proofs.YtldmfchamcpmmaaDoor
open Go Go.RowKit
set_option linter.unusedVariables false
set_option linter.unusedSimpArgs false
set_option linter.unnecessarySimpa false
theorem Own.not_nil {α : Type} {n : Nat} {E : El α} {e : TypeId} {H0 H : Heap} {B : Nat} {v : Value} {l : List α} (h : Own n E e H0 B H v l) (hl : 0 < l.length) : v ≠ .slice none 0 0 := by
  rintro rfl
  obtain ⟨a, cap, e, _⟩ := h.val
  injection e with e1 e2
  omega
theorem Own.to_ne {α : Type} {n : Nat} {E : El α} {e : TypeId} {H0 H : Heap} {B j : Nat} {v : Value} {l : List α} (h : Own n E e H0 B H v l) (hv : v ≠ .slice none 0 0) : toV v j ≠ .slice none 0 0 := by
  obtain ⟨a, cap, e, _, _, h3⟩ := h.val
  subst e
  intro e
  simp only [toV, Value.slice.injEq] at e
  obtain ⟨e1, e2, e3⟩ := e
  subst e1
  apply hv
  have := h3 rfl
  obtain ⟨flat, ⟨h0, h1⟩, _⟩ := h
  rcases h1 with ⟨h1, _⟩ | ⟨g, cp, cu, h1, _⟩
  · exact h1
  injection h1 with h1; cases h1
theorem nx_old {α : Type} {n : Nat} {E : El α} {e : TypeId} {H0 H H1 : Heap} {B : Nat} {v v' : Value} {l : List α} (o : Old H H1) (h : Own n E e H0 B H v l) (nx : Nx H1 v v') : Nx H v v' := by
  rcases nx with k | k | k
  · exact .inl k
  · exact .inr (.inl k)
  exact .inr (.inr (by have := o.1; omega))
theorem next_any {H : Heap} {gm B : Nat} {vm : Value} {m : List Int} (hm : H[gm]? = some (.cells [vm].toArray 222 (0, 0))) (wm : Own 1 (EInt .u8) 5 #[] B H vm m) (hgB : gm < B) (op : Int) (hop : InR .u8 op) (hml : m.length ≤ 1000000000000) (hBH : B ≤ H.size) : Ct Tryd.prog 144 [.pointer (some ⟨gm, 0, none⟩), .int .u8 op] H (fun u H' => (Isp.nx m op = .bad ∧ u = .tuple #[.bool false, .bool true] ∧ Old H H') ∨ (Isp.nx m op = .over ∧ u = .tuple #[.bool true, .bool false] ∧ Old H H') ∨ (∃ m' vm', Isp.nx m op = .go m' ∧ u = .tuple #[.bool false, .bool false] ∧ H'[gm]? = some (.cells [vm'].toArray 222 (0, 0)) ∧ Own 1 (EInt .u8) 5 #[] B H' vm' m' ∧ Fr gm vm H H' ∧ Nx H vm vm' ∧ (vm' = .slice none 0 0 → vm = .slice none 0 0))) := by
  refine Ct.mk Tryd.func144 rfl Tryd.ntmps144 rfl ?_
  intro W0 hW0
  have o0 : OldB 0 H H := OldB.refl _ H
  have wm00 := wm
  have hlm := blk_lt hm
  refine KC.sr (KL.fin 2 rfl (KQ.sr (KL.run 2 rfl (KL.ld rfl (cell_of hm rfl) (KL.fin 1 rfl (KQ.sr (KL.run 1 rfl (KL.q (R.lenO rfl Tryd.underlying222 rfl wm) rfl ?_))))))))
  refine KL.q (R.sub rfl rfl rfl (by dsimp only [InR]; omega)) rfl ?_
  refine KL.fin 1 rfl (KQ.seq (KC.seq (KC.sr (KL.fin 1 rfl (KQ.seq (KC.block (KC.seq (KC.sr (KL.fin 2 rfl (KQ.seq ?_))))))))))
  refine KC.iq rfl ?_ ?_
  · intro hc15
    refine KC.skip (KQ.seq (KC.condT rfl (KC.region (KL.run 3 rfl ?_))))
    refine KL.m (M.lit rfl Tryd.underlying222 zs5 (by decide) rfl rfl rfl) rfl ?_
    rintro _ H1 ⟨rfl, n1⟩
    have z1 := n1.2.1
    have o0 := o0.trans ((n1.1).b (by omega))
    have hm := (n1.1).blk hm
    have wm := wm.old n1.1
    have b1 := n1.2.2
    have h1 : Sl 1 (EInt .u8) H1 _ [op] := Sl.lits (l := [op]) n1 rfl (by simp) (by intro y hy; simp only [List.mem_cons, List.not_mem_nil, or_false] at hy; subst hy; exact hop)
    have nb := n1
    have o1 : Old H H1 := nb.1
    have wm0 : Own 1 (EInt .u8) 5 #[] B H vm m := wm00
    have lt2 := wm.lt
    refine KL.m (M.appendN rfl Tryd.underlying222 inf5 rfl (by decide) rfl rfl wm h1 (fun _ _ h _ => h) (by omega) (by simp; omega) (by unfold maxLen; simp; omega)) rfl ?_
    rintro vn H2 ⟨w2, g2, nx2⟩
    try dsimp only at g2 nx2
    have ob2 := g2.oldB wm (by omega)
    have o0 := o0.trans (ob2.mono (by omega))
    have z2 := ob2.1
    have hm := (g2.2 _ (blk_lt hm) (by exact lt2.imp id (fun h => by omega))).trans hm
    have wm := w2
    have frA : Fr gm vm H H2 := ((Fr.ofOld o1).trans (Nx.refl _ _) ((Fr.refl gm vm _).grown (Nx.refl _ _) g2))
    have nxA : Nx H vm vn := nx_old o1 wm0 nx2
    have hne : vn = .slice none 0 0 → vm = .slice none 0 0 := fun e => absurd (Own.not_nil wm (by simp)) (fun k => k e)
    refine KL.run 1 rfl ?_
    refine KL.opS (S.store rfl sz222 rfl rfl wm.cells1 wm.one hm (by simp)) rfl rfl ?_
    rintro H3 ⟨u3, b3⟩
    have o0 := o0.trans (OldB.upd u3 (by omega))
    have zu3 := u3.1
    have wm := wm.upd u3 (by exact wm.lt.imp id (fun h => by omega))
    have hm := b3
    have fr := frA.upd u3
    refine KL.nil (KQ.normBlock (KQ.sr (KL.fin 2 rfl (KQ.seq (KC.ret (KQ.ofRet (KQ.fin2 Tryd.results144 rfl rfl ?_)))))))
    (exact .inr (.inr ⟨_, _, by unfold Isp.nx; rw [if_pos (by exact .inl hc15)], rfl, hm, wm, fr, nxA, hne⟩))
  intro hc15
  refine KC.sr (KL.fin 2 rfl (KQ.seq ?_))
  refine KC.iq rfl ?_ ?_
  · intro hc15
    refine KC.skip (KQ.seq (KC.condT rfl (KC.region (KL.run 3 rfl ?_))))
    refine KL.m (M.lit rfl Tryd.underlying222 zs5 (by decide) rfl rfl rfl) rfl ?_
    rintro _ H4 ⟨rfl, n4⟩
    have z4 := n4.2.1
    have o0 := o0.trans ((n4.1).b (by omega))
    have hm := (n4.1).blk hm
    have wm := wm.old n4.1
    have b4 := n4.2.2
    have h1 : Sl 1 (EInt .u8) H4 _ [op] := Sl.lits (l := [op]) n4 rfl (by simp) (by intro y hy; simp only [List.mem_cons, List.not_mem_nil, or_false] at hy; subst hy; exact hop)
    have nb := n4
    have o1 : Old H H4 := nb.1
    have wm0 : Own 1 (EInt .u8) 5 #[] B H vm m := wm00
    have lt5 := wm.lt
    refine KL.m (M.appendN rfl Tryd.underlying222 inf5 rfl (by decide) rfl rfl wm h1 (fun _ _ h _ => h) (by omega) (by simp; omega) (by unfold maxLen; simp; omega)) rfl ?_
    rintro vn H5 ⟨w5, g5, nx5⟩
    try dsimp only at g5 nx5
    have ob5 := g5.oldB wm (by omega)
    have o0 := o0.trans (ob5.mono (by omega))
    have z5 := ob5.1
    have hm := (g5.2 _ (blk_lt hm) (by exact lt5.imp id (fun h => by omega))).trans hm
    have wm := w5
    have frA : Fr gm vm H H5 := ((Fr.ofOld o1).trans (Nx.refl _ _) ((Fr.refl gm vm _).grown (Nx.refl _ _) g5))
    have nxA : Nx H vm vn := nx_old o1 wm0 nx5
    have hne : vn = .slice none 0 0 → vm = .slice none 0 0 := fun e => absurd (Own.not_nil wm (by simp)) (fun k => k e)
    refine KL.run 1 rfl ?_
    refine KL.opS (S.store rfl sz222 rfl rfl wm.cells1 wm.one hm (by simp)) rfl rfl ?_
    rintro H6 ⟨u6, b6⟩
    have o0 := o0.trans (OldB.upd u6 (by omega))
    have zu6 := u6.1
    have wm := wm.upd u6 (by exact wm.lt.imp id (fun h => by omega))
    have hm := b6
    have fr := frA.upd u6
    refine KL.nil (KQ.normBlock (KQ.sr (KL.fin 2 rfl (KQ.seq (KC.ret (KQ.ofRet (KQ.fin2 Tryd.results144 rfl rfl ?_)))))))
    (exact .inr (.inr ⟨_, _, by unfold Isp.nx; rw [if_pos (by exact .inr (.inl hc15))], rfl, hm, wm, fr, nxA, hne⟩))
  intro hc15
  refine KC.region (KL.fin 2 rfl (KQ.seq ?_))
  refine KC.iq rfl ?_ ?_
  · intro hc15
    refine KC.region (KL.run 3 rfl ?_)
    refine KL.m (M.lit rfl Tryd.underlying222 zs5 (by decide) rfl rfl rfl) rfl ?_
    rintro _ H7 ⟨rfl, n7⟩
    have z7 := n7.2.1
    have o0 := o0.trans ((n7.1).b (by omega))
    have hm := (n7.1).blk hm
    have wm := wm.old n7.1
    have b7 := n7.2.2
    have h1 : Sl 1 (EInt .u8) H7 _ [op] := Sl.lits (l := [op]) n7 rfl (by simp) (by intro y hy; simp only [List.mem_cons, List.not_mem_nil, or_false] at hy; subst hy; exact hop)
    have nb := n7
    have o1 : Old H H7 := nb.1
    have wm0 : Own 1 (EInt .u8) 5 #[] B H vm m := wm00
    have lt8 := wm.lt
    refine KL.m (M.appendN rfl Tryd.underlying222 inf5 rfl (by decide) rfl rfl wm h1 (fun _ _ h _ => h) (by omega) (by simp; omega) (by unfold maxLen; simp; omega)) rfl ?_
    rintro vn H8 ⟨w8, g8, nx8⟩
    try dsimp only at g8 nx8
    have ob8 := g8.oldB wm (by omega)
    have o0 := o0.trans (ob8.mono (by omega))
    have z8 := ob8.1
    have hm := (g8.2 _ (blk_lt hm) (by exact lt8.imp id (fun h => by omega))).trans hm
    have wm := w8
    have frA : Fr gm vm H H8 := ((Fr.ofOld o1).trans (Nx.refl _ _) ((Fr.refl gm vm _).grown (Nx.refl _ _) g8))
    have nxA : Nx H vm vn := nx_old o1 wm0 nx8
    have hne : vn = .slice none 0 0 → vm = .slice none 0 0 := fun e => absurd (Own.not_nil wm (by simp)) (fun k => k e)
    refine KL.run 1 rfl ?_
    refine KL.opS (S.store rfl sz222 rfl rfl wm.cells1 wm.one hm (by simp)) rfl rfl ?_
    rintro H9 ⟨u9, b9⟩
    have o0 := o0.trans (OldB.upd u9 (by omega))
    have zu9 := u9.1
    have wm := wm.upd u9 (by exact wm.lt.imp id (fun h => by omega))
    have hm := b9
    have fr := frA.upd u9
    refine KL.nil (KQ.normBlock (KQ.sr (KL.fin 2 rfl (KQ.seq (KC.ret (KQ.ofRet (KQ.fin2 Tryd.results144 rfl rfl ?_)))))))
    (exact .inr (.inr ⟨_, _, by unfold Isp.nx; rw [if_pos (by exact .inr (.inr hc15))], rfl, hm, wm, fr, nxA, hne⟩))
  intro hc15
  refine KC.sr (KL.fin 2 rfl (KQ.seq ?_))
  refine KC.iq rfl ?_ ?_
  · intro hc25
    refine KC.seq (KC.sr (KL.run 3 rfl ?_))
    refine KL.cq 29 rfl ?_ ?_
    · intro hg29
      refine KL.fin 6 rfl (KQ.seq (KC.condT rfl (KC.sr (KL.fin 2 rfl (KQ.seq (KC.ret (KQ.retThen (KQ.retBlock (KQ.retThen (KQ.ofRet (KQ.fin2 Tryd.results144 rfl rfl ?_)))))))))))
      (exact .inl ⟨by unfold Isp.nx; rw [if_neg (by omega), if_pos hc25, if_pos (by exact .inl (List.eq_nil_of_length_eq_zero (by omega)))], rfl, Old.refl _⟩)
    intro hg29
    refine KL.run 2 rfl ?_
    refine KL.q (R.indexO1 (j := m.length - 1) rfl Tryd.underlying222 sz5 rfl rfl wm (by omega) (by omega)) rfl ?_
    refine KL.ld rfl (wm.int (m.length - 1) (by omega)).1 ?_
    refine KL.fin 2 rfl (KQ.seq ?_)
    refine KC.iq rfl ?_ ?_
    · intro hc35
      refine KC.sr (KL.fin 2 rfl (KQ.seq (KC.ret (KQ.retThen (KQ.retBlock (KQ.retThen (KQ.ofRet (KQ.fin2 Tryd.results144 rfl rfl ?_))))))))
      (exact .inl ⟨by unfold Isp.nx; rw [if_neg (by omega), if_pos hc25, if_pos (by exact .inr (by assumption))], rfl, Old.refl _⟩)
    intro hc35
    refine KC.skip (KQ.r (KL.run 2 rfl ?_))
    refine KL.q (R.indexO1 (j := m.length - 1) rfl Tryd.underlying222 sz5 rfl rfl wm (by omega) (by omega)) rfl ?_
    have hvb := wm00.lt.resolve_left (Own.not_nil wm00 (by omega))
    refine KL.opS (S.own1 rfl sz5 rfl rfl rfl rfl wm (by omega) ⟨rfl, by decide⟩) rfl rfl ?_
    rintro H10 ⟨u10, w10⟩
    have o0 := o0.trans (OldB.upd u10 (by omega))
    have zu10 := u10.1
    have hm := ((u10).2 _ (by omega)).trans hm
    have wm := w10
    have fr : Fr gm vm H H10 := Fr.ofUpd (by rintro rfl; have := wm00.val; obtain ⟨a, cap, e, _⟩ := this; injection e with e1 e2; omega) u10
    rw [Isp.set_last (by omega)] at wm
    refine KL.nil (KQ.normBlock (KQ.sr (KL.fin 2 rfl (KQ.seq (KC.ret (KQ.ofRet (KQ.fin2 Tryd.results144 rfl rfl ?_)))))))
    (exact .inr (.inr ⟨_, vm, by unfold Isp.nx; rw [if_neg (by omega), if_pos hc25, if_neg (fun h => h.elim (fun e => absurd (congrArg List.length e) (by simp only [List.length_nil]; omega)) (fun e => e (by assumption)))], rfl, hm, wm, fr, Nx.refl _ _, id⟩))
  intro hc25
  refine KC.sr (KL.fin 2 rfl (KQ.seq ?_))
  refine KC.iq rfl ?_ ?_
  · intro hc39
    refine KC.seq (KC.sr (KL.fin 2 rfl (KQ.seq ?_)))
    refine KC.iq rfl ?_ ?_
    · intro hc42
      refine KC.sr (KL.fin 2 rfl (KQ.seq (KC.ret (KQ.retThen (KQ.retBlock (KQ.retThen (KQ.ofRet (KQ.fin2 Tryd.results144 rfl rfl ?_))))))))
      (exact .inr (.inl ⟨by unfold Isp.nx; rw [if_neg (by omega), if_neg (by omega), if_pos hc39, if_pos (List.eq_nil_of_length_eq_zero (by omega))], rfl, Old.refl _⟩))
    intro hc42
    refine KC.skip (KQ.r (KL.run 3 rfl ?_))
    refine KL.q (R.sliceTo (j := m.length - 1) rfl Tryd.underlying222 sz5 rfl rfl wm (by omega) (by omega)) rfl ?_
    refine KL.run 1 rfl ?_
    have wt := (wm.to (j := m.length - 1) (by omega)).1
    have wtb := (wm.to (j := m.length - 1) (by omega)).2
    refine KL.opS (S.store rfl sz222 rfl rfl wt.cells1 wt.one hm (by simp)) rfl rfl ?_
    rintro H11 ⟨u11, b11⟩
    have o0 := o0.trans (OldB.upd u11 (by omega))
    have zu11 := u11.1
    have wm := wm.upd u11 (by exact wm.lt.imp id (fun h => by omega))
    have hm := b11
    have fr : Fr gm vm H H11 := (Fr.refl gm vm H).upd u11
    have wt := wt.upd u11 (by rw [wtb]; exact wm00.lt.elim (fun e => .inr (by subst e; have := wm00.val; obtain ⟨a, cap, e, _⟩ := this; injection e with e1 e2; omega)) (fun k => .inr (by omega)))
    have hnn : vm ≠ .slice none 0 0 := by rintro rfl; have := wm00.val; obtain ⟨a, cap, e, _⟩ := this; injection e with e1 e2; omega
    refine KL.nil (KQ.normBlock (KQ.sr (KL.fin 2 rfl (KQ.seq (KC.ret (KQ.ofRet (KQ.fin2 Tryd.results144 rfl rfl ?_)))))))
    (exact .inr (.inr ⟨_, _, by unfold Isp.nx; rw [if_neg (by omega), if_neg (by omega), if_pos hc39, if_neg (by rintro e; subst e; simp at *)], rfl, hm, wt, fr, .inr (.inl ⟨hnn, wtb⟩), fun e => absurd e (Own.to_ne wm00 hnn)⟩))
  intro hc39
  refine KC.skip (KQ.normBlock (KQ.sr (KL.fin 2 rfl (KQ.seq (KC.ret (KQ.ofRet (KQ.fin2 Tryd.results144 rfl rfl ?_)))))))
  (exact .inr (.inr ⟨_, vm, by unfold Isp.nx; rw [if_neg (by omega), if_neg (by omega), if_neg (by omega)], rfl, hm, wm, Fr.refl _ _ _, Nx.refl _ _, id⟩))
end Go.Proofs.YtldmfchamcpmmaaDoor
