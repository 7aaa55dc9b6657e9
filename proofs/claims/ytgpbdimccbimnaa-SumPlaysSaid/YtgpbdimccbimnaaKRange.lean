/- Ranges over functions in the logic K: iterators, the statement, a function's end. No condition but those that each law states. -/
import Derived.Test.YtgpbdimccbimnaaKFun
namespace Go.Proofs.Ytgpbdimccbimnaa
open Go Go.RowKit
set_option linter.unusedVariables false
set_option linter.unusedSimpArgs false
/-- what J says hangs on the blocks below B, and on those of O, alone -/
def Abides {κ : Type} (B : Nat) (J : κ → Heap → (Nat → Prop) → Prop) : Prop := ∀ k H H' O, J k H O → H.size ≤ H'.size → (∀ b, b < H.size → (b < B ∨ O b) → H'[b]? = H[b]?) → J k H' O
/-- a step writes blocks of O, and new ones, alone -/
def StepO (O O' : Nat → Prop) (H H' : Heap) : Prop := H.size ≤ H'.size ∧ (∀ b, b < H.size → ¬ O b → H'[b]? = H[b]?) ∧ ∀ b, O' b → O b ∨ H.size ≤ b
/-- f (with cap) hands on xs, one after the other; it looks at the blocks N -/
def Iter (P : Program) (f : FuncId) (first cap : List Value) (xs : List (List Value)) (N : Nat → Prop) (H0 : Heap) : Prop :=
  ∀ (l : Nat) (J Jx : Nat → Heap → (Nat → Prop) → Prop) (O0 : Nat → Prop), Abides H0.size J → Abides H0.size Jx → (∀ b, N b → ¬ O0 b) → (∀ b, O0 b → b < H0.size) →
    (∀ k H O args, nth xs k = some args → H0.size ≤ H.size → J k H O → YCt P l args H (fun v H' => ∃ O', StepO O O' H H' ∧ ((v = .bool true ∧ J (k + 1) H' O') ∨ (v = .bool false ∧ Jx k H' O')))) →
    J 0 H0 O0 → Ct P f (first ++ .func (.yield l) #[] #[] :: cap) H0 (fun _ H' => H0.size ≤ H'.size ∧ ∃ O', J xs.length H' O' ∨ ∃ k, k < xs.length ∧ Jx k H' O')
section
variable {P : Program} {n d : Nat} {W0 : World} {Q : Exit → Act → World → Prop} {E : Env} {H : Heap}
/-- yield's arguments in the slots that a round begins with -/
def parEnv : List Tmp → List Value → Env
  | p :: ps, v :: vs => parEnv ps vs ++ [(p, v)]
  | _, _ => []
theorem get_cat (A B : Env) (t : Nat) : get (A ++ B) t = (get A t).or (get B t) := by
  induction A with
  | nil => simp [get]
  | cons p A ih =>
    obtain ⟨d, v⟩ := p
    simp only [List.cons_append, get]
    cases Nat.beq d t <;> simp [ih]
theorem foldl_pars : ∀ (ps : List Tmp) (vs : List Value) (tmps : Array Value), (∀ p ∈ ps, p < tmps.size) → ps.length = vs.length → ∀ t, ((ps.zip vs).foldl (fun t (q : Tmp × Value) => t.setIfInBounds q.1 q.2) tmps)[t]? = (match get (parEnv ps vs) t with | some v => some v | none => tmps[t]?)
  | [], [], tmps, _, _, t => rfl
  | p :: ps, v :: vs, tmps, hp, hl, t => by
    have hps : ∀ q ∈ ps, q < (tmps.setIfInBounds p v).size := fun q hq => by rw [Array.size_setIfInBounds]; exact hp q (List.mem_cons_of_mem _ hq)
    simp only [List.zip_cons_cons, List.foldl_cons]
    rw [foldl_pars ps vs _ hps (by simpa using hl) t]
    simp only [parEnv, get_cat, get]
    cases h1 : get (parEnv ps vs) t with
    | some u => rfl
    | none =>
      simp only [Option.none_or]
      by_cases e : p = t
      · subst e; simp [hp p (List.mem_cons_self ..)]
      · have : Nat.beq p t = false := by
          cases hb : Nat.beq p t with
          | false => rfl
          | true => exact absurd (Nat.eq_of_beq_eq_true hb) e
        simp [this, Array.getElem?_setIfInBounds_ne e]
theorem foldl_pars_size : ∀ (ps : List Tmp) (vs : List Value) (tmps : Array Value), ((ps.zip vs).foldl (fun t (q : Tmp × Value) => t.setIfInBounds q.1 q.2) tmps).size = tmps.size
  | [], _, tmps => by simp
  | _ :: _, [], tmps => by simp
  | p :: ps, v :: vs, tmps => by simp only [List.zip_cons_cons, List.foldl_cons]; rw [foldl_pars_size ps vs]; simp
/-- a round begins -/
theorem Rep.round {a : Act} {ps : Array Tmp} {vs : List Value} (h : Rep n E a) (hp : ps.toList.all (Nat.blt · n) = true) (hl : vs.length = ps.size) : Rep n (parEnv ps.toList vs ++ E) { tmps := (ps.zip vs.toArray).foldl (fun t (q : Tmp × Value) => t.setIfInBounds q.1 q.2) a.tmps, defers := [] } := by
  have e : (ps.zip vs.toArray).foldl (fun t (q : Tmp × Value) => t.setIfInBounds q.1 q.2) a.tmps = (ps.toList.zip vs).foldl (fun t (q : Tmp × Value) => t.setIfInBounds q.1 q.2) a.tmps := by
    rw [← Array.foldl_toList]; simp
  refine ⟨rfl, ?_, fun t v ht => ?_⟩
  · show Array.size _ = n
    rw [e, foldl_pars_size]; exact h.size
  · have hp' : ∀ p ∈ ps.toList, p < a.tmps.size := fun p hm => by rw [h.size]; simpa using List.all_eq_true.1 hp p hm
    have h2 := foldl_pars ps.toList vs a.tmps hp' (by simpa using hl.symm) t
    rw [e, h2]
    rw [get_cat] at ht
    cases hq : get (parEnv ps.toList vs) t with
    | some u => rw [hq] at ht; simpa using ht
    | none => rw [hq] at ht; exact h.val t v (by simpa using ht)
/-- a round is over -/
def RPost (W1 : World) (R : Exit → Heap → Prop) : Exit → Act → World → Prop
  | .normal, _, w => St W1 w.heap w ∧ R .normal w.heap
  | .ret, _, w => St W1 w.heap w ∧ R .ret w.heap
  | .exit id, _, w => St W1 w.heap w ∧ R (.exit id) w.heap
  | _, _, _ => False
/-- the loop's left sides are assigned: the round's body begins -/
def RBegin (P : Program) (W1 : World) (l : Nat) (body : Code) (Hk : Heap) (R : Heap → Exit → Heap → Prop) : Exit → Act → World → Prop :=
  Exit.then (fun a w => ∀ r, Hk[l]? = some (.loop r) → r.state = .ready → w.heap[l]? = Hk[l]? ∧ St W1 w.heap w ∧ Hk.size ≤ w.heap.size ∧ (∀ b, b < Hk.size → w.heap[b]? = Hk[b]?) ∧ body.wpIn (FO (some l)) 0 P (RPost W1 (R (w.putObj l (.loop { r with state := .busy })).heap)) a (w.putObj l (.loop { r with state := .busy }))) (fun _ _ _ => False)
theorem KQR.begin {W1 : World} {l : Nat} {body : Code} {Hk : Heap} {R : Heap → Exit → Heap → Prop} (o : Old Hk H) (h : ∀ H2, Upd l H H2 → KCR l P n W1 (RPost W1 (R H2)) body E H2) : KQ n W1 (RBegin P W1 l body Hk R) .normal E H := by
  intro a w ha hw r hr hs
  have hw' := hw.heap
  subst hw'
  refine ⟨o.2 l (blk_lt hr), ⟨rfl, hw.os, hw.tape, hw.output⟩, o.1, o.2, ?_⟩
  exact h _ ⟨by simp, fun k hk => World.putObj_heap_other hk⟩ a _ ha ⟨rfl, hw.os, hw.tape, hw.output⟩
theorem KQR.fin {W1 : World} {R : Exit → Heap → Prop} {e : Exit} (he : (match e with | .normal => true | .ret => true | .exit _ => true | _ => false) = true) (h : R e H) : KQ n W1 (RPost W1 R) e E H := by
  intro a w ha hw
  have hs : St W1 w.heap w := ⟨rfl, hw.os, hw.tape, hw.output⟩
  rw [← hw.heap] at h
  cases e with
  | normal => exact ⟨hs, h⟩
  | ret => exact ⟨hs, h⟩
  | exit id => exact ⟨hs, h⟩
  | goto l => cases he
  | panic c => cases he
  | outgrown => cases he
/-- what a round leaves -/
def REnd (I : Nat → Heap → (Nat → Prop) → Prop) (Ix : Exit → Nat → Heap → (Nat → Prop) → Prop) (k : Nat) (O : Nat → Prop) (H2 : Heap) : Exit → Heap → Prop
  | .normal, H3 => ∃ O', StepO O O' H2 H3 ∧ I (k + 1) H3 O'
  | e, H3 => ∃ O', StepO O O' H2 H3 ∧ Ix e k H3 O'
def jumpOf : Exit → Option Code
  | .ret => some .ret
  | .exit id => some (.exit id)
  | _ => none
theorem Upd.abides {κ : Type} {B : Nat} {J : κ → Heap → (Nat → Prop) → Prop} {k : κ} {O : Nat → Prop} {A C : Heap} {l : Nat} (h : Abides B J) (hj : J k A O) (u : Upd l A C) (hB : B ≤ l) (hl : ¬ O l) : J k C O :=
  h k A C O hj (by rw [u.1]; exact Nat.le_refl _) (fun b hb hc => u.2 b (fun e => by
    subst e
    rcases hc with hc | hc
    · omega
    · exact hl hc))
theorem KC.range {g : Operand} {ps : Array Tmp} {assign body : Code} {f : FuncId} {first cap : List Value} {xs : List (List Value)} {N O0 : Nat → Prop} (I : Nat → Heap → (Nat → Prop) → Prop) (Ix : Exit → Nat → Heap → (Nat → Prop) → Prop)
    (hg : ev E g = some (.func (.func f) first.toArray cap.toArray)) (hcall : Enters P f) (hIt : ∀ H2, Old H H2 → Iter P f first cap xs N H2)
    (hNs : ∀ b, N b → b < H.size) (hN : ∀ b, N b → ¬ O0 b) (hO : ∀ b, O0 b → b < H.size) (hI : Abides H.size I) (hIx : ∀ e, Abides H.size (Ix e)) (h0 : I 0 H O0)
    (hps : ps.toList.all (Nat.blt · n) = true) (hxs : ∀ vs ∈ xs, vs.length = ps.size)
    (round : ∀ k vs Hk O W1, nth xs k = some vs → H.size + 2 ≤ Hk.size → ¬ O H.size → ¬ O (H.size + 1) → I k Hk O →
      KCR (H.size + 1) P n W1 (RBegin P W1 (H.size + 1) body Hk (REnd I Ix k O)) assign (parEnv ps.toList vs ++ E) Hk)
    (done : ∀ H3 O, I xs.length H3 O → H3[H.size]? = some (.deferred (some [])) → H.size + 2 ≤ H3.size → ¬ O H.size → KQ n W0 (plusQ [⟨.collected H.size, #[]⟩] Q) .normal E H3)
    (stop : ∀ e k H3 O, jumpOf e ≠ none → k < xs.length → Ix e k H3 O → H3[H.size]? = some (.deferred (some [])) → H.size + 2 ≤ H3.size → ¬ O H.size → KQ n W0 (plusQ [⟨.collected H.size, #[]⟩] Q) e E H3) :
    KC P n W0 Q (.rangeFunc g ps assign body) E H := by
  intro a w ha hw
  refine wpIn_out.1 (wpIn_rangeFunc ?_)
  intro fn hfn
  have hwh := hw.heap
  subst hwh
  obtain ⟨rec, hrec⟩ : ∃ rec : LoopState → Option Code → Loop, rec = fun st pe => { state := st, pending := pe, fn, tmps := a.tmps, params := ps, assign, body, defers := w.heap.size } := ⟨_, rfl⟩
  obtain ⟨W1, hW1⟩ : ∃ W1, (w.alloc (.deferred (some []))).alloc (.loop (rec .ready none)) = W1 := ⟨_, rfl⟩
  have hL1 : W1.heap[w.heap.size + 1]? = some (.loop (rec .ready none)) := by
    rw [← hW1]; have := World.alloc_heap_new (w.alloc (.deferred (some []))) (.loop (rec .ready none)); rwa [World.size_alloc] at this
  have hold : ∀ (w : World) (o : Obj), Old w.heap (w.alloc o).heap := fun w o => ⟨by simp, fun k hk => by show (w.heap.push o)[k]? = _; rw [Array.getElem?_push, if_neg (by omega)]⟩
  have hK1 : W1.heap[w.heap.size]? = some (.deferred (some [])) := by
    rw [← hW1]; exact ((hold _ _).2 _ (by simp)).trans (World.alloc_heap_new w _)
  have o1 : Old w.heap W1.heap := by rw [← hW1]; exact (hold _ _).trans (hold _ _)
  have hz1 : W1.heap.size = w.heap.size + 2 := by rw [← hW1]; simp
  have s1 : St w W1.heap W1 := by rw [← hW1]; exact ⟨rfl, rfl, rfl, rfl⟩
  refine ⟨w.heap.size + 1, [{ target := .collected w.heap.size, args := #[] }], W1, { target := .fn (.func f) cap.toArray, args := first.toArray ++ #[.func (.yield (w.heap.size + 1)) #[] #[]] }, W1, f,
    first.toArray ++ #[.func (.yield (w.heap.size + 1)) #[] #[]] ++ cap.toArray, W1, ?_, ?_, fun _ _ => trivial, ?_, depth_out, ?_⟩
  · rw [← hW1, hrec]; exact run_enterLoop_outer _ _ _ _ _
  · simp only [resolve, ha.eval hg]
    simp [Deferred.ofValue, Sem.run_bind, Sem.run_pure, Result.andThen, Act.eval]
  · have := hcall (first.toArray ++ #[.func (.yield (w.heap.size + 1)) #[] #[]] ++ cap.toArray) W1
    simpa [invoke] using this
  refine callsIn_out.2 ?_
  have hargs : first.toArray ++ #[Value.func (.yield (w.heap.size + 1)) #[] #[]] ++ cap.toArray = (first ++ Value.func (.yield (w.heap.size + 1)) #[] #[] :: cap).toArray := by simp
  rw [hargs]
  -- what holds between two rounds; where one has left
  let In : (Nat → Prop) → Nat → Prop := fun Oh b => Oh b ∧ b ≠ w.heap.size + 1
  let J : Nat → Heap → (Nat → Prop) → Prop := fun k H Oh => I k H (In Oh) ∧ ¬ Oh w.heap.size ∧ H[w.heap.size + 1]? = some (.loop (rec .ready none)) ∧ H[w.heap.size]? = some (.deferred (some [])) ∧ Oh (w.heap.size + 1)
  let Jx : Nat → Heap → (Nat → Prop) → Prop := fun k H Oh => ∃ e c, jumpOf e = some c ∧ Ix e k H (In Oh) ∧ ¬ Oh w.heap.size ∧ H[w.heap.size + 1]? = some (.loop (rec .done (some c))) ∧ H[w.heap.size]? = some (.deferred (some []))
  have hJ : Abides W1.heap.size J := by
    intro k A C Oh ⟨h1, h2, h3, h4, h5⟩ hsz hag
    refine ⟨hI k A C _ h1 hsz fun b hb hc => hag b hb (hc.imp (fun h => by omega) (fun h => h.1)), h2, (hag _ (blk_lt h3) (.inl (by omega))).trans h3, (hag _ (blk_lt h4) (.inl (by omega))).trans h4, h5⟩
  have hJx : Abides W1.heap.size Jx := by
    intro k A C Oh ⟨e, c, he, h1, h2, h3, h4⟩ hsz hag
    refine ⟨e, c, he, hIx e k A C _ h1 hsz fun b hb hc => hag b hb (hc.imp (fun h => by omega) (fun h => h.1)), h2, (hag _ (blk_lt h3) (.inl (by omega))).trans h3, (hag _ (blk_lt h4) (.inl (by omega))).trans h4⟩
  have hin : ∀ O' : Nat → Prop, ¬ O' (w.heap.size + 1) → In (fun b => O' b ∨ b = w.heap.size + 1) = O' := fun O' hn => by
    funext b
    refine propext ⟨fun h => h.1.resolve_right h.2, fun h => ⟨.inl h, fun e => hn (e ▸ h)⟩⟩
  refine ((hIt W1.heap o1 (w.heap.size + 1) J Jx (fun b => O0 b ∨ b = w.heap.size + 1) hJ hJx ?_ ?_ ?_ ?_) W1 rfl).mono ?_
  · rintro b hb (h | h)
    · exact hN b hb h
    · have := hNs b hb; omega
  · rintro b (h | h)
    · have := hO b h; omega
    · omega
  · -- ONE ROUND
    intro k A Oh vs hk hA ⟨h1, h2, h3, h4, h5⟩ wA hwA
    subst hwA
    have hvs : vs.length = ps.size := hxs vs (List.mem_of_getElem? (by rw [← nth_eq]; exact hk))
    have hy := run_yield (P := P) (args := vs.toArray) h3 (by rw [hrec]; simpa using hvs)
    refine ⟨_, _, _, _, hy, ?_⟩
    rw [hrec]
    have hbR := round k vs wA.heap (In Oh) wA hk (by omega) (fun h => h2 h.1) (fun h => h.2 rfl) h1 _ wA (ha.round hps hvs) ⟨rfl, rfl, rfl, rfl⟩
    refine roundIn_of_wpIn (F := FO none) (n := 0) trivial ?_
    refine wpIn_mono hbR ?_
    intro e a1 w1 hq
    cases e with
    | normal =>
      obtain ⟨g1, g2, g3, g4, hb⟩ := hq (rec .ready none) h3 (by rw [hrec])
      have hl1 : w1.heap[w.heap.size + 1]? = some (.loop (rec .ready none)) := g1.trans h3
      refine ⟨_, run_beginRound hl1 (by rw [hrec]), ?_⟩
      refine wpIn_mono hb ?_
      have hl2 : (w1.putObj (w.heap.size + 1) (.loop { rec .ready none with state := .busy })).heap[w.heap.size + 1]? = some (.loop { rec .ready none with state := .busy }) := World.putObj_heap_same (blk_lt hl1)
      have hk2 : (w1.putObj (w.heap.size + 1) (.loop { rec .ready none with state := .busy })).heap[w.heap.size]? = some (.deferred (some [])) := (World.putObj_heap_other (by omega)).trans ((g4 _ (blk_lt h4)).trans h4)
      -- behind the body
      have fin : ∀ (jump : Option Code) (w3 : World) (O' : Nat → Prop), St wA w3.heap w3 → StepO (In Oh) O' (w1.putObj (w.heap.size + 1) (.loop { rec .ready none with state := .busy })).heap w3.heap →
          (Instr.endRound (w.heap.size + 1) jump).run P w3 = .ok (.bool jump.isNone) (w3.putObj (w.heap.size + 1) (.loop (rec (if jump.isNone then .ready else .done) jump))) ∧
          St wA (w3.putObj (w.heap.size + 1) (.loop (rec (if jump.isNone then .ready else .done) jump))).heap (w3.putObj (w.heap.size + 1) (.loop (rec (if jump.isNone then .ready else .done) jump))) ∧
          Upd (w.heap.size + 1) w3.heap (w3.putObj (w.heap.size + 1) (.loop (rec (if jump.isNone then .ready else .done) jump))).heap ∧ ¬ O' (w.heap.size + 1) ∧ ¬ O' w.heap.size ∧
          (w3.putObj (w.heap.size + 1) (.loop (rec (if jump.isNone then .ready else .done) jump))).heap[w.heap.size + 1]? = some (.loop (rec (if jump.isNone then .ready else .done) jump)) ∧
          (w3.putObj (w.heap.size + 1) (.loop (rec (if jump.isNone then .ready else .done) jump))).heap[w.heap.size]? = some (.deferred (some [])) ∧
          StepO Oh (fun b => O' b ∨ b = w.heap.size + 1) wA.heap (w3.putObj (w.heap.size + 1) (.loop (rec (if jump.isNone then .ready else .done) jump))).heap := by
        intro jump w3 O' hs3 hst
        have hsz2 : (w1.putObj (w.heap.size + 1) (.loop { rec .ready none with state := .busy })).heap.size = w1.heap.size := by simp
        have hl3 := (hst.2.1 _ (blk_lt hl2) (fun h => h.2 rfl)).trans hl2
        have hk3 := (hst.2.1 _ (blk_lt hk2) (fun h => h2 h.1)).trans hk2
        have hnl : ¬ O' (w.heap.size + 1) := fun h => by
          rcases hst.2.2 _ h with h | h
          · exact h.2 rfl
          · have := blk_lt hl2; omega
        have hnd : ¬ O' w.heap.size := fun h => by
          rcases hst.2.2 _ h with h | h
          · exact h2 h.1
          · have := blk_lt hk2; omega
        have hr := run_endRound (P := P) jump hl3
        rw [hrec] at hr ⊢
        refine ⟨hr, ⟨rfl, hs3.os, hs3.tape, hs3.output⟩, ⟨by simp, fun b hb => World.putObj_heap_other hb⟩, hnl, hnd, World.putObj_heap_same (blk_lt hl3), (World.putObj_heap_other (by omega)).trans hk3, ?_⟩
        have h31 := hst.1
        refine ⟨by rw [World.putObj_size]; omega, fun b hb hn => ?_, ?_⟩
        · by_cases e : b = w.heap.size + 1
          · subst e; exact absurd h5 hn
          · rw [World.putObj_heap_other e, hst.2.1 b (by omega) (fun h => hn h.1), World.putObj_heap_other e]
            exact g4 b hb
        · rintro b (h | h)
          · rcases hst.2.2 b h with h | h
            · exact .inl h.1
            · exact .inr (by omega)
          · subst h; exact .inl h5
      intro e2 a3 w3 hq
      cases e2 with
      | normal =>
        obtain ⟨hs3, O', hst, hi3⟩ := hq
        obtain ⟨f1, f2, f3, f4, f5, f6, f7, f8⟩ := fin none w3 O' hs3 hst
        exact ⟨_, _, f1, _, rfl, f2, _, f8, .inl ⟨rfl, by rw [hin O' f4]; exact f3.abides hI hi3 (by omega) f4, fun h => h.elim f5 (fun e => by omega), f6, f7, .inr rfl⟩⟩
      | ret =>
        obtain ⟨hs3, O', hst, hi3⟩ := hq
        obtain ⟨f1, f2, f3, f4, f5, f6, f7, f8⟩ := fin (some .ret) w3 O' hs3 hst
        exact ⟨_, _, f1, _, rfl, f2, _, f8, .inr ⟨rfl, .ret, .ret, rfl, by rw [hin O' f4]; exact f3.abides (hIx .ret) hi3 (by omega) f4, fun h => h.elim f5 (fun e => by omega), f6, f7⟩⟩
      | exit id =>
        obtain ⟨hs3, O', hst, hi3⟩ := hq
        obtain ⟨f1, f2, f3, f4, f5, f6, f7, f8⟩ := fin (some (.exit id)) w3 O' hs3 hst
        exact ⟨_, _, f1, _, rfl, f2, _, f8, .inr ⟨rfl, .exit id, .exit id, rfl, by rw [hin O' f4]; exact f3.abides (hIx (.exit id)) hi3 (by omega) f4, fun h => h.elim f5 (fun e => by omega), f6, f7⟩⟩
      | goto t => exact hq.elim
      | panic c => exact hq.elim
      | outgrown => exact hq.elim
    | exit id => exact hq.elim
    | goto t => exact hq.elim
    | ret => exact hq.elim
    | panic c => exact hq.elim
    | outgrown => exact hq.elim
  · have hag : ∀ b, b < w.heap.size → (b < w.heap.size ∨ O0 b) → W1.heap[b]? = w.heap[b]? := fun b hb _ => o1.2 b hb
    refine ⟨?_, fun h => h.elim (fun h => by have := hO _ h; omega) (fun h => by omega), hL1, hK1, .inr rfl⟩
    rw [hin O0 (fun h => by have := hO _ h; omega)]
    exact hI 0 _ _ _ h0 o1.1 hag
  · -- BEHIND THE ITERATOR
    rintro e w3 ⟨v, rfl, hs3, hsz, Oh, h | ⟨k, hk, h⟩⟩
    · obtain ⟨h1, h2, h3, h4, h5⟩ := h
      have hr := run_endLoop (P := P) h3 (by rw [hrec]; simp)
      refine ⟨_, _, hr, ?_⟩
      rw [hrec]
      have u : Upd (w.heap.size + 1) w3.heap (w3.putObj (w.heap.size + 1) (.loop { rec .ready none with state := .exhausted })).heap := ⟨by simp, fun b hb => World.putObj_heap_other hb⟩
      have hi := u.abides hI h1 (by omega) (fun h => h.2 rfl)
      have := done _ _ hi ((u.2 _ (by omega)).trans h4) (by rw [u.1]; omega) (fun h => h2 h.1) a _ ha ⟨rfl, ?_, ?_, ?_⟩
      · unfold plusQ plusA at this
        rw [ha.defers] at this ⊢
        rw [hrec] at this
        exact this
      · exact (hw.os ▸ s1.os ▸ hs3.os)
      · exact (hw.tape ▸ s1.tape ▸ hs3.tape)
      · exact (hw.output ▸ s1.output ▸ hs3.output)
    · obtain ⟨e, c, he, h1, h2, h3, h4⟩ := h
      have hr := run_endLoop (P := P) h3 (by rw [hrec]; simp)
      refine ⟨_, _, hr, ?_⟩
      rw [hrec]
      have u : Upd (w.heap.size + 1) w3.heap (w3.putObj (w.heap.size + 1) (.loop { rec (.done) (some c) with state := .exhausted })).heap := ⟨by simp, fun b hb => World.putObj_heap_other hb⟩
      have hi := u.abides (hIx e) h1 (by omega) (fun h => h.2 rfl)
      have := stop e k _ _ (by rw [he]; exact fun h => by cases h) hk hi ((u.2 _ (by omega)).trans h4) (by rw [u.1]; omega) (fun h => h2 h.1) a _ ha ⟨rfl, hw.os ▸ s1.os ▸ hs3.os, hw.tape ▸ s1.tape ▸ hs3.tape, hw.output ▸ s1.output ▸ hs3.output⟩
      unfold plusQ plusA at this
      rw [ha.defers] at this ⊢
      rw [hrec] at this
      cases e with
      | ret => cases he; exact wpIn_ret this
      | exit id => cases he; exact wpIn_exit this
      | normal => cases he
      | goto t => cases he
      | panic c => cases he
      | outgrown => cases he
/-! ### a function's end, where it has ranged over a function -/
def PostM (P : Program) (fn : Func) (W0 : World) (R : Value → Heap → Prop) : Exit → Act → World → Prop := bodyPostM (FO none) 0 P fn (fun e w' => ∃ v, e = .returned v ∧ St W0 w'.heap w' ∧ R v w'.heap)
theorem Ct.mkM {f : FuncId} {fn : Func} {c : Code} {args : List Value} {R : Value → Heap → Prop} (hf : P.funcs[f]? = some fn) (hb : fn.body = some c) (hn : fn.ntmps = n) (hle : Nat.ble args.length n = true)
    (h : ∀ W0 : World, W0.heap = H → KC P n W0 (PostM P fn W0 R) c (argEnv 0 args) H) : Ct P f args H R := by
  intro w hw
  have hle' : args.length ≤ n := by simpa using hle
  refine callsIn_out.1 (callsIn_of_wp_marks (F := FO none) (n := 0) hf hb trivial (wpIn_out.2 (h w hw _ w ⟨rfl, by simp [hn]; omega, ?_⟩ ⟨hw, rfl, rfl, rfl⟩)))
  intro t v ht
  rw [get_argEnv] at ht
  simp only [Nat.not_lt_zero, if_false, Nat.sub_zero] at ht
  have hlt := (List.getElem?_eq_some_iff.1 ht).1
  rw [Array.getElem?_append_left (by simpa using hlt)]
  simpa using ht
/-- the results, as they stand in the end -/
def Res (P : Program) (fn : Func) (n : Nat) (E : Env) (H : Heap) (v : Value) : Prop := ∀ (a : Act) (w : World), Rep n E a → w.heap = H → (results fn a.tmps).run P w = .ok v w
theorem Res.none {fn : Func} (hr : fn.results = #[]) : Res P fn n E H (.tuple #[]) := fun a w ha hw => by simp [results, hr, Sem.run_bind, Sem.run_pure, Result.andThen]
theorem Res.tmp {fn : Func} {t : Nat} {v : Value} (hr : fn.results = #[.tmp t]) (ht : get E t = some v) : Res P fn n E H v := fun a w ha hw => by have := ha.val t v ht; simp [results, hr, go_sem, Array.getD_eq_getD_getElem?, this]
theorem Res.cell1 {fn : Func} {t T : Nat} {p : Addr} {v : Value} {ds : TypeDesc} (hr : fn.results = #[.cell t T]) (ht : get E t = some (.pointer (some p))) (hu : P.underlying T = some ds) (hd : isAggD ds = false) (hc : cellH H p = some v) : Res P fn n E H v := fun a w ha hw => by
  have h1 := ha.val t _ ht
  have h3 := loadVar_one (P := P) (w := w) (T := T) hu hd (by rw [hw]; exact hc)
  simp [results, hr, List.mapM_toArray, Array.getD_eq_getD_getElem?, h1, asAddr, Sem.run_bind, Sem.run_pure, Sem.run_map, Result.andThen, h3]
theorem KQ.finM {fn : Func} {R : Value → Heap → Prop} {e : Exit} (he : e = .normal ∨ e = .ret) (v : Value) (hv : Res P fn n E H v) (hR : R v H) : KQ n W0 (PostM P fn W0 R) e E H := by
  intro a w ha hw
  have h1 := hv a w ha hw.heap
  have h2 : LeavesInM (FO Option.none) 0 P fn a.tmps (fun e w' => ∃ v, e = .returned v ∧ St W0 w'.heap w' ∧ R v w'.heap) a.defers .returning w := by
    rw [ha.defers]
    exact ⟨v, h1, v, rfl, ⟨rfl, hw.os, hw.tape, hw.output⟩, by rw [hw.heap]; exact hR⟩
  rcases he with rfl | rfl <;> exact h2
theorem KQD.finM {fn : Func} {R : Value → Heap → Prop} {e : Exit} {D : Nat} (he : e = .normal ∨ e = .ret) (hD : H[D]? = some (.deferred (some []))) (h : ∀ H', Upd D H H' → ∃ v, Res P fn n E H' v ∧ R v H') : KQ n W0 (plusQ [⟨.collected D, #[]⟩] (PostM P fn W0 R)) e E H := by
  intro a w ha hw
  have hwh := hw.heap
  subst hwh
  obtain ⟨v, hv, hR⟩ := h (w.putObj D (.deferred Option.none)).heap ⟨by simp, fun k hk => World.putObj_heap_other hk⟩
  have h2 : LeavesInM (FO Option.none) 0 P fn a.tmps (fun e w' => ∃ v, e = .returned v ∧ St W0 w'.heap w' ∧ R v w'.heap) (a.defers ++ [⟨.collected D, #[]⟩]) .returning w := by
    rw [ha.defers]
    refine ⟨by simp, .inl ⟨D, _, rfl, run_takeDeferred hD, ?_⟩⟩
    exact ⟨v, hv a _ ha rfl, v, rfl, ⟨rfl, hw.os, hw.tape, hw.output⟩, hR⟩
  rcases he with rfl | rfl <;> exact h2
theorem KQD.normBlock {D : List Deferred} {id : Nat} (h : KQ n W0 (plusQ D Q) .normal E H) : KQ n W0 (plusQ D (Exit.inBlock id Q)) .normal E H := h
theorem KQD.retBlock {D : List Deferred} {id : Nat} (h : KQ n W0 (plusQ D Q) .ret E H) : KQ n W0 (plusQ D (Exit.inBlock id Q)) .ret E H := h
theorem KQD.hit {D : List Deferred} {id : Nat} (h : KQ n W0 (plusQ D Q) .normal E H) : KQ n W0 (plusQ D (Exit.inBlock id Q)) (.exit id) E H := fun a w ha hw => by
  show (if id = id then _ else _); rw [if_pos rfl]; exact h a w ha hw
theorem KQD.exitThen {D : List Deferred} {N : Act → World → Prop} {id : Nat} (h : KQ n W0 (plusQ D Q) (.exit id) E H) : KQ n W0 (plusQ D (Exit.then N Q)) (.exit id) E H := h
theorem KCD.sub {D : List Deferred} {c : Code} {E' : Env} (hs : Sub E' E) (h : KCD D P n W0 Q c E' H) : KCD D P n W0 Q c E H := fun a w ha hw => h a w (ha.sub hs) hw
theorem KCD.iteL {D : List Deferred} {x y : Code} {b : Bool} (hc : get E d = some (.bool b)) (ht : b = true → KCD D P n W0 Q x ((d, .bool true) :: E) H) (hf : b = false → KCD D P n W0 Q y ((d, .bool false) :: E) H) : KCD D P n W0 Q (.cond (.tmp d) x y) E H := by
  cases hb : b with
  | true => exact KCD.sub (sub_case hc true hb) (KCD.condT (by simp [ev, get]) (ht hb))
  | false => exact KCD.sub (sub_case hc false hb) (KCD.condF (by simp [ev, get]) (hf hb))
end
end Go.Proofs.Ytgpbdimccbimnaa
