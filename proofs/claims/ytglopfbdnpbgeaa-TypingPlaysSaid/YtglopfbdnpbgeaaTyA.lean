/- Stacks of types: the document's, and as they lie in memory. No condition. -/
import Derived.Test.YtglopfbdnpbgeaaKDel
import Derived.Test.YtglopfbdnpbgeaaKRange
namespace Go.Proofs.Ytglopfbdnpbgeaa
open Go Go.RowKit
set_option linter.unusedVariables false
set_option linter.unusedSimpArgs false
set_option linter.unnecessarySimpa false

/-- the blocks that v is in -/
def Of (v : Value) (b : Nat) : Prop := v ≠ .slice none 0 0 ∧ b = vblock v
theorem Of.nil (b : Nat) : ¬ Of (.slice none 0 0) b := fun h => h.1 rfl
def KeepP (M : Nat → Prop) (H H2 : Heap) : Prop := H.size ≤ H2.size ∧ ∀ k, k < H.size → ¬ M k → H2[k]? = H[k]?
theorem KeepP.refl (M : Nat → Prop) (H : Heap) : KeepP M H H := ⟨Nat.le_refl _, fun _ _ _ => rfl⟩
theorem KeepP.old {M : Nat → Prop} {H H2 : Heap} (o : Old H H2) : KeepP M H H2 := ⟨o.1, fun k hk _ => o.2 k hk⟩
/-- what reads so while the blocks M may change -/
def FP {α : Type} (E : El α) (H : Heap) (M : Nat → Prop) : El α := fun _ cs x => ∀ H2, KeepP M H H2 → E H2 cs x
instance keepsFP {α : Type} {E : El α} {H : Heap} {M : Nat → Prop} : Keeps (FP E H M) := ⟨fun _ h => h⟩
instance oneFP {α : Type} {E : El α} [k : One E] {H : Heap} {M : Nat → Prop} : One (FP E H M) := ⟨fun h => k.one (h H (KeepP.refl M H))⟩
theorem StepO.refl (O : Nat → Prop) (H : Heap) : StepO O O H H := ⟨Nat.le_refl _, fun _ _ _ => rfl, fun _ h => .inl h⟩
theorem StepO.old {O O' : Nat → Prop} {A B C : Heap} (h : StepO O O' A B) (o : Old B C) : StepO O O' A C := ⟨Nat.le_trans h.1 o.1, fun b hb hn => (o.2 b (by have := h.1; omega)).trans (h.2.1 b hb hn), h.2.2⟩
theorem StepO.upd {O O' : Nat → Prop} {A B C : Heap} {g : Nat} (h : StepO O O' A B) (u : Upd g B C) (hg : O g := by assumption) : StepO O O' A C :=
  ⟨by have := u.1; have := h.1; omega, fun b hb hn => (u.2 b (by rintro rfl; exact hn hg)).trans (h.2.1 b hb hn), h.2.2⟩
theorem StepO.updN {O O' : Nat → Prop} {A B C : Heap} {g : Nat} (h : StepO O O' A B) (u : Upd g B C) (hg : A.size ≤ g) : StepO O O' A C :=
  ⟨by have := u.1; have := h.1; omega, fun b hb hn => (u.2 b (by rintro rfl; omega)).trans (h.2.1 b hb hn), h.2.2⟩
theorem StepO.grown {O O' : Nat → Prop} {A B C : Heap} {v : Value} (h : StepO O O' A B) (hv : v = .slice none 0 0 ∨ O (vblock v)) (g : Grown v B C) : StepO O O' A C :=
  ⟨Nat.le_trans h.1 g.1, fun b hb hn => (g.2 b (by have := h.1; omega) (hv.imp id (fun e => by rintro rfl; exact hn e))).trans (h.2.1 b hb hn), h.2.2⟩
theorem StepO.grownN {O O' : Nat → Prop} {A B C : Heap} {v : Value} (h : StepO O O' A B) (g : Grown v B C) (hv : v = .slice none 0 0 ∨ A.size ≤ vblock v) : StepO O O' A C :=
  ⟨Nat.le_trans h.1 g.1, fun b hb hn => (g.2 b (by have := h.1; omega) (hv.imp id (fun e => by rintro rfl; omega))).trans (h.2.1 b hb hn), h.2.2⟩
theorem StepO.to {O O' O2 : Nat → Prop} {A B : Heap} (h : StepO O O' A B) (hs : ∀ b, O2 b → O b ∨ A.size ≤ b) : StepO O O2 A B := ⟨h.1, h.2.1, hs⟩
theorem StepO.wide {O O1 O' : Nat → Prop} {A B : Heap} (h : StepO O O' A B) (hs : ∀ b, O b → O1 b) : StepO O1 O' A B := ⟨h.1, fun b hb hn => h.2.1 b hb (fun h => hn (hs b h)), fun b hb => (h.2.2 b hb).imp (hs b) id⟩
theorem StepO.then {O O1 O2 : Nat → Prop} {A B C : Heap} (h : StepO O O1 A B) (h2 : StepO O1 O2 B C) : StepO O O2 A C :=
  ⟨Nat.le_trans h.1 h2.1, fun b hb hn => (h2.2.1 b (by have := h.1; omega) (fun h1 => (h.2.2 b h1).elim hn (fun h => by omega))).trans (h.2.1 b hb hn), fun b hb => (h2.2.2 b hb).elim (h.2.2 b) (fun h3 => .inr (by have := h.1; omega))⟩
theorem StepO.oldB {O O' : Nat → Prop} {A B : Heap} {B0 : Nat} (h : StepO O O' A B) (hB : B0 ≤ A.size) (hO : ∀ b, O b → B0 ≤ b) : OldB B0 A B := ⟨h.1, fun b hb => h.2.1 b (by omega) (fun ho => by have := hO b ho; omega)⟩
theorem StepO.blk {O O' : Nat → Prop} {A B : Heap} {g : Nat} {r : Obj} (h : StepO O O' A B) (hn : ¬ O g) (hb : A[g]? = some r) : B[g]? = some r := (h.2.1 g (blk_lt hb) hn).trans hb
theorem FP.step {α : Type} {E : El α} {H H' H0 H0' : Heap} {M M' : Nat → Prop} {cs : List Value} {x : α} (h : FP E H M H0 cs x) (s : StepO M M' H H') : FP E H' M' H0' cs x :=
  fun H2 k => h H2 ⟨Nat.le_trans s.1 k.1, fun b hb hn => (k.2 b (by have := s.1; omega) (fun hm => (s.2.2 b hm).elim hn (fun h => by omega))).trans (s.2.1 b hb hn)⟩
section
variable {α : Type} {n : Nat} {E : El α} {e : TypeId} {H0 H H' : Heap} {B : Nat} {v : Value} {l : List α}
theorem Own.stp {O O' : Nat → Prop} (h : Own n E e H0 B H v l) (s : StepO O O' H H') (hn : ∀ b, Of v b → ¬ O b) : Own n E e H0 B H' v l := by
  by_cases hv : v = .slice none 0 0
  · exact h.keepN (.inl hv)
  · have hlt := (h.lt.resolve_left hv).2
    exact h.keepN (.inr (s.2.1 _ hlt (hn _ ⟨hv, rfl⟩)))
theorem Own.fp {M M' : Nat → Prop} {F : El α} (h : Own n (FP F H M) e H0 B H' v l) (s : StepO M M' H H') : Own n (FP F H' M') e H0 B H' v l := h.mapE fun _ _ hx => hx.step s
theorem Own.ofLt (h : Own n E e H0 B H v l) {b : Nat} (hb : Of v b) : B ≤ b ∧ b < H.size := by
  obtain ⟨h1, rfl⟩ := hb
  exact h.lt.resolve_left h1
theorem Own.fpAt [Inhabited α] {M : Nat → Prop} {F : El α} {H1 : Heap} (h : Own n (FP F H1 M) e #[] B H v l) (hn : 0 < n) (j : Nat) (hj : j < l.length) : ∃ cs, cs.length = n ∧ CellsH H ((vbase v).add (j * n)) cs ∧ FP F H1 M H1 cs (l.getD j default) := by
  have hs := h.sl (emptyOld H) hn
  obtain ⟨cs, h1, h2, h3⟩ := hs.at j hj
  exact ⟨cs, h1, h2, fun H2 k => h3 H2 k⟩
end
/-- v[:hi] -/
theorem Sl.to {α : Type} {n : Nat} {E : El α} {H : Heap} {v : Value} {l : List α} {j : Nat} (h : Sl n E H v l) (hj : j ≤ l.length) : Sl n E H (toV v j) (l.take j) := by
  have h2 := h.sub (lo := 0) (hi := j) (Nat.zero_le _) hj
  rw [List.drop_zero] at h2
  obtain ⟨a, cap, rfl, _⟩ := h
  have e : subV n (.slice a l.length cap) 0 j = toV (.slice a l.length cap) j := by
    simp only [subV, toV, Nat.sub_zero, Nat.zero_mul]
    split
    · rfl
    · cases a <;> simp [Addr.add]
  rwa [e] at h2
theorem toV_full {α : Type} {n : Nat} {E : El α} {H : Heap} {v : Value} {l : List α} (h : Sl n E H v l) : toV v l.length = v := by
  obtain ⟨a, cap, rfl, _⟩ := h; rfl
theorem toV_toV (v : Value) (i j : Nat) : toV (toV v i) j = toV v j := by
  cases v <;> rfl
section
variable {P : Program} {E : Env} {H : Heap} {o : Oper} {v : Value} {e : TypeId} {B : Nat} {α : Type} {F : El α} {l : List α} {n : Nat} {H0 : Heap}
theorem R.sliceToS {T t : TypeId} {x y : Operand} {k : IntKind} {z : Int} {j : Nat} (ho : o.op = .slice T x none (some y) none) (ht : P.underlying T = some (.slice t)) (hz : (P.info? t).map (·.size) = some n)
    (hx : ev E x = some v) (hy : ev E y = some (.int k z)) {Hx : Heap} (hs : Sl n F Hx v l) (hj : z = (j : Int)) (hlt : j ≤ l.length) : Run P E H o (toV v j) := by
  have h1 := R.slice (H := H) (lo := none) (hi := some y) ho ht hz hx hs bnd.no (bnd.mk hy hj) (Nat.zero_le _) hlt
  obtain ⟨a, cap, rfl, _⟩ := hs
  have e : subV n (.slice a l.length cap) 0 j = toV (.slice a l.length cap) j := by
    simp only [subV, toV, Nat.sub_zero, Nat.zero_mul]
    split
    · rfl
    · cases a <;> simp [Addr.add]
  rwa [e] at h1
theorem R.indexON {T t : TypeId} {x i : Operand} {k : IntKind} {j : Nat} {z : Int} (ho : o.op = .indexAddr T x i) (ht : P.underlying T = some (.slice t)) (hz : (P.info? t).map (·.size) = some n)
    (hx : ev E x = some v) (hi : ev E i = some (.int k z)) {Hx : Heap} (hs : Own n F e H0 B Hx v l) (hj : z = (j : Int)) (hlt : j < l.length) : Run P E H o (.pointer (some ((vbase v).add (j * n)))) := by
  obtain ⟨g, cap, rfl, hb, _⟩ := hs.addr (by omega)
  rw [hb]
  exact run_index (H := H) ho ht hz hx hi hj hlt
/-- one cell of an element stored -/
theorem S.ownC [Inhabited α] {T : TypeId} {x y : Operand} {u : Value} {j c : Nat} {a : α} (ho : o.op = .store T x y) (hs : (P.info? T).map (·.size) = some 1) (hx : ev E x = some (.pointer (some (((vbase v).add (j * n)).add c)))) (hy : ev E y = some u) (hv : u.cells = #[u]) (h1 : u.oneCell' = true)
    (hown : Own n F e H0 B H v l) (hj : j < l.length) (hc : c < n) (hF : ∀ cs, cs.length = n → F H0 cs (l.getD j default) → F H0 (cs.set c u) a) : RunS P E H o (fun H' => Upd (vblock v) H H' ∧ Own n F e H0 B H' v (l.set j a)) := by
  obtain ⟨flat, ⟨h0, hcase⟩, hel⟩ := hown
  rcases hcase with ⟨rfl, h3⟩ | ⟨g, cap, cur, rfl, hB, hg, h4, h5, h6, h7⟩
  · omega
  · have ep : (((vbase (.slice (some ⟨g, 0, none⟩) l.length cap)).add (j * n)).add c) = ⟨g, j * n + c, none⟩ := by
      rw [add_add _ rfl]
      simp only [vbase]; unfold Addr.add; split <;> simp_all
    rw [ep] at hx
    have hjn : j * n + n ≤ l.length * n := by
      have : (j + 1) * n ≤ l.length * n := Nat.mul_le_mul_right n hj
      rw [Nat.add_mul, Nat.one_mul] at this; exact this
    have hcn : l.length * n ≤ cap * n := Nat.mul_le_mul_right n h4
    have hst := S.store (P := P) (E := E) (H := H) (cs := cur.toList) ho hs hx hy hv h1 (by simpa using hg) (by simp; omega)
    intro ρ w ha hw
    obtain ⟨w', hr, hst', hu, hb⟩ := hst ρ w ha hw
    refine ⟨w', hr, hst', hu, flat.set (j * n + c) u, ⟨by simp [h0], .inr ⟨g, cap, (cur.toList.set (j * n + c) u).toArray, by simp, hB, hb, by simp; omega, h5, by simp [h6], ?_⟩⟩, ?_⟩
    · simp only [List.length_set]
      rw [← h7]
      simp [List.take_set]
    · intro i b hi
      rw [nth_eq, List.getElem?_set] at hi
      by_cases hij : i = j
      · subst hij
        simp [hj] at hi; subst hi
        have e1 : ((flat.set (i * n + c) u).drop (i * n)).take n = ((flat.drop (i * n)).take n).set c u := by
          rw [List.drop_set, if_neg (by omega), List.take_set]
          congr 1; omega
        rw [e1]
        refine hF _ (by rw [List.length_take, List.length_drop]; omega) (hel i _ (nth_getD hj))
      · rw [if_neg (fun h => hij h.symm)] at hi
        have e1 : ((flat.set (j * n + c) u).drop (i * n)).take n = (flat.drop (i * n)).take n := by
          apply List.ext_getElem?
          intro k
          rw [List.getElem?_take, List.getElem?_take]
          split
          · rw [List.getElem?_drop, List.getElem?_drop, List.getElem?_set_ne]
            intro e2
            rcases Nat.lt_or_gt_of_ne hij with h | h
            · have : (i + 1) * n ≤ j * n := Nat.mul_le_mul_right n h
              rw [Nat.add_mul, Nat.one_mul] at this; omega
            · have : (j + 1) * n ≤ i * n := Nat.mul_le_mul_right n h
              rw [Nat.add_mul, Nat.one_mul] at this; omega
          · rfl
        rw [e1]
        exact hel i b (by rw [nth_eq]; exact hi)
end

/-! ### the document's stack -/
structure DF where
  label : List Int
  ends : List Int
  own : List Int
  dead : Bool
instance : Inhabited DF := ⟨⟨[], [], [], false⟩⟩
structure TF where
  label : List Int
  ends : List Int
  h : Nat
  dead : Bool
instance : Inhabited TF := ⟨⟨[], [], 0, false⟩⟩
structure DS where
  fr : List DF
  loose : List Int
  most : Nat
def flat (l : List DF) : List Int := (l.map DF.own).flatten
def DS.all (s : DS) : List Int := s.loose ++ flat s.fr
def DS.base (s : DS) : List Int := s.loose ++ flat (s.fr.take (s.fr.length - 1))
def DS.top (s : DS) : DF := s.fr.getD (s.fr.length - 1) default
def DS.put (s : DS) (f : DF) : DS := { s with fr := s.fr.set (s.fr.length - 1) f }
/-- the frames as the code keeps them -/
def frs : Nat → List DF → List TF
  | _, [] => []
  | h, f :: l => ⟨f.label, f.ends, h, f.dead⟩ :: frs (h + f.own.length) l
theorem flat_app (a b : List DF) : flat (a ++ b) = flat a ++ flat b := by simp [flat]
theorem frs_app : ∀ (a b : List DF) (h : Nat), frs h (a ++ b) = frs h a ++ frs (h + (flat a).length) b
  | [], b, h => by simp [frs, flat]
  | f :: a, b, h => by
    simp only [List.cons_append, frs, frs_app a b]
    congr 3
    simp [flat]; omega
theorem frs_len : ∀ (a : List DF) (h : Nat), (frs h a).length = a.length
  | [], h => rfl
  | f :: a, h => by simp [frs, frs_len a]
theorem ini {l : List DF} (h : l ≠ []) : l = l.take (l.length - 1) ++ [l.getD (l.length - 1) default] := by
  have hl : 0 < l.length := List.length_pos_iff.2 h
  conv => lhs; rw [← List.take_append_drop (l.length - 1) l, List.drop_eq_getElem_cons (by omega)]
  rw [List.getD_eq_getElem?_getD, List.getElem?_eq_getElem (by omega)]
  rw [show l.length - 1 + 1 = l.length by omega, List.drop_length]; rfl
theorem DS.fr_eq {s : DS} (h : s.fr ≠ []) : s.fr = s.fr.take (s.fr.length - 1) ++ [s.top] := ini h
theorem DS.all_eq {s : DS} (h : s.fr ≠ []) : s.all = s.base ++ s.top.own := by
  unfold DS.all DS.base
  conv => lhs; rw [s.fr_eq h, flat_app]
  simp [flat]
theorem DS.all_nil {s : DS} (h : s.fr = []) : s.all = s.loose := by unfold DS.all; rw [h]; simp [flat]
theorem DS.put_fr {s : DS} (h : s.fr ≠ []) (f : DF) : (s.put f).fr = s.fr.take (s.fr.length - 1) ++ [f] := by
  have hl : 0 < s.fr.length := List.length_pos_iff.2 h
  unfold DS.put
  apply List.ext_getElem?
  intro k
  rw [List.getElem?_set, List.getElem?_append, List.length_take, List.getElem?_take]
  by_cases h1 : s.fr.length - 1 = k
  · rw [if_pos h1, if_pos (by omega), if_neg (by omega)]
    rw [show k - min (s.fr.length - 1) s.fr.length = 0 by omega]; rfl
  · rw [if_neg h1]
    by_cases h2 : k < s.fr.length - 1
    · rw [if_pos (by omega), if_pos h2]
    · rw [if_neg (by omega), List.getElem?_eq_none (by omega), List.getElem?_eq_none (by simp; omega)]
theorem DS.all_put {s : DS} (h : s.fr ≠ []) (f : DF) : (s.put f).all = s.base ++ f.own := by
  unfold DS.all
  rw [DS.put_fr h, flat_app]
  unfold DS.base
  simp [flat, DS.put]
theorem DS.frs_eq {s : DS} (h : s.fr ≠ []) : frs s.loose.length s.fr = frs s.loose.length (s.fr.take (s.fr.length - 1)) ++ [⟨s.top.label, s.top.ends, s.base.length, s.top.dead⟩] := by
  conv => lhs; rw [s.fr_eq h, frs_app]
  unfold DS.base
  simp [frs]
theorem DS.frs_top {s : DS} (h : s.fr ≠ []) : (frs s.loose.length s.fr).getD (s.fr.length - 1) default = ⟨s.top.label, s.top.ends, s.base.length, s.top.dead⟩ := by
  rw [s.frs_eq h, List.getD_eq_getElem?_getD, List.getElem?_append_right (by rw [frs_len, List.length_take]; omega), frs_len, List.length_take]
  rw [show s.fr.length - 1 - min (s.fr.length - 1) s.fr.length = 0 by omega]; rfl
theorem set_app {α : Type} (a : List α) (x y : α) (n : Nat) (h : n = a.length) : (a ++ [x]).set n y = a ++ [y] := by
  subst h
  rw [List.set_append_right _ _ (Nat.le_refl _), Nat.sub_self]; rfl
theorem DS.frs_put {s : DS} (h : s.fr ≠ []) (f : DF) (h1 : f.label = s.top.label) (h2 : f.ends = s.top.ends) : frs s.loose.length (s.put f).fr = (frs s.loose.length s.fr).set (s.fr.length - 1) ⟨s.top.label, s.top.ends, s.base.length, f.dead⟩ := by
  have hl : 0 < s.fr.length := List.length_pos_iff.2 h
  rw [s.frs_eq h]
  have e : s.fr.length - 1 = (frs s.loose.length (s.fr.take (s.fr.length - 1))).length := by rw [frs_len, List.length_take]; omega
  rw [set_app _ _ _ _ e, DS.put_fr h, frs_app]
  unfold DS.base
  simp [frs, h1, h2]
theorem DS.frs_same {s : DS} (h : s.fr ≠ []) (f : DF) (h1 : f.label = s.top.label) (h2 : f.ends = s.top.ends) (h3 : f.dead = s.top.dead) : frs s.loose.length (s.put f).fr = frs s.loose.length s.fr := by
  have hl : 0 < s.fr.length := List.length_pos_iff.2 h
  rw [DS.frs_put h f h1 h2, h3, s.frs_eq h]
  have e : s.fr.length - 1 = (frs s.loose.length (s.fr.take (s.fr.length - 1))).length := by rw [frs_len, List.length_take]; omega
  exact set_app _ _ _ _ e
theorem DS.frs_less {s : DS} (h : s.fr ≠ []) : frs s.loose.length (s.fr.take (s.fr.length - 1)) = (frs s.loose.length s.fr).take (s.fr.length - 1) := by
  have hl : 0 < s.fr.length := List.length_pos_iff.2 h
  conv => rhs; rw [s.frs_eq h]
  have e : (frs s.loose.length (s.fr.take (s.fr.length - 1))).length = s.fr.length - 1 := by rw [frs_len, List.length_take]; omega
  exact (List.take_left' e).symm
theorem frs_label : ∀ (a : List DF) (h k : Nat), ((frs h a).getD k default).label = (a.getD k default).label
  | [], h, k => by simp [frs]; rfl
  | f :: a, h, 0 => rfl
  | f :: a, h, k + 1 => by
    have := frs_label a (h + f.own.length) k
    simpa [frs] using this

/-- how many of own are left, if some are taken by types from the last one on -/
def fitN (d : Bool) (own : List Int) : Nat → List Int → Option Nat
  | m, [] => some m
  | 0, t :: ts => if d then fitN d own 0 ts else none
  | m + 1, t :: ts => if own.getD m default = t ∨ own.getD m default = 0 ∨ t = 0 then fitN d own m ts else none
theorem fitN_le {d : Bool} {own : List Int} : ∀ {ts : List Int} {m k : Nat}, fitN d own m ts = some k → k ≤ m
  | [], m, k, h => by simp [fitN] at h; omega
  | t :: ts, 0, k, h => by
    simp only [fitN] at h
    split at h
    · exact fitN_le h
    · cases h
  | t :: ts, m + 1, k, h => by
    simp only [fitN] at h
    split at h
    · have := fitN_le h; omega
    · cases h
/-- the innermost frame's operands, but the first m, are taken -/
def DS.cut (s : DS) (m : Nat) : DS := s.put { s.top with own := s.top.own.take m }
def DS.add (s : DS) (l : List Int) : DS := if s.fr = [] then { s with loose := s.loose ++ l } else s.put { s.top with own := s.top.own ++ l }
def DS.push (s : DS) (l : List Int) : DS := { s.add l with most := max s.most (s.all.length + l.length) }
def DS.pop (s : DS) : Int × Bool × DS := if s.fr = [] then (0, false, s) else if s.top.own = [] then (0, s.top.dead, s) else (s.top.own.getD (s.top.own.length - 1) default, true, s.cut (s.top.own.length - 1))
def DS.left (s : DS) (l : List Int) : Option Nat := if s.fr = [] then none else fitN s.top.dead s.top.own s.top.own.length l.reverse
def DS.want (s : DS) (l : List Int) : Bool × DS := match s.left l with
  | none => (false, s)
  | some m => (true, s.cut m)
def DS.open (s : DS) (a b : List Int) : DS := { s with fr := s.fr ++ [⟨a, b, [], false⟩] }
def DS.less (s : DS) : DS := { s with fr := s.fr.take (s.fr.length - 1) }
def DS.close (s : DS) : List Int × Bool × DS := if s.left s.top.ends = some 0 then (s.top.ends, true, s.less) else ([], false, s)
def DS.kill (s : DS) : DS := s.put { s.top with own := [], dead := true }
def DS.lab (s : DS) (n : Nat) : List Int × Bool := if n < s.fr.length then ((s.fr.getD (s.fr.length - 1 - n) default).label, true) else ([], false)

/-! ### in memory -/
def MS (g : Nat) (v1 v2 : Value) (b : Nat) : Prop := b = g ∨ Of v1 b ∨ Of v2 b
def EFr : El TF := fun H cs x => ∃ lv ev, cs = [lv, ev, .int .i64 x.h, .bool x.dead] ∧ Sl 1 (EInt .u8) H lv x.label ∧ Sl 1 (EInt .u8) H ev x.ends ∧ x.label.length ≤ 1000000 ∧ x.ends.length ≤ 1000000
def EDF : El DF := fun H cs x => ∃ lv ev ov, cs = [lv, ev, ov, .bool x.dead] ∧ Sl 1 (EInt .u8) H lv x.label ∧ Sl 1 (EInt .u8) H ev x.ends ∧ Sl 1 (EInt .u8) H ov x.own ∧ x.label.length ≤ 1000000 ∧ x.ends.length ≤ 1000000
instance oneFr : One EFr := ⟨fun h u hu => by
  obtain ⟨lv, ev, rfl, h1, h2, _⟩ := h
  simp only [List.mem_cons, List.not_mem_nil, or_false] at hu
  rcases hu with rfl | rfl | rfl | rfl
  · exact h1.one
  · exact h2.one
  · rfl
  · rfl⟩
instance oneDF : One EDF := ⟨fun h u hu => by
  obtain ⟨lv, ev, ov, rfl, h1, h2, h3, _⟩ := h
  simp only [List.mem_cons, List.not_mem_nil, or_false] at hu
  rcases hu with rfl | rfl | rfl | rfl
  · exact h1.one
  · exact h2.one
  · exact h3.one
  · rfl⟩
def MX (M X : Nat → Prop) (b : Nat) : Prop := M b ∨ X b
/-- X: blocks of others that may change -/
structure TS (B : Nat) (X : Nat → Prop) (H : Heap) (g : Nat) (vl vf : Value) (s : DS) : Prop where
  bg : H[g]? = some (.cells [vl, vf, .int .i64 s.most].toArray 52 (0, 0))
  hB : B ≤ g
  wl : Own 1 (EInt .u8) 5 #[] B H vl s.all
  wf : Own 4 (FP EFr H (MX (MS g vl vf) X)) 58 #[] B H vf (frs s.loose.length s.fr)
  ngl : ∀ b, Of vl b → b ≠ g
  ngf : ∀ b, Of vf b → b ≠ g
  nlf : ∀ b, Of vl b → ¬ Of vf b
  hX : ∀ b, X b → b < H.size ∧ ¬ MS g vl vf b
  hm : s.most ≤ 1000000
  ha : s.all.length ≤ 1000000
  hf : s.fr.length ≤ 1000000
structure RS (B : Nat) (X : Nat → Prop) (H : Heap) (g : Nat) (vL : Value) (s : DS) : Prop where
  bg : H[g]? = some (.cells [vL, .int .i64 s.loose.length, .int .i64 s.most].toArray 46 (0, 0))
  hB : B ≤ g
  wL : Own 4 (FP EDF H (MX (MS g vL (.slice none 0 0)) X)) 54 #[] B H vL s.fr
  ng : ∀ b, Of vL b → b ≠ g
  hX : ∀ b, X b → b < H.size ∧ ¬ MS g vL (.slice none 0 0) b
  hm : s.most ≤ 1000000
  ha : s.all.length ≤ 1000000
  hf : s.fr.length ≤ 1000000
section
variable {B : Nat} {X X' : Nat → Prop} {H H' : Heap} {g : Nat} {vl vf vL : Value} {s : DS}
theorem TS.low (h : TS B X H g vl vf s) : ∀ b, MS g vl vf b → B ≤ b ∧ b < H.size := by
  intro b hb
  rcases hb with rfl | hb | hb
  · exact ⟨h.hB, blk_lt h.bg⟩
  · exact h.wl.ofLt hb
  · exact h.wf.ofLt hb
theorem RS.low (h : RS B X H g vL s) : ∀ b, MS g vL (.slice none 0 0) b → B ≤ b ∧ b < H.size := by
  intro b hb
  rcases hb with rfl | hb | hb
  · exact ⟨h.hB, blk_lt h.bg⟩
  · exact h.wL.ofLt hb
  · exact absurd hb (Of.nil b)
theorem StepO.mx {M : Nat → Prop} (st : StepO X X' H H') : StepO (MX M X) (MX M X') H H' :=
  ⟨st.1, fun b hb hn => st.2.1 b hb (fun h => hn (.inr h)), fun b hb => hb.elim (fun h => .inl (.inl h)) (fun h => (st.2.2 b h).imp .inr id)⟩
theorem StepO.mx1 {M M' : Nat → Prop} (st : StepO M M' H H') : StepO (MX M X) (MX M' X) H H' :=
  ⟨st.1, fun b hb hn => st.2.1 b hb (fun h => hn (.inl h)), fun b hb => hb.elim (fun h => (st.2.2 b h).imp .inl id) (fun h => .inl (.inr h))⟩
/-- the others' blocks may change -/
theorem TS.other (h : TS B X H g vl vf s) (st : StepO X X' H H') (hx : ∀ b, X' b → b < H'.size) : TS B X' H' g vl vf s :=
  have hd : ∀ b, MS g vl vf b → ¬ X b := fun b hb hx => (h.hX b hx).2 hb
  ⟨st.blk (hd _ (.inl rfl)) h.bg, h.hB, h.wl.stp st (fun b hb => hd b (.inr (.inl hb))), (h.wf.stp st (fun b hb => hd b (.inr (.inr hb)))).fp st.mx, h.ngl, h.ngf, h.nlf,
   fun b hb => ⟨hx b hb, fun hm => (st.2.2 b hb).elim (fun h1 => hd b hm h1) (fun h1 => by have := (h.low b hm).2; omega)⟩, h.hm, h.ha, h.hf⟩
theorem RS.other (h : RS B X H g vL s) (st : StepO X X' H H') (hx : ∀ b, X' b → b < H'.size) : RS B X' H' g vL s :=
  have hd : ∀ b, MS g vL (.slice none 0 0) b → ¬ X b := fun b hb hx => (h.hX b hx).2 hb
  ⟨st.blk (hd _ (.inl rfl)) h.bg, h.hB, (h.wL.stp st (fun b hb => hd b (.inr (.inl hb)))).fp st.mx, h.ng,
   fun b hb => ⟨hx b hb, fun hm => (st.2.2 b hb).elim (fun h1 => hd b hm h1) (fun h1 => by have := (h.low b hm).2; omega)⟩, h.hm, h.ha, h.hf⟩
theorem StepO.ofOld {O : Nat → Prop} (o : Old H H') : StepO O O H H' := ⟨o.1, fun b hb _ => o.2 b hb, fun _ h => .inl h⟩
theorem TS.old (h : TS B X H g vl vf s) (o : Old H H') : TS B X H' g vl vf s := h.other (.ofOld o) fun b hb => by have := (h.hX b hb).1; have := o.1; omega
theorem RS.old (h : RS B X H g vL s) (o : Old H H') : RS B X H' g vL s := h.other (.ofOld o) fun b hb => by have := (h.hX b hb).1; have := o.1; omega
end
theorem Of.not {B : Nat} {v : Value} {b : Nat} {α : Type} {n : Nat} {E : El α} {e : TypeId} {H0 H : Heap} {l : List α} (h : Own n E e H0 B H v l) (hb : H.size ≤ b) : ¬ Of v b := fun ho => by have := (h.ofLt ho).2; omega
theorem fp_own {k : IntKind} {M : Nat → Prop} {H : Heap} {e : TypeId} {B : Nat} {bs : List Int} {c : Value} {H0 : Heap} (h : Own 1 (EInt k) e H0 B H c bs) (hn : ∀ b, Of c b → ¬ M b) : ∀ H2, KeepP M H H2 → Sl 1 (EInt k) H2 c bs := by
  intro H2 kx
  have h2 : Own 1 (EInt k) e #[] B H c bs := h.mapE fun cs x hx => hx
  refine (h2.keepN ?_ : Own 1 (EInt k) e #[] B H2 c bs).sl (emptyOld _) (by omega)
  by_cases hv : c = .slice none 0 0
  · exact .inl hv
  · exact .inr (kx.2 _ (h.lt.resolve_left hv).2 (hn _ ⟨hv, rfl⟩))

end Go.Proofs.Ytglopfbdnpbgeaa
