/- A hasher in memory; bytes that are handed in and stay. No condition. -/
import Derived.Test.YtgpbdimccbimnaaSumB
namespace Go.Proofs.Ytgpbdimccbimnaa
open Go Go.RowKit
set_option linter.unusedVariables false
set_option linter.unusedSimpArgs false
theorem Own.fr {α : Type} {n : Nat} {E : El α} {e : TypeId} {H0 H H' : Heap} {B g : Nat} {v v2 : Value} {l : List α} (h : Own n E e H0 B H v l) (f : Fr g v2 H H') (h3 : v = .slice none 0 0 ∨ (vblock v ≠ g ∧ (v2 = .slice none 0 0 ∨ vblock v ≠ vblock v2))) : Own n E e H0 B H' v l := by
  have nilcase : v = .slice none 0 0 → Own n E e H0 B H' v l := by
    rintro rfl
    obtain ⟨flat, ⟨h0, hc⟩, hel⟩ := h
    rcases hc with hc | ⟨_, _, _, hv, _⟩
    · exact ⟨flat, ⟨h0, .inl hc⟩, hel⟩
    · cases hv
  rcases h3 with h3 | ⟨h3, h4⟩
  · exact nilcase h3
  · rcases h.lt with hv | hv
    · exact nilcase hv
    · exact h.keep (f.2 _ hv.2 h3 h4)
theorem Own.frN {α : Type} {n : Nat} {E : El α} {e : TypeId} {H0 H H' : Heap} {B g : Nat} {v : Value} {l : List α} (h : Own n E e H0 B H v l) (f : Fr g (.slice none 0 0) H H') (hB : g < B) : Own n E e H0 B H' v l :=
  h.fr f (h.lt.imp id fun h => ⟨by omega, .inl rfl⟩)
theorem Fr.transN {g : Nat} {v : Value} {A B C : Heap} (f : Fr g v A B) (f2 : Fr g (.slice none 0 0) B C) : Fr g v A C :=
  ⟨Nat.le_trans f.1 f2.1, fun k hk h1 h2 => (f2.2 k (by have := f.1; omega) h1 (.inl rfl)).trans (f.2 k hk h1 h2)⟩
theorem Nx.to {H : Heap} {v w : Value} (h : Nx H v w) : Nx H v (toV w 0) := by
  have hv : vblock (toV w 0) = vblock w := by
    unfold toV
    split
    · next a n c => cases a <;> rfl
    · rfl
  rcases h with rfl | ⟨h1, h2⟩ | h
  · exact .inl rfl
  · exact .inr (.inl ⟨h1, hv.trans h2⟩)
  · exact .inr (.inr (by rw [hv]; exact h))
/-- an element: bytes that stay while a hasher is written to -/
def EStab (g : Nat) (vr : Value) (H0 : Heap) : El (List Int) := fun _ cs l => ∃ v, cs = [v] ∧ ∀ H', Fr g vr H0 H' → Sl 1 (EInt .u8) H' v l
instance keepsStab (g : Nat) (vr : Value) (H0 : Heap) : Keeps (EStab g vr H0) := ⟨fun _ h => h⟩
theorem Sl.mapE {α : Type} {n : Nat} {E E' : El α} {H : Heap} {v : Value} {l : List α} (h : Sl n E H v l) (he : ∀ cs x, E H cs x → E' H cs x) : Sl n E' H v l := by
  obtain ⟨a, cap, h1, h2, h3, h4, h5, h6⟩ := h
  refine ⟨a, cap, h1, h2, h3, h4, h5, fun j x hj => ?_⟩
  obtain ⟨cs, e1, e2, e3⟩ := h6 j x hj
  exact ⟨cs, e1, e2, he _ _ e3⟩
theorem stab_old {g : Nat} {vr v : Value} {Hx H : Heap} {ls : List (List Int)} (hs : Sl 1 (ESl 1 (EInt .u8)) H v ls) (o : ∀ H', Fr g vr Hx H' → Old H H') : ∀ H', Fr g vr Hx H' → Sl 1 (EStab g vr Hx) H' v ls := fun H' f =>
  (hs.mapE (E' := EStab g vr Hx) fun cs x hx => by
    obtain ⟨u, e1, e2⟩ := hx
    exact ⟨u, e1, fun H'' f'' => e2.old (o H'' f'')⟩).old (o H' f)
theorem Sl.keepI {k : IntKind} {H H' : Heap} {v : Value} {l : List Int} (h : Sl 1 (EInt k) H v l) (hk : l = [] ∨ H'[vblock v]? = H[vblock v]?) : Sl 1 (EInt k) H' v l := by
  rcases hk with rfl | hk
  · exact h.empty H'
  · obtain ⟨a, cap, h1, h2, h3, h4, h5, h6⟩ := h
    refine ⟨a, cap, h1, h2, h3, h4, h5, fun j x hj => ?_⟩
    obtain ⟨cs, e1, e2, e3⟩ := h6 j x hj
    refine ⟨cs, e1, fun i u hu => ?_, e3⟩
    have := e2 i u hu
    have hb : (((vbase v).add (j * 1)).add i).block = vblock v := by simp [vblock, Addr.add]; split <;> split <;> rfl
    unfold cellH at this ⊢
    rw [hb] at this ⊢
    rw [hk]; exact this
/-- a literal of bytes -/
theorem stab_lit {g lit : Nat} {vr : Value} {Hx : Heap} {vs : List Value} {ls : List (List Int)} {T : TypeId} (hb : Hx[lit]? = some (.cells vs.toArray T (0, 0))) (hl : vs.length = ls.length) (hm : vs.length ≤ maxLen)
    (hv : ∀ j v l, nth vs j = some v → nth ls j = some l → Sl 1 (EInt .u8) Hx v l ∧ (l = [] ∨ (vblock v < Hx.size ∧ vblock v ≠ g ∧ (vr = .slice none 0 0 ∨ vblock v ≠ vblock vr)))) (h1 : lit ≠ g) (h2 : vr = .slice none 0 0 ∨ lit ≠ vblock vr) :
    ∀ H', Fr g vr Hx H' → Sl 1 (EStab g vr Hx) H' (.slice (some ⟨lit, 0, none⟩) vs.length vs.length) ls := by
  intro H' f
  have hb' := (f.2 lit (blk_lt hb) h1 h2).trans hb
  have : Own 1 (EStab g vr Hx) T H' 0 H' (.slice (some ⟨lit, 0, none⟩) vs.length vs.length) ls := by
    refine ⟨vs, ⟨by omega, .inr ⟨lit, vs.length, vs.toArray, by rw [hl], Nat.zero_le _, hb', by omega, hm, by simp, ?_⟩⟩, fun j l hj => ?_⟩
    · rw [← hl]; simp
    · have hlt := nth_lt hj
      have hu : nth vs j = some vs[j] := by rw [nth_eq]; exact List.getElem?_eq_getElem (by omega)
      have e1 : (vs.drop (j * 1)).take 1 = [vs[j]] := by rw [Nat.mul_one, List.drop_eq_getElem_cons (by omega)]; rfl
      rw [e1]
      obtain ⟨s1, s2⟩ := hv j _ l hu hj
      refine ⟨_, rfl, fun H'' f'' => s1.keepI (s2.imp id fun ⟨a, b, c⟩ => f''.2 _ a b c)⟩
  exact this.sl (Old.refl _) (by omega)
/-- a hasher that has taken m in; it counts n bytes -/
structure HMn (H : Heap) (g : Nat) (vr : Value) (m : List Int) (n : Int) : Prop where
  bg : H[g]? = some (.cells ((Sha.st m).map (Value.int .u32) ++ [vr, .int .u64 n]).toArray 49 (0, 0))
  wr : Own 1 (EInt .u8) 5 #[] (g + 1) H vr (Sha.rest m)
theorem HMn.old {H H' : Heap} {g : Nat} {vr : Value} {m : List Int} {n : Int} (h : HMn H g vr m n) (o : Old H H') : HMn H' g vr m n := ⟨o.blk h.bg, h.wr.old o⟩
theorem set8 {l : List Int} {a b x : Value} (h : l.length = 8) : (l.map (Value.int .u32) ++ [a, b]).set 8 x = l.map (Value.int .u32) ++ [x, b] := by
  rw [List.set_append_right _ _ (by simp [h])]
  simp [h]
theorem set9 {l : List Int} {a b x : Value} (h : l.length = 8) : (l.map (Value.int .u32) ++ [a, b]).set 9 x = l.map (Value.int .u32) ++ [a, x] := by
  rw [List.set_append_right _ _ (by simp [h])]
  simp [h]
theorem put8 {H : Heap} {g i : Nat} {T : TypeId} {l : List Int} {a b x : Value} (hb : H[g]? = some (.cells ((l.map (Value.int .u32) ++ [a, b]).set i x).toArray T (0, 0))) (h : l.length = 8) (hi : i = 8) : H[g]? = some (.cells (l.map (Value.int .u32) ++ [x, b]).toArray T (0, 0)) := by
  subst hi; rw [set8 h] at hb; exact hb
theorem put9 {H : Heap} {g i : Nat} {T : TypeId} {l : List Int} {a b x : Value} (hb : H[g]? = some (.cells ((l.map (Value.int .u32) ++ [a, b]).set i x).toArray T (0, 0))) (h : l.length = 8) (hi : i = 9) : H[g]? = some (.cells (l.map (Value.int .u32) ++ [a, x]).toArray T (0, 0)) := by
  subst hi; rw [set9 h] at hb; exact hb
theorem nth8 {l : List Int} {a b : Value} (h : l.length = 8) : nth (l.map (Value.int .u32) ++ [a, b]) 8 = some a := by
  rw [nth_eq, List.getElem?_append_right (by simp [h])]; simp [h]
theorem nth9 {l : List Int} {a b : Value} (h : l.length = 8) : nth (l.map (Value.int .u32) ++ [a, b]) 9 = some b := by
  rw [nth_eq, List.getElem?_append_right (by simp [h])]; simp [h]
theorem ten {l : List Int} {a b : Value} (h : l.length = 8) : (l.map (Value.int .u32) ++ [a, b]).length = 10 := by simp [h]
theorem one10 {l : List Int} {a b : Value} (ha : a.oneCell' = true) (hb : b.oneCell' = true) : ∀ u ∈ l.map (Value.int .u32) ++ [a, b], u.oneCell' = true := by
  intro u hu
  rcases List.mem_append.1 hu with hu | hu
  · exact ints_one u hu
  · simp only [List.mem_cons, List.not_mem_nil, or_false] at hu
    rcases hu with rfl | rfl <;> assumption
theorem Own.oldB {α : Type} {n : Nat} {E : El α} {e : TypeId} {H0 H H' : Heap} {B B' : Nat} {v : Value} {l : List α} (h : Own n E e H0 B' H v l) (ob : OldB B H H') (hv : v = .slice none 0 0 ∨ vblock v < B) : Own n E e H0 B' H' v l := by
  rcases h.lt with h1 | h1
  · subst h1
    obtain ⟨flat, ⟨h0, hc⟩, hel⟩ := h
    rcases hc with hc | ⟨_, _, _, hv, _⟩
    · exact ⟨flat, ⟨h0, .inl hc⟩, hel⟩
    · cases hv
  · rcases hv with h2 | h2
    · subst h2
      obtain ⟨flat, ⟨h0, hc⟩, hel⟩ := h
      rcases hc with hc | ⟨_, _, _, hv, _⟩
      · exact ⟨flat, ⟨h0, .inl hc⟩, hel⟩
      · cases hv
    · exact h.keep (ob.2 _ h2)
theorem Own.lits {k : IntKind} {H H' : Heap} {e : TypeId} {B : Nat} {l : List Int} {m : Nat} (hn : New H (l.map (Value.int k)) e H') (hB : B ≤ H.size) (hm : m = l.length) (hmx : m ≤ 1000000000) (h : ∀ x ∈ l, InR k x) : Own 1 (EInt k) e #[] B H' (.slice (some ⟨H.size, 0, none⟩) m m) l :=
  Own.lit (E := EInt k) (H0 := #[]) hn hB hm (by unfold maxLen; omega) (by simp) (fun j x u hj hu => by
    rw [nth_eq, List.getElem?_map] at hu
    rw [nth_eq] at hj
    rw [hj] at hu
    cases hu
    exact ⟨rfl, h x (List.mem_of_getElem? hj)⟩)
namespace Sha
theorem lenb_at (N : Int) : ∀ k : Nat, k < 8 → (lenb N).take (k + 1) = (lenb N).take k ++ [u8 (N / 2 ^ (min (8 * (7 - (k : Int))).toNat 64))] := by
  intro k hk
  match k, hk with
  | 0, _ => rfl
  | 1, _ => rfl
  | 2, _ => rfl
  | 3, _ => rfl
  | 4, _ => rfl
  | 5, _ => rfl
  | 6, _ => rfl
  | 7, _ => rfl
/-- so many words' bytes are laid -/
def laid (s : List Int) (i : Nat) : List Int := (s.take i).flatMap bs4 ++ List.replicate (32 - 4 * i) 0
theorem laid_length {s : List Int} {i : Nat} (h : s.length = 8) (hi : i ≤ 8) : (laid s i).length = 32 := by
  unfold laid
  rw [List.length_append, flat_length, List.length_take, List.length_replicate]; omega
theorem laid_set {s : List Int} {i : Nat} (h : s.length = 8) (hi : i < 8) {a b c d : Int} (he : [a, b, c, d] = bs4 (s.getD i default)) : ((((laid s i).set (4 * i) a).set (4 * i + 1) b).set (4 * i + 2) c).set (4 * i + 3) d = laid s (i + 1) := by
  have hl : ((s.take i).flatMap bs4).length = 4 * i := by rw [flat_length, List.length_take]; omega
  unfold laid
  have e1 : 32 - 4 * i = (32 - 4 * (i + 1)) + 1 + 1 + 1 + 1 := by omega
  rw [e1, List.replicate_succ, List.replicate_succ, List.replicate_succ, List.replicate_succ]
  rw [List.set_append_right _ _ (by omega), List.set_append_right _ _ (by omega), List.set_append_right _ _ (by omega), List.set_append_right _ _ (by omega), hl]
  rw [show 4 * i - 4 * i = 0 by omega, show 4 * i + 1 - 4 * i = 1 by omega, show 4 * i + 2 - 4 * i = 2 by omega, show 4 * i + 3 - 4 * i = 3 by omega]
  simp only [List.set_cons_zero, List.set_cons_succ]
  rw [List.take_succ_eq_append_getElem (by omega), List.flatMap_append, List.append_assoc]
  congr 1
  have e2 : s[i] = s.getD i default := by rw [List.getD_eq_getElem?_getD, List.getElem?_eq_getElem (by omega)]; rfl
  rw [List.flatMap_cons, List.flatMap_nil, List.append_nil, e2, ← he]
  rfl
theorem laid_all {s : List Int} (h : s.length = 8) : laid s 8 = s.flatMap bs4 := by
  unfold laid
  rw [List.take_of_length_le (by omega)]
  simp
end Sha
end Go.Proofs.Ytgpbdimccbimnaa
