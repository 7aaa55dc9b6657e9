/- The logic of walks: rows of the call's own whose elements point to blocks that the call made meanwhile. No condition but those that each law states. -/
import Derived.Test.YticnkojpfmkjeaaKArr
namespace Go.Proofs.Yticnkojpfmkjeaa
open Go Go.RowKit
set_option linter.unusedVariables false
set_option linter.unusedSimpArgs false
/-- all blocks that there were but gs are as they were -/
def KeepX (gs : List Nat) (H H2 : Heap) : Prop := H.size ≤ H2.size ∧ ∀ k, k < H.size → k ∉ gs → H2[k]? = H[k]?
theorem KeepX.refl (gs : List Nat) (H : Heap) : KeepX gs H H := ⟨Nat.le_refl _, fun _ _ _ => rfl⟩
theorem KeepX.old {gs : List Nat} {A B C : Heap} (o : Old A B) (h : KeepX gs B C) : KeepX gs A C := ⟨Nat.le_trans o.1 h.1, fun k hk hg => (h.2 k (by have := o.1; omega) hg).trans (o.2 k hk)⟩
theorem KeepX.upd {g : Nat} {gs : List Nat} {A B C : Heap} (u : Upd g A B) (hg : g ∈ gs) (h : KeepX gs B C) : KeepX gs A C :=
  ⟨by have := u.1; have := h.1; omega, fun k hk hn => (h.2 k (by have := u.1; omega) hn).trans (u.2 k (fun e => hn (e ▸ hg)))⟩
/-- what reads so while gs may change -/
def FK {α : Type} (E : El α) (H : Heap) (gs : List Nat) : El α := fun _ cs x => ∀ H2, KeepX gs H H2 → E H2 cs x
instance keepsFK {α : Type} {E : El α} {H : Heap} {gs : List Nat} : Keeps (FK E H gs) := ⟨fun _ h => h⟩
instance oneFK {α : Type} {E : El α} [k : One E] {H : Heap} {gs : List Nat} : One (FK E H gs) := ⟨fun h => k.one (h H (KeepX.refl gs H))⟩
/-- v owns a row whose elements hang on no block of gs, and not on the row itself -/
def OwnE {α : Type} (n : Nat) (E : El α) (e : TypeId) (B : Nat) (H : Heap) (v : Value) (gs : List Nat) (l : List α) : Prop := Own n (FK E H (vblock v :: gs)) e #[] B H v l
section
variable {α : Type} {n : Nat} {E F : El α} {e : TypeId} {H0 H H' : Heap} {B : Nat} {v : Value} {l : List α} {gs : List Nat}
theorem Own.mapE {H0' : Heap} (h : Own n E e H0 B H v l) (hm : ∀ cs x, E H0 cs x → F H0' cs x) : Own n F e H0' B H v l := by
  obtain ⟨flat, h1, h2⟩ := h
  exact ⟨flat, h1, fun j x hj => hm _ _ (h2 j x hj)⟩
theorem Sl.mapE (h : Sl n E H v l) (hm : ∀ cs x, E H cs x → F H cs x) : Sl n F H v l := by
  obtain ⟨a, cap, hv, h1, h2, h3, h4, h5⟩ := h
  refine ⟨a, cap, hv, h1, h2, h3, h4, fun j x hj => ?_⟩
  obtain ⟨cs, hl, hc, hx⟩ := h5 j x hj
  exact ⟨cs, hl, hc, hm _ _ hx⟩
theorem OwnE.nil (n : Nat) (E : El α) (e : TypeId) (B : Nat) (H : Heap) (gs : List Nat) : OwnE n E e B H (.slice none 0 0) gs ([] : List α) := Own.nil _ _ _ _ _ _
theorem OwnE.own (h : OwnE n E e B H v gs l) : Own n (FK E H (vblock v :: gs)) e #[] B H v l := h
theorem OwnE.lt (h : OwnE n E e B H v gs l) : v = .slice none 0 0 ∨ (B ≤ vblock v ∧ vblock v < H.size) := Own.lt h
theorem OwnE.old (h : OwnE n E e B H v gs l) (o : Old H H') : OwnE n E e B H' v gs l := (Own.old h o).mapE fun cs x hf H2 k => hf H2 (k.old o)
theorem OwnE.upd {g : Nat} (h : OwnE n E e B H v gs l) (u : Upd g H H') (hg : g ∈ gs) (hne : v = .slice none 0 0 ∨ vblock v ≠ g) : OwnE n E e B H' v gs l :=
  (Own.upd h u hne).mapE fun cs x hf H2 k => hf H2 (k.upd u (List.mem_cons_of_mem _ hg))
theorem OwnE.sl (h : OwnE n E e B H v gs l) (hn : 0 < n) : Sl n E H v l := (Own.sl h (emptyOld H) hn).mapE fun cs x hf => hf H (KeepX.refl _ H)
theorem Grown.oldBE (hg : Grown v H H') (hown : OwnE n E e B H v gs l) (hB : B ≤ H.size) : OldB B H H' := Grown.oldB hg (OwnE.own hown) hB
theorem Own.keepN (h : Own n E e H0 B H v l) (hk : v = .slice none 0 0 ∨ H'[vblock v]? = H[vblock v]?) : Own n E e H0 B H' v l := by
  rcases hk with hk | hk
  · subst hk
    obtain ⟨flat, ⟨h0, h1⟩, h2⟩ := h
    rcases h1 with h1 | ⟨g, cap, cur, hv, r⟩
    · exact ⟨flat, ⟨h0, .inl h1⟩, h2⟩
    · cases hv
  · exact h.keep hk
/-- a row made lately hangs on no older block -/
theorem fk_own {k : IntKind} {bs : List Int} {c : Value} (h : Own 1 (EInt k) e H0 B H c bs) (hg : ∀ g ∈ gs, g < B) : ∀ H2, KeepX gs H H2 → Sl 1 (EInt k) H2 c bs := by
  intro H2 kx
  have h2 : Own 1 (EInt k) e #[] B H c bs := h.mapE fun cs x hx => hx
  refine (h2.keepN ?_ : Own 1 (EInt k) e #[] B H2 c bs).sl (emptyOld _) (by omega)
  rcases h.lt with hl | hl
  · exact .inl hl
  · exact .inr (kx.2 _ hl.2 (fun hm => by have := hg _ hm; omega))
/-- what is old hangs on no newer block -/
theorem fk_old [k : Keeps E] {cs : List Value} {x : α} (h : E H0 cs x) (o : Old H0 H) (hg : ∀ g ∈ gs, H0.size ≤ g) : FK E H gs H cs x :=
  fun H2 kx => k.keep ⟨Nat.le_trans o.1 kx.1, fun j hj => (kx.2 j (by have := o.1; omega) (fun hm => by have := hg _ hm; omega)).trans (o.2 j hj)⟩ h
end
section
variable {P : Program} {En : Env} {H : Heap} {o : Oper} {v : Value} {e : TypeId} {B : Nat} {α : Type} {F : El α} {l : List α} {n : Nat} {gs : List Nat}
theorem M.appendE [Inhabited α] [k1 : One F] {T : TypeId} {s x : Operand} {u : Value} {m : List α} {z : Value} {by' : Nat} (ho : o.op = .call { callee := .builtin .append, args := #[s, x], argTypes := #[T, T] }) (ht : P.underlying T = some (.slice e)) (hi : (P.info? e).map (fun i => (i.zero, i.size, i.bytes)) = some (some z, n, by')) (hz : z.cells.size = n) (hn : 0 < n)
    (hs : ev En s = some v) (hx : ev En x = some u) (hown : OwnE n F e B H v gs l) (hm : Sl n (FK F H (vblock v :: gs)) H u m) (hB : B ≤ H.size) (hsz : (l.length + m.length) * by' ≤ 140737488355328) (hlen : l.length + m.length ≤ maxLen) :
    RunM P En H o (fun v' H' => OwnE n F e B H' v' gs (l ++ m) ∧ Grown v H H' ∧ Nx H v v') := by
  intro ρ w ha hw
  obtain ⟨v', w', h1, h2, h3, h4, h5⟩ := M.appendN (k1 := oneFK) ho ht hi hz hn hs hx (OwnE.own hown) hm (fun _ _ h _ => h) hB hsz hlen ρ w ha hw
  by_cases hn' : v' = .slice none 0 0
  · subst hn'
    have hz0 : l ++ m = [] := by
      obtain ⟨flat, ⟨_, hr⟩, _⟩ := h3
      rcases hr with ⟨_, hr⟩ | ⟨g, cap, cur, hv, _⟩
      · exact List.eq_nil_of_length_eq_zero hr
      · cases hv
    rw [hz0] at h3 ⊢
    exact ⟨_, w', h1, h2, OwnE.nil _ _ _ _ _ _, h4, h5⟩
  refine ⟨v', w', h1, h2, h3.mapE fun cs x hf H2 k => hf H2 ?_, h4, h5⟩
  refine ⟨Nat.le_trans h4.1 k.1, fun j hj hg => ?_⟩
  have hj2 : j ≠ vblock v := fun e => hg (e ▸ List.mem_cons_self ..)
  rw [k.2 j (by have := h4.1; omega) ?_, h4.2 j hj (.inr hj2)]
  intro hm2
  rcases List.mem_cons.1 hm2 with e | e
  · rcases h5 with n1 | ⟨_, n2⟩ | n3
    · exact hn' n1
    · exact hj2 (e.trans n2)
    · omega
  · exact hg (List.mem_cons_of_mem _ e)
end
theorem Own.litI {k : IntKind} {H H' : Heap} {e : TypeId} {B : Nat} {l : List Int} {m : Nat} (hn : New H (l.map (Value.int k)) e H') (hB : B ≤ H.size) (hm : m = l.length) (hmx : m ≤ 1000000000) (h : ∀ x ∈ l, InR k x) : Own 1 (EInt k) e #[] B H' (.slice (some ⟨H.size, 0, none⟩) m m) l :=
  Own.lit (E := EInt k) (H0 := #[]) hn hB hm (by unfold maxLen; omega) (by simp) (fun j x u hj hu => by
    rw [nth_eq, List.getElem?_map] at hu
    rw [nth_eq] at hj
    rw [hj] at hu
    cases hu
    exact ⟨rfl, h x (List.mem_of_getElem? hj)⟩)
theorem OwnE.blt {α : Type} {n : Nat} {E : El α} {e : TypeId} {H : Heap} {B : Nat} {v : Value} {l : List α} {gs : List Nat} (h : OwnE n E e B H v gs l) (h0 : 0 < H.size) : vblock v < H.size := by
  rcases h.lt with h | h
  · subst h; exact h0
  · exact h.2
end Go.Proofs.Yticnkojpfmkjeaa
