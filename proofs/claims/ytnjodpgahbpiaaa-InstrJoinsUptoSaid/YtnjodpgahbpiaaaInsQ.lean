/- Expressions that are being read: plain law of the loop; the rows that it builds. No condition but those that each law states. -/
import Derived.Test.YtnjodpgahbpiaaaInsB
namespace Go.Proofs.Ytnjodpgahbpiaaa
open Go Go.RowKit
set_option linter.unusedVariables false
set_option linter.unusedSimpArgs false
namespace Isp
/-- an expression of which some is read -/
def EPre (F : Nat) (l : List Int) (f : Nat) (m : List Int) (acc : List Ins) (k : Nat) : Prop :=
  exprP F [] l = (match exprP f m (l.drop k) with
    | .error e => .error e
    | .ok (xs, n) => .ok (acc ++ xs, k + n))
theorem EPre.start (F : Nat) (l : List Int) : EPre F l F [] [] 0 := by
  unfold EPre
  simp only [List.drop_zero]
  cases exprP F [] l with
  | error e => rfl
  | ok x => simp
section
variable {F f k k2 : Nat} {l m m' : List Int} {acc : List Ins} {x : Ins} {e : Int}
theorem EPre.err (h : EPre F l (f + 1) m acc k) (hx : insP (l.drop k) = .error e) : exprP F [] l = .error e := by
  unfold EPre at h; rw [h]; simp only [exprP, hx]
theorem EPre.bad (h : EPre F l (f + 1) m acc k) (hx : insP (l.drop k) = .ok (x, k2)) (hn : nx m x.op = .bad) : exprP F [] l = .error 60 := by
  unfold EPre at h; rw [h]; simp only [exprP, hx, hn]
theorem EPre.over (h : EPre F l (f + 1) m acc k) (hx : insP (l.drop k) = .ok (x, k2)) (hn : nx m x.op = .over) : exprP F [] l = .ok (acc, k + k2) := by
  unfold EPre at h; rw [h]; simp only [exprP, hx, hn]; simp
theorem EPre.step (h : EPre F l (f + 1) m acc k) (hx : insP (l.drop k) = .ok (x, k2)) (hn : nx m x.op = .go m') : EPre F l f m' (acc ++ [x]) (k + k2) := by
  unfold EPre at *
  rw [h]
  simp only [exprP, hx, hn, List.drop_drop]
  cases exprP f m' (l.drop (k + k2)) with
  | error e => rfl
  | ok y => simp [Nat.add_assoc]
theorem nx_range {m : List Int} {op : Int} (hm : ∀ x ∈ m, InR .u8 x) (hop : InR .u8 op) {m' : List Int} (h : nx m op = .go m') : (∀ x ∈ m', InR .u8 x) ∧ m'.length ≤ m.length + 1 := by
  unfold nx at h
  split at h
  · injection h with h; subst h
    exact ⟨fun x hx => by rcases List.mem_append.1 hx with hx | hx; exact hm x hx; simp at hx; subst hx; exact hop, by simp⟩
  split at h
  · split at h
    · cases h
    · injection h with h; subst h
      exact ⟨fun x hx => by rcases List.mem_append.1 hx with hx | hx; exact hm x (List.mem_of_mem_take hx); simp at hx; subst hx; decide, by rw [List.length_append, List.length_take, List.length_singleton]; omega⟩
  split at h
  · split at h
    · cases h
    · injection h with h; subst h
      exact ⟨fun x hx => hm x (List.mem_of_mem_take hx), by simp; omega⟩
  · injection h with h; subst h; exact ⟨hm, by omega⟩
theorem set_last {m : List Int} (h : 0 < m.length) (x : Int) : m.set (m.length - 1) x = m.take (m.length - 1) ++ [x] := by
  rw [List.set_eq_take_append_cons_drop, if_pos (by omega), List.drop_of_length_le (by omega)]
end
end Isp
/-- a row hangs on no block of gs -/
theorem fk_ownN {k : IntKind} {bs : List Int} {c : Value} {H H0 : Heap} {e : TypeId} {B : Nat} {gs : List Nat} (h : Own 1 (EInt k) e H0 B H c bs) (hg : ∀ g ∈ gs, c = .slice none 0 0 ∨ vblock c ≠ g) : ∀ H2, KeepX gs H H2 → Sl 1 (EInt k) H2 c bs := by
  intro H2 kx
  have h2 : Own 1 (EInt k) e #[] B H c bs := h.mapE fun cs x hx => hx
  refine (h2.keepN ?_ : Own 1 (EInt k) e #[] B H2 c bs).sl (emptyOld _) (by omega)
  rcases h.lt with hl | hl
  · exact .inl hl
  · by_cases hn : c = .slice none 0 0
    · exact .inl hn
    · exact .inr (kx.2 _ hl.2 (fun hm => (hg _ hm).elim hn (fun h => h rfl)))
/-- marks and instructions that are being gathered -/
structure ES (H : Heap) (g gm B : Nat) (vm : Value) (m : List Int) (vo : Value) (acc : List Ins) : Prop where
  bm : H[gm]? = some (.cells [vm].toArray 48 (0, 0))
  wm : Own 1 (EInt .u8) 5 #[] B H vm m
  wo : OwnE 5 EIns 36 B H vo (List.range (g + 1) ++ [gm, vblock vm]) acc
  sep : vo = .slice none 0 0 ∨ vm = .slice none 0 0 ∨ vblock vo ≠ vblock vm
  gB : g < B
  mB : gm < B
  ne : g < gm
section
variable {H H' : Heap} {g gm B : Nat} {vm vo : Value} {m : List Int} {acc : List Ins}
theorem ES.old (h : ES H g gm B vm m vo acc) (o : Old H H') : ES H' g gm B vm m vo acc := ⟨o.blk h.bm, h.wm.old o, OwnE.old h.wo o, h.sep, h.gB, h.mB, h.ne⟩
theorem KeepX.fr {gs : List Nat} {A B D : Heap} {g : Nat} (f : Fr g (.slice none 0 0) A B) (hg : g ∈ gs) (k : KeepX gs B D) : KeepX gs A D :=
  ⟨Nat.le_trans f.1 k.1, fun i hi hn => (k.2 i (by have := f.1; omega) hn).trans (f.2 i hi (fun e => hn (e ▸ hg)) (.inl rfl))⟩
theorem ES.frT (h : ES H g gm B vm m vo acc) (f : Fr g (.slice none 0 0) H H') : ES H' g gm B vm m vo acc := by
  refine ⟨f.at_ h.bm (by have := h.ne; omega), h.wm.frK f h.gB, ?_, h.sep, h.gB, h.mB, h.ne⟩
  exact (Own.frK h.wo.own f h.gB).mapE fun cs x hf H2 k => hf H2 (KeepX.fr f (List.mem_cons_of_mem _ (List.mem_append_left _ (List.mem_range.2 (by omega)))) k)
/-- the marks are changed -/
theorem ES.mark {vm' : Value} {m' : List Int} (h : ES H g gm B vm m vo acc) (bm : H'[gm]? = some (.cells [vm'].toArray 48 (0, 0))) (wm : Own 1 (EInt .u8) 5 #[] B H' vm' m') (fr : Fr gm vm H H') (nx : Nx H vm vm') (hv : vm' = .slice none 0 0 → vm = .slice none 0 0) : ES H' g gm B vm' m' vo acc := by
  have hmB := h.mB
  have hsep' : vo = .slice none 0 0 ∨ vm' = .slice none 0 0 ∨ vblock vo ≠ vblock vm' := by
    rcases OwnE.lt h.wo with hn | hl
    · exact .inl hn
    · rcases nx with n | ⟨n1, n2⟩ | n
      · exact .inr (.inl n)
      · rw [n2]
        rcases h.sep with s | s | s
        · exact .inl s
        · exact absurd s n1
        · exact .inr (.inr s)
      · exact .inr (.inr (by omega))
  refine ⟨bm, wm, ?_, hsep', h.gB, hmB, h.ne⟩
  have hk : vo = .slice none 0 0 ∨ H'[vblock vo]? = H[vblock vo]? := by
    rcases OwnE.lt h.wo with hn | hl
    · exact .inl hn
    · rcases h.sep with s | s | s
      · exact .inl s
      · exact .inr (fr.2 _ hl.2 (by omega) (.inl s))
      · exact .inr (fr.2 _ hl.2 (by omega) (.inr s))
  refine (Own.keepN h.wo.own hk).mapE fun cs x hf H2 k => hf H2 ⟨Nat.le_trans fr.1 k.1, fun i hi hn => ?_⟩
  have hmem : ∀ y, y ∉ vblock vo :: (List.range (g + 1) ++ [gm, vblock vm]) → y ≠ vblock vo ∧ ¬ y < g + 1 ∧ y ≠ gm ∧ y ≠ vblock vm := by
    intro y hy
    simp only [List.mem_cons, List.mem_append, List.mem_range, List.not_mem_nil, or_false, not_or] at hy
    exact ⟨hy.1, hy.2.1, hy.2.2.1, hy.2.2.2⟩
  obtain ⟨h1, h2, h3, h4⟩ := hmem i hn
  have hne' : i ≠ vblock vm' := by
    rcases nx with n | ⟨n1, n2⟩ | n
    · rw [n]; intro e; rw [hv n] at h4; exact h4 e
    · rw [n2]; exact h4
    · omega
  rw [k.2 i (by have := fr.1; omega) (by
    simp only [List.mem_cons, List.mem_append, List.mem_range, List.not_mem_nil, or_false, not_or]
    exact ⟨h1, h2, h3, hne'⟩)]
  exact fr.2 i hi h3 (.inr h4)
/-- one more is gathered -/
theorem ES.add {vo' : Value} {x : Ins} (h : ES H g gm B vm m vo acc) (wo : OwnE 5 EIns 36 B H' vo' (List.range (g + 1) ++ [gm, vblock vm]) (acc ++ [x])) (gr : Grown vo H H') (nx : Nx H vo vo') : ES H' g gm B vm m vo' (acc ++ [x]) := by
  have hmB := h.mB
  have hk : vm = .slice none 0 0 ∨ H'[vblock vm]? = H[vblock vm]? := by
    rcases h.wm.lt with hn | hl
    · exact .inl hn
    · rcases h.sep with s | s | s
      · exact .inr (gr.2 _ hl.2 (.inl s))
      · exact .inl s
      · exact .inr (gr.2 _ hl.2 (.inr (fun e => s e.symm)))
  refine ⟨(gr.2 gm (blk_lt h.bm) ((OwnE.lt h.wo).imp id (fun k => by omega))).trans h.bm, h.wm.keepN hk, wo, ?_, h.gB, hmB, h.ne⟩
  rcases nx with n | ⟨n1, n2⟩ | n
  · exact .inl n
  · rw [n2]
    rcases h.sep with s | s | s
    · exact absurd s n1
    · exact .inr (.inl s)
    · exact .inr (.inr s)
  · rcases h.wm.lt with hn | hl
    · exact .inr (.inl hn)
    · exact .inr (.inr (by omega))
theorem ES.apart {vl vm2 : Value} {Hn : Heap} {S1 : Nat} (h : ES H g gm B vm m vo acc) (hB : B ≤ H.size) (hl : vl = .slice none 0 0 ∨ (H.size ≤ vblock vl ∧ vblock vl < S1)) (nx : Nx Hn vm vm2) (hn : S1 ≤ Hn.size) : ∀ y ∈ vblock vo :: (List.range (g + 1) ++ [gm, vblock vm2]), vl = .slice none 0 0 ∨ vblock vl ≠ y := by
  intro y hy
  have hgB := h.gB
  have hmB := h.mB
  refine hl.imp id (fun hl => ?_)
  have z : vblock (Value.slice none 0 0) = 0 := rfl
  have hvo : vblock vo < H.size := by
    rcases OwnE.lt h.wo with k | k
    · rw [k, z]; omega
    · exact k.2
  have hvm : vblock vm < H.size := by
    rcases h.wm.lt with k | k
    · rw [k, z]; omega
    · exact k.2
  have hv2 : vblock vl ≠ vblock vm2 := by
    rcases nx with k | ⟨_, k⟩ | k
    · rw [k, z]; omega
    · rw [k]; omega
    · omega
  simp only [List.mem_cons, List.mem_append, List.mem_range, List.not_mem_nil, or_false] at hy
  rcases hy with rfl | hy | rfl | rfl
  · omega
  · omega
  · omega
  · exact hv2
theorem OwnE.outlive {gs : List Nat} {v : Value} {l : List Ins} {e : TypeId} (h : OwnE 5 EIns e B H v (List.range (g + 1) ++ gs) l) (hg : g < B) : ∀ H2, KeepX (List.range (g + 1)) H H2 → Sl 5 EIns H2 v l := by
  intro H2 kx
  have hk : v = .slice none 0 0 ∨ H2[vblock v]? = H[vblock v]? := (OwnE.lt h).imp id (fun k => kx.2 _ k.2 (by rw [List.mem_range]; omega))
  have h2 : Own 5 (FK EIns H (vblock v :: (List.range (g + 1) ++ gs))) e #[] B H2 v l := Own.keepN h.own hk
  exact (Own.sl h2 (emptyOld _) (by omega)).mapE fun cs x hf => hf H2 ⟨kx.1, fun k hk hn => kx.2 k hk (fun hm => hn (List.mem_cons_of_mem _ (List.mem_append_left _ hm)))⟩
theorem RD.frG {i : Nat} {v x : Value} {l : List Int} (h : RD H g v l i) (f : Fr gm x H H') (h1 : g < gm) (h2 : x = .slice none 0 0 ∨ g < vblock x) : RD H' g v l i :=
  ⟨(f.2 g h.lt (by omega) (h2.imp id (fun k => by omega))).trans h.b, fun H2 k => h.s H2 ((f.oldB (B := g) (Nat.le_of_lt h.lt) (by omega) (h2.imp id (fun k => by omega))).trans k), h.le⟩
theorem Fr.low2 {A : Heap} {x : Value} (fr : Fr g (.slice none 0 0) H A) (f : Fr gm x A H') (h1 : H.size ≤ gm) (h2 : x = .slice none 0 0 ∨ H.size ≤ vblock x) : Fr g (.slice none 0 0) H H' :=
  ⟨Nat.le_trans fr.1 f.1, fun i hi a b => (f.2 i (by have := fr.1; omega) (by omega) (h2.imp id (fun k => by omega))).trans (fr.2 i hi a b)⟩
end
end Go.Proofs.Ytnjodpgahbpiaaa
