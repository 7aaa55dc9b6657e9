/- Four hashers, and what they took in. No condition. -/
import Derived.Test.YtgpbdimccbimnaaSumI
import Derived.Test.YtgpbdimccbimnaaKStep
import Derived.Test.YtgpbdimccbimnaaKOpenS
namespace Go.Proofs.Ytgpbdimccbimnaa
open Go Go.RowKit
set_option linter.unusedVariables false
set_option linter.unusedSimpArgs false
set_option linter.unnecessarySimpa false

def MX (M X : Nat → Prop) (b : Nat) : Prop := M b ∨ X b
/-- four hashers: each one's block, its rest's row, what it took in -/
structure HE where
  g : Nat
  v : Value
  m : List Int
instance : Inhabited HE := ⟨⟨0, .slice none 0 0, []⟩⟩
def HE.M (e : HE) (b : Nat) : Prop := b = e.g ∨ Of e.v b
def ptr (e : HE) : Value := .pointer (some ⟨e.g, 0, none⟩)
def M1 (A : Nat) (L : List HE) (b : Nat) : Prop := b = A ∨ ∃ j, j < L.length ∧ (L.getD j default).M b
structure HS (B0 : Nat) (X : Nat → Prop) (H : Heap) (A : Nat) (L : List HE) : Prop where
  len : L.length = 4
  bA : H[A]? = some (.cells (L.map ptr).toArray 28 (0, 0))
  hA : B0 ≤ A
  hm : ∀ j, j < 4 → HMn H (L.getD j default).g (L.getD j default).v (L.getD j default).m (L.getD j default).m.length ∧ B0 ≤ (L.getD j default).g
  na : ∀ j, j < 4 → ¬ (L.getD j default).M A
  ap : ∀ i j, i < 4 → j < 4 → i ≠ j → ∀ b, (L.getD i default).M b → ¬ (L.getD j default).M b
  hX : ∀ b, X b → b < H.size ∧ ¬ M1 A L b
/-- four rows that stay -/
structure HW (B0 : Nat) (X : Nat → Prop) (H : Heap) (B : Nat) (W : List Value) (C : List (List Int)) : Prop where
  len : W.length = 4
  bB : H[B]? = some (.cells W.toArray 29 (0, 0))
  hB : B0 ≤ B
  hw : ∀ j, j < 4 → ∀ H2, KeepP (MX (fun b => b = B) X) H H2 → Sl 1 (EInt .u8) H2 (W.getD j default) (C.getD j default)
  hX : ∀ b, X b → b < H.size ∧ b ≠ B
theorem HMn.keepB {H H' : Heap} {e : HE} {n : Int} (h : HMn H e.g e.v e.m n) (hk : ∀ b, b < H.size → e.M b → H'[b]? = H[b]?) : HMn H' e.g e.v e.m n := by
  refine ⟨(hk _ (blk_lt h.bg) (.inl rfl)).trans h.bg, h.wr.keepN ?_⟩
  rcases h.wr.lt with e1 | e1
  · exact .inl e1
  · by_cases hv : e.v = .slice none 0 0
    · exact .inl hv
    · exact .inr (hk _ e1.2 (.inr ⟨hv, rfl⟩))
theorem HMn.lowB {H : Heap} {e : HE} {n : Int} (h : HMn H e.g e.v e.m n) : ∀ b, e.M b → e.g ≤ b ∧ b < H.size := by
  rintro b (rfl | hb)
  · exact ⟨Nat.le_refl _, blk_lt h.bg⟩
  · have := h.wr.ofLt hb; exact ⟨by omega, this.2⟩
theorem HS.low {B0 : Nat} {X : Nat → Prop} {H : Heap} {A : Nat} {L : List HE} (h : HS B0 X H A L) : ∀ b, M1 A L b → B0 ≤ b ∧ b < H.size := by
  rintro b (rfl | ⟨j, hj, hb⟩)
  · exact ⟨h.hA, blk_lt h.bA⟩
  · rw [h.len] at hj
    have h1 := (h.hm j hj).1.lowB b hb
    have h2 := (h.hm j hj).2
    exact ⟨by omega, h1.2⟩
theorem HS.other {B0 : Nat} {X X' : Nat → Prop} {H H' : Heap} {A : Nat} {L : List HE} (h : HS B0 X H A L) (st : StepO X X' H H') (hx : ∀ b, X' b → b < H'.size) : HS B0 X' H' A L :=
  have hd : ∀ b, M1 A L b → ¬ X b := fun b hb hx => (h.hX b hx).2 hb
  ⟨h.len, st.blk (hd _ (.inl rfl)) h.bA, h.hA, fun j hj => ⟨(h.hm j hj).1.keepB fun b hb hm => st.2.1 b hb (hd b (.inr ⟨j, by rw [h.len]; exact hj, hm⟩)), (h.hm j hj).2⟩, h.na, h.ap,
   fun b hb => ⟨hx b hb, fun hm => (st.2.2 b hb).elim (fun h1 => hd b hm h1) (fun h1 => by have := (h.low b hm).2; omega)⟩⟩
theorem HW.other {B0 : Nat} {X X' : Nat → Prop} {H H' : Heap} {B : Nat} {W : List Value} {C : List (List Int)} (h : HW B0 X H B W C) (st : StepO X X' H H') (hx : ∀ b, X' b → b < H'.size) : HW B0 X' H' B W C := by
  have hd : ¬ X B := fun hx => (h.hX B hx).2 rfl
  have hl := blk_lt h.bB
  refine ⟨h.len, st.blk hd h.bB, h.hB, fun j hj H2 k => h.hw j hj H2 ⟨Nat.le_trans st.1 k.1, fun b hb hn => ?_⟩, fun b hb => ⟨hx b hb, fun e => ?_⟩⟩
  · refine (k.2 b (by have := st.1; omega) ?_).trans (st.2.1 b hb (fun hx => hn (.inr hx)))
    rintro (hm | hm)
    · exact hn (.inl hm)
    · exact (st.2.2 b hm).elim (fun h1 => hn (.inr h1)) (fun h1 => by omega)
  · subst e
    exact (st.2.2 b hb).elim hd (fun h1 => by omega)
theorem HS.old {B0 : Nat} {X : Nat → Prop} {H H' : Heap} {A : Nat} {L : List HE} (h : HS B0 X H A L) (o : Old H H') : HS B0 X H' A L := h.other (.ofOld o) fun b hb => by have := (h.hX b hb).1; have := o.1; omega
theorem HW.old {B0 : Nat} {X : Nat → Prop} {H H' : Heap} {B : Nat} {W : List Value} {C : List (List Int)} (h : HW B0 X H B W C) (o : Old H H') : HW B0 X H' B W C := h.other (.ofOld o) fun b hb => by have := (h.hX b hb).1; have := o.1; omega
theorem getD_setE {α : Type} [Inhabited α] {l : List α} {i j : Nat} {x : α} (h : i < l.length) : (l.set i x).getD j default = if j = i then x else l.getD j default := by
  rw [List.getD_eq_getElem?_getD, List.getD_eq_getElem?_getD]
  split
  · next e => subst e; rw [List.getElem?_set_self h]; rfl
  · next e => rw [List.getElem?_set_ne (fun e' => e e'.symm)]
/-- one hasher is another now -/
theorem HS.put {B0 : Nat} {X : Nat → Prop} {H H' : Heap} {A : Nat} {L : List HE} {i : Nat} {e : HE} (h : HS B0 X H A L) (hi : i < 4) (hsz : H.size ≤ H'.size) (bA' : H'[A]? = some (.cells ((L.set i e).map ptr).toArray 28 (0, 0)))
    (hk : ∀ b, b < H.size → b ≠ A → ¬ (L.getD i default).M b → H'[b]? = H[b]?) (he : HMn H' e.g e.v e.m e.m.length) (hl : B0 ≤ e.g) (hn : ∀ b, e.M b → (L.getD i default).M b ∨ H.size ≤ b) :
    HS B0 X H' A (L.set i e) ∧ StepO (M1 A L) (M1 A (L.set i e)) H H' := by
  have h4 := h.len
  have hg : ∀ j, (L.set i e).getD j default = if j = i then e else L.getD j default := fun j => getD_setE (by omega)
  have hAl := blk_lt h.bA
  have hst : StepO (M1 A L) (M1 A (L.set i e)) H H' := ⟨hsz, fun b hb hm => hk b hb (fun e => hm (.inl e)) (fun hb2 => hm (.inr ⟨i, by omega, hb2⟩)), fun b hb => by
    rcases hb with hb | ⟨j, hj, hb⟩
    · exact .inl (.inl hb)
    · rw [List.length_set] at hj
      rw [hg] at hb
      split at hb
      · exact (hn b hb).imp (fun h => .inr ⟨i, by omega, h⟩) id
      · exact .inl (.inr ⟨j, hj, hb⟩)⟩
  refine ⟨⟨by rw [List.length_set]; exact h4, bA', h.hA, fun j hj => ?_, fun j hj => ?_, fun a b ha hb hab c hc => ?_, fun b hb => ⟨by have := (h.hX b hb).1; omega, fun hm => ?_⟩⟩, hst⟩
  · rw [hg]
    split
    · exact ⟨he, hl⟩
    · next hji => exact ⟨(h.hm j hj).1.keepB fun b hb hm => hk b hb (fun e => h.na j hj (e ▸ hm)) (h.ap j i hj hi hji b hm), (h.hm j hj).2⟩
  · rw [hg]
    split
    · intro hm
      exact (hn A hm).elim (h.na i hi) (fun h => by omega)
    · exact h.na j hj
  · rw [hg] at hc ⊢
    split at hc
    · next e1 =>
      rw [if_neg (by omega)]
      intro hc2
      rcases hn c hc with h1 | h1
      · exact h.ap i b hi hb (by omega) c h1 hc2
      · have := ((h.hm b hb).1.lowB c hc2).2; omega
    · next e1 =>
      split
      · intro hc2
        rcases hn c hc2 with h1 | h1
        · exact h.ap a i ha hi e1 c hc h1
        · have := ((h.hm a ha).1.lowB c hc).2; omega
      · exact h.ap a b ha hb hab c hc
  · have hx := h.hX b hb
    rcases hst.2.2 b hm with h1 | h1
    · exact hx.2 h1
    · omega
/-- one row is another now -/
theorem HW.put {B0 : Nat} {X : Nat → Prop} {H H' : Heap} {B : Nat} {W : List Value} {C : List (List Int)} {i : Nat} {w : Value} {c : List Int} (h : HW B0 X H B W C) (hi : i < 4) (hC : C.length = 4) (u : Upd B H H') (bB' : H'[B]? = some (.cells (W.set i w).toArray 29 (0, 0)))
    (hw : ∀ H2, KeepP (MX (fun b => b = B) X) H H2 → Sl 1 (EInt .u8) H2 w c) : HW B0 X H' B (W.set i w) (C.set i c) ∧ StepO (fun b => b = B) (fun b => b = B) H H' := by
  have hs := u.1
  have hk : KeepP (MX (fun b => b = B) X) H H' := ⟨by omega, fun b hb hn => u.2 b (fun e => hn (.inl e))⟩
  refine ⟨⟨by rw [List.length_set]; exact h.len, bB', h.hB, fun j hj H2 k => ?_, fun b hb => ⟨by have := (h.hX b hb).1; omega, (h.hX b hb).2⟩⟩, ⟨by omega, fun b hb hn => u.2 b hn, fun b hb => .inl hb⟩⟩
  rw [getD_setE (by rw [h.len]; exact hi), getD_setE (by omega)]
  split
  · exact hw H2 (hk.then k)
  · exact h.hw j hj H2 (hk.then k)
theorem addrA (A j : Nat) : (⟨A, 0, none⟩ : Addr).add (j * 1) = ⟨A, j, none⟩ := by unfold Addr.add; split <;> simp_all
theorem nthG {α : Type} [Inhabited α] {l : List α} {j : Nat} (h : j < l.length) : nth l j = some (l.getD j default) := nth_getD h
theorem nth_ptr {L : List HE} {j : Nat} (h : j < L.length) : nth (L.map ptr) j = some (.pointer (some ⟨(L.getD j default).g, 0, none⟩)) := by
  rw [nth_eq, List.getElem?_map, List.getD_eq_getElem?_getD, List.getElem?_eq_getElem h]; rfl
theorem map_set_ptr {L : List HE} {i : Nat} {e : HE} : (L.set i e).map ptr = (L.map ptr).set i (ptr e) := List.map_set
theorem set_same {L : List HE} {i : Nat} {e : HE} (h : i < L.length) (hg : e.g = (L.getD i default).g) : (L.set i e).map ptr = L.map ptr := by
  rw [map_set_ptr]
  apply List.ext_getElem?
  intro k
  rw [List.getElem?_set]
  split
  · next e1 =>
    subst e1
    rw [if_pos (by simpa using h), List.getElem?_map, List.getElem?_eq_getElem h]
    rw [List.getD_eq_getElem?_getD, List.getElem?_eq_getElem h] at hg
    simp only [ptr, hg, Option.map_some, Option.getD_some]
  · rfl
theorem Sl.blkLt {α : Type} [Inhabited α] {E : El α} {n : Nat} {H : Heap} {v : Value} {l : List α} (h : Sl n E H v l) (hn : 0 < n) (hl : 0 < l.length) : vblock v < H.size := by
  obtain ⟨cs, e1, e2, e3⟩ := h.at 0 hl
  have hlen : 0 < cs.length := by omega
  have := e2 0 cs[0] (by rw [nth_eq]; exact List.getElem?_eq_getElem hlen)
  have h2 := cell_lt this
  have hb : (((vbase v).add (0 * n)).add 0).block = vblock v := by simp [vblock, Addr.add]
  rw [hb] at h2
  exact h2
theorem toV_block (v : Value) (j : Nat) : vblock (toV v j) = vblock v := by
  unfold toV
  split
  · next a n c => cases a <;> rfl
  · rfl
theorem subV_block (s : Nat) (v : Value) (i j : Nat) : vblock (subV s v i j) = vblock v := by
  unfold subV
  split
  · next a n c =>
    cases a with
    | none => split <;> rfl
    | some a => split <;> (try rfl) <;> (simp only [vblock, vbase, Option.map_some]; unfold Addr.add; split <;> rfl)
  · rfl
structure Dox where
  kind : Int
  which : Int
  frm : Int
  b : List Int
  cut : Int
instance : Inhabited Dox := ⟨⟨0, 0, 0, [], 0⟩⟩
def EDo : El Dox := fun H cs x => ∃ vb, cs = [.int .u8 x.kind, .int .u8 x.which, .int .u8 x.frm, vb, .int .u8 x.cut] ∧ Sl 1 (EInt .u8) H vb x.b ∧ InR .u8 x.kind ∧ InR .u8 x.which ∧ InR .u8 x.frm ∧ InR .u8 x.cut ∧ x.b.length ≤ 140737488351232
instance keepsDo : Keeps EDo := ⟨fun o ⟨vb, h1, h2, r⟩ => ⟨vb, h1, h2.old o, r⟩⟩
theorem opensW_do : OpensW Try.prog 26 EDo := by
  intro H enc w base spare held fuel cs x h hwt
  obtain ⟨hl, n, hg⟩ := trod_structW (m := 5) Try.underlying26 (by kernel_rfl) h
  obtain ⟨y0, h0, _⟩ := hg 0 _ 0 1 rfl rfl (by kernel_rfl)
  obtain ⟨y1, h1, _⟩ := hg 1 _ 1 1 rfl rfl (by kernel_rfl)
  obtain ⟨y2, h2, _⟩ := hg 2 _ 2 1 rfl rfl (by kernel_rfl)
  obtain ⟨y3, h3, k3⟩ := hg 3 _ 3 1 rfl rfl (by kernel_rfl)
  obtain ⟨y4, h4, _⟩ := hg 4 _ 4 1 rfl rfl (by kernel_rfl)
  match cs, hl with
  | [c0, c1, c2, c3, c4], _ =>
    obtain ⟨a0, u0, r0⟩ := opens_int Try.underlying5 _ _ _ _ _ _ _ _ _ h0
    obtain ⟨a1, u1, r1⟩ := opens_int Try.underlying5 _ _ _ _ _ _ _ _ _ h1
    obtain ⟨a2, u2, r2⟩ := opens_int Try.underlying5 _ _ _ _ _ _ _ _ _ h2
    obtain ⟨l, v, u3, s3, b3⟩ := opensW_slice (n := 1) (b := 1) Try.underlying24 (by kernel_rfl) (by kernel_rfl) (by decide) (opens_int Try.underlying5).w _ _ _ _ _ _ _ _ _ h3 (fun q hq => hwt q (k3 q hq))
    obtain ⟨a4, u4, r4⟩ := opens_int Try.underlying5 _ _ _ _ _ _ _ _ _ h4
    cases u0; cases u1; cases u2; cases u3; cases u4
    exact ⟨⟨a0, a1, a2, l, a4⟩, _, rfl, s3, r0, r1, r2, r4, by show l.length ≤ _; omega⟩
theorem Sl.doAt {H : Heap} {v : Value} {l : List Dox} (h : Sl 5 EDo H v l) (j : Nat) (hj : j < l.length) : ∃ vb, CellsH H ((vbase v).add (j * 5)) [.int .u8 (l.getD j default).kind, .int .u8 (l.getD j default).which, .int .u8 (l.getD j default).frm, vb, .int .u8 (l.getD j default).cut] ∧ Sl 1 (EInt .u8) H vb (l.getD j default).b ∧ InR .u8 (l.getD j default).kind ∧ InR .u8 (l.getD j default).which ∧ InR .u8 (l.getD j default).frm ∧ InR .u8 (l.getD j default).cut ∧ (l.getD j default).b.length ≤ 140737488351232 := by
  obtain ⟨cs, hl, hc, vb, rfl, h1⟩ := h.at j hj
  exact ⟨vb, hc, h1⟩
def wt (l : List Dox) : Nat := (l.map fun x => x.b.length).sum
theorem wt_take {l : List Dox} {k : Nat} (h : k < l.length) : wt (l.take (k + 1)) = wt (l.take k) + (l.getD k default).b.length := by
  have e : l.take (k + 1) = l.take k ++ [l.getD k default] := by rw [List.take_add_one, List.getElem?_eq_getElem h, List.getD_eq_getElem?_getD, List.getElem?_eq_getElem h]; rfl
  unfold wt
  rw [e, List.map_append, List.sum_append]
  simp only [List.map_cons, List.map_nil, List.sum_cons, List.sum_nil, Nat.add_zero]
theorem wt_le (l : List Dox) (k : Nat) : wt (l.take k) ≤ wt l := by
  unfold wt
  conv => rhs; rw [← List.take_append_drop k l, List.map_append, List.sum_append]
  omega

end Go.Proofs.Ytgpbdimccbimnaa
