/- A module as an instance reads it, and what is laid in. No condition. -/
import Derived.Test.YticnkojpfmkjeaaIstA
import Derived.Test.YticnkojpfmkjeaaKIns
import Derived.Test.YticnkojpfmkjeaaKLim
import Derived.Test.YticnkojpfmkjeaaKDef
namespace Go.Proofs.Yticnkojpfmkjeaa
open Go Go.RowKit
set_option linter.unusedVariables false
set_option linter.unusedSimpArgs false
instance keepsLim : Keeps ELim := ⟨fun _ h => h⟩
instance oneLim : One ELim := ⟨fun h u hu => by
  obtain ⟨rfl, _⟩ := h
  simp only [List.mem_cons, List.not_mem_nil, or_false] at hu
  rcases hu with rfl | rfl <;> rfl⟩
/-- the value of an expression -/
def iv : List Ins → Int
  | [] => 0
  | x :: _ => if x.op = 65 then x.c % 4294967296 else if x.op = 66 then x.c % 18446744073709551616 else 0
theorem iv_R (l : List Ins) : 0 ≤ iv l ∧ iv l ≤ 18446744073709551615 := by
  cases l with
  | nil => simp [iv]
  | cons x r => unfold iv; repeat' split
                all_goals omega
abbrev El2 := List Ins × List Int
def LIM : Nat := 140737488351232
def EGI : El (List Ins) := fun H cs x => ∃ t b v, cs = [.int .u8 t, .bool b, v] ∧ Sl 5 EIns H v x
def EEl : El El2 := fun H cs x => ∃ n v w, cs = [.int .u32 n, v, w] ∧ Sl 5 EIns H v x.1 ∧ Sl 1 (EInt .u32) H w x.2 ∧ x.2.length ≤ 140737488351232
def EDa : El El2 := fun H cs x => ∃ n v w, cs = [.int .u32 n, v, w] ∧ Sl 5 EIns H v x.1 ∧ Sl 1 (EInt .u8) H w x.2 ∧ x.2.length ≤ 140737488351232
instance keepsGI : Keeps EGI := ⟨fun ho h => by
  obtain ⟨t, b, v, e, h1⟩ := h
  exact ⟨t, b, v, e, h1.old ho⟩⟩
instance keepsEl : Keeps EEl := ⟨fun ho h => by
  obtain ⟨n, v, w, e, h1, h2, h3⟩ := h
  exact ⟨n, v, w, e, h1.old ho, h2.old ho, h3⟩⟩
instance keepsDa : Keeps EDa := ⟨fun ho h => by
  obtain ⟨n, v, w, e, h1, h2, h3⟩ := h
  exact ⟨n, v, w, e, h1.old ho, h2.old ho, h3⟩⟩
structure Md where
  tables : List (Int × Int)
  mems : List (Int × Int)
  globs : List (List Ins)
  elems : List El2
  datas : List El2
/-- the values of a module's parts -/
structure MI (H : Heap) (v0 v1 v2 v3 v4 v5 v6 v7 v8 v9 va vb : Value) (m : Md) : Prop where
  a : Sl 2 ELim H v3 m.tables
  mm : Sl 2 ELim H v4 m.mems
  g : Sl 3 EGI H v5 m.globs
  e : Sl 3 EEl H v9 m.elems
  d : Sl 3 EDa H vb m.datas
  o : v0.oneCell' = true ∧ v1.oneCell' = true ∧ v2.oneCell' = true ∧ v6.oneCell' = true ∧ v7.oneCell' = true ∧ v8.oneCell' = true ∧ va.oneCell' = true
  n : m.globs.length ≤ 140737488351232 ∧ m.elems.length ≤ 140737488351232 ∧ m.datas.length ≤ 140737488351232
theorem MI.old {H H' : Heap} {v0 v1 v2 v3 v4 v5 v6 v7 v8 v9 va vb : Value} {m : Md} (h : MI H v0 v1 v2 v3 v4 v5 v6 v7 v8 v9 va vb m) (o : Old H H') : MI H' v0 v1 v2 v3 v4 v5 v6 v7 v8 v9 va vb m := ⟨h.a.old o, h.mm.old o, h.g.old o, h.e.old o, h.d.old o, h.o, h.n⟩
theorem MI.one {H : Heap} {v0 v1 v2 v3 v4 v5 v6 v7 v8 v9 va vb : Value} {m : Md} (h : MI H v0 v1 v2 v3 v4 v5 v6 v7 v8 v9 va vb m) : ∀ u ∈ [v0, v1, v2, v3, v4, v5, v6, v7, v8, v9, va, vb], u.oneCell' = true := by
  obtain ⟨z0, z1, z2, z6, z7, z8, za⟩ := h.o
  intro u hu
  simp only [List.mem_cons, List.not_mem_nil, or_false] at hu
  rcases hu with rfl | rfl | rfl | rfl | rfl | rfl | rfl | rfl | rfl | rfl | rfl | rfl <;> first | assumption | exact h.a.one | exact h.mm.one | exact h.g.one | exact h.e.one | exact h.d.one
/-- how many pages, how many elements -/
def pages (m : Md) : Int := match m.mems with | [] => 0 | x :: _ => x.1
def tlen (m : Md) : Nat := match m.tables with | [] => 0 | x :: _ => x.1.toNat
/-- may the module be an instance? -/
structure Fit (m : Md) : Prop where
  y : ∀ x r, m.mems = x :: r → newOk x.1 x.2
  t : ∀ x r, m.tables = x :: r → x.1 ≤ 1024
  g : m.globs.length ≤ 128
  e : ∀ x ∈ m.elems, iv x.1 + x.2.length ≤ tlen m
  d : ∀ x ∈ m.datas, iv x.1 + x.2.length ≤ pages m * 65536
/-- what is laid in, one thing behind the other -/
def lay (T : List Int) (l : List El2) : List Int := l.foldl (fun T e => putAt T (iv e.1).toNat e.2) T
theorem lay_snoc (T : List Int) (l : List El2) (e : El2) : lay T (l ++ [e]) = putAt (lay T l) (iv e.1).toNat e.2 := by simp [lay]
theorem lay_length {n : Nat} : ∀ (l : List El2) (T : List Int), T.length = n → (∀ e ∈ l, iv e.1 + e.2.length ≤ n) → (lay T l).length = n
  | [], T, h, _ => h
  | e :: l, T, h, hl => by
    have he := hl e List.mem_cons_self
    have := (iv_R e.1).1
    exact lay_length l _ (by rw [putAt_length (by omega)]; exact h) (fun x hx => hl x (List.mem_cons_of_mem _ hx))
def tab0 (m : Md) : List Int := List.replicate (tlen m) (-1)
def tabL (m : Md) : List Int := lay (tab0 m) m.elems
def memL (m : Md) : List Int := lay (zeros (pages m)) m.datas
theorem take_succ_of {α : Type} [Inhabited α] {l : List α} {k : Nat} (h : k < l.length) : l.take (k + 1) = l.take k ++ [l.getD k default] := by
  rw [List.take_succ_eq_append_getElem h, List.getD_eq_getElem?_getD, List.getElem?_eq_getElem h]; rfl
theorem getD_mem {α : Type} [Inhabited α] {l : List α} {k : Nat} (h : k < l.length) : l.getD k default ∈ l := by
  rw [List.getD_eq_getElem?_getD, List.getElem?_eq_getElem h]; exact List.getElem_mem _
theorem lay_take {T : List Int} {l : List El2} {k : Nat} (h : k < l.length) : lay T (l.take (k + 1)) = putAt (lay T (l.take k)) (iv (l.getD k default).1).toNat (l.getD k default).2 := by
  rw [take_succ_of h, lay_snoc]
end Go.Proofs.Yticnkojpfmkjeaa
