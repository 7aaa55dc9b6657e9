/- What the proof of EncBack leans on, part 2. No condition but those that each law states. -/
import Derived.Test.YtldmfchamcpmmaaGreatDoorRows
import Derived.WalkKit
import Derived.Deep.Quiet
import Derived.Below
import Derived.WalkLawsBesides
import Derived.Lib.Hide
import Derived.Laws.AppendOwnNone
import Derived.Laws.CopyRow
import Derived.Laws.Tables
import Derived.Orders
import Derived.Deep.Slices
import Derived.Deep.Fields
import Derived.OpenShut
import Derived.ProofKit
import Derived.Lib.AppendZerosOnto
import Derived.Laws.BytesString
import Derived.Lib.SlBytesConst
import Derived.Laws.IdiomStrings
import Derived.Lib.AppendStr
import Derived.Lib.EndianZ
import Derived.Lib.DecodeN
import Derived.Lib.ValidLaws
import Derived.Lib.EndianBits
import Derived.Maps.AppendAt
import Derived.ChangeKeysEq
import Derived.Lib.LaidTab
import Derived.Lib.LaidU8
import Derived.LaidMore
import Derived.ChangeSame
import Derived.SizedLaws
import Derived.WalkSpells
import Derived.Lib.ItoaNum
import Derived.Defers
import Derived.Recover
import Derived.Scope
import Derived.Test.YtldmfchamcpmmaaGreatDoorEncBackPA
set_option maxHeartbeats 10000000
set_option maxRecDepth 100000
set_option linter.unusedVariables false
set_option linter.unusedSimpArgs false
set_option linter.unnecessarySimpa false
namespace Go.Proofs.YtldmfchamcpmmaaGreatDoor
open Go Go.RowKit
theorem tabU_laid {w : World} {row : List (String × DataW Unit)} (e : row = [("unicode/utf8.acceptRanges", Lib.acceptData), ("unicode/utf8.first", Lib.firstData)]) (h : laidMetH Tryz.prog row w) : TabU w.heap := by
  subst e
  rw [MakeChecks.laidMetH_plain _ _ _ (by kernel_rfl)] at h
  have h3 : Lib.VarReads Tryz.prog w "unicode/utf8.first" Lib.firstData := Lib.laidMet.reads h (by simp)
  have h4 : Lib.VarReads Tryz.prog w "unicode/utf8.acceptRanges" Lib.acceptData := Lib.laidMet.reads h (by simp)
  obtain ⟨g, t, cs, fuel, p, hg, hty, hvar, hd⟩ := h3
  obtain rfl := Option.some.inj ((show Tryz.prog.globalNamed "unicode/utf8.first" = some 0 by kernel_rfl).symm.trans hg)
  obtain rfl := Option.some.inj ((show (Tryz.prog.globals[0]?).map (·.type) = some 206 by kernel_rfl).symm.trans hty)
  have hcs := Lib.cells_of_tab Tryz.underlying206 U5 (by kernel_rfl) (by kernel_rfl) hd
  obtain ⟨g', t', cs', fuel', p', hg', hty', hvar', hd'⟩ := h4
  obtain rfl := Option.some.inj ((show Tryz.prog.globalNamed "unicode/utf8.acceptRanges" = some 1 by kernel_rfl).symm.trans hg')
  obtain rfl := Option.some.inj ((show (Tryz.prog.globals[1]?).map (·.type) = some 209 by kernel_rfl).symm.trans hty')
  have key : ∀ i : Nat, i < 16 → (w.cell? ⟨1, i * 2, none⟩ = some (.int .u8 (Lib.accLo i : Nat)) ∧ w.cell? ⟨1, i * 2 + 1, none⟩ = some (.int .u8 (Lib.accHi i : Nat))) := by
    intro i hi
    obtain ⟨fuel2, d, q, hdi, he⟩ := Lib.array_elem Tryz.underlying209 hd' i hi
    simp only [List.getElem?_map, List.getElem?_range hi, Option.map_some, Option.some.injEq] at hdi
    subst hdi
    have hc2 : Tryz.prog.cellsOf 208 = 2 := by kernel_rfl
    have hc1 : Tryz.prog.cellsOf 5 = 1 := by kernel_rfl
    rw [hc2] at he
    have hw := Lib.ints_of_struct Tryz.underlying208 (fun j f hj => by
      match j, hj with
      | 0, hj => simp at hj; subst hj; exact ⟨U5, rfl, hc1⟩
      | 1, hj => simp at hj; subst hj; exact ⟨U5, rfl, hc1⟩
      | j + 2, hj => simp at hj) (by rw [hc2]; rfl) he
    have e0 := congrArg (·[0]?) hw
    have e1 := congrArg (·[1]?) hw
    simp only [List.getElem?_take, List.getElem?_drop] at e0 e1
    refine ⟨?_, ?_⟩
    · rw [World.var?_cell hg' hvar' (i * 2), ← Array.getElem?_toList]
      simpa using e0
    rw [World.var?_cell hg' hvar' (i * 2 + 1), ← Array.getElem?_toList]
    simpa using e1
  refine ⟨fun c hc => ?_, fun i hi => ?_, fun i hi => ?_⟩
  · rw [← cell_w rfl, World.var?_cell hg hvar c, ← Array.getElem?_toList, hcs]
    simp [Lib.firstTab, hc]
  · rw [← cell_w rfl]; exact (key i hi).1
  rw [← cell_w rfl]; exact (key i hi).2
end Go.Proofs.YtldmfchamcpmmaaGreatDoor
namespace Go.Proofs.YtldmfchamcpmmaaGreatDoor
open Go Go.RowKit Go.ChangeShapes Go.WideShapes Go.Deep
def OpensW (P : Program) (t : TypeId) {α : Type} (E : El α) : Prop :=
  ∀ (H : Type) (enc : TypeId × Value → H) (w : World) (base : Nat) (spare : Nat → Bool) (held : Bool) (fuel : Nat) (cs : List Value) (x : DataW H × List MemPlace), DataW.trod enc P w base spare held fuel t cs = some x → (∀ n ∈ x.1.weights P t, n ≤ 140737488351232) → ∃ y, E w.heap cs y
theorem Opens.w {P : Program} {t : TypeId} {α : Type} {E : El α} (h : Opens P t E) : OpensW P t E := fun H enc w base spare held fuel cs x hx _ => h H enc w base spare held fuel cs x hx
theorem weightsAll_mem {H : Type} {P : Program} {e : TypeId} : ∀ {l : List (DataW H)} {d : DataW H} {n : Nat}, d ∈ l → n ∈ d.weights P e → n ∈ DataW.weightsAll P e l
  | d' :: l, d, n, hd, hn => by
    simp only [DataW.weightsAll, List.mem_append]
    rcases List.mem_cons.1 hd with rfl | hd
    · exact .inl hn
    exact .inr (weightsAll_mem hd hn)
/-- a slice whose elements read so, and whose bytes are bounded -/
def ESlB {α : Type} (b n : Nat) (E : El α) : El (List α) := fun H cs l => ∃ v, cs = [v] ∧ Sl n E H v l ∧ l.length * b ≤ 140737488351232
theorem opensW_slice {P : Program} {t e : TypeId} {α : Type} [Inhabited α] {n b : Nat} {E : El α} (ht : P.underlying t = some (.slice e)) (hn : P.cellsOf e = n) (hb : P.bytesOf e = b) (hpos : 0 < n) (hE : OpensW P e E) : OpensW P t (ESlB b n E) := by
  intro H enc w base spare held fuel cs x h hwt
  subst hn
  subst hb
  rcases open_slice ht h with ⟨rfl, _⟩ | ⟨a, len, cap, m, f, D, Pl, rfl, _, hl, hm, hmm, rfl, hi⟩
  · exact ⟨[], _, rfl, Sl.nil _ _ _, by simp⟩
  have hlm : len ≤ m := by rw [hmm]; split <;> omega
  have hlb : len * P.bytesOf e ≤ 140737488351232 := by
    have h9 := hwt ((len + (m - len)) * P.bytesOf e) (by simp [DataW.weights, ht])
    exact Nat.le_trans (Nat.mul_le_mul_right _ (by omega)) h9
  have hdi : ∀ i, i < len → ∀ q ∈ (D i).weights P e, q ≤ 140737488351232 := by
    intro i hil q hq
    refine hwt q ?_
    simp only [DataW.weights, ht, List.mem_cons, List.mem_append]
    exact .inr (.inl (weightsAll_mem (List.mem_map.2 ⟨i, List.mem_range.2 hil, rfl⟩) hq))
  have hex : ∀ i, i < len → ∃ y : α, ∃ cs', w.cells? base (a.add (i * P.cellsOf e)) (P.cellsOf e) = some cs' ∧ E w.heap cs' y := by
    intro i hil
    obtain ⟨cs', hc, ht'⟩ := hi i (by omega)
    obtain ⟨y, hy⟩ := hE _ _ _ _ _ _ _ _ _ ht' (hdi i hil)
    exact ⟨y, cs', hc, hy⟩
  obtain ⟨F, hF⟩ := choose_lt hex
  by_cases h0 : len = 0
  · subst h0
    exact ⟨[], _, rfl, ⟨some a, cap, rfl, by simp, hm, by simp, fun h => absurd h (by simp), by simp [nth]⟩, by simp⟩
  have hsp : a.spot = none := by
    obtain ⟨cs0, hc0, _⟩ := hF 0 (by omega)
    obtain ⟨_, hcl0, hat0⟩ := World.cells?_some hc0
    have h1 := hat0 0 hpos
    have h2 : cs0[0]? = some (cs0[0]'(by omega)) := List.getElem?_eq_getElem (by omega)
    rw [h2] at h1
    have := World.cell?_spot h1
    simpa [Addr.add] using this
  refine ⟨(List.range len).map F, _, rfl, ⟨some a, cap, by simp, by simpa using hl, hm, by simp, fun _ p hp => by cases hp; exact hsp, ?_⟩, by simpa using hlb⟩
  intro j y hj
  rw [nth_eq] at hj
  simp only [List.getElem?_map, Option.map_eq_some_iff] at hj
  obtain ⟨i, hi', rfl⟩ := hj
  have hil : i < len ∧ i = j := by
    obtain ⟨h1, h2⟩ := List.getElem?_eq_some_iff.1 hi'
    simp at h1 h2
    omega
  obtain ⟨hil, rfl⟩ := hil
  obtain ⟨cs', hc, hy⟩ := hF i hil
  obtain ⟨_, hcl, hat⟩ := World.cells?_some hc
  refine ⟨cs', hcl, ?_, hy⟩
  intro q u hu
  rw [nth_eq] at hu
  have hq : q < P.cellsOf e := by
    have := (List.getElem?_eq_some_iff.1 hu).1
    omega
  have h1 := hat q hq
  rw [hu] at h1
  exact h1
end Go.Proofs.YtldmfchamcpmmaaGreatDoor
namespace Go.Proofs.YtldmfchamcpmmaaGreatDoor
open Go Go.RowKit Go.ChangeShapes Go.WideShapes Go.Deep
theorem weightsEach_at {H : Type} {P : Program} {q : Nat} : ∀ (ts : List TypeId) (ds : List (DataW H)) (i : Nat) (t : TypeId) (d : DataW H), ts[i]? = some t → ds[i]? = some d → q ∈ d.weights P t → q ∈ DataW.weightsEach P ts ds
  | [], ds, i, t, d, h, _, _ => by simp at h
  | _ :: ts, [], i, t, d, _, h, _ => by simp at h
  | t' :: ts, d' :: ds, 0, t, d, h1, h2, hq => by
    simp at h1 h2; subst h1 h2
    simp only [DataW.weightsEach, List.mem_append]; exact .inl hq
  | t' :: ts, d' :: ds, i + 1, t, d, h1, h2, hq => by
    simp only [List.getElem?_cons_succ] at h1 h2
    simp only [DataW.weightsEach, List.mem_append]; exact .inr (weightsEach_at ts ds i t d h1 h2 hq)
/-- a struct, field by field -/
theorem trod_structW {P : Program} {H : Type} {enc : TypeId × Value → H} {w : World} {base : Nat} {spare : Nat → Bool} {held : Bool} {fuel : Nat} {t : TypeId} {cs : List Value} {x : DataW H × List MemPlace} {fields : Array Field} {m : Nat}
    (ht : P.underlying t = some (.struct fields)) (hC : P.cellsOf t = m) (h : DataW.trod enc P w base spare held fuel t cs = some x) :
    cs.length = m ∧ ∃ n, ∀ (i : Nat) (f : Field) (o z : Nat), fields[i]? = some f → f.offset = o → P.cellsOf f.type = z → ∃ y, DataW.trod enc P w base spare held n f.type ((cs.drop o).take z) = some y ∧ ∀ q ∈ y.1.weights P f.type, q ∈ x.1.weights P t := by
  obtain ⟨xs, n, _, hxe, hlen, hxl, hg⟩ := DataW.trod_struct ht h
  rw [hC] at hlen
  refine ⟨hlen, n, fun i f o z hf ho hz => ?_⟩
  subst ho hz
  obtain ⟨hlt, hfe⟩ := Array.getElem?_eq_some_iff.1 hf
  have hx : xs[i]? = some (xs[i]'(by rw [hxl]; exact hlt)) := List.getElem?_eq_getElem _
  have := hg i f hf
  rw [hx] at this
  refine ⟨_, this, fun q hq => ?_⟩
  rw [hxe]
  simp only [DataW.weights, ht]
  refine weightsEach_at _ _ i f.type _ ?_ ?_ hq
  · rw [List.getElem?_map, Array.getElem?_toList, hf]; rfl
  rw [List.getElem?_map, hx]; rfl
end Go.Proofs.YtldmfchamcpmmaaGreatDoor
namespace Go.Proofs.YtldmfchamcpmmaaGreatDoor
open Go Go.RowKit
/-- an instruction -/
structure Ins where
  op : Int
  a : Int
  b : Int
  c : Int
  l : List Int
  deriving Inhabited
def EIns : El Ins := fun H cs x => ∃ v, cs = [.int .u8 x.op, .int .u32 x.a, .int .u32 x.b, .int .i64 x.c, v] ∧ Sl 1 (EInt .u32) H v x.l ∧ InR .u8 x.op ∧ InR .u32 x.a ∧ InR .u32 x.b ∧ InR .i64 x.c
instance keepsIns : Keeps EIns := ⟨fun ho h => by
  obtain ⟨v, hv, hs, r⟩ := h
  exact ⟨v, hv, hs.old ho, r⟩⟩
instance oneIns : One EIns := ⟨fun h u hu => by
  obtain ⟨v, rfl, hs, _⟩ := h
  simp only [List.mem_cons, List.not_mem_nil, or_false] at hu
  rcases hu with rfl | rfl | rfl | rfl | rfl <;> first | rfl | exact hs.one⟩
theorem Sl.insAt {H : Heap} {v : Value} {l : List Ins} (h : Sl 5 EIns H v l) (j : Nat) (hj : j < l.length) : ∃ u, CellsH H ((vbase v).add (j * 5)) [.int .u8 (l.getD j default).op, .int .u32 (l.getD j default).a, .int .u32 (l.getD j default).b, .int .i64 (l.getD j default).c, u] ∧
    Sl 1 (EInt .u32) H u (l.getD j default).l ∧ InR .u8 (l.getD j default).op ∧ InR .u32 (l.getD j default).a ∧ InR .u32 (l.getD j default).b ∧ InR .i64 (l.getD j default).c := by
  obtain ⟨cs, hl, hc, u, rfl, hu, h1⟩ := h.at j hj
  exact ⟨u, hc, hu, h1⟩
end Go.Proofs.YtldmfchamcpmmaaGreatDoor
namespace Go.Proofs.YtldmfchamcpmmaaGreatDoor
open Go Go.RowKit Go.ChangeShapes Go.WideShapes Go.Deep
end Go.Proofs.YtldmfchamcpmmaaGreatDoor
namespace Go.Proofs.YtldmfchamcpmmaaGreatDoor
open Go Go.RowKit Go.ChangeShapes Go.WideShapes Go.Deep
theorem weightsEach_mem {H : Type} {P : Program} {q : Nat} : ∀ (ts : List TypeId) (ds : List (DataW H)) (i : Nat) (t : TypeId) (d : DataW H), ts[i]? = some t → ds[i]? = some d → q ∈ d.weights P t → q ∈ DataW.weightsEach P ts ds
  | [], ds, i, t, d, h, _, _ => by simp at h
  | _ :: ts, [], i, t, d, _, h, _ => by simp at h
  | t' :: ts, d' :: ds, 0, t, d, h1, h2, hq => by
    simp at h1 h2; subst h1 h2
    simp only [DataW.weightsEach, List.mem_append]; exact .inl hq
  | t' :: ts, d' :: ds, i + 1, t, d, h1, h2, hq => by
    simp only [List.getElem?_cons_succ] at h1 h2
    simp only [DataW.weightsEach, List.mem_append]; exact .inr (weightsEach_mem ts ds i t d h1 h2 hq)
theorem trod_onesW {P : Program} {H : Type} {enc : TypeId × Value → H} {w : World} {base : Nat} {spare : Nat → Bool} {held : Bool} {fuel : Nat} {t : TypeId} {cs : List Value} {x : DataW H × List MemPlace} {fields : Array Field} {m : Nat}
    (ht : P.underlying t = some (.struct fields)) (hone : oneCellFields P fields = true) (hC : P.cellsOf t = m) (h : DataW.trod enc P w base spare held fuel t cs = some x) :
    cs.length = m ∧ ∃ n, ∀ i f, fields[i]? = some f → i < m → ∃ c y, cs[i]? = some c ∧ DataW.trod enc P w base spare held n f.type [c] = some y ∧ ∀ q ∈ y.1.weights P f.type, q ∈ x.1.weights P t := by
  obtain ⟨xs, n, _, hxe, hlen, hxl, hg⟩ := DataW.trod_struct ht h
  rw [hC] at hlen
  refine ⟨hlen, n, fun i f hf him => ?_⟩
  obtain ⟨o0, k0⟩ := hone_of hone i f hf
  obtain ⟨hlt, hfe⟩ := Array.getElem?_eq_some_iff.1 hf
  have hcs : cs[i]? = some (cs[i]'(by omega)) := List.getElem?_eq_getElem (by omega)
  have hx : xs[i]? = some (xs[i]'(by rw [hxl]; exact hlt)) := List.getElem?_eq_getElem _
  have := hg i f hf
  rw [o0, k0, hx] at this
  refine ⟨_, xs[i]'(by rw [hxl]; exact hlt), hcs, ?_, fun q hq => ?_⟩
  · have e1 : (cs.drop i).take 1 = [cs[i]'(by omega)] := by rw [List.drop_eq_getElem_cons (by omega)]; rfl
    rw [e1] at this
    exact this
  rw [hxe]
  simp only [DataW.weights, ht]
  refine weightsEach_mem _ _ i f.type _ ?_ ?_ hq
  · rw [List.getElem?_map, Array.getElem?_toList, hf]; rfl
  rw [List.getElem?_map, hx]; rfl
def EInsB : El Ins := fun H cs x => EIns H cs x ∧ x.l.length ≤ 70368744177664
theorem opensW_ins : OpensW Tryz.prog 126 EInsB := by
  intro H enc w base spare held fuel cs x h hwt
  obtain ⟨hl, n, hg⟩ := trod_onesW (m := 5) U126 (by kernel_rfl) (by kernel_rfl) h
  obtain ⟨c0, y0, e0, h0, _⟩ := hg 0 _ rfl (by omega)
  obtain ⟨c1, y1, e1, h1, _⟩ := hg 1 _ rfl (by omega)
  obtain ⟨c2, y2, e2, h2, _⟩ := hg 2 _ rfl (by omega)
  obtain ⟨c3, y3, e3, h3, _⟩ := hg 3 _ rfl (by omega)
  obtain ⟨c4, y4, e4, h4, k4⟩ := hg 4 _ rfl (by omega)
  obtain ⟨a0, u0, w0⟩ := opens_int U5 _ _ _ _ _ _ _ _ _ h0
  obtain ⟨a1, u1, w1⟩ := opens_int U28 _ _ _ _ _ _ _ _ _ h1
  obtain ⟨a2, u2, w2⟩ := opens_int U28 _ _ _ _ _ _ _ _ _ h2
  obtain ⟨a3, u3, w3⟩ := opens_int U2 _ _ _ _ _ _ _ _ _ h3
  obtain ⟨l, v, u4, w4, w5⟩ := opensW_slice (n := 1) (b := 4) U24 (by kernel_rfl) (by kernel_rfl) (by decide) (opens_int U28).w _ _ _ _ _ _ _ _ _ h4 (fun q hq => hwt q (k4 q hq))
  simp only [List.cons.injEq, and_true] at u0 u1 u2 u3 u4
  subst u0 u1 u2 u3 u4
  refine ⟨⟨a0, a1, a2, a3, l⟩, ⟨_, ?_, w4, w0, w1, w2, w3⟩, by show l.length ≤ _; omega⟩
  match cs, hl with
  | [x0, x1, x2, x3, x4], _ =>
    simp only [List.getElem?_cons_zero, List.getElem?_cons_succ, Option.some.injEq] at e0 e1 e2 e3 e4
    rw [e0, e1, e2, e3, e4]
theorem opensW_inss : OpensW Tryz.prog 52 (ESlB 48 5 EInsB) := opensW_slice (n := 5) U52 (by kernel_rfl) (by kernel_rfl) (by decide) opensW_ins
theorem Sl.unW {H : Heap} {v : Value} {l : List Ins} (h : Sl 5 EInsB H v l) : Sl 5 EIns H v l ∧ ∀ x ∈ l, x.l.length ≤ 70368744177664 := by
  have h1 : Sl 5 EIns H v l := by
    obtain ⟨a, cap, k1, k2, k3, k4, k5, k6⟩ := h
    exact ⟨a, cap, k1, k2, k3, k4, k5, fun j x hj => by obtain ⟨cs, q1, q2, q3⟩ := k6 j x hj; exact ⟨cs, q1, q2, q3.1⟩⟩
  refine ⟨h1, fun s hs => ?_⟩
  obtain ⟨j, hj, rfl⟩ := List.getElem_of_mem hs
  obtain ⟨cs, _, _, hx⟩ := h.at j hj
  have := hx.2
  rwa [List.getD_eq_getElem?_getD, List.getElem?_eq_getElem hj] at this
end Go.Proofs.YtldmfchamcpmmaaGreatDoor
namespace Go.Proofs.YtldmfchamcpmmaaGreatDoor
open Go Go.RowKit
/-- all blocks that there were but gs are as they were -/
def KeepX (gs : List Nat) (H H2 : Heap) : Prop := H.size ≤ H2.size ∧ ∀ k, k < H.size → k ∉ gs → H2[k]? = H[k]?
theorem KeepX.refl (gs : List Nat) (H : Heap) : KeepX gs H H := ⟨Nat.le_refl _, fun _ _ _ => rfl⟩
theorem KeepX.old {gs : List Nat} {A B C : Heap} (o : Old A B) (h : KeepX gs B C) : KeepX gs A C := ⟨Nat.le_trans o.1 h.1, fun k hk hg => (h.2 k (by have := o.1; omega) hg).trans (o.2 k hk)⟩
theorem KeepX.upd {g : Nat} {gs : List Nat} {A B C : Heap} (u : Upd g A B) (hg : g ∈ gs) (h : KeepX gs B C) : KeepX gs A C :=
  ⟨by have := u.1; have := h.1; omega, fun k hk hn => (h.2 k (by have := u.1; omega) hn).trans (u.2 k (fun e => hn (e ▸ hg)))⟩
/-- what reads so while gs may change -/
def FK {α : Type} (E : El α) (H : Heap) (gs : List Nat) : El α := fun _ cs x => ∀ H2, KeepX gs H H2 → E H2 cs x
instance keepsFK {α : Type} {E : El α} {H : Heap} {gs : List Nat} : Keeps (FK E H gs) := ⟨fun _ h => h⟩
instance oneFK {α : Type} {E : El α} [k : One E] {H : Heap} {gs : List Nat} : One (FK E H gs) := ⟨fun h => k.one (h H (KeepX.refl gs H))⟩
/-- v owns a row whose elements hang on no block of gs, and not on the row itself -/
def OwnE {α : Type} (n : Nat) (E : El α) (e : TypeId) (B : Nat) (H : Heap) (v : Value) (gs : List Nat) (l : List α) : Prop := Own n (FK E H (vblock v :: gs)) e #[] B H v l
section
variable {α : Type} {n : Nat} {E F : El α} {e : TypeId} {H0 H H' : Heap} {B : Nat} {v : Value} {l : List α} {gs : List Nat}
theorem Own.mapE {H0' : Heap} (h : Own n E e H0 B H v l) (hm : ∀ cs x, E H0 cs x → F H0' cs x) : Own n F e H0' B H v l := by
  obtain ⟨flat, h1, h2⟩ := h
  exact ⟨flat, h1, fun j x hj => hm _ _ (h2 j x hj)⟩
theorem Sl.mapE (h : Sl n E H v l) (hm : ∀ cs x, E H cs x → F H cs x) : Sl n F H v l := by
  obtain ⟨a, cap, hv, h1, h2, h3, h4, h5⟩ := h
  refine ⟨a, cap, hv, h1, h2, h3, h4, fun j x hj => ?_⟩
  obtain ⟨cs, hl, hc, hx⟩ := h5 j x hj
  exact ⟨cs, hl, hc, hm _ _ hx⟩
theorem OwnE.nil (n : Nat) (E : El α) (e : TypeId) (B : Nat) (H : Heap) (gs : List Nat) : OwnE n E e B H (.slice none 0 0) gs ([] : List α) := Own.nil _ _ _ _ _ _
theorem OwnE.own (h : OwnE n E e B H v gs l) : Own n (FK E H (vblock v :: gs)) e #[] B H v l := h
theorem OwnE.lt (h : OwnE n E e B H v gs l) : v = .slice none 0 0 ∨ (B ≤ vblock v ∧ vblock v < H.size) := Own.lt h
theorem OwnE.old (h : OwnE n E e B H v gs l) (o : Old H H') : OwnE n E e B H' v gs l := (Own.old h o).mapE fun cs x hf H2 k => hf H2 (k.old o)
theorem OwnE.upd {g : Nat} (h : OwnE n E e B H v gs l) (u : Upd g H H') (hg : g ∈ gs) (hne : v = .slice none 0 0 ∨ vblock v ≠ g) : OwnE n E e B H' v gs l :=
  (Own.upd h u hne).mapE fun cs x hf H2 k => hf H2 (k.upd u (List.mem_cons_of_mem _ hg))
theorem OwnE.sl (h : OwnE n E e B H v gs l) (hn : 0 < n) : Sl n E H v l := (Own.sl h (emptyOld H) hn).mapE fun cs x hf => hf H (KeepX.refl _ H)
theorem Grown.oldBE (hg : Grown v H H') (hown : OwnE n E e B H v gs l) (hB : B ≤ H.size) : OldB B H H' := Grown.oldB hg (OwnE.own hown) hB
theorem Own.keepN (h : Own n E e H0 B H v l) (hk : v = .slice none 0 0 ∨ H'[vblock v]? = H[vblock v]?) : Own n E e H0 B H' v l := by
  rcases hk with hk | hk
  · subst hk
    obtain ⟨flat, ⟨h0, h1⟩, h2⟩ := h
    rcases h1 with h1 | ⟨g, cap, cur, hv, r⟩
    · exact ⟨flat, ⟨h0, .inl h1⟩, h2⟩
    cases hv
  exact h.keep hk
/-- a row made lately hangs on no older block -/
theorem fk_own {k : IntKind} {bs : List Int} {c : Value} (h : Own 1 (EInt k) e H0 B H c bs) (hg : ∀ g ∈ gs, g < B) : ∀ H2, KeepX gs H H2 → Sl 1 (EInt k) H2 c bs := by
  intro H2 kx
  have h2 : Own 1 (EInt k) e #[] B H c bs := h.mapE fun cs x hx => hx
  refine (h2.keepN ?_ : Own 1 (EInt k) e #[] B H2 c bs).sl (emptyOld _) (by omega)
  rcases h.lt with hl | hl
  · exact .inl hl
  exact .inr (kx.2 _ hl.2 (fun hm => by have := hg _ hm; omega))
end
section
variable {P : Program} {En : Env} {H : Heap} {o : Oper} {v : Value} {e : TypeId} {B : Nat} {α : Type} {F : El α} {l : List α} {n : Nat} {gs : List Nat}
theorem M.appendE [Inhabited α] [k1 : One F] {T : TypeId} {s x : Operand} {u : Value} {m : List α} {z : Value} {by' : Nat} (ho : o.op = .call { callee := .builtin .append, args := #[s, x], argTypes := #[T, T] }) (ht : P.underlying T = some (.slice e)) (hi : (P.info? e).map (fun i => (i.zero, i.size, i.bytes)) = some (some z, n, by')) (hz : z.cells.size = n) (hn : 0 < n)
    (hs : ev En s = some v) (hx : ev En x = some u) (hown : OwnE n F e B H v gs l) (hm : Sl n (FK F H (vblock v :: gs)) H u m) (hB : B ≤ H.size) (hsz : (l.length + m.length) * by' ≤ 140737488355328) (hlen : l.length + m.length ≤ maxLen) :
    RunM P En H o (fun v' H' => OwnE n F e B H' v' gs (l ++ m) ∧ Grown v H H' ∧ Nx H v v') := by
  intro ρ w ha hw
  obtain ⟨v', w', h1, h2, h3, h4, h5⟩ := M.appendN (k1 := oneFK) ho ht hi hz hn hs hx (OwnE.own hown) hm (fun _ _ h _ => h) hB hsz hlen ρ w ha hw
  by_cases hn' : v' = .slice none 0 0
  · subst hn'
    have hz0 : l ++ m = [] := by
      obtain ⟨flat, ⟨_, hr⟩, _⟩ := h3
      rcases hr with ⟨_, hr⟩ | ⟨g, cap, cur, hv, _⟩
      · exact List.eq_nil_of_length_eq_zero hr
      cases hv
    rw [hz0] at h3 ⊢
    exact ⟨_, w', h1, h2, OwnE.nil _ _ _ _ _ _, h4, h5⟩
  refine ⟨v', w', h1, h2, h3.mapE fun cs x hf H2 k => hf H2 ?_, h4, h5⟩
  refine ⟨Nat.le_trans h4.1 k.1, fun j hj hg => ?_⟩
  have hj2 : j ≠ vblock v := fun e => hg (e ▸ List.mem_cons_self ..)
  rw [k.2 j (by have := h4.1; omega) ?_, h4.2 j hj (.inr hj2)]
  intro hm2
  rcases List.mem_cons.1 hm2 with e | e
  · rcases h5 with n1 | ⟨_, n2⟩ | n3
    · exact hn' n1
    · exact hj2 (e.trans n2)
    omega
  exact hg (List.mem_cons_of_mem _ e)
end
theorem Own.litI {k : IntKind} {H H' : Heap} {e : TypeId} {B : Nat} {l : List Int} {m : Nat} (hn : New H (l.map (Value.int k)) e H') (hB : B ≤ H.size) (hm : m = l.length) (hmx : m ≤ 1000000000) (h : ∀ x ∈ l, InR k x) : Own 1 (EInt k) e #[] B H' (.slice (some ⟨H.size, 0, none⟩) m m) l :=
  Own.lit (E := EInt k) (H0 := #[]) hn hB hm (by unfold maxLen; omega) (by simp) (fun j x u hj hu => by
    rw [nth_eq, List.getElem?_map] at hu
    rw [nth_eq] at hj
    rw [hj] at hu
    cases hu
    exact ⟨rfl, h x (List.mem_of_getElem? hj)⟩)
theorem OwnE.blt {α : Type} {n : Nat} {E : El α} {e : TypeId} {H : Heap} {B : Nat} {v : Value} {l : List α} {gs : List Nat} (h : OwnE n E e B H v gs l) (h0 : 0 < H.size) : vblock v < H.size := by
  rcases h.lt with h | h
  · subst h; exact h0
  exact h.2
theorem fin3 {a b : Value} (h : a = b) : Ending.returned a = Ending.returned b := congrArg _ h
/-- a byte's cell -/
def B8 (c : UInt8) : Value := .int .u8 (c.toNat : Int)
/-- The slice at a, of capacity cap, reads as the bytes l (its length is l's). -/
structure Bs (w : World) (a : Option Addr) (cap : Nat) (l : List UInt8) : Prop where
  fits : l.length ≤ cap
  max : cap ≤ maxLen
  none : a = Option.none → cap = 0
  cell : ∀ j c, l[j]? = some c → ∃ b off, a = some ⟨b, off, Option.none⟩ ∧ w.cell? ⟨b, off + j, Option.none⟩ = some (.int .u8 (c.toNat : Int))
/-- A value that is a slice which reads as l. -/
def IsBs (w : World) (v : Value) (l : List UInt8) : Prop := ∃ a cap, v = .slice a l.length cap ∧ Bs w a cap l
section
variable {w w' : World} {a : Option Addr} {cap : Nat} {l : List UInt8} {B : Nat} {v : Value}
theorem Bs.len (h : Bs w a cap l) : l.length ≤ 9223372036854775807 := by
  have h1 := h.fits; have h2 := h.max; unfold maxLen at h2; omega
/-- what is read at a place -/
theorem Bs.at (h : Bs w a cap l) (k : Nat) (hk : k < l.length) :
    ∃ b off c, a = some ⟨b, off, Option.none⟩ ∧ Hid (l[k]? = some c) ∧ c.toNat < 256 ∧ w.cell? ⟨b, off + k, Option.none⟩ = some (.int .u8 (c.toNat : Int)) := by
  obtain ⟨b, off, ha, hc⟩ := h.cell k l[k] (by simp [hk])
  exact ⟨b, off, l[k], ha, Lib.hid (by simp [hk]), UInt8.toNat_lt _, hc⟩
/-- a nil slice -/
theorem Bs.nil (w : World) : Bs w Option.none 0 [] := ⟨by simp, by unfold maxLen; omega, fun _ => rfl, by simp⟩
theorem IsBs.nil (w : World) : IsBs w (.slice Option.none 0 0) [] := ⟨_, _, rfl, Bs.nil w⟩
/-- what a row of the call's own holds, read -/
theorem IsBs.own {n : Nat} {e : TypeId} (h : w.ownsRow B e 1 v n (l.map B8)) : IsBs w v l := by
  have hl : n = l.length := by have := h.1; simp at this; omega
  subst hl
  rcases h.2 with ⟨rfl, h0⟩ | ⟨g, c, cur, rfl, _, hg, h1, h2, _, _⟩
  · have : l = [] := List.eq_nil_of_length_eq_zero h0
    subst this; exact IsBs.nil w
  refine ⟨_, _, rfl, h1, h2, by simp, fun j c hj => ⟨g, 0, rfl, ?_⟩⟩
  have := h.cells (g := g) rfl j (B8 c) (by simp [hj])
  simp only [Addr.add_lit] at this
  exact this
/-- a beginning of what is read -/
theorem Bs.take (h : Bs w a cap l) (k : Nat) : Bs w a cap (l.take k) :=
  ⟨by have := h.fits; simp; omega, h.max, h.none, fun j c hj => h.cell j c (by rw [List.getElem?_take] at hj; split at hj; exact hj; cases hj)⟩
/-- what is left behind a cut, as the model has it -/
theorem Bs.drop (h : Bs w a cap l) (k : Nat) (hk : k ≤ l.length) : Bs w (if cap = k then a else a.map (·.add k)) (cap - k) (l.drop k) := by
  have h1 := h.fits
  have h2 := h.max
  refine ⟨by simp; omega, by omega, ?_, ?_⟩
  · intro hn
    split at hn
    · omega
    have := h.none (by simpa using hn); omega
  intro j c hj
  rw [List.getElem?_drop] at hj
  obtain ⟨b, off, rfl, hc⟩ := h.cell (k + j) c hj
  have hlt : k + j < l.length := (List.getElem?_eq_some_iff.1 hj).1
  rw [if_neg (by omega)]
  refine ⟨b, off + k, ?_, by rw [Nat.add_assoc]; exact hc⟩
  simp only [Option.map_some, Addr.add]
  split
  · next h0 => simp [h0]
  rfl
end
theorem ownNil (w : World) (B : Nat) : w.ownsRow B 5 1 (.slice none 0 0) 0 (([] : List UInt8).map B8) := World.ownsRow_nil w B _ 1
theorem info8 : (Tryz.prog.info? 5).map (fun i => (i.zero, i.size, i.bytes)) = some (some (.int .u8 0), 1, 1) := by kernel_rfl
theorem grown_trans {w1 w2 w3 : World} {row : Option Nat} (h : w1.grownBy w2 row) (k : w2.grownBy w3 row) (_ : ∀ b, row = some b → b < w1.heap.size) : w1.grownBy w3 row :=
  ⟨k.os.trans h.os, k.tape.trans h.tape, k.output.trans h.output, Nat.le_trans h.size k.size, fun b hb hr => (k.block b (Nat.lt_of_lt_of_le hb h.size) hr).trans (h.block b hb hr)⟩
/-- below its base a world is as before an append to a row of the call's own -/
theorem below_grown {W w w' : World} {B e size n : Nat} {v : Value} {xs : List Value} (h : Below B W w) (hg : w.grownBy w' v.ownBlock) (hown : w.ownsRow B e size v n xs) (hB : B ≤ w.heap.size) : Below B W w' :=
  h.grown hg hB fun k hk => (hown.lt k hk).1
/-- append of one byte, just laid in a new block, to a row of the call's own -/
theorem app1 {w : World} {ops : Array Oper} {rest : List Oper} {o : Oper} {a : Act} {Q : Exit → Act → World → Prop} (hgd : o.guard = none) (s x : Operand)
    (ho : o.op = .call { callee := .builtin .append, args := #[s, x], argTypes := #[34, 34] })
    (B : Nat) (v : Value) (n : Nat) (l : List UInt8) (hs : a.eval s = v) (hown : w.ownsRow B 5 1 v n (l.map B8)) (y : Int) (c : UInt8) (hy : y = (c.toNat : Int))
    (hx : a.eval x = .slice (some ⟨w.heap.size, 0, none⟩) 1 1) (hn : n < 140737488355000) (hB : B ≤ w.heap.size)
    (h : ∀ v' w', w'.ownsRow B 5 1 v' (n + 1) ((l ++ [c]).map B8) → w.grownBy w' v.ownBlock → wpList Tryz.prog ops Q rest (a.put o.dst v') w') :
    wpList Tryz.prog ops Q (o :: rest) a (w.alloc (.cells #[.int .u8 y] 5)) := by
  subst hy
  obtain ⟨i0, hi, hz0, hz1, hz2⟩ := info_parts info8
  refine wpList_append_own _ hgd s x 34 ho B 5 i0 (.int .u8 0) 1 1 U34 hi hz0 hz1 hz2 rfl (by decide) v n (l.map B8) hs (hown.alloc _)
    ⟨w.heap.size, 0, none⟩ 1 1 [.int .u8 (c.toNat : Int)] hx rfl ?_ ?_ ?_ ?_ ?_ ?_
  · intro j u hj
    match j, hj with
    | 0, hj => simp at hj; subst hj; simp [Addr.add]
  · intro u hu; simp at hu; subst hu; rfl
  · unfold maxLen; omega
  · omega
  · simp; omega
  intro v' w' h1 h2 _
  refine h v' w' (by simpa [B8] using h1) (grown_trans (World.grownBy_alloc w _ _) h2 (fun k hk => by have := hown.lt k hk; omega))
/-- append of all of a slice that is read to a row of the call's own -/
theorem appS {w : World} {ops : Array Oper} {rest : List Oper} {o : Oper} {a : Act} {Q : Exit → Act → World → Prop} (hgd : o.guard = none) (s x : Operand)
    (ho : o.op = .call { callee := .builtin .append, args := #[s, x], argTypes := #[34, 34] })
    (B : Nat) (v : Value) (n : Nat) (l : List UInt8) (hs : a.eval s = v) (hown : w.ownsRow B 5 1 v n (l.map B8)) (u : Value) (m : List UInt8)
    (hx : a.eval x = u) (hm : IsBs w u m) (hn : n + m.length < 140737488355000) (hB : B ≤ w.heap.size)
    (h : ∀ v' w', w'.ownsRow B 5 1 v' (n + m.length) ((l ++ m).map B8) → w.grownBy w' v.ownBlock → wpList Tryz.prog ops Q rest (a.put o.dst v') w') :
    wpList Tryz.prog ops Q (o :: rest) a w := by
  obtain ⟨i0, hi, hz0, hz1, hz2⟩ := info_parts info8
  obtain ⟨ad, cap, rfl, hb⟩ := hm
  rcases ad with _ | ad
  · have h0 := hb.none rfl
    have h1 := hb.fits
    have h2 : m = [] := List.eq_nil_of_length_eq_zero (by omega)
    subst h2; subst h0
    refine wpList_append_own_none hgd s x 34 ho B 5 i0 1 U34 hi v n (l.map B8) hs hown hx ?_
    exact h v w (by simpa using hown) (World.grownBy.refl _ _)
  refine wpList_append_own _ hgd s x 34 ho B 5 i0 (.int .u8 0) 1 1 U34 hi hz0 hz1 hz2 rfl (by decide) v n (l.map B8) hs hown
    ad m.length cap (m.map B8) hx (by simp) ?_ ?_ ?_ ?_ ?_ ?_
  · intro j u hj
    simp only [List.getElem?_map, Option.map_eq_some_iff] at hj
    obtain ⟨c, hj, rfl⟩ := hj
    obtain ⟨b, off, hp, hc⟩ := hb.cell j c hj
    obtain rfl := Option.some.inj hp
    simp only [Addr.add_lit]
    exact hc
  · intro u hu; simp only [List.mem_map] at hu; obtain ⟨c, _, rfl⟩ := hu; rfl
  · unfold maxLen; omega
  · omega
  · exact hB
  intro v' w' h1 h2 _
  exact h v' w' (by simpa using h1) h2
end Go.Proofs.YtldmfchamcpmmaaGreatDoor
namespace Go.Proofs.YtldmfchamcpmmaaGreatDoor.Leb
/-- the bytes' low seven bits, the first one lowest -/
def val : List UInt8 → Nat
  | [] => 0
  | c :: r => c.toNat % 128 + 128 * val r
/-- of how many bytes is the number with which l begins; 0: it does not end -/
def run : List UInt8 → Nat
  | [] => 0
  | c :: r => if c.toNat < 128 then 1 else if run r = 0 then 0 else run r + 1
def high (l : List UInt8) (k : Nat) : Prop := ∀ j c, j < k → l[j]? = some c → 128 ≤ c.toNat
theorem high_zero (l : List UInt8) : high l 0 := fun j c h _ => by omega
theorem high_succ {l : List UInt8} {k : Nat} {c : UInt8} (h : high l k) (hc : l[k]? = some c) (h1 : 128 ≤ c.toNat) : high l (k + 1) := by
  intro j d hj hd
  by_cases e : j = k
  · subst e; rw [hc] at hd; cases hd; exact h1
  exact h j d (by omega) hd
theorem high_cons {l : List UInt8} {k : Nat} {c : UInt8} : high (c :: l) (k + 1) ↔ 128 ≤ c.toNat ∧ high l k := by
  constructor
  · intro h
    exact ⟨h 0 c (by omega) rfl, fun j d hj hd => h (j + 1) d (by omega) (by simpa using hd)⟩
  intro ⟨h1, h2⟩ j d hj hd
  cases j with
  | zero => simp at hd; subst hd; exact h1
  | succ j => exact h2 j d (by omega) (by simpa using hd)
theorem run_eq {l : List UInt8} {k : Nat} {c : UInt8} (h : high l k) (hc : l[k]? = some c) (h1 : c.toNat < 128) : run l = k + 1 := by
  induction l generalizing k with
  | nil => simp at hc
  | cons d l ih =>
    cases k with
    | zero => simp at hc; subst hc; simp [run, h1]
    | succ k =>
      obtain ⟨h2, h3⟩ := high_cons.1 h
      have := ih h3 (by simpa using hc)
      simp only [run]; rw [if_neg (by omega), if_neg (by omega), this]
theorem run_end {l : List UInt8} (h : high l l.length) : run l = 0 := by
  induction l with
  | nil => rfl
  | cons d l ih =>
    obtain ⟨h2, h3⟩ := high_cons.1 h
    have := ih h3
    simp only [run]; rw [if_neg (by omega), if_pos this]
theorem run_gt {l : List UInt8} {k : Nat} (h : high l k) (hk : k ≤ l.length) : run l = 0 ∨ k < run l := by
  induction l generalizing k with
  | nil => left; rfl
  | cons d l ih =>
    cases k with
    | zero => omega
    | succ k =>
      obtain ⟨h2, h3⟩ := high_cons.1 h
      simp only [run]; rw [if_neg (by omega)]
      rcases ih h3 (by simpa using hk) with h | h
      · left; rw [if_pos h]
      right; rw [if_neg (by omega)]; omega
theorem run_le (l : List UInt8) : run l ≤ l.length := by
  induction l with
  | nil => simp [run]
  | cons d l ih => simp only [run, List.length_cons]; split <;> (try split) <;> omega
theorem val_lt (l : List UInt8) : val l < 128 ^ l.length := by
  induction l with
  | nil => simp [val]
  | cons c l ih => simp only [val, List.length_cons, Nat.pow_succ]; omega
theorem val_snoc (l : List UInt8) (c : UInt8) : val (l ++ [c]) = val l + 128 ^ l.length * (c.toNat % 128) := by
  induction l with
  | nil => simp [val]
  | cons d l ih =>
    simp only [List.cons_append, val, ih, List.length_cons, Nat.pow_succ, Nat.mul_add, Nat.mul_comm (128 ^ l.length) 128, Nat.mul_assoc]
    omega
theorem take_snoc {l : List UInt8} {k : Nat} {c : UInt8} (h : l[k]? = some c) : l.take (k + 1) = l.take k ++ [c] := by
  rw [List.take_add_one, h]; rfl
/-- the number that bytes are -/
def num (sg : Bool) (l : List UInt8) : Int := if sg = true ∧ 128 ^ l.length ≤ 2 * val l then (val l : Int) - 128 ^ l.length else val l
/-- the number fits so many bytes -/
def fit7 (sg : Bool) (L : Nat) (z : Int) : Prop := if sg = true then -(128 ^ L : Int) ≤ 2 * z ∧ 2 * z < 128 ^ L else 0 ≤ z ∧ z < 128 ^ L
theorem cast_pow (L : Nat) : ((128 ^ L : Nat) : Int) = (128 : Int) ^ L := by simp
theorem num_fit (sg : Bool) (l : List UInt8) : fit7 sg l.length (num sg l) := by
  have h := val_lt l
  have e := cast_pow l.length
  unfold fit7 num
  generalize (128 : Int) ^ l.length = p at *
  generalize 128 ^ l.length = q at *
  cases sg
  · simp; omega
  simp only [true_and, if_true]
  split <;> omega
theorem fit7_succ (sg : Bool) (L : Nat) (z : Int) (hL : 1 ≤ L) : fit7 sg (L + 1) z ↔ fit7 sg L (z / 128) := by
  unfold fit7
  have e : (128 : Int) ^ (L + 1) = 128 * 128 ^ L := by rw [Int.pow_succ, Int.mul_comm]
  rw [e]
  have ev : sg = true → L ≠ 0 → ∃ r : Int, (128 : Int) ^ L = 2 * r := by
    intro _ h
    obtain ⟨k, rfl⟩ : ∃ k, L = k + 1 := ⟨L - 1, by omega⟩
    exact ⟨64 * 128 ^ k, by rw [Int.pow_succ, Int.mul_comm]; omega⟩
  cases sg
  · simp only [Bool.false_eq_true, if_false]
    generalize (128 : Int) ^ L = p at *
    omega
  simp only [if_true]
  obtain ⟨r, hr⟩ := ev rfl (by omega)
  rw [hr]; omega
theorem fit7_one (sg : Bool) (z : Int) : fit7 sg 1 z ↔ if sg = true then -64 ≤ z ∧ z < 64 else 0 ≤ z ∧ z < 128 := by
  unfold fit7; cases sg <;> simp <;> omega
/-- the number of bytes behind a first one -/
theorem num_cons (sg : Bool) (c : UInt8) (l : List UInt8) (hl : l ≠ []) : num sg (c :: l) = (c.toNat % 128 : Nat) + 128 * num sg l := by
  have e : 128 ^ (l.length + 1) = 128 * 128 ^ l.length := by rw [Nat.pow_succ, Nat.mul_comm]
  have e' := cast_pow l.length
  have e2 : (128 : Int) ^ (l.length + 1) = 128 * 128 ^ l.length := by rw [Int.pow_succ, Int.mul_comm]
  have h := val_lt l
  have hp : l.length ≠ 0 := by simpa using hl
  obtain ⟨k, hk⟩ : ∃ k, l.length = k + 1 := ⟨l.length - 1, by omega⟩
  have e3 : 128 ^ l.length = 2 * (64 * 128 ^ k) := by rw [hk, Nat.pow_succ]; omega
  unfold num
  simp only [val, List.length_cons, e, e2]
  generalize (128 : Int) ^ l.length = p at *
  generalize 128 ^ l.length = q at *
  generalize 64 * 128 ^ k = r at *
  by_cases hs : sg = true
  · simp only [hs, true_and]
    by_cases h2 : q ≤ 2 * val l
    · rw [if_pos (by omega), if_pos h2]; omega
    rw [if_neg (by omega), if_neg h2]; omega
  simp only [hs, Bool.false_eq_true, false_and, if_false]; omega
theorem num_one (sg : Bool) (c : UInt8) : num sg [c] = if sg = true ∧ 64 ≤ c.toNat % 128 then ((c.toNat % 128 : Nat) : Int) - 128 else (c.toNat % 128 : Nat) := by
  unfold num
  cases sg
  · simp [val]
  simp only [val, List.length_cons, List.length_nil, true_and]
  by_cases h : 64 ≤ c.toNat % 128
  · rw [if_pos (by omega), if_pos h]; omega
  rw [if_neg (by omega), if_neg h]; omega
/-- the number of bytes ahead of a last one -/
theorem num_snoc (sg : Bool) (l : List UInt8) (c : UInt8) : num sg (l ++ [c]) = val l + 128 ^ l.length * num sg [c] := by
  induction l with
  | nil => simp [val]
  | cons d l ih =>
    rw [List.cons_append, num_cons sg d (l ++ [c]) (by simp), ih]
    simp only [val, List.length_cons, Int.pow_succ]
    generalize (128 : Int) ^ l.length = p
    generalize num sg [c] = q
    rw [Int.mul_add, ← Int.mul_assoc, Int.mul_comm 128 p]; omega
/-- so many bytes of a number, the lowest first -/
def digs : Nat → Int → List UInt8
  | 0, _ => []
  | 1, z => [UInt8.ofNat (z % 128).toNat]
  | n + 2, z => UInt8.ofNat ((z % 128).toNat + 128) :: digs (n + 1) (z / 128)
theorem digs_length (n : Nat) : ∀ z, (digs n z).length = n := by
  induction n with
  | zero => intro z; rfl
  | succ n ih =>
    intro z
    cases n with
    | zero => rfl
    | succ n => simp [digs, ih]
theorem toNat_lo (z : Int) : (UInt8.ofNat (z % 128).toNat).toNat = (z % 128).toNat := by
  simp; omega
theorem toNat_hi (z : Int) : (UInt8.ofNat ((z % 128).toNat + 128)).toNat = (z % 128).toNat + 128 := by
  simp; omega
theorem digs_run (n : Nat) : ∀ (z : Int) (r : List UInt8), run (digs (n + 1) z ++ r) = n + 1 := by
  induction n with
  | zero => intro z r; simp only [digs, List.cons_append, List.nil_append, run, toNat_lo]; rw [if_pos (by omega)]
  | succ n ih => intro z r; simp only [digs, List.cons_append, run, toNat_hi, ih]; rw [if_neg (by omega), if_neg (by omega)]
theorem digs_num (sg : Bool) (n : Nat) : ∀ z, fit7 sg (n + 1) z → num sg (digs (n + 1) z) = z := by
  induction n with
  | zero =>
    intro z h
    rw [fit7_one] at h
    simp only [digs, num_one, toNat_lo]
    cases sg
    · simp at h ⊢; omega
    simp at h ⊢; split <;> omega
  | succ n ih =>
    intro z h
    rw [fit7_succ _ _ _ (by omega)] at h
    have hne : digs (n + 1) (z / 128) ≠ [] := by intro e; have := digs_length (n + 1) (z / 128); rw [e] at this; simp at this
    simp only [digs]
    rw [num_cons _ _ _ hne, ih _ h, toNat_hi]
    omega
/-- small enough for one byte -/
def small (sg : Bool) (z : Int) : Bool := if sg then decide (-64 ≤ z ∧ z < 64) else decide (z < 128)
/-- the fewest bytes of a number (at most so many) -/
def ap (sg : Bool) : Nat → Int → List UInt8
  | 0, _ => []
  | f + 1, z => if small sg z then [UInt8.ofNat (z % 128).toNat] else UInt8.ofNat ((z % 128).toNat + 128) :: ap sg f (z / 128)
/-- how many these are -/
def need (sg : Bool) : Nat → Int → Nat
  | 0, _ => 0
  | f + 1, z => if small sg z then 1 else need sg f (z / 128) + 1
theorem small_iff {sg : Bool} {z : Int} (h : sg = true ∨ 0 ≤ z) : small sg z = true ↔ fit7 sg 1 z := by
  rw [fit7_one]; unfold small; cases sg
  · simp at h ⊢; omega
  simp
theorem need_pos (sg : Bool) (f : Nat) (z : Int) : 1 ≤ need sg (f + 1) z := by simp only [need]; split <;> omega
theorem need_le (sg : Bool) (f : Nat) : ∀ z, need sg f z ≤ f := by
  induction f with
  | zero => intro z; simp [need]
  | succ f ih => intro z; simp only [need]; have := ih (z / 128); split <;> omega
theorem fit7_nonneg {sg : Bool} {L : Nat} {z : Int} (h : fit7 sg L z) : sg = true ∨ 0 ≤ z := by
  unfold fit7 at h; cases sg
  · right; simp at h; omega
  left; rfl
theorem ap_digs (sg : Bool) (f : Nat) : ∀ z, fit7 sg (f + 1) z → ap sg (f + 1) z = digs (need sg (f + 1) z) z := by
  induction f with
  | zero =>
    intro z h
    have hs := (small_iff (fit7_nonneg h)).2 h
    simp only [ap, need, hs, if_true, digs]
  | succ f ih =>
    intro z h
    rw [fit7_succ _ _ _ (by omega)] at h
    rw [ap, need]
    split
    · rfl
    rw [ih _ h]
    obtain ⟨k, hk⟩ : ∃ k, need sg (f + 1) (z / 128) = k + 1 := ⟨need sg (f + 1) (z / 128) - 1, by have := need_pos sg f (z / 128); omega⟩
    rw [hk]; rfl
theorem need_fit (sg : Bool) (f : Nat) : ∀ z, fit7 sg (f + 1) z → fit7 sg (need sg (f + 1) z) z := by
  induction f with
  | zero =>
    intro z h
    have hs := (small_iff (fit7_nonneg h)).2 h
    simpa only [need, hs, if_true] using h
  | succ f ih =>
    intro z h
    have hn := fit7_nonneg h
    rw [fit7_succ _ _ _ (by omega)] at h
    rw [need]
    split
    · exact (small_iff hn).1 ‹_›
    rw [fit7_succ _ _ _ (need_pos _ _ _)]; exact ih _ h
theorem need_min (sg : Bool) (f : Nat) : ∀ (n : Nat) z, (sg = true ∨ 0 ≤ z) → 1 ≤ n → n < need sg f z → ¬ fit7 sg n z := by
  induction f with
  | zero => intro n z _ h1 h2; simp [need] at h2
  | succ f ih =>
    intro n z hz h1 h2
    rw [need] at h2
    split at h2
    · omega
    intro hf
    have hs : ¬ fit7 sg 1 z := fun h => ‹¬ small sg z = true› ((small_iff hz).2 h)
    by_cases e : n = 1
    · subst e; exact hs hf
    obtain ⟨k, rfl⟩ : ∃ k, n = k + 1 := ⟨n - 1, by omega⟩
    rw [fit7_succ _ _ _ (by omega)] at hf
    exact ih k _ (by rcases hz with h | h; exact .inl h; right; omega) (by omega) (by omega) hf
/-- a number of so many bits -/
def fits (sg : Bool) (b : Nat) (z : Int) : Bool := if sg then decide (-(2 ^ b : Int) ≤ 2 * z ∧ 2 * z < 2 ^ b) else decide (z < 2 ^ b)
/-- THE NUMBER with which bytes begin, of so many bits, and its bytes -/
def tk (sg : Bool) (l : List UInt8) (bits : Int) : Option (Int × Nat) :=
  if bits < 1 ∨ 64 < bits ∨ run l = 0 ∨ (bits + 6) / 7 < run l then none
  else if fits sg bits.toNat (num sg (l.take (run l))) then some (num sg (l.take (run l)), run l) else none
theorem tk_bits {sg : Bool} {l : List UInt8} {bits : Int} (h : bits < 1 ∨ 64 < bits) : tk sg l bits = none := by
  unfold tk; rw [if_pos (by omega)]
/-- it does not end -/
theorem tk_end {sg : Bool} {l : List UInt8} {bits : Int} (h : high l l.length) : tk sg l bits = none := by
  unfold tk; rw [if_pos (by right; right; left; exact run_end h)]
/-- it is too long -/
theorem tk_long {sg : Bool} {l : List UInt8} {bits : Int} {k : Nat} (h : high l k) (hk : k ≤ l.length) (hb : bits ≤ 7 * k) : tk sg l bits = none := by
  unfold tk; rw [if_pos]; rcases run_gt h hk with h | h
  · omega
  omega
/-- the number of a last byte at a place -/
theorem tk_at {sg : Bool} {l : List UInt8} {bits : Int} {k : Nat} {c : UInt8} (h0 : 1 ≤ bits) (h1 : bits ≤ 64) (h : high l k) (hc : l[k]? = some c) (h2 : c.toNat < 128) (hb : 7 * k < bits) :
    tk sg l bits = if fits sg bits.toNat (val (l.take k) + 128 ^ k * num sg [c]) then some (val (l.take k) + 128 ^ k * num sg [c], k + 1) else none := by
  have hr := run_eq h hc h2
  have hlt : k < l.length := (List.getElem?_eq_some_iff.1 hc).1
  have hn : num sg (l.take (run l)) = val (l.take k) + 128 ^ k * num sg [c] := by
    rw [hr, take_snoc hc, num_snoc]; simp [Nat.min_eq_left (Nat.le_of_lt hlt)]
  unfold tk
  rw [if_neg (by omega), hn, hr]
theorem pow128 (k : Nat) : (128 : Int) ^ k = 2 ^ (7 * k) := by rw [Int.pow_mul]; rfl
/-- far from the last bit every byte may be the last -/
theorem fits_far {sg : Bool} {b k : Nat} {v x : Int} (hv : 0 ≤ v) (hv2 : v < 128 ^ k) (hx : fit7 sg 1 x) (hb : 7 * (k + 1) ≤ b) : fits sg b (v + 128 ^ k * x) = true := by
  obtain ⟨d, rfl⟩ : ∃ d, b = 7 * (k + 1) + d := ⟨b - 7 * (k + 1), by omega⟩
  rw [fit7_one] at hx
  have hp : (0 : Int) < 128 ^ k := by omega
  have e : (2 : Int) ^ (7 * (k + 1) + d) = 128 ^ k * (128 * 2 ^ d) := by rw [Int.pow_add, ← pow128, Int.pow_succ, Int.mul_assoc]
  have hd : (1 : Int) ≤ 2 ^ d := by have := Int.pow_pos (n := 2) (m := d) (by omega); omega
  unfold fits
  rw [e]
  generalize (128 : Int) ^ k = p at *
  generalize (2 : Int) ^ d = q at *
  cases sg
  · simp only [Bool.false_eq_true, if_false, decide_eq_true_eq] at hx ⊢
    have h1 : p * x ≤ p * 127 := Int.mul_le_mul_of_nonneg_left (by omega) (by omega)
    have h2 : p * 128 ≤ p * (128 * q) := Int.mul_le_mul_of_nonneg_left (by omega) (by omega)
    omega
  simp only [if_true, decide_eq_true_eq] at hx ⊢
  have h1 : p * x ≤ p * 63 := Int.mul_le_mul_of_nonneg_left (by omega) (by omega)
  have h3 : p * (-64) ≤ p * x := Int.mul_le_mul_of_nonneg_left (by omega) (by omega)
  have h2 : p * 128 ≤ p * (128 * q) := Int.mul_le_mul_of_nonneg_left (by omega) (by omega)
  omega
/-- near it, just the bits that count decide -/
theorem fits_near {sg : Bool} {k d : Nat} {v x : Int} (hv : 0 ≤ v) (hv2 : v < 128 ^ k) (hx : fit7 sg 1 x) (hd : 1 ≤ d) : fits sg (7 * k + d) (v + 128 ^ k * x) = fits sg d x := by
  have e : (2 : Int) ^ (7 * k + d) = 128 ^ k * 2 ^ d := by rw [Int.pow_add, ← pow128]
  obtain ⟨f, rfl⟩ : ∃ f, d = f + 1 := ⟨d - 1, by omega⟩
  rw [fit7_one] at hx
  unfold fits
  rw [e, Int.pow_succ, Int.mul_comm _ 2]
  generalize (128 : Int) ^ k = p at *
  generalize (2 : Int) ^ f = q at *
  have hp : 0 < p := by omega
  cases sg
  · simp only [Bool.false_eq_true, if_false]
    rw [decide_eq_decide]
    constructor
    · intro h
      apply Int.lt_of_mul_lt_mul_left (a := p) _ (by omega)
      omega
    intro h
    have : p * (x + 1) ≤ p * (2 * q) := Int.mul_le_mul_of_nonneg_left (by omega) (by omega)
    rw [Int.mul_add] at this; omega
  simp only [if_true]
  rw [decide_eq_decide]
  have e1 : p * (2 * q) = 2 * (p * q) := by rw [← Int.mul_assoc, Int.mul_comm p 2, Int.mul_assoc]
  rw [e1]
  constructor
  · intro ⟨h1, h2⟩
    have a1 : x < q := by
      apply Int.lt_of_mul_lt_mul_left (a := p) _ (by omega)
      omega
    have a2 : -q ≤ x := by
      apply Int.le_of_lt_add_one
      apply Int.lt_of_mul_lt_mul_left (a := p) _ (by omega)
      rw [Int.mul_add, Int.mul_neg]; omega
    omega
  intro ⟨h1, h2⟩
  have b1 : p * (x + 1) ≤ p * q := Int.mul_le_mul_of_nonneg_left (by omega) (by omega)
  have b2 : p * (-q) ≤ p * x := Int.mul_le_mul_of_nonneg_left (by omega) (by omega)
  rw [Int.mul_add] at b1; rw [Int.mul_neg] at b2; omega
theorem pow9 {k : Nat} (h : k ≤ 9) : 128 ^ k ≤ 9223372036854775808 := by
  have : 128 ^ k ≤ 128 ^ 9 := Nat.pow_le_pow_right (by omega) h
  have e : 128 ^ 9 = 9223372036854775808 := by decide
  omega
theorem val_take_lt {l : List UInt8} {k : Nat} (h : k ≤ l.length) : val (l.take k) < 128 ^ k := by
  have := val_lt (l.take k)
  rwa [List.length_take, Nat.min_eq_left h] at this
theorem val_take_lt' {l : List UInt8} {k : Nat} (h : k ≤ l.length) : ((val (l.take k) : Nat) : Int) < 128 ^ k := by
  have := val_take_lt h; rw [← cast_pow]; omega
theorem num_fit1 (sg : Bool) (c : UInt8) : fit7 sg 1 (num sg [c]) := num_fit sg [c]
theorem tk_near {sg : Bool} {l : List UInt8} {bits : Int} {k : Nat} {c : UInt8} (h0 : 1 ≤ bits) (h1 : bits ≤ 64) (h : high l k) (hc : l[k]? = some c) (h2 : c.toNat < 128) (hb : 7 * k < bits) :
    tk sg l bits = if fits sg (bits - 7 * k).toNat (num sg [c]) then some (val (l.take k) + 128 ^ k * num sg [c], k + 1) else none := by
  have hlt : k < l.length := (List.getElem?_eq_some_iff.1 hc).1
  rw [tk_at h0 h1 h hc h2 hb, show bits.toNat = 7 * k + (bits - 7 * k).toNat by omega, fits_near (by omega) (val_take_lt' (by omega)) (num_fit1 sg c) (by omega)]
theorem tk_far {sg : Bool} {l : List UInt8} {bits : Int} {k : Nat} {c : UInt8} (h1 : bits ≤ 64) (h : high l k) (hc : l[k]? = some c) (h2 : c.toNat < 128) (hb : 7 * (k + 1) ≤ bits) :
    tk sg l bits = some (val (l.take k) + 128 ^ k * num sg [c], k + 1) := by
  have hlt : k < l.length := (List.getElem?_eq_some_iff.1 hc).1
  rw [tk_at (by omega) h1 h hc h2 (by omega), if_pos (fits_far (by omega) (val_take_lt' (by omega)) (num_fit1 sg c) (by omega))]
theorem num_low (c : UInt8) (h : c.toNat < 128) : num false [c] = c.toNat := by rw [num_one]; simp; omega
theorem num_low' (c : UInt8) (h : c.toNat < 128) : num true [c] = if (c.toNat : Int) < 64 then (c.toNat : Int) else c.toNat - 128 := by
  rw [num_one, Nat.mod_eq_of_lt h]
  by_cases h2 : c.toNat < 64
  · rw [if_neg (by omega), if_pos (by omega)]
  rw [if_pos ⟨rfl, by omega⟩, if_neg (by omega)]
theorem val_take_succ {l : List UInt8} {k : Nat} {c : UInt8} (hc : l[k]? = some c) : val (l.take (k + 1)) = val (l.take k) + 128 ^ k * (c.toNat % 128) := by
  have hlt : k < l.length := (List.getElem?_eq_some_iff.1 hc).1
  rw [take_snoc hc, val_snoc, List.length_take, Nat.min_eq_left (by omega)]
theorem fits_one {z : Int} {d : Nat} (h : d ≤ 1) (hf : fits false d z = true) : z < 2 := by
  unfold fits at hf
  have : (2 : Int) ^ d ≤ 2 ^ 1 := by
    match d, h with
    | 0, _ => simp
    | 1, _ => simp
  simp at hf; omega
theorem fits_one' {z : Int} {d : Nat} (h : d ≤ 1) (hf : fits true d z = true) : -1 ≤ z ∧ z < 1 := by
  unfold fits at hf
  match d, h with
  | 0, _ => simp at hf; omega
  | 1, _ => simp at hf; omega
end Go.Proofs.YtldmfchamcpmmaaGreatDoor.Leb
namespace Go.Proofs.YtldmfchamcpmmaaGreatDoor
open Go Go.RowKit
theorem or128 (z : Int) : bits BinOp.or IntKind.u8 (z % 256) 128 = ((UInt8.ofNat ((z % 128).toNat + 128)).toNat : Int) := by
  obtain ⟨m, hm⟩ : ∃ m : Nat, z % 256 = m := ⟨(z % 256).toNat, by omega⟩
  rw [Leb.toNat_hi, hm, show (128 : Int) = ((128 : Nat) : Int) from rfl, u8_or_nat m 128 (by omega) (by omega)]
  have h : ∀ m, m < 256 → m ||| 128 = m % 128 + 128 := by decide +kernel
  rw [h m (by omega)]; omega
theorem and127 (z : Int) : bits BinOp.and IntKind.u8 (z % 256) 127 = ((UInt8.ofNat (z % 128).toNat).toNat : Int) := by
  obtain ⟨m, hm⟩ : ∃ m : Nat, z % 256 = m := ⟨(z % 256).toNat, by omega⟩
  rw [Leb.toNat_lo, hm, show (127 : Int) = ((127 : Nat) : Int) from rfl, u8_and_nat m 127 (by omega) (by omega), nat_mask7]; omega
theorem low7 (z : Int) (h : 0 ≤ z) (h1 : z < 128) : z = ((UInt8.ofNat (z % 128).toNat).toNat : Int) := by rw [Leb.toNat_lo]; omega
theorem ap_step {sg : Bool} {f : Nat} {z : Int} (h : Leb.small sg z = false) : Leb.ap sg (f + 1) z = UInt8.ofNat ((z % 128).toNat + 128) :: Leb.ap sg f (z / 128) := by rw [Leb.ap, if_neg (by simp [h])]
theorem ap_last {sg : Bool} {f : Nat} {z : Int} (h : Leb.small sg z = true) : Leb.ap sg (f + 1) z = [UInt8.ofNat (z % 128).toNat] := by rw [Leb.ap, if_pos h]
/-- what has been laid, and what is left to lay -/
def Laying (sg : Bool) (l : List UInt8) (z : Int) (k : Nat) (y : Int) (l' : List UInt8) : Prop :=
  k ≤ 9 ∧ Leb.fit7 sg (10 - k) y ∧ l' ++ Leb.ap sg (10 - k) y = l ++ Leb.ap sg 10 z ∧ l'.length = l.length + k
theorem Laying.step {sg : Bool} {l : List UInt8} {z : Int} {k : Nat} {y : Int} {l' : List UInt8} (h : Laying sg l z k y l') (hs : Leb.small sg y = false) :
    Laying sg l z (k + 1) (y / 128) (l' ++ [UInt8.ofNat ((y % 128).toNat + 128)]) := by
  obtain ⟨h1, h2, h3, h4⟩ := h
  obtain ⟨f, hf⟩ : ∃ f, 10 - k = f + 1 := ⟨9 - k, by omega⟩
  rw [hf] at h2 h3
  have h5 : f ≠ 0 := by
    intro e; subst e
    rw [(Leb.small_iff (Leb.fit7_nonneg h2)).2 h2] at hs; cases hs
  rw [ap_step hs] at h3
  rw [Leb.fit7_succ _ _ _ (by omega)] at h2
  refine ⟨by omega, ?_, ?_, by simp; omega⟩
  · rw [show 10 - (k + 1) = f from by omega]; exact h2
  rw [show 10 - (k + 1) = f from by omega, List.append_assoc]; exact h3
theorem Laying.last {sg : Bool} {l : List UInt8} {z : Int} {k : Nat} {y : Int} {l' : List UInt8} (h : Laying sg l z k y l') (hs : Leb.small sg y = true) :
    l' ++ [UInt8.ofNat (y % 128).toNat] = l ++ Leb.ap sg 10 z := by
  obtain ⟨h1, h2, h3, h4⟩ := h
  obtain ⟨f, hf⟩ : ∃ f, 10 - k = f + 1 := ⟨9 - k, by omega⟩
  rw [hf, ap_last hs] at h3; exact h3
/-- a new slice that reads as l, of the call's own -/
def Fresh (w w' : World) (v : Value) (l : List UInt8) : Prop := w'.ownsRow w.heap.size 5 1 v l.length (l.map B8) ∧ Below w.heap.size w w'
theorem Fresh.is {w w' : World} {v : Value} {l : List UInt8} (h : Fresh w w' v l) : IsBs w' v l := IsBs.own h.1
theorem AppendU_any (v : Value) (l : List UInt8) (z : Int) (w : World) (hv : IsBs w v l) (hl : l.length ≤ 1000000) (h0 : 0 ≤ z) (h1 : z < 18446744073709551616) :
    Calls Tryz.prog 33 #[v, .int .u64 z] w fun e w' => ∃ v', e = .returned v' ∧ Fresh w w' v' (l ++ Leb.ap false 10 z) := by
  have hst : Laying false l z 0 z l := ⟨by omega, by simp [Leb.fit7]; omega, rfl, rfl⟩
  have HS := Lib.hid hst; clear hst h1
  go_enter Tryz.func33, Tryz.ntmps33
  go_wp2_with (at_builtin; refine appS rfl _ _ rfl w.heap.size _ _ [] rfl (ownNil w _) v l rfl hv (by omega) (by omega) ?_; intro v1 w1 hown1 hgrow1)
  go_loopw [1, 5] (fun n' v' wr => ∃ (k : Nat) (y : Int) (l' : List UInt8), 0 ≤ y ∧ n' = .int .u64 y ∧ wr.ownsRow w.heap.size 5 1 v' l'.length (l'.map B8) ∧ Laying false l z k y l' ∧ Below w.heap.size w wr)
    (fun n' _ _ => (intOf n').toNat)
  case atStart => exact ⟨0, z, l, h0, rfl, by simpa using hown1, HS.out, below_grown (Below.refl _ _) hgrow1 (ownNil w _) (by omega)⟩
  case round =>
    obtain ⟨k, y, l', hy, rfl, hown, hlay, hb⟩ := hrel
    have HA := Lib.hid hlay; clear hlay
    have hsz := hb.size
    have hll : l'.length ≤ 1000010 := by have := HA.out.2.2.2; have := HA.out.1; omega
    by_cases hlt : y < 128
    · have HO := Lib.hid (low7 y hy hlt)
      go_wp2_with (at_builtin; refine app1 rfl _ _ rfl w.heap.size _ _ l' rfl hown _ (UInt8.ofNat (y % 128).toNat) HO.out rfl (by omega) hsz ?_; intro v1 w1 hown1 hgrow1)
      go_ret
      refine ⟨_, rfl, ?_, below_grown hb hgrow1 hown hsz⟩
      rw [← HA.out.last (by simp [Leb.small, hlt])]; simpa using hown1
    have HO := Lib.hid (or128 y)
    go_wp2_with (at_builtin; refine app1 rfl _ _ rfl w.heap.size _ _ l' rfl hown _ (UInt8.ofNat ((y % 128).toNat + 128)) HO.out rfl (by omega) hsz ?_; intro v1 w1 hown1 hgrow1)
    go_roundw
    case rel => exact ⟨k + 1, y / 128, _, by omega, rfl, by simpa using hown1, HA.out.step (by simp [Leb.small, hlt]), below_grown hb hgrow1 hown hsz⟩
    case measure => simp [intOf]; omega
theorem AppendS_any (v : Value) (l : List UInt8) (z : Int) (w : World) (hv : IsBs w v l) (hl : l.length ≤ 1000000) (h0 : -9223372036854775808 ≤ z) (h1 : z < 9223372036854775808) :
    Calls Tryz.prog 124 #[v, .int .i64 z] w fun e w' => ∃ v', e = .returned v' ∧ Fresh w w' v' (l ++ Leb.ap true 10 z) := by
  have hst : Laying true l z 0 z l := ⟨by omega, by simp [Leb.fit7]; omega, rfl, rfl⟩
  have HS := Lib.hid hst; clear hst h1 h0
  go_enter Tryz.func124, Tryz.ntmps124
  go_wp2_with (at_builtin; refine appS rfl _ _ rfl w.heap.size _ _ [] rfl (ownNil w _) v l rfl hv (by omega) (by omega) ?_; intro v1 w1 hown1 hgrow1)
  go_loopw [1, 5] (fun n' v' wr => ∃ (k : Nat) (y : Int) (l' : List UInt8), n' = .int .i64 y ∧ wr.ownsRow w.heap.size 5 1 v' l'.length (l'.map B8) ∧ Laying true l z k y l' ∧ Below w.heap.size w wr)
    (fun n' _ _ => (intOf n').natAbs)
  case atStart => exact ⟨0, z, l, rfl, by simpa using hown1, HS.out, below_grown (Below.refl _ _) hgrow1 (ownNil w _) (by omega)⟩
  case round =>
    obtain ⟨k, y, l', rfl, hown, hlay, hb⟩ := hrel
    have HA := Lib.hid hlay; clear hlay
    have hsz := hb.size
    have hll : l'.length ≤ 1000010 := by have := HA.out.2.2.2; have := HA.out.1; omega
    by_cases hlt : -64 ≤ y
    · by_cases hlt2 : y ≤ 63
      · have HO := Lib.hid (and127 y)
        go_wp2_with (at_builtin; refine app1 rfl _ _ rfl w.heap.size _ _ l' rfl hown _ (UInt8.ofNat (y % 128).toNat) HO.out rfl (by omega) hsz ?_; intro v1 w1 hown1 hgrow1)
        go_ret
        refine ⟨_, rfl, ?_, below_grown hb hgrow1 hown hsz⟩
        rw [← HA.out.last (by simp [Leb.small]; omega)]; simpa using hown1
      have HO := Lib.hid (or128 y)
      go_wp2_with (at_builtin; refine app1 rfl _ _ rfl w.heap.size _ _ l' rfl hown _ (UInt8.ofNat ((y % 128).toNat + 128)) HO.out rfl (by omega) hsz ?_; intro v1 w1 hown1 hgrow1)
      go_roundw
      case rel => exact ⟨k + 1, y / 128, _, rfl, by simpa using hown1, HA.out.step (by simp [Leb.small]; omega), below_grown hb hgrow1 hown hsz⟩
      case measure => simp [intOf]; omega
    have HO := Lib.hid (or128 y)
    go_wp2_with (at_builtin; refine app1 rfl _ _ rfl w.heap.size _ _ l' rfl hown _ (UInt8.ofNat ((y % 128).toNat + 128)) HO.out rfl (by omega) hsz ?_; intro v1 w1 hown1 hgrow1)
    go_roundw
    case rel => exact ⟨k + 1, y / 128, _, rfl, by simpa using hown1, HA.out.step (by simp [Leb.small]; omega), below_grown hb hgrow1 hown hsz⟩
    case measure => simp [intOf]; omega
end Go.Proofs.YtldmfchamcpmmaaGreatDoor
namespace Go.Proofs.YtldmfchamcpmmaaGreatDoor.Leb
/-- a number's bit, from the lowest one on -/
def zbit (z : Int) (at_ : Nat) : Int := z / 2 ^ at_ % 2
theorem pow_le {a b : Nat} (h : a ≤ b) : (2 : Int) ^ a ≤ 2 ^ b := by
  have h1 : 2 ^ a ≤ 2 ^ b := Nat.pow_le_pow_right (by omega) h
  have c1 : ((2 ^ a : Nat) : Int) = 2 ^ a := by simp
  have c2 : ((2 ^ b : Nat) : Int) = 2 ^ b := by simp
  omega
/-- the bit that is asked of one that is too much -/
def good (sg : Bool) (b : Nat) (z : Int) (n : Nat) : Prop := zbit z n = if sg = true then zbit z (b - 1) else 0
end Go.Proofs.YtldmfchamcpmmaaGreatDoor.Leb
namespace Go.Proofs.YtldmfchamcpmmaaGreatDoor
open Go Go.RowKit
theorem u8_and127 (x : Nat) (h : x < 256) : bits BinOp.and IntKind.u8 (x : Int) 127 = ((x % 128 : Nat) : Int) := by
  rw [show (127 : Int) = ((127 : Nat) : Int) from rfl, u8_and_nat x 127 (by omega) (by omega), nat_mask7]
/-- parts of one number that don't overlap, joined -/
theorem or_i64 (i : Nat) (hi : i ≤ 63) (x q : Int) (h0 : 0 ≤ x) (h1 : x < 2 ^ i) (h2 : -9223372036854775808 ≤ 2 ^ i * q) (h3 : 2 ^ i * q < 9223372036854775808) :
    bits BinOp.or IntKind.i64 x (2 ^ i * q) = x + 2 ^ i * q := by
  obtain ⟨d, hd⟩ : ∃ d, 64 = i + d := ⟨64 - i, by omega⟩
  obtain ⟨d, rfl⟩ : ∃ e, d = e + 1 := ⟨d - 1, by omega⟩
  have e63 : (9223372036854775808 : Int) = 2 ^ i * 2 ^ d := by rw [← Int.pow_add, show i + d = 63 by omega]; rfl
  have e64 : (18446744073709551616 : Int) = 2 ^ i * (2 * 2 ^ d) := by rw [Int.mul_comm 2, ← Int.pow_succ, ← Int.pow_add, show i + (d + 1) = 64 by omega]; rfl
  have hp : (0 : Int) < 2 ^ i := Int.pow_pos (by omega)
  have hq : (0 : Int) < 2 ^ d := Int.pow_pos (by omega)
  have hq1 : -(2 ^ d : Int) ≤ q := by
    have : (2 ^ i : Int) * (-2 ^ d) ≤ 2 ^ i * q := by rw [Int.mul_neg]; omega
    exact Int.le_of_mul_le_mul_left this hp
  have hq2 : q < 2 ^ d := by
    have : (2 ^ i : Int) * q < 2 ^ i * 2 ^ d := by omega
    exact Int.lt_of_mul_lt_mul_left this (by omega)
  have hx63 : x < 9223372036854775808 := by
    have : (2 ^ i : Int) * 1 ≤ 2 ^ i * 2 ^ d := Int.mul_le_mul_of_nonneg_left (by omega) (by omega)
    omega
  have hm : (2 ^ i * q) % 18446744073709551616 = 2 ^ i * (q % (2 * 2 ^ d)) := by rw [e64, Int.mul_emod_mul_of_pos _ _ hp]
  have hr0 : 0 ≤ q % (2 * 2 ^ d) := Int.emod_nonneg _ (by omega)
  obtain ⟨r, hr⟩ : ∃ r : Nat, q % (2 * 2 ^ d) = r := ⟨(q % (2 * 2 ^ d)).toNat, by omega⟩
  obtain ⟨n, rfl⟩ : ∃ n : Nat, x = n := ⟨x.toNat, by omega⟩
  have hn : n < 2 ^ i := by
    have : ((2 ^ i : Nat) : Int) = (2 : Int) ^ i := by simp
    omega
  have a1 : (BitVec.ofInt 64 (n : Int)).toNat = n := by rw [BitVec.toNat_ofInt]; omega
  have a2 : (BitVec.ofInt 64 (2 ^ i * q)).toNat = 2 ^ i * r := by
    rw [BitVec.toNat_ofInt, show ((2 ^ 64 : Nat) : Int) = 18446744073709551616 from rfl, hm, hr]
    have : ((2 : Int) ^ i * (r : Int)) = ((2 ^ i * r : Nat) : Int) := by simp
    rw [this]; rfl
  have hor : n ||| 2 ^ i * r = n + 2 ^ i * r := by
    rw [Nat.or_comm, nat_join i _ _ (by simp) hn, Nat.add_comm]
  have hbits : bits BinOp.or IntKind.i64 (n : Int) (2 ^ i * q) = IntKind.i64.wrap (((n + 2 ^ i * r : Nat)) : Int) := by
    show IntKind.i64.wrap ((BitVec.ofInt 64 (n : Int) ||| BitVec.ofInt 64 (2 ^ i * q)).toNat : Int) = _
    rw [BitVec.toNat_or, a1, a2, hor]
  rw [hbits, IntKind.wrap_i64]
  have hrc : (((n + 2 ^ i * r : Nat)) : Int) = n + 2 ^ i * q % 18446744073709551616 := by rw [hm, hr]; simp
  rw [hrc]
  have hlow : (n : Int) + 2 ^ i * q < 9223372036854775808 := by
    have : (2 ^ i : Int) * (q + 1) ≤ 2 ^ i * 2 ^ d := Int.mul_le_mul_of_nonneg_left (by omega) (by omega)
    rw [Int.mul_add] at this; omega
  omega
theorem or_u64 (i V x : Nat) (h : V < 2 ^ i) (hs : V + 2 ^ i * x < 18446744073709551616) : bits BinOp.or IntKind.u64 (V : Int) (((2 ^ i * x : Nat)) : Int) = ((V + 2 ^ i * x : Nat) : Int) := by
  rw [u64_or_nat V (2 ^ i * x) (by omega) (by omega), Nat.or_comm, nat_join i _ _ (by simp) h, Nat.add_comm]
theorem lastU (x b : Int) (w : World) (h0 : 0 ≤ x) (h1 : x < 128) (h2 : 1 ≤ b) (h3 : b ≤ 7) :
    Calls Tryz.prog 98 #[.int .u8 x, .int .i64 b] w fun e w' => e = .returned (.bool (Leb.fits false b.toNat x)) ∧ w = w' := by
  have hp : (0 : Int) < 2 ^ b.toNat := Int.pow_pos (by omega)
  have hb : Leb.fits false b.toNat x = (x / 2 ^ b.toNat == 0) := by
    unfold Leb.fits
    simp only [Bool.false_eq_true, if_false]
    rw [Bool.eq_iff_iff]
    simp only [decide_eq_true_eq, beq_iff_eq]
    constructor
    · intro h; exact Int.ediv_eq_zero_of_lt h0 h
    intro h; have := Int.lt_ediv_add_one_mul_self x hp; rw [h] at this; omega
  have HB := Lib.hid hb; clear hb hp
  go_enter Tryz.func98, Tryz.ntmps98
  go_wp2
  go_ret
  exact ⟨congrArg (fun b => Ending.returned (.bool b)) HB.out.symm, rfl⟩
theorem up_fits (x b : Int) (h0 : 0 ≤ x) (h1 : x < 128) (h2 : 1 ≤ b) :
    Leb.fits true b.toNat (if x < 64 then x else x - 128) = (IntKind.i8.wrap (x * 2) / 2 ^ b.toNat == 0 || IntKind.i8.wrap (x * 2) / 2 ^ b.toNat == -1) := by
  have hw : IntKind.i8.wrap (x * 2) = 2 * (if x < 64 then x else x - 128) := by
    simp [IntKind.wrap, IntKind.bits, IntKind.signed]; split <;> split <;> omega
  rw [hw]
  generalize (if x < 64 then x else x - 128) = y
  have hp : (0 : Int) < 2 ^ b.toNat := Int.pow_pos (by omega)
  unfold Leb.fits
  generalize (2 : Int) ^ b.toNat = p at *
  rw [Bool.eq_iff_iff]
  simp only [if_true, decide_eq_true_eq, Bool.or_eq_true, beq_iff_eq]
  constructor
  · intro ⟨a, c⟩
    by_cases hy : 0 ≤ y
    · left; exact Int.ediv_eq_zero_of_lt (by omega) c
    right
    have e : 2 * y = (2 * y + p) + p * (-1) := by omega
    rw [e, Int.add_mul_ediv_left _ _ (by omega), Int.ediv_eq_zero_of_lt (by omega) (by omega)]; rfl
  intro h
  have h1 := Int.lt_ediv_add_one_mul_self (2 * y) hp
  have h3 := Int.ediv_mul_le (2 * y) (show p ≠ 0 by omega)
  rcases h with h | h <;> rw [h] at h1 h3 <;> omega
theorem lastS (s x b : Int) (w : World) (hs : s = if x < 64 then x else x - 128) (h0 : 0 ≤ x) (h1 : x < 128) (h2 : 1 ≤ b) (h3 : b ≤ 7) :
    Calls Tryz.prog 138 #[.int .u8 x, .int .i64 b] w fun e w' => e = .returned (.bool (Leb.fits true b.toNat s)) ∧ w = w' := by
  rw [hs, up_fits x b h0 h1 h2]
  clear hs
  go_enter Tryz.func138, Tryz.ntmps138
  go_wp2
  · rename_i h
    go_ret
    exact ⟨by simp [h], rfl⟩
  go_ret
  exact ⟨rfl, rfl⟩
theorem highU (x : Int) (w : World) :
    Calls Tryz.prog 99 #[.int .u8 x] w fun e w' => e = .returned (.int .u64 0) ∧ w = w' := by
  go_enter Tryz.func99, Tryz.ntmps99
  go_wp2
  go_ret
  exact ⟨rfl, rfl⟩
theorem high_bit (x : Int) (h0 : 0 ≤ x) (h1 : x < 128) : wrap64 (-wrap64 (bits BinOp.and IntKind.u8 (x / 64) 1)) = -(x / 64) := by
  obtain ⟨n, hn⟩ : ∃ n : Nat, x / 64 = n := ⟨(x / 64).toNat, by omega⟩
  rw [hn, show (1 : Int) = ((1 : Nat) : Int) from rfl, u8_and_nat n 1 (by omega) (by omega), nat_mask1]
  unfold wrap64; omega
theorem highS (x : Int) (w : World) (h0 : 0 ≤ x) (h1 : x < 128) :
    Calls Tryz.prog 139 #[.int .u8 x] w fun e w' => e = .returned (.int .i64 (-(x / 64))) ∧ w = w' := by
  have HB := Lib.hid (high_bit x h0 h1)
  go_enter Tryz.func139, Tryz.ntmps139
  go_wp2
  go_ret
  exact ⟨congrArg (fun b => Ending.returned (.int .i64 b)) HB.out, rfl⟩
/-- what is answered -/
def tkU (o : Option (Int × Nat)) : Value := match o with | some (n, k) => .tuple #[.int .u64 n, .int .i64 k, .bool true] | none => .tuple #[.int .u64 0, .int .i64 0, .bool false]
def tkS (o : Option (Int × Nat)) : Value := match o with | some (n, k) => .tuple #[.int .i64 n, .int .i64 k, .bool true] | none => .tuple #[.int .i64 0, .int .i64 0, .bool false]
theorem or_step {V k x : Nat} (hx : x < 256) (h : V < 128 ^ k) (hs : V + 128 ^ k * (x % 128) < 18446744073709551616) :
    bits BinOp.or IntKind.u64 (V : Int) (IntKind.u64.wrap (IntKind.u64.wrap (bits BinOp.and IntKind.u8 (x : Int) 127) * 2 ^ (7 * k))) = ((V + 128 ^ k * (x % 128) : Nat) : Int) := by
  have e : 128 ^ k = 2 ^ (7 * k) := by rw [Nat.pow_mul]
  rw [e] at h hs ⊢
  have e1 : IntKind.u64.wrap (bits BinOp.and IntKind.u8 (x : Int) 127) = ((x % 128 : Nat) : Int) := by rw [u8_and127 x hx, IntKind.wrap_u64]; omega
  have e2 : ((x % 128 : Nat) : Int) * 2 ^ (7 * k) = ((2 ^ (7 * k) * (x % 128) : Nat) : Int) := by rw [Nat.mul_comm]; simp [Int.mul_comm]
  have e3 : IntKind.u64.wrap ((2 ^ (7 * k) * (x % 128) : Nat) : Int) = ((2 ^ (7 * k) * (x % 128) : Nat) : Int) := by rw [IntKind.wrap_u64]; omega
  rw [e1, e2, e3, or_u64 _ _ _ h hs]
theorem or_zero {y : Nat} (h : y < 18446744073709551616) : bits BinOp.or IntKind.u64 (y : Int) 0 = y := by
  rw [show (0 : Int) = ((0 : Nat) : Int) from rfl, u64_or_nat y 0 h (by omega)]; simp
theorem or_room {V k x : Nat} (hk : k ≤ 8) (h : V < 128 ^ k) : V + 128 ^ k * (x % 128) < 18446744073709551616 := by
  have h2 : 128 ^ k ≤ 128 ^ 8 := Nat.pow_le_pow_right (by omega) hk
  have h4 : 128 ^ 8 = 72057594037927936 := by decide
  have h3 : 128 ^ k * (x % 128) ≤ 128 ^ k * 127 := Nat.mul_le_mul_left _ (by omega)
  omega
theorem ret_u3 {V k c : Nat} {x : Int} (h : x = ((V + 128 ^ k * c : Nat) : Int)) : tkU (some ((V : Int) + 128 ^ k * (c : Int), k + 1)) = .tuple #[.int .u64 x, .int .i64 ((k : Int) + 1), .bool true] := by
  subst h; simp [tkU]
theorem takeU_any (v : Value) (l : List UInt8) (z : Int) (w : World) (hv : IsBs w v l) :
    Calls Tryz.prog 97 #[v, .int .i64 z, .func (.func 98) #[] #[], .func (.func 99) #[] #[]] w fun e w' =>
      e = .returned (tkU (Leb.tk false l z)) ∧ w = w' := by
  obtain ⟨a, cap, rfl, hs⟩ := hv
  have hlen := hs.len
  by_cases hz : z < 1
  · have fin := Leb.tk_bits (sg := false) (l := l) (Or.inl hz)
    have FIN := Lib.hid fin; clear fin
    go_enter Tryz.func97, Tryz.ntmps97
    go_wp2
    go_ret3
    exact ⟨fin3 (by rw [FIN.out]; rfl), rfl⟩
  by_cases hz2 : 64 < z
  · have fin := Leb.tk_bits (sg := false) (l := l) (Or.inr hz2)
    have FIN := Lib.hid fin; clear fin
    go_enter Tryz.func97, Tryz.ntmps97
    go_wp2
    go_ret3
    exact ⟨fin3 (by rw [FIN.out]; rfl), rfl⟩
  go_enter Tryz.func97, Tryz.ntmps97
  go_wp2
  go_loop [11, 24] (fun n i => ∃ k : Nat, k ≤ l.length ∧ k ≤ 9 ∧ i = .int .i64 k ∧ n = .int .u64 (Leb.val (l.take k) : Nat) ∧ Leb.high l k) (fun _ i => l.length - (intOf i).toNat)
  case atStart => exact ⟨0, by omega, by omega, rfl, rfl, Leb.high_zero _⟩
  case round =>
    obtain ⟨k, hk, hk9, rfl, rfl, hh⟩ := hrel
    have HH := Lib.hid hh; clear hh
    have hVl := Leb.val_take_lt hk
    have HVL := Lib.hid hVl; clear hVl
    generalize hV : Leb.val (l.take k) = V at *
    have HV := Lib.hid hV; clear hV
    by_cases hlt : k < l.length
    · obtain ⟨b, off, c, rfl, hc, hc2, hcell⟩ := hs.at k hlt
      by_cases hA : z ≤ 7 * (k : Int)
      · go_wp2
        go_ret3
        exact ⟨fin3 (by rw [Leb.tk_long HH.out hk hA]; rfl), rfl⟩
      by_cases hB : z - 7 * (k : Int) ≤ 7
      · by_cases hB1 : 127 < c.toNat
        · go_wp2
          go_ret3
          exact ⟨fin3 (by rw [Leb.tk_long (Leb.high_succ HH.out hc.out (by omega)) hlt (by omega)]; rfl), rfl⟩
        have near := Leb.tk_near (sg := false) (by omega) (by omega) HH.out hc.out (by omega) (by omega : 7 * (k : Int) < z)
        rw [Leb.num_low c (by omega), HV.out] at near
        cases hf : Leb.fits false (z - 7 * k).toNat c.toNat
        · have FIN := Lib.hid near; clear near
          go_wp2_with (go_at_call 98; refine (lastU _ _ _ (by omega) (by omega) (by omega) (by omega)).mono ?_; rintro e w' ⟨rfl, rfl⟩)
          go_ret3
          exact ⟨fin3 (by rw [FIN.out, hf]; rfl), rfl⟩
        have hs9 : V + 128 ^ k * (c.toNat % 128) < 18446744073709551616 := by
          have h1 := HVL.out
          have h2 := Leb.pow9 hk9
          by_cases e : k = 9
          · have := Leb.fits_one (by omega) hf
            have h3 : 128 ^ k * (c.toNat % 128) ≤ 128 ^ k * 1 := Nat.mul_le_mul_left _ (by omega)
            omega
          have h2 : 128 ^ k ≤ 128 ^ 8 := Nat.pow_le_pow_right (by omega) (by omega)
          have h4 : 128 ^ 8 = 72057594037927936 := by decide
          have h3 : 128 ^ k * (c.toNat % 128) ≤ 128 ^ k * 127 := Nat.mul_le_mul_left _ (by omega)
          omega
        have ho := or_step hc2 HVL.out hs9
        rw [hf, if_pos rfl] at near
        rw [Nat.mod_eq_of_lt (by omega : c.toNat < 128)] at ho hs9
        have ho2 := (congrArg (fun y => bits BinOp.or IntKind.u64 y 0) ho).trans (or_zero hs9)
        have FIN := Lib.hid near; clear near
        have HO := Lib.hid ho; clear ho
        have HO2 := Lib.hid ho2; clear ho2
        clear hs9
        go_wp2_with (first | (go_at_call 98; refine (lastU _ _ _ (by omega) (by omega) (by omega) (by omega)).mono ?_; rintro e w' ⟨rfl, rfl⟩) | (go_at_call 99; refine (highU _ _).mono ?_; rintro e w' ⟨rfl, rfl⟩))
        all_goals
          go_ret3
          first
          | exact ⟨fin3 (by rw [FIN.out]; exact (ret_u3 HO2.out).symm), rfl⟩
          | exact ⟨fin3 (by rw [FIN.out]; exact (ret_u3 HO.out).symm), rfl⟩
      by_cases hB1 : 127 < c.toNat
      · go_wp2
        go_round
        case rel =>
          refine ⟨k + 1, hlt, by omega, by go_num, ?_, Leb.high_succ HH.out hc.out (by omega)⟩
          rw [Leb.val_take_succ hc.out, HV.out]
          exact congrArg _ (or_step hc2 HVL.out (or_room (by omega) HVL.out))
        case measure => simp [intOf]; omega
      have far := Leb.tk_far (sg := false) (by omega) HH.out hc.out (by omega) (by omega : 7 * ((k : Int) + 1) ≤ z)
      rw [Leb.num_low c (by omega), HV.out] at far
      have hs9 := or_room (x := c.toNat) (by omega) HVL.out
      have ho := or_step hc2 HVL.out hs9
      rw [Nat.mod_eq_of_lt (by omega : c.toNat < 128)] at ho hs9
      have ho2 := (congrArg (fun y => bits BinOp.or IntKind.u64 y 0) ho).trans (or_zero hs9)
      have FIN := Lib.hid far; clear far
      have HO := Lib.hid ho; clear ho
      have HO2 := Lib.hid ho2; clear ho2
      clear hs9
      go_wp2_with (first | (go_at_call 99; refine (highU _ _).mono ?_; rintro e w' ⟨rfl, rfl⟩))
      go_ret3
      exact ⟨fin3 (by rw [FIN.out]; exact (ret_u3 HO2.out).symm), rfl⟩
    go_wp2
    go_ret3
    have e : k = l.length := by omega
    subst e
    exact ⟨fin3 (by rw [Leb.tk_end HH.out]; rfl), rfl⟩
theorem wrap64_small (x : Int) (h0 : -9223372036854775808 ≤ x) (h1 : x < 9223372036854775808) : wrap64 x = x := by unfold wrap64; omega
theorem orS1 {V k x : Nat} (hk : k ≤ 8) (hx : x < 256) (h : V < 128 ^ k) :
    bits BinOp.or IntKind.i64 (V : Int) (wrap64 (wrap64 (bits BinOp.and IntKind.u8 (x : Int) 127) * 2 ^ (7 * k))) = ((V + 128 ^ k * (x % 128) : Nat) : Int) := by
  have e : 128 ^ k = 2 ^ (7 * k) := by rw [Nat.pow_mul]
  have h2 : 128 ^ k ≤ 128 ^ 8 := Nat.pow_le_pow_right (by omega) hk
  have h4 : 128 ^ 8 = 72057594037927936 := by decide
  have h3 : 128 ^ k * (x % 128) ≤ 128 ^ k * 127 := Nat.mul_le_mul_left _ (by omega)
  rw [e] at h h2 h3 ⊢
  have c1 : ((2 ^ (7 * k) : Nat) : Int) = 2 ^ (7 * k) := by simp
  have c2 : ((2 ^ (7 * k) * (x % 128) : Nat) : Int) = 2 ^ (7 * k) * ((x % 128 : Nat) : Int) := by simp
  rw [u8_and127 x hx, wrap64_small ((x % 128 : Nat) : Int) (by omega) (by omega), Int.mul_comm, wrap64_small _ (by omega) (by omega), or_i64 (7 * k) (by omega) _ _ (by omega) (by omega) (by omega) (by omega)]
  omega
theorem orS2 {V k x : Nat} {s : Int} (hk : k ≤ 8) (hx : x < 128) (h : V < 128 ^ k) (hs : s = if (x : Int) < 64 then (x : Int) else x - 128) :
    bits BinOp.or IntKind.i64 (bits BinOp.or IntKind.i64 (V : Int) (wrap64 (wrap64 (bits BinOp.and IntKind.u8 (x : Int) 127) * 2 ^ (7 * k)))) (wrap64 (-((x : Int) / 64) * 2 ^ (7 * k + 7))) = V + 128 ^ k * s := by
  rw [orS1 hk (by omega) h, Nat.mod_eq_of_lt hx]
  have e : 128 ^ k = 2 ^ (7 * k) := by rw [Nat.pow_mul]
  have e' : (128 : Int) ^ k = 2 ^ (7 * k) := Leb.pow128 k
  have h2 : 128 ^ k ≤ 128 ^ 8 := Nat.pow_le_pow_right (by omega) hk
  have h4 : 128 ^ 8 = 72057594037927936 := by decide
  have h3 : 128 ^ k * x ≤ 128 ^ k * 127 := Nat.mul_le_mul_left _ (by omega)
  rw [e] at h h2 h3 ⊢
  rw [e']
  have c1 : ((2 ^ (7 * k) : Nat) : Int) = 2 ^ (7 * k) := by simp
  have c2 : ((2 ^ (7 * k) * x : Nat) : Int) = 2 ^ (7 * k) * (x : Int) := by simp
  have c3 : (2 : Int) ^ (7 * k + 7) = 2 ^ (7 * k) * 128 := by rw [Int.pow_add]; rfl
  have hd : (x : Int) / 64 = 0 ∨ (x : Int) / 64 = 1 := by omega
  rcases hd with hd | hd
  · rw [hd, hs, if_pos (by omega)]
    have : wrap64 (-0 * 2 ^ (7 * k + 7)) = 2 ^ 63 * 0 := by simp [wrap64]
    rw [this, or_i64 63 (by omega) _ 0 (by omega) (by omega) (by omega) (by omega)]
    omega
  rw [hd, hs, if_neg (by omega)]
  have : wrap64 (-1 * 2 ^ (7 * k + 7)) = 2 ^ (7 * k + 7) * (-1) := by rw [Int.mul_comm, wrap64_small _ (by omega) (by omega)]
  rw [this, or_i64 (7 * k + 7) (by omega) _ (-1) (by omega) (by omega) (by omega) (by omega), c3, Int.mul_sub]
  omega
theorem orS9 {V x : Nat} {s : Int} (hx : x < 128) (h : V < 128 ^ 9) (hs : s = if (x : Int) < 64 then (x : Int) else x - 128) (h1 : -1 ≤ s) (h2 : s < 1) :
    bits BinOp.or IntKind.i64 (V : Int) (wrap64 (wrap64 (bits BinOp.and IntKind.u8 (x : Int) 127) * 2 ^ (7 * 9))) = V + 128 ^ 9 * s := by
  have h4 : 128 ^ 9 = 9223372036854775808 := by decide
  have h5 : (128 : Int) ^ 9 = 9223372036854775808 := by decide
  have h6 : (2 : Int) ^ (7 * 9) = 9223372036854775808 := by decide
  rw [h4] at h
  rw [u8_and127 x (by omega), wrap64_small ((x % 128 : Nat) : Int) (by omega) (by omega), h5, h6]
  by_cases hx : x < 64
  · rw [if_pos (by omega)] at hs
    have : wrap64 (((x % 128 : Nat) : Int) * 9223372036854775808) = 2 ^ 63 * 0 := by
      rw [show ((x % 128 : Nat) : Int) = 0 by omega]; simp [wrap64]
    rw [this, or_i64 63 (by omega) _ 0 (by omega) (by omega) (by omega) (by omega)]
    omega
  rw [if_neg (by omega)] at hs
  have : wrap64 (((x % 128 : Nat) : Int) * 9223372036854775808) = 2 ^ 63 * (-1) := by
    rw [show ((x % 128 : Nat) : Int) = 127 by omega]; simp [wrap64]
  rw [this, or_i64 63 (by omega) _ (-1) (by omega) (by omega) (by omega) (by omega)]
  omega
theorem ret_s3 {V k : Nat} {x s : Int} (h : x = V + 128 ^ k * s) : tkS (some ((V : Int) + 128 ^ k * s, k + 1)) = .tuple #[.int .i64 x, .int .i64 ((k : Int) + 1), .bool true] := by
  subst h; simp [tkS]
theorem takeS_any (v : Value) (l : List UInt8) (z : Int) (w : World) (hv : IsBs w v l) :
    Calls Tryz.prog 137 #[v, .int .i64 z, .func (.func 138) #[] #[], .func (.func 139) #[] #[]] w fun e w' =>
      e = .returned (tkS (Leb.tk true l z)) ∧ w = w' := by
  obtain ⟨a, cap, rfl, hs⟩ := hv
  have hlen := hs.len
  by_cases hz : z < 1
  · have fin := Leb.tk_bits (sg := true) (l := l) (Or.inl hz)
    have FIN := Lib.hid fin; clear fin
    go_enter Tryz.func137, Tryz.ntmps137
    go_wp2
    go_ret3
    exact ⟨fin3 (by rw [FIN.out]; rfl), rfl⟩
  by_cases hz2 : 64 < z
  · have fin := Leb.tk_bits (sg := true) (l := l) (Or.inr hz2)
    have FIN := Lib.hid fin; clear fin
    go_enter Tryz.func137, Tryz.ntmps137
    go_wp2
    go_ret3
    exact ⟨fin3 (by rw [FIN.out]; rfl), rfl⟩
  go_enter Tryz.func137, Tryz.ntmps137
  go_wp2
  go_loop [11, 24] (fun n i => ∃ k : Nat, k ≤ l.length ∧ k ≤ 9 ∧ i = .int .i64 k ∧ n =   .int .i64 (Leb.val (l.take k) : Nat) ∧ Leb.high l k) (fun _ i => l.length - (intOf i).toNat)
  case atStart => exact ⟨0, by omega, by omega, rfl, rfl, Leb.high_zero _⟩
  case round =>
    obtain ⟨k, hk, hk9, rfl, rfl, hh⟩ := hrel
    have HH := Lib.hid hh; clear hh
    have hVl := Leb.val_take_lt hk
    have HVL := Lib.hid hVl; clear hVl
    generalize hV : Leb.val (l.take k) = V at *
    have HV := Lib.hid hV; clear hV
    by_cases hlt : k < l.length
    · obtain ⟨b, off, c, rfl, hc, hc2, hcell⟩ := hs.at k hlt
      by_cases hA : z ≤ 7 * (k : Int)
      · go_wp2
        go_ret3
        exact ⟨fin3 (by rw [Leb.tk_long HH.out hk hA]; rfl), rfl⟩
      by_cases hB : z - 7 * (k : Int) ≤ 7
      · by_cases hB1 : 127 < c.toNat
        · go_wp2
          go_ret3
          exact ⟨fin3 (by rw [Leb.tk_long (Leb.high_succ HH.out hc.out (by omega)) hlt (by omega)]; rfl), rfl⟩
        have near := Leb.tk_near (sg := true) (by omega) (by omega) HH.out hc.out (by omega) (by omega : 7 * (k : Int) < z)
        have hn := Leb.num_low' c (by omega)
        rw [HV.out] at near
        generalize Leb.num true [c] = s at *
        have hsb : -64 ≤ s ∧ s < 64 := by rw [hn]; split <;> omega
        have HN := Lib.hid hn; clear hn
        obtain ⟨hs1, hs2⟩ := hsb
        cases hf : Leb.fits true (z - 7 * k).toNat s
        all_goals rw [hf] at near
        · have FIN := Lib.hid near; clear near
          go_wp2_with (go_at_call 138; refine (lastS s _ _ _ HN.out (by omega) (by omega) (by omega) (by omega)).mono ?_; rintro e w' ⟨rfl, rfl⟩)
          go_ret3
          exact ⟨fin3 (by rw [FIN.out]; rfl), rfl⟩
        rw [if_pos rfl] at near
        have FIN := Lib.hid near; clear near
        go_wp2_with (first | (go_at_call 138; refine (lastS s _ _ _ HN.out (by omega) (by omega) (by omega) (by omega)).mono ?_; rintro e w' ⟨rfl, rfl⟩) | (go_at_call 139; refine (highS _ _ (by omega) (by omega)).mono ?_; rintro e w' ⟨rfl, rfl⟩))
        all_goals go_ret3
        · exact ⟨fin3 (by rw [FIN.out]; exact (ret_s3 (orS2 (by omega) (by omega) HVL.out HN.out)).symm), rfl⟩
        have hk : k = 9 := by omega
        subst hk
        have h9 := Leb.fits_one' (by omega) hf
        exact ⟨fin3 (by rw [FIN.out]; exact (ret_s3 (orS9 (by omega) HVL.out HN.out h9.1 h9.2)).symm), rfl⟩
      by_cases hB1 : 127 < c.toNat
      · go_wp2
        go_round
        case rel =>
          refine ⟨k + 1, hlt, by omega, by go_num, ?_, Leb.high_succ HH.out hc.out (by omega)⟩
          rw [Leb.val_take_succ hc.out, HV.out]
          exact congrArg _ (orS1 (by omega) (by omega) HVL.out)
        case measure => simp [intOf]; omega
      have far := Leb.tk_far (sg := true) (by omega) HH.out hc.out (by omega) (by omega : 7 * ((k : Int) + 1) ≤ z)
      have hn := Leb.num_low' c (by omega)
      rw [HV.out] at far
      generalize Leb.num true [c] = s at *
      have FIN := Lib.hid far; clear far
      have HN := Lib.hid hn; clear hn
      go_wp2_with (first | (go_at_call 139; refine (highS _ _ (by omega) (by omega)).mono ?_; rintro e w' ⟨rfl, rfl⟩))
      go_ret3
      exact ⟨fin3 (by rw [FIN.out]; exact (ret_s3 (orS2 (by omega) (by omega) HVL.out HN.out)).symm), rfl⟩
    go_wp2
    go_ret3
    have e : k = l.length := by omega
    subst e
    exact ⟨fin3 (by rw [Leb.tk_end HH.out]; rfl), rfl⟩
theorem TakeU_any (v : Value) (l : List UInt8) (z : Int) (w : World) (hv : IsBs w v l) :
    Calls Tryz.prog 53 #[v, .int .i64 z] w fun e w' => e = .returned (tkU (Leb.tk false l z)) ∧ w = w' := by
  go_enter Tryz.func53, Tryz.ntmps53
  cases ht : Leb.tk false l z
  all_goals
    have HT := Lib.hid ht; clear ht
    go_wp2_with (go_at_call 97; refine (takeU_any v l z _ hv).mono ?_; rw [HT.out]; rintro e w' ⟨rfl, rfl⟩; unfold tkU)
    go_ret3
    exact ⟨rfl, rfl⟩
theorem TakeS_any (v : Value) (l : List UInt8) (z : Int) (w : World) (hv : IsBs w v l) :
    Calls Tryz.prog 136 #[v, .int .i64 z] w fun e w' => e = .returned (tkS (Leb.tk true l z)) ∧ w = w' := by
  go_enter Tryz.func136, Tryz.ntmps136
  cases ht : Leb.tk true l z
  all_goals
    have HT := Lib.hid ht; clear ht
    go_wp2_with (go_at_call 137; refine (takeS_any v l z _ hv).mono ?_; rw [HT.out]; rintro e w' ⟨rfl, rfl⟩; unfold tkS)
    go_ret3
    exact ⟨rfl, rfl⟩
end Go.Proofs.YtldmfchamcpmmaaGreatDoor
namespace Go.Proofs.YtldmfchamcpmmaaGreatDoor.Leb
theorem tk_some {sg : Bool} {l : List UInt8} {z n : Int} {k : Nat} (h : tk sg l z = some (n, k)) :
    1 ≤ z ∧ z ≤ 64 ∧ run l = k ∧ 1 ≤ k ∧ k ≤ 10 ∧ k ≤ l.length ∧ n = num sg (l.take k) ∧ fits sg z.toNat n = true := by
  unfold tk at h
  split at h
  · cases h
  split at h
  · next h1 h2 =>
    injection h with h; injection h with h3 h4
    subst h4
    have := run_le l
    exact ⟨by omega, by omega, rfl, by omega, by omega, this, h3.symm, by rw [← h3]; exact h2⟩
  cases h
theorem tk_fit {sg : Bool} {l : List UInt8} {z n : Int} {k : Nat} (h : tk sg l z = some (n, k)) : fit7 sg k n := by
  obtain ⟨h1, h2, h3, h4, h5, h6, h7, h8⟩ := tk_some h
  have := num_fit sg (l.take k)
  rw [List.length_take, Nat.min_eq_left h6, ← h7] at this
  exact this
theorem ap_length {sg : Bool} {z : Int} (h : fit7 sg 10 z) : (ap sg 10 z).length = need sg 10 z := by rw [ap_digs sg 9 z h, digs_length]
theorem fit7_mono {sg : Bool} {z : Int} {j k : Nat} (h : fit7 sg j z) (hj : j ≤ k) : fit7 sg k z := by
  have h1 : 128 ^ j ≤ 128 ^ k := Nat.pow_le_pow_right (by omega) hj
  have c1 := cast_pow j
  have c2 := cast_pow k
  unfold fit7 at *
  cases sg
  · simp at h ⊢; omega
  simp at h ⊢; omega
theorem tk_short {sg : Bool} {l : List UInt8} {z n : Int} {k : Nat} (h : tk sg l z = some (n, k)) : (ap sg 10 n).length ≤ k := by
  obtain ⟨h1, h2, h3, h4, h5, h6, h7, h8⟩ := tk_some h
  have hf := tk_fit h
  rw [ap_length (fit7_mono hf h5)]
  by_cases hk : k < need sg 10 n
  · exact absurd hf (need_min sg 10 k n (fit7_nonneg hf) h4 hk)
  omega
end Go.Proofs.YtldmfchamcpmmaaGreatDoor.Leb
namespace Go.Proofs.YtldmfchamcpmmaaGreatDoor.Leb
theorem digs_high (n : Nat) : ∀ z, high (digs (n + 1) z) n := by
  induction n with
  | zero => intro z; exact high_zero _
  | succ n ih =>
    intro z
    simp only [digs]
    rw [high_cons, toNat_hi]
    exact ⟨by omega, ih _⟩
theorem run_zero_take {l : List UInt8} {k i : Nat} (h : high l k) (hi : i ≤ k) : run (l.take i) = 0 := by
  apply run_end
  intro j c hj hc
  rw [List.getElem?_take] at hc
  simp at hj
  split at hc
  · exact h j c (by omega) hc
  cases hc
theorem tk_ap {sg : Bool} {z : Int} (h : fit7 sg 10 z) (r : List UInt8) {b : Nat} (h1 : 1 ≤ b) (h2 : b ≤ 64) :
    tk sg (ap sg 10 z ++ r) b = if fits sg b z then some (z, (ap sg 10 z).length) else none := by
  have hf : fit7 sg (need sg 10 z) z := need_fit sg 9 z h
  have hp : 1 ≤ need sg 10 z := need_pos sg 9 z
  have hm := fun n h1 h2 => need_min sg 10 n z (fit7_nonneg h) h1 h2
  have hd' : ap sg 10 z = digs (need sg 10 z) z := ap_digs sg 9 z h
  rw [hd']
  generalize hL : need sg 10 z = L at *
  obtain ⟨j, rfl⟩ : ∃ j, L = j + 1 := ⟨L - 1, by omega⟩
  have hr := digs_run j z r
  have hlen := digs_length (j + 1) z
  have hn : num sg ((digs (j + 1) z ++ r).take (j + 1)) = z := by
    rw [List.take_left' hlen, digs_num sg j z hf]
  unfold tk
  rw [hr, hlen]
  by_cases hlong : ((b : Int) + 6) / 7 < ((j + 1 : Nat) : Int)
  · rw [if_pos (by omega)]
    have : fits sg b z = false := by
      rw [Bool.eq_false_iff]
      intro hfit
      refine hm j (by omega) (by omega) ?_
      have hpw := pow_le (show b ≤ 7 * j by omega)
      unfold fits at hfit
      unfold fit7
      rw [pow128]
      have hnn := fit7_nonneg h
      cases sg
      · simp at hfit hnn ⊢; omega
      simp at hfit ⊢; omega
    rw [this]; rfl
  rw [if_neg (by omega), hn]
  simp
theorem tk_cut {sg : Bool} {z : Int} (h : fit7 sg 10 z) (i : Nat) (hi : i < (ap sg 10 z).length) (b : Int) : tk sg ((ap sg 10 z).take i) b = none := by
  have hp := need_pos sg 9 z
  rw [ap_length h] at hi
  have hd : ap sg 10 z = digs (need sg 10 z) z := ap_digs sg 9 z h
  rw [hd]
  obtain ⟨j, hj⟩ : ∃ j, need sg 10 z = j + 1 := ⟨need sg (9 + 1) z - 1, by have : need sg (9 + 1) z = need sg 10 z := rfl; omega⟩
  rw [hj]
  unfold tk
  rw [if_pos]
  right; right; left
  exact run_zero_take (digs_high j z) (by omega)
theorem ap_le {sg : Bool} {z : Int} (h : fit7 sg 10 z) : (ap sg 10 z).length ≤ 10 := by rw [ap_length h]; exact need_le _ _ _
theorem ap_pos {sg : Bool} {z : Int} (h : fit7 sg 10 z) : 1 ≤ (ap sg 10 z).length := by rw [ap_length h]; exact need_pos sg 9 z
end Go.Proofs.YtldmfchamcpmmaaGreatDoor.Leb
namespace Go.Proofs.YtldmfchamcpmmaaGreatDoor
open Go Go.RowKit
theorem isBs {w : World} {v : Value} {l : List Int} (h : Sl 1 (EInt .u8) w.heap v l) : IsBs w v (l.map Lib.byteOf) := by
  obtain ⟨a, cap, rfl, k1, k2, k3, k4, k5⟩ := id h
  refine ⟨a, cap, by rw [List.length_map], by rw [List.length_map]; exact k1, k2, k3, fun j c hj => ?_⟩
  rw [List.getElem?_map, Option.map_eq_some_iff] at hj
  obtain ⟨x, hx, rfl⟩ := hj
  have hlt := (List.getElem?_eq_some_iff.1 hx).1
  cases a with
  | none => have := k3 rfl; omega
  | some p =>
    obtain ⟨b, o, sp⟩ := p
    have hsp : sp = none := k4 (by omega) _ rfl
    subst hsp
    obtain ⟨h1, h2⟩ := h.int j hlt
    have e : l.getD j default = x := by rw [List.getD_eq_getElem?_getD, hx]; rfl
    rw [e] at h1 h2
    refine ⟨b, o, rfl, ?_⟩
    rw [cell_w rfl, Lib.byteOf_toNat h2]
    have ea : (vbase (.slice (some ⟨b, o, none⟩) l.length cap)).add j = ⟨b, o + j, none⟩ := by
      show (Addr.mk b o none).add j = _
      unfold Addr.add; split <;> simp_all
    rw [ea] at h1; exact h1
theorem Ct.same {P : Program} {f : FuncId} {args : List Value} {H : Heap} {v : Value} (h : ∀ w : World, w.heap = H → Calls P f args.toArray w fun e w' => e = .returned v ∧ w = w') : Ct P f args H (fun u H' => u = v ∧ H = H') :=
  fun w hw => (h w hw).mono fun _ _ ⟨he, hw'⟩ => by
    subst hw'
    exact ⟨_, he, St.refl w, rfl, hw.symm⟩
/-- bytes as numbers -/
def uints (l : List UInt8) : List Int := l.map fun b => (b.toNat : Int)
theorem uints_range {l : List UInt8} : ∀ x ∈ uints l, InR .u8 x := by
  intro x hx
  simp only [uints, List.mem_map] at hx
  obtain ⟨b, _, rfl⟩ := hx
  have := UInt8.toNat_lt b
  dsimp only [InR]; omega
theorem uints_length (l : List UInt8) : (uints l).length = l.length := by simp [uints]
theorem byteOf_uints (l : List UInt8) : (uints l).map Lib.byteOf = l := by
  unfold uints; rw [List.map_map]
  conv => rhs; rw [← List.map_id l]
  apply List.map_congr_left
  intro b _
  simp [Lib.byteOf, Nat.toUInt8]
theorem own_fresh {w w' : World} {v : Value} {l : List UInt8} {m : List Int} (h : Fresh w w' v l) (e : uints l = m) : Own 1 (EInt .u8) 5 #[] w.heap.size w'.heap v m ∧ Old w.heap w'.heap := by
  subst e
  refine ⟨⟨l.map B8, ?_, ?_⟩, h.2.size, h.2.block⟩
  · rw [uints_length]; exact h.1
  intro j x hj
  have hr := uints_range x (List.mem_of_getElem? (by rw [← nth_eq]; exact hj))
  rw [nth_eq] at hj
  refine ⟨?_, hr⟩
  unfold uints at hj
  rw [List.getElem?_map, Option.map_eq_some_iff] at hj
  obtain ⟨b, hb, rfl⟩ := hj
  have hlt := (List.getElem?_eq_some_iff.1 hb).1
  rw [Nat.mul_one, ← List.map_drop, List.drop_eq_getElem_cons hlt]
  have : l[j] = b := (List.getElem?_eq_some_iff.1 hb).2
  simp [this, B8]
theorem Ct.fresh {P : Program} {f : FuncId} {args : List Value} {H : Heap} {l : List UInt8} {m : List Int} (e : uints l = m) (h : ∀ w : World, w.heap = H → Calls P f args.toArray w fun e w' => ∃ v', e = .returned v' ∧ Fresh w w' v' l) :
    Ct P f args H (fun u H' => Own 1 (EInt .u8) 5 #[] H.size H' u m ∧ Old H H') :=
  fun w hw => (h w hw).mono fun _ w' ⟨v', he, hf⟩ => by
    have := own_fresh hf e
    subst hw
    exact ⟨v', he, ⟨rfl, hf.2.os, hf.2.tape, hf.2.output⟩, this⟩
namespace Lb
/-- the number with which bytes begin, of so many bits, and how many bytes it has -/
def tk (l : List Int) (z : Int) : Option (Int × Nat) := Leb.tk false (l.map Lib.byteOf) z
/-- the bytes of a number -/
def ap (z : Int) : List Int := uints (Leb.ap false 10 z)
theorem fit10 {z : Int} (h0 : 0 ≤ z) (h1 : z < 18446744073709551616) : Leb.fit7 false 10 z := by
  unfold Leb.fit7
  rw [if_neg (by decide)]
  exact ⟨h0, by rw [show (128 : Int) ^ 10 = 1180591620717411303424 by decide]; omega⟩
theorem ap_length {z : Int} (h0 : 0 ≤ z) (h1 : z < 18446744073709551616) : 1 ≤ (ap z).length ∧ (ap z).length ≤ 10 := by
  unfold ap; rw [uints_length]
  exact ⟨Leb.ap_pos (fit10 h0 h1), Leb.ap_le (fit10 h0 h1)⟩
theorem tk_some {l : List Int} {z n : Int} {k : Nat} (h : tk l z = some (n, k)) : 1 ≤ k ∧ k ≤ 10 ∧ k ≤ l.length ∧ 0 ≤ n ∧ n < 2 ^ z.toNat := by
  obtain ⟨h1, h2, h3, h4, h5, h6, h7, h8⟩ := Leb.tk_some h
  rw [List.length_map] at h6
  have hf := Leb.fit7_nonneg (Leb.tk_fit h)
  refine ⟨h4, h5, h6, by rcases hf with h | h; cases h; exact h, ?_⟩
  simpa [Leb.fits] using h8
theorem tk32 {l : List Int} {n : Int} {k : Nat} (h : tk l 32 = some (n, k)) : 1 ≤ k ∧ k ≤ 10 ∧ k ≤ l.length ∧ 0 ≤ n ∧ n < 4294967296 := tk_some h
/-- what was appended is taken, whatever stands behind -/
theorem tk_ap {n : Int} (h0 : 0 ≤ n) (h1 : n < 4294967296) (r : List Int) : tk (ap n ++ r) 32 = some (n, (ap n).length) := by
  unfold tk ap
  rw [List.map_append, byteOf_uints, uints_length]
  have := Leb.tk_ap (sg := false) (z := n) (fit10 h0 (by omega)) (r.map Lib.byteOf) (b := 32) (by omega) (by omega)
  rw [show ((32 : Nat) : Int) = 32 from rfl] at this
  rw [this, if_pos]
  simp only [Leb.fits]
  simp
  exact h1
end Lb
theorem TakeU_k {H : Heap} (v : Value) (l : List Int) (z : Int) (hs : Sl 1 (EInt .u8) H v l) : Ct Tryz.prog 53 [v, .int .i64 z] H (fun u H' => u = tkU (Lb.tk l z) ∧ H = H') :=
  Ct.same fun w hw => TakeU_any v _ z w (isBs (by rw [hw]; exact hs))
theorem AppendU_k {H : Heap} (v : Value) (l : List Int) (z : Int) (hs : Sl 1 (EInt .u8) H v l) (hl : l.length ≤ 1000000) (h0 : 0 ≤ z) (h1 : z < 18446744073709551616) :
    Ct Tryz.prog 33 [v, .int .u64 z] H (fun u H' => Own 1 (EInt .u8) 5 #[] H.size H' u (l ++ Lb.ap z) ∧ Old H H') :=
  Ct.fresh (by unfold Lb.ap uints; rw [List.map_append]; exact congrArg (· ++ _) (bytes_back hs.int_range)) fun w hw => AppendU_any v (l.map Lib.byteOf) z w (isBs (by rw [hw]; exact hs)) (by rw [List.length_map]; exact hl) h0 h1
namespace Utf
/-- the number of a character -/
def cp (c : Int) (l : List Int) : Nat → Int
  | 0 => c
  | 1 => c
  | k + 2 => 64 * cp c l (k + 1) + l.getD (k + 1) default - 128
def bd : Nat → Int
  | 0 => 32
  | 1 => 32
  | 2 => 2048
  | 3 => 131072
  | _ => 8388608
end Utf
namespace Utf
theorem getD_take {l : List Int} {i c : Nat} (h : i < c) : (l.take c).getD i default = l.getD i default := by
  rw [List.getD_eq_getElem?_getD, List.getElem?_take, if_pos h, ← List.getD_eq_getElem?_getD]
end Utf
namespace Nm
/-- the name with which bytes begin, and of how many bytes that is -/
def nt (l : List Int) : Option (List Int × Nat) :=
  match Lb.tk l 32 with
  | none => none
  | some (n, k) => if n ≤ ((l.length - k : Nat) : Int) ∧ Utf.valid ((l.drop k).take n.toNat) = true then some ((l.drop k).take n.toNat, k + n.toNat) else none
def V : Option (List Int × Nat) → Value
  | none => .tuple #[.string ⟨#[]⟩, .int .i64 0, .bool false]
  | some (t, k) => .tuple #[.string (bstr t), .int .i64 (k : Nat), .bool true]
theorem none {l : List Int} (h : Lb.tk l 32 = Option.none) : nt l = Option.none := by unfold nt; rw [h]
theorem bad {l : List Int} {n : Int} {k : Nat} (h : Lb.tk l 32 = some (n, k)) (hb : ((l.length - k : Nat) : Int) < n ∨ Utf.valid ((l.drop k).take n.toNat) = false) : nt l = Option.none := by
  unfold nt; rw [h]
  simp only []
  rw [if_neg]
  rintro ⟨h1, h2⟩
  rcases hb with hb | hb
  · omega
  rw [hb] at h2; cases h2
theorem good {l : List Int} {n : Int} {k : Nat} (h : Lb.tk l 32 = some (n, k)) (h1 : n ≤ ((l.length - k : Nat) : Int)) (h2 : Utf.valid ((l.drop k).take n.toNat) = true) : nt l = some ((l.drop k).take n.toNat, k + n.toNat) := by
  unfold nt; rw [h]
  simp only []
  rw [if_pos ⟨h1, h2⟩]
/-- a name that was appended, whatever stands behind -/
theorem back (s r : List Int) (hs : s.length < 4294967296) : nt (Lb.ap (s.length : Int) ++ s ++ r) = if Utf.valid s = true then some (s, (Lb.ap (s.length : Int)).length + s.length) else Option.none := by
  have ht := Lb.tk_ap (n := (s.length : Int)) (by omega) (by omega) (s ++ r)
  rw [← List.append_assoc] at ht
  have e : ((Lb.ap (s.length : Int) ++ s ++ r).drop (Lb.ap (s.length : Int)).length).take ((s.length : Int)).toNat = s := by
    rw [List.append_assoc, List.drop_left, Int.toNat_natCast, List.take_left]
  split
  · next hv =>
    rw [good ht (by simp; omega) (by rw [e]; exact hv), e, Int.toNat_natCast]
  next hv => exact bad ht (.inr (by rw [e]; simpa using hv))
theorem range {l t : List Int} {k : Nat} (r : ∀ x ∈ l, InR .u8 x) (h : nt l = some (t, k)) : ∀ x ∈ t, InR .u8 x := by
  unfold nt at h
  split at h
  · cases h
  split at h
  · injection h with h; injection h with h1 h2
    subst h1
    exact fun x hx => r x (List.mem_of_mem_drop (List.mem_of_mem_take hx))
  cases h
end Nm
theorem TakeU_none {H : Heap} (v : Value) (l : List Int) (z : Int) (hs : Sl 1 (EInt .u8) H v l) (h : Lb.tk l z = none) : Ct Tryz.prog 53 [v, .int .i64 z] H (fun u H' => u = .tuple #[.int .u64 0, .int .i64 0, .bool false] ∧ H = H') := by
  have := TakeU_k v l z hs
  rw [h] at this; exact this
theorem TakeU_some {H : Heap} (v : Value) (l : List Int) (z n : Int) (k : Nat) (hs : Sl 1 (EInt .u8) H v l) (h : Lb.tk l z = some (n, k)) : Ct Tryz.prog 53 [v, .int .i64 z] H (fun u H' => u = .tuple #[.int .u64 n, .int .i64 (k : Nat), .bool true] ∧ H = H') := by
  have := TakeU_k v l z hs
  rw [h] at this; exact this
/-- a section: its number, and its bytes -/
abbrev Sec := Int × List Int
def ESec : El Sec := fun H cs x => ∃ v, cs = [.int .u8 x.1, v] ∧ Sl 1 (EInt .u8) H v x.2 ∧ InR .u8 x.1
instance keepsSec : Keeps ESec := ⟨fun ho h => by
  obtain ⟨v, hv, hs, r⟩ := h
  exact ⟨v, hv, hs.old ho, r⟩⟩
instance oneSec : One ESec := ⟨fun h u hu => by
  obtain ⟨v, rfl, hs, _⟩ := h
  simp only [List.mem_cons, List.not_mem_nil, or_false] at hu
  rcases hu with rfl | rfl <;> first | rfl | exact hs.one⟩
theorem Sl.secAt {H : Heap} {v : Value} {l : List Sec} (h : Sl 2 ESec H v l) (j : Nat) (hj : j < l.length) : ∃ u, CellsH H ((vbase v).add (j * 2)) [.int .u8 (l.getD j default).1, u] ∧ Sl 1 (EInt .u8) H u (l.getD j default).2 ∧ InR .u8 (l.getD j default).1 := by
  obtain ⟨cs, hl, hc, u, rfl, hu, h1⟩ := h.at j hj
  exact ⟨u, hc, hu, h1⟩
namespace Sc
/-- the sections of what is left, behind one of number last -/
def go : Nat → List Int → Int → Option (List Sec)
  | 0, _, _ => none
  | f + 1, r, last => if r.length = 0 then some [] else
    match Lb.tk (r.drop 1) 32 with
    | none => none
    | some (n, k) => if ((r.length - 1 - k : Nat) : Int) < n then none
      else if r.getD 0 default = 0 then (if Nm.nt ((r.drop (1 + k)).take n.toNat) = none then none else go f (r.drop (1 + k + n.toNat)) last)
      else if last < r.getD 0 default ∧ r.getD 0 default ≤ 11 then (go f (r.drop (1 + k + n.toNat)) (r.getD 0 default)).map ((r.getD 0 default, (r.drop (1 + k)).take n.toNat) :: ·)
      else none
theorem go_fuel : ∀ (f f' : Nat) (r : List Int) (last : Int), r.length < f → r.length < f' → go f r last = go f' r last := by
  intro f
  induction f with
  | zero => intro f' r last h; omega
  | succ f ih =>
    intro f' r last h h'
    obtain ⟨g, rfl⟩ : ∃ g, f' = g + 1 := ⟨f' - 1, by omega⟩
    simp only [go]
    split
    · rfl
    split
    · rfl
    next n k ht =>
    have := Lb.tk32 ht
    rw [List.length_drop] at this
    have hd : (r.drop (1 + k + n.toNat)).length < f ∧ (r.drop (1 + k + n.toNat)).length < g := by rw [List.length_drop]; omega
    rw [ih g _ last hd.1 hd.2, ih g _ (r.getD 0 default) hd.1 hd.2]
/-- the sections of what is left -/
def sp (r : List Int) (last : Int) : Option (List Sec) := go (r.length + 1) r last
theorem sp_nil {r : List Int} {last : Int} (h : r.length = 0) : sp r last = some [] := by unfold sp go; rw [if_pos h]
section
variable {r : List Int} {last : Int} (h : 0 < r.length)
include h
theorem sp_none (ht : Lb.tk (r.drop 1) 32 = none) : sp r last = none := by
  unfold sp go; rw [if_neg (by omega), ht]
variable {n : Int} {k : Nat} (ht : Lb.tk (r.drop 1) 32 = some (n, k))
include ht
theorem sp_long (hn : ((r.length - 1 - k : Nat) : Int) < n) : sp r last = none := by
  unfold sp go; rw [if_neg (by omega), ht]; simp only []; rw [if_pos hn]
theorem sp_cust (hn : ¬ ((r.length - 1 - k : Nat) : Int) < n) (h0 : r.getD 0 default = 0) : sp r last = if Nm.nt ((r.drop (1 + k)).take n.toNat) = none then none else sp (r.drop (1 + k + n.toNat)) last := by
  have hd := Lb.tk32 ht
  conv => lhs; unfold sp go
  rw [if_neg (by omega), ht]; simp only []; rw [if_neg hn, if_pos h0]
  split
  · rfl
  exact go_fuel _ _ _ _ (by rw [List.length_drop]; omega) (by omega)
theorem sp_bad (hn : ¬ ((r.length - 1 - k : Nat) : Int) < n) (h0 : ¬ r.getD 0 default = 0) (hb : ¬ (last < r.getD 0 default ∧ r.getD 0 default ≤ 11)) : sp r last = none := by
  unfold sp go; rw [if_neg (by omega), ht]; simp only []; rw [if_neg hn, if_neg h0, if_neg hb]
theorem sp_good (hn : ¬ ((r.length - 1 - k : Nat) : Int) < n) (h0 : ¬ r.getD 0 default = 0) (hb : last < r.getD 0 default ∧ r.getD 0 default ≤ 11) :
    sp r last = (sp (r.drop (1 + k + n.toNat)) (r.getD 0 default)).map ((r.getD 0 default, (r.drop (1 + k)).take n.toNat) :: ·) := by
  conv => lhs; unfold sp go
  rw [if_neg (by omega), ht]; simp only []; rw [if_neg hn, if_neg h0, if_pos hb]
  rw [show go r.length (r.drop (1 + k + n.toNat)) (r.getD 0 default) = sp (r.drop (1 + k + n.toNat)) (r.getD 0 default) from go_fuel _ _ _ _ (by rw [List.length_drop]; omega) (by omega)]
end
/-- what a binary begins with -/
def beg : List Int := [0, 97, 115, 109, 1, 0, 0, 0]
/-- the sections of a binary -/
def split (l : List Int) : Option (List Sec) := if l.take 8 = beg then sp (l.drop 8) 0 else none
/-- do the numbers rise, behind last, to 11 at most? -/
def rise : Int → List Sec → Bool
  | _, [] => true
  | last, s :: l => decide (last < s.1 ∧ s.1 ≤ 11) && rise s.1 l
/-- the bytes of sections -/
def body : List Sec → List Int
  | [] => []
  | s :: l => [s.1] ++ Lb.ap (s.2.length : Int) ++ s.2 ++ body l
def join (l : List Sec) : Option (List Int) := if rise 0 l = true then some (beg ++ body l) else none
theorem body_app (l m : List Sec) : body (l ++ m) = body l ++ body m := by
  induction l with
  | nil => rfl
  | cons s l ih => simp only [List.cons_append, body, ih, List.append_assoc]
/-- the last number -/
def lst : Int → List Sec → Int
  | last, [] => last
  | _, s :: l => lst s.1 l
theorem rise_app (last : Int) (l m : List Sec) : rise last (l ++ m) = (rise last l && rise (lst last l) m) := by
  induction l generalizing last with
  | nil => simp [rise, lst]
  | cons s l ih => simp only [List.cons_append, rise, lst, ih, Bool.and_assoc]
theorem lst_app (last : Int) (l m : List Sec) : lst last (l ++ m) = lst (lst last l) m := by
  induction l generalizing last with
  | nil => rfl
  | cons s l ih => exact ih s.1
end Sc
theorem nameValid_any {H : Heap} (v : Value) (l : List Int) (hs : Sl 1 (EInt .u8) H v l) (hT : TabU H) : Ct Tryz.prog 100 [v] H (fun u H' => u = .bool (Utf.valid l) ∧ Old H H') := by
  refine Ct.mk Tryz.func100 rfl Tryz.ntmps100 rfl ?_
  intro W0 hW0
  have o0 : Old H H := Old.refl H
  refine KC.sr (KL.fin 1 rfl (KQ.sr (KL.run 1 rfl ?_)))
  refine KL.c rfl Tryz.call115 (utf8Valid_any _ _ hs hT) ?_
  rintro _ H1 ⟨rfl, ox⟩
  have zc_H1 := (ox).1
  have o0 := o0.trans ox
  refine KL.fin 1 rfl (KQ.seq (KC.ret (KQ.ofRet (KQ.fin1 Tryz.results100 rfl ?_))))
  exact ⟨rfl, o0⟩
theorem Take_none {H : Heap} (v : Value) (l : List Int) (hs : Sl 1 (EInt .u8) H v l) (hT : TabU H) (ht : Lb.tk l 32 = none) : Ct Tryz.prog 54 [v] H (fun u H' => u = Nm.V (Nm.nt l) ∧ Old H H') := by
  refine Ct.mk Tryz.func54 rfl Tryz.ntmps54 rfl ?_
  intro W0 hW0
  have o0 : Old H H := Old.refl H
  refine KC.sr (KL.fin 3 rfl (KQ.sr (KL.run 1 rfl ?_)))
  refine KL.c rfl Tryz.call53 (TakeU_none _ _ _ hs ht) ?_
  rintro _ _ ⟨rfl, rfl⟩
  refine KL.fin 7 rfl (KQ.seq (KC.seq (KC.sr (KL.fin 11 rfl (KQ.seq (KC.condT rfl (KC.sr (KL.fin 3 rfl (KQ.seq (KC.ret (KQ.retThen ?_)))))))))))
  refine KQ.ofRet (KQ.fin3 Tryz.results54 rfl rfl rfl ?_)
  exact ⟨by rw [Nm.none ht]; rfl, o0⟩
theorem Take_some {H : Heap} (v : Value) (l : List Int) (hs : Sl 1 (EInt .u8) H v l) (hT : TabU H) (n : Int) (k : Nat) (ht : Lb.tk l 32 = some (n, k)) : Ct Tryz.prog 54 [v] H (fun u H' => u = Nm.V (Nm.nt l) ∧ Old H H') := by
  refine Ct.mk Tryz.func54 rfl Tryz.ntmps54 rfl ?_
  intro W0 hW0
  have o0 : Old H H := Old.refl H
  have hb := Lb.tk32 ht
  have hlen := hs.len
  refine KC.sr (KL.fin 3 rfl (KQ.sr (KL.run 1 rfl ?_)))
  refine KL.c rfl Tryz.call53 (TakeU_some _ _ _ _ _ hs ht) ?_
  rintro _ _ ⟨rfl, rfl⟩
  refine KL.fin 7 rfl (KQ.seq (KC.seq (KC.sr (KL.run 5 rfl ?_))))
  refine KL.q (by exact R.lenS rfl U34 rfl hs) rfl ?_
  refine KL.run 1 rfl ?_
  refine KL.q (R.sub rfl rfl rfl (by dsimp only [InR]; omega)) rfl ?_
  refine KL.q (R.convI rfl U3 U95 rfl (by dsimp only [InR]; omega)) rfl ?_
  refine KL.fin 2 rfl (KQ.seq ?_)
  refine KC.iq rfl ?_ ?_
  · intro hc25
    refine KC.sr (KL.fin 3 rfl (KQ.seq (KC.ret (KQ.retThen (KQ.ofRet (KQ.fin3 Tryz.results54 rfl rfl rfl ?_))))))
    (exact ⟨by rw [Nm.bad ht (.inl (by omega))]; rfl, o0⟩)
  intro hc25
  refine KC.skip (KQ.sr (KL.run 2 rfl ?_))
  refine KL.q (R.convI rfl U95 U3 rfl (by dsimp only [InR]; omega)) rfl ?_
  refine KL.q ((R.add rfl rfl rfl (by dsimp only [InR]; omega)).val (congrArg (Value.int .i64) (show _ = ((k + n.toNat : Nat) : Int) from by omega))) rfl ?_
  refine KL.fin 1 rfl (KQ.sr (KL.run 4 rfl ?_))
  refine KL.q (R.slice3 (i := k) (j := k + n.toNat) rfl U34 sz5 rfl hs (bnd.mk rfl rfl) rfl rfl rfl rfl (by omega) (by omega)) rfl ?_
  have st : Sl 1 (EInt .u8) H (sub3 1 v k (k + n.toNat) (k + n.toNat)) ((l.drop k).take n.toNat) := by
    have h9 := hs.sub3 (lo := k) (hi := k + n.toNat) (by omega) (by omega)
    rwa [List.drop_take, Nat.add_sub_cancel_left] at h9
  refine KL.fin 1 rfl (KQ.seq (KC.seq (KC.sr (KL.run 1 rfl ?_))))
  refine KL.c rfl Tryz.call100 (nameValid_any _ _ st (hT.old o0)) ?_
  rintro _ H1 ⟨rfl, ox⟩
  have zc_H1 := (ox).1
  have o0 := o0.trans ox
  have hs := hs.old ox
  have st := st.old ox
  refine KL.fin 1 rfl (KQ.seq ?_)
  refine KC.iq rfl ?_ ?_
  · intro hc37
    refine KC.sr (KL.fin 3 rfl (KQ.seq (KC.ret (KQ.retThen (KQ.ofRet (KQ.fin3 Tryz.results54 rfl rfl rfl ?_))))))
    (exact ⟨by rw [Nm.bad ht (.inr (by assumption))]; rfl, o0⟩)
  intro hc37
  refine KC.skip (KQ.sr (KL.run 1 rfl (KL.q (R.convBS rfl U34 U5 U9 rfl st) rfl (KL.fin 4 rfl (KQ.seq (KC.ret (KQ.ofRet (KQ.fin3 Tryz.results54 rfl rfl rfl ?_))))))))
  (exact ⟨by rw [Nm.good ht (by omega) (by assumption)]; rfl, o0⟩)
theorem NTake_any {H : Heap} (v : Value) (l : List Int) (hs : Sl 1 (EInt .u8) H v l) (hT : TabU H) : Ct Tryz.prog 54 [v] H (fun u H' => u = Nm.V (Nm.nt l) ∧ Old H H') := by
  cases ht : Lb.tk l 32 with
  | none => exact Take_none v l hs hT ht
  | some p => exact Take_some v l hs hT p.1 p.2 ht
theorem Take_is {H : Heap} (v : Value) (l : List Int) (hs : Sl 1 (EInt .u8) H v l) (hT : TabU H) {o : Option (List Int × Nat)} (e : Nm.nt l = o) : Ct Tryz.prog 54 [v] H (fun u H' => u = Nm.V o ∧ Old H H') := by
  have := NTake_any v l hs hT
  rw [e] at this; exact this
theorem NAppend_any {H : Heap} (v : Value) (l : List Int) (s : ByteArray) (hs : Sl 1 (EInt .u8) H v l) (hl : l.length ≤ 100000) (hz : s.size ≤ 100000) : Ct Tryz.prog 101 [v, .string s] H (fun u H' => Own 1 (EInt .u8) 5 #[] H.size H' u (l ++ Lb.ap (s.size : Nat) ++ ints s) ∧ Old H H') := by
  refine Ct.mk Tryz.func101 rfl Tryz.ntmps101 rfl ?_
  intro W0 hW0
  have o0 : Old H H := Old.refl H
  refine KC.sr (KL.fin 1 rfl (KQ.sr (KL.run 2 rfl (KL.q (R.lenStr (ty := 0) rfl U9 rfl) rfl ?_))))
  refine KL.q (R.convI rfl U3 U95 rfl (by dsimp only [InR]; omega)) rfl ?_
  refine KL.c rfl Tryz.call33 (AppendU_k _ _ _ hs (by omega) (by omega) (by omega)) ?_
  rintro va H1 ⟨wa, ox⟩
  have zc_H1 := (ox).1
  have o0 := o0.trans ox
  have hs := hs.old ox
  have hal := (Lb.ap_length (z := (s.size : Int)) (by omega) (by omega)).2
  refine KL.run 1 rfl ?_
  have lt2 := wa.lt
  refine KL.m (M.appendStr rfl U34 U9 inf5 rfl rfl wa (by omega) (by rw [List.length_append]; omega)) rfl ?_
  rintro v2 H2 ⟨w2, g2⟩
  have ob2 := g2.oldB wa (by omega)
  have o0 := o0.then ob2 (by omega)
  have z2 := ob2.1
  have wa := w2
  refine KL.fin 1 rfl (KQ.seq (KC.ret (KQ.ofRet (KQ.fin1 Tryz.results101 rfl ?_))))
  exact ⟨wa, o0⟩
end Go.Proofs.YtldmfchamcpmmaaGreatDoor
namespace Go.Proofs.YtldmfchamcpmmaaGreatDoor
open Go Go.RowKit Go.ChangeShapes Go.WideShapes Go.Deep
def ELim : El (Int × Int) := fun _ cs x => cs = [.int .u32 x.1, .int .i64 x.2] ∧ InR .u32 x.1 ∧ InR .i64 x.2
end Go.Proofs.YtldmfchamcpmmaaGreatDoor
namespace Go.Proofs.YtldmfchamcpmmaaGreatDoor
open Go Go.RowKit
abbrev FTy := List Int × List Int
abbrev Glb := Int × Bool
structure Imp where
  mod : ByteArray
  nam : ByteArray
  kind : Int
  typ : Int
  lim : Int × Int
  glob : Glb
structure Exp where
  nam : ByteArray
  kind : Int
  idx : Int
abbrev Glo := Glb × List Ins
abbrev Elm := Int × List Ins × List Int
abbrev Cod := List (Int × Int) × List Ins
structure Mo where
  types : List FTy
  imports : List Imp
  funcs : List Int
  tables : List (Int × Int)
  mems : List (Int × Int)
  globs : List Glo
  exports : List Exp
  hasStart : Bool
  start : Int
  elems : List Elm
  codes : List Cod
  datas : List Elm
instance : Inhabited Imp := ⟨⟨⟨#[]⟩, ⟨#[]⟩, 0, 0, (0, 0), (0, false)⟩⟩
instance : Inhabited Exp := ⟨⟨⟨#[]⟩, 0, 0⟩⟩
namespace En
def u (z : Int) : List Int := Lb.ap z
def vOk (t : Int) : Bool := decide (t = 127 ∨ t = 126)
/-- the bytes of a list -/
def lst {α : Type} (f : α → List Int) (l : List α) : List Int := u (l.length : Nat) ++ l.flatMap f
def txt (s : ByteArray) : List Int := u (s.size : Nat) ++ ints s
def limB (x : Int × Int) : List Int := if x.2 < 0 then 0 :: u x.1 else 1 :: (u x.1 ++ u (x.2 % 4294967296))
def limO (x : Int × Int) : Bool := decide (-1 ≤ x.2 ∧ x.2 < 4294967296)
def tabB (x : Int × Int) : List Int := 112 :: limB x
def globB (g : Glb) : List Int := [g.1, if g.2 = true then 1 else 0]
def globO (g : Glb) : Bool := vOk g.1
def valB (t : Int) : List Int := [t]
def typB (x : FTy) : List Int := 96 :: (lst valB x.1 ++ lst valB x.2)
def typO (x : FTy) : Bool := x.1.all vOk && x.2.all vOk
def impM (x : Imp) : List Int := if x.kind = 0 then u x.typ else if x.kind = 1 then tabB x.lim else if x.kind = 2 then limB x.lim else if x.kind = 3 then globB x.glob else []
def impO2 (x : Imp) : Bool := if x.kind = 0 then true else if x.kind = 1 then limO x.lim else if x.kind = 2 then limO x.lim else if x.kind = 3 then globO x.glob else false
def impB (x : Imp) : List Int := txt x.mod ++ txt x.nam ++ x.kind :: impM x
def impO (x : Imp) : Bool := Utf.valid (ints x.mod) && Utf.valid (ints x.nam) && decide (x.kind = 0 ∨ x.typ = 0) && decide (x.kind = 1 ∨ x.kind = 2 ∨ x.lim = (0, 0)) && decide (x.kind = 3 ∨ x.glob = (0, false)) && impO2 x
def expB (x : Exp) : List Int := txt x.nam ++ x.kind :: u x.idx
def expO (x : Exp) : Bool := Utf.valid (ints x.nam) && decide (x.kind ≤ 3)
def locB (x : Int × Int) : List Int := u x.1 ++ [x.2]
def locO (x : Int × Int) : Bool := vOk x.2
def locS : List (Int × Int) → Int
  | [] => 0
  | x :: l => x.1 + locS l
/-- a section of a list, if it has an entry -/
def sec {α : Type} (id : Int) (f : α → List Int) (l : List α) : List Sec := if l.length = 0 then [] else [(id, lst f l)]
end En
namespace En
theorem apl (sg : Bool) : ∀ (f : Nat) (z : Int), (Leb.ap sg f z).length ≤ f
  | 0, z => by simp [Leb.ap]
  | f + 1, z => by
    have := apl sg f (z / 128)
    unfold Leb.ap
    split <;> simp <;> omega
theorem u_le (z : Int) : (u z).length ≤ 10 := by
  unfold u Lb.ap uints
  rw [List.length_map]; exact apl false 10 z
theorem flatMap_le {α : Type} {f : α → List Int} {c : Nat} : ∀ {l : List α}, (∀ x ∈ l, (f x).length ≤ c) → (l.flatMap f).length ≤ c * l.length
  | [], _ => by simp
  | x :: l, h => by
    have h1 := h x List.mem_cons_self
    have h2 := flatMap_le (l := l) (fun y hy => h y (List.mem_cons_of_mem _ hy))
    rw [List.flatMap_cons, List.length_append, List.length_cons, Nat.mul_add, Nat.mul_one]; omega
theorem lst_le {α : Type} {f : α → List Int} {c : Nat} {l : List α} (h : ∀ x ∈ l, (f x).length ≤ c) : (lst f l).length ≤ 10 + c * l.length := by
  have h1 := flatMap_le h
  have h2 := u_le (l.length : Nat)
  unfold lst; rw [List.length_append]; omega
theorem txt_le {s : ByteArray} {c : Nat} (h : s.size ≤ c) : (txt s).length ≤ 10 + c := by
  have := u_le (s.size : Nat)
  unfold txt; rw [List.length_append, ints_length]; omega
theorem lim_le (x : Int × Int) : (limB x).length ≤ 21 := by
  have h1 := u_le x.1
  have h2 := u_le (x.2 % 4294967296)
  unfold limB
  split <;> simp only [List.length_cons, List.length_append] <;> omega
theorem tab_le (x : Int × Int) : (tabB x).length ≤ 22 := by
  have := lim_le x
  unfold tabB; rw [List.length_cons]; omega
theorem glob_le (g : Glb) : (globB g).length ≤ 2 := by unfold globB; simp
theorem typ_le {x : FTy} (h : x.1.length ≤ 4000 ∧ x.2.length ≤ 4000) : (typB x).length ≤ 1000000 := by
  have h1 := lst_le (f := valB) (c := 1) (l := x.1) (fun _ _ => by simp [valB])
  have h2 := lst_le (f := valB) (c := 1) (l := x.2) (fun _ _ => by simp [valB])
  unfold typB; simp only [List.length_cons, List.length_append]; omega
theorem imp_le {x : Imp} (h : x.mod.size ≤ 4000 ∧ x.nam.size ≤ 4000) : (impB x).length ≤ 1000000 := by
  have h1 := txt_le h.1
  have h2 := txt_le h.2
  have h3 : (impM x).length ≤ 22 := by
    have a1 := u_le x.typ
    have a2 := tab_le x.lim
    have a3 := lim_le x.lim
    have a4 := glob_le x.glob
    unfold impM
    repeat' split
    all_goals first | omega | (simp; done)
  unfold impB; simp only [List.length_cons, List.length_append]; omega
theorem exp_le {x : Exp} (h : x.nam.size ≤ 4000) : (expB x).length ≤ 1000000 := by
  have h1 := txt_le h
  have h2 := u_le x.idx
  unfold expB; simp only [List.length_cons, List.length_append]; omega
theorem take_succD {α : Type} [Inhabited α] {l : List α} {k : Nat} (h : k < l.length) : l.take (k + 1) = l.take k ++ [l.getD k default] := by
  rw [List.take_succ_eq_append_getElem h, List.getD_eq_getElem?_getD, List.getElem?_eq_getElem h]; rfl
theorem getD_memD {α : Type} [Inhabited α] {l : List α} {k : Nat} (h : k < l.length) : l.getD k default ∈ l := by
  rw [List.getD_eq_getElem?_getD, List.getElem?_eq_getElem h]; exact List.getElem_mem _
theorem lst_step {α : Type} [Inhabited α] {f : α → List Int} {l : List α} {k : Nat} {a b : List Int} (h : k < l.length) : (a ++ (b ++ (l.take k).flatMap f)) ++ f (l.getD k default) = a ++ (b ++ (l.take (k + 1)).flatMap f) := by
  rw [take_succD h, List.flatMap_append, List.flatMap_singleton]; simp only [List.append_assoc]
theorem all_step {α : Type} [Inhabited α] {p : α → Bool} {l : List α} {k : Nat} {b : Bool} (h : k < l.length) : ((b || !(l.take k).all p) || !p (l.getD k default)) = (b || !(l.take (k + 1)).all p) := by
  rw [take_succD h, List.all_append]
  simp only [List.all_cons, List.all_nil, Bool.and_true, Bool.not_and, Bool.or_assoc]
theorem take_le {α : Type} {f : α → List Int} (l : List α) (k : Nat) : ((l.take k).flatMap f).length ≤ (l.flatMap f).length := by
  conv => rhs; rw [← List.take_append_drop k l, List.flatMap_append, List.length_append]
  omega
/-- what has been written of a list, and the next of it -/
theorem room {α : Type} [Inhabited α] {f : α → List Int} {l : List α} {k c : Nat} {a : List Int} (h : k < l.length) (hN : a.length + (lst f l).length ≤ c) : (a ++ (u (l.length : Nat) ++ (l.take k).flatMap f)).length + (f (l.getD k default)).length ≤ c := by
  have h1 := take_le (f := f) l (k + 1)
  rw [take_succD h, List.flatMap_append, List.flatMap_singleton, List.length_append] at h1
  unfold lst at hN
  simp only [List.length_append] at hN ⊢
  omega
theorem locS_app : ∀ (l m : List (Int × Int)), locS (l ++ m) = locS l + locS m
  | [], m => by simp [locS]
  | x :: l, m => by simp only [List.cons_append, locS]; rw [locS_app l m]; omega
theorem locS_rng : ∀ {l : List (Int × Int)}, (∀ x ∈ l, 0 ≤ x.1 ∧ x.1 ≤ 4294967295) → 0 ≤ locS l ∧ locS l ≤ 4294967295 * (l.length : Nat)
  | [], _ => by simp [locS]
  | x :: l, h => by
    have h1 := h x List.mem_cons_self
    have h2 := locS_rng (l := l) (fun y hy => h y (List.mem_cons_of_mem _ hy))
    simp only [locS, List.length_cons]; omega
theorem locS_step {l : List (Int × Int)} {k : Nat} (h : k < l.length) : locS (l.take (k + 1)) = locS (l.take k) + (l.getD k default).1 := by
  rw [take_succD h, locS_app]; simp [locS]
end En
/-- a writer: its row, and whether something has no bytes -/
structure WA (H : Heap) (g : Nat) (v : Value) (l : List Int) (bad : Bool) : Prop where
  b : H[g]? = some (.cells [v, .bool bad].toArray 128 (0, 0))
  w : Own 1 (EInt .u8) 5 #[] (g + 1) H v l
section
variable {H H' : Heap} {g : Nat} {v v' : Value} {l l' : List Int} {bad bad' : Bool}
theorem WA.lt (h : WA H g v l bad) : g < H.size := blk_lt h.b
theorem WA.old (h : WA H g v l bad) (o : Old H H') : WA H' g v l bad := ⟨o.blk h.b, h.w.old o⟩
/-- what is behind the writer's blocks changes -/
theorem WA.keep (h : WA H g v l bad) {B : Nat} (o : OldB B H H') (h1 : g < B) (h2 : v = .slice none 0 0 ∨ vblock v < B) : WA H' g v l bad :=
  ⟨(o.2 g h1).trans h.b, h.w.keepN (h2.imp id (fun e => o.2 _ e))⟩
theorem WA.cast (h : WA H g v l bad) (e1 : l = l') (e2 : bad = bad') : WA H g v l' bad' := by subst e1 e2; exact h
end
/-- a step of the writer: only its struct, its row and new blocks change -/
structure WS (g : Nat) (v : Value) (H : Heap) (v' : Value) (H' : Heap) : Prop where
  f : Fr g v H H'
  nx : Nx H v v'
section
variable {H H' H1 A B C Hb : Heap} {g k : Nat} {v v' v1 v2 : Value} {l : List Int} {bad : Bool} {o : Obj}
theorem WS.refl (g : Nat) (v : Value) (H : Heap) : WS g v H v H := ⟨Fr.refl _ _ _, Nx.refl _ _⟩
theorem WS.trans (h : WS g v A v1 B) (k : WS g v1 B v2 C) : WS g v A v2 C := ⟨h.f.trans h.nx k.f, h.nx.trans h.f.1 k.nx⟩
theorem WS.old (h : WS g v A v1 B) (o : Old B C) : WS g v A v1 C := ⟨h.f.old o, h.nx⟩
theorem WS.blk (h : WS g v A v1 B) (hb : A[k]? = some o) (h1 : k ≠ g) (h2 : v = .slice none 0 0 ∨ vblock v ≠ k) : B[k]? = some o :=
  (h.f.2 k (blk_lt hb) h1 (h2.imp id (fun e e2 => e e2.symm))).trans hb
theorem WS.apart (h : WS g v A v1 B) (h2 : v = .slice none 0 0 ∨ vblock v ≠ k) (hk : k < A.size) : v1 = .slice none 0 0 ∨ vblock v1 ≠ k := by
  rcases h.nx with e | ⟨e1, e2⟩ | e
  · exact .inl e
  · exact .inr (by rw [e2]; exact h2.resolve_left e1)
  exact .inr (by omega)
theorem WS.om (h : WS g v A v1 B) (w : WA A g v l bad) (o : Old Hb A) (hg : Hb.size ≤ g) : Old Hb B :=
  ⟨Nat.le_trans o.1 h.f.1, fun k hk => (h.f.2 k (by have := o.1; omega) (by omega) (w.w.lt.imp id (fun e => by omega))).trans (o.2 k hk)⟩
theorem WS.ob0 (h : WS g v A v1 B) : OldB 0 A B := ⟨h.f.1, fun k hk => absurd hk (by omega)⟩
theorem WS.sz (h : WS g v A v1 B) : A.size ≤ B.size := h.f.1
theorem WS.own {α : Type} {n : Nat} {E : El α} {e : TypeId} {H0 : Heap} {Bw : Nat} {x : Value} {lx : List α} (h : WS g v A v1 B) (w : Own n E e H0 Bw A x lx) (h1 : x = .slice none 0 0 ∨ vblock x ≠ g) (h2 : x = .slice none 0 0 ∨ v = .slice none 0 0 ∨ vblock v ≠ vblock x) : Own n E e H0 Bw B x lx := by
  refine w.keepN ?_
  rcases w.lt with e | e
  · exact .inl e
  by_cases hx : x = .slice none 0 0
  · exact .inl hx
  exact .inr (h.f.2 _ e.2 (h1.resolve_left hx) ((h2.resolve_left hx).imp id (fun q q2 => q q2.symm)))
/-- what is behind changes -/
theorem WS.behind (h : WS g v A v1 B) {g2 : Nat} (o : OldB g2 B C) (hz : A.size ≤ g2) : WS g v A v1 C :=
  ⟨⟨Nat.le_trans h.f.1 o.1, fun k hk h1 h2 => (o.2 k (by omega)).trans (h.f.2 k hk h1 h2)⟩, h.nx⟩
theorem WS.low (h : WS g v A v1 B) (w : WA A g v l bad) : OldB g A B := ⟨h.f.1, fun k hk => h.f.2 k (by have := w.lt; omega) (by omega) (w.w.lt.imp id (fun e => by omega))⟩
end
theorem wmay_any {H : Heap} {g : Nat} {v : Value} {l : List Int} {bad : Bool} (wa : WA H g v l bad) (b : Bool) : Ct Tryz.prog 62 [.pointer (some ⟨g, 0, none⟩), .bool b] H (fun _ H' => WA H' g v l (bad || !b) ∧ WS g v H v H') := by
  refine Ct.mk Tryz.func62 rfl Tryz.ntmps62 rfl ?_
  intro W0 hW0
  have o0 : OldB 0 H H := OldB.refl _ H
  have bb := wa.b
  have ww := wa.w
  have zg := blk_lt bb
  have zw := ww.lt
  refine KC.region (KL.run 4 rfl (KL.ld rfl (cell_of bb rfl) (KL.run 1 rfl ?_)))
  refine KL.cq 9 rfl ?_ ?_
  · intro hg9
    refine KL.run 5 rfl ?_
    refine KL.opS (S.store rfl sz4 rfl rfl rfl rfl bb (by simp)) rfl rfl ?_
    rintro H1 ⟨u1, b1⟩
    have o0 := o0.trans (OldB.upd u1 (by omega))
    have zu1 := u1.1
    have ww := ww.upd u1 (by exact ww.lt.imp id (fun h => by omega))
    have bb := b1
    have ws : WS g v H v H1 := ⟨(Fr.refl _ _ _).upd u1, Nx.refl _ _⟩
    refine KL.nil (KQ.fin0 Tryz.results62 ?_)
    exact ⟨(WA.mk bb ww).cast rfl (by simp_all), ws⟩
  intro hg9
  refine KL.run 5 rfl ?_
  refine KL.opS (S.store rfl sz4 rfl rfl rfl rfl bb (by simp)) rfl rfl ?_
  rintro H2 ⟨u2, b2⟩
  have o0 := o0.trans (OldB.upd u2 (by omega))
  have zu2 := u2.1
  have ww := ww.upd u2 (by exact ww.lt.imp id (fun h => by omega))
  have bb := b2
  have ws : WS g v H v H2 := ⟨(Fr.refl _ _ _).upd u2, Nx.refl _ _⟩
  refine KL.nil (KQ.fin0 Tryz.results62 ?_)
  exact ⟨(WA.mk bb ww).cast rfl (by simp_all), ws⟩
theorem wbyte_any {H : Heap} {g : Nat} {v : Value} {l : List Int} {bad : Bool} (wa : WA H g v l bad) {u : Value} {m : List Int} (hs : Sl 1 (EInt .u8) H u m) (hN : l.length + m.length ≤ 1099511627776) : Ct Tryz.prog 57 [.pointer (some ⟨g, 0, none⟩), u] H (fun _ H' => ∃ v', WA H' g v' (l ++ m) (bad) ∧ WS g v H v' H') := by
  refine Ct.mk Tryz.func57 rfl Tryz.ntmps57 rfl ?_
  intro W0 hW0
  have o0 : OldB 0 H H := OldB.refl _ H
  have bb := wa.b
  have ww := wa.w
  have zg := blk_lt bb
  have zw := ww.lt
  refine KC.region (KL.run 4 rfl (KL.ld rfl (cell_of bb rfl) (KL.run 1 rfl ?_)))
  have lt1 := ww.lt
  refine KL.m (M.appendN rfl U34 inf5 rfl (by decide) rfl rfl ww hs (fun _ _ h _ => h) (by omega) (by omega) (by unfold maxLen; omega)) rfl ?_
  rintro vn H1 ⟨w1, g1, nx1⟩
  try dsimp only at g1 nx1
  have ob1 := g1.oldB ww (by omega)
  have o0 := o0.trans (ob1.mono (by omega))
  have z1 := ob1.1
  have bb := (g1.2 _ (blk_lt bb) (by exact ww.lt.imp id (fun h => by omega))).trans bb
  have ww := w1
  have gA := g1
  have nxA := nx1
  refine KL.run 2 rfl ?_
  refine KL.opS (S.store rfl sz34 rfl rfl ww.cells1 ww.one bb (by simp)) rfl rfl ?_
  rintro H2 ⟨u2, b2⟩
  have o0 := o0.trans (OldB.upd u2 (by omega))
  have zu2 := u2.1
  have ww := ww.upd u2 (by exact ww.lt.imp id (fun h => by omega))
  have bb := b2
  have ws : WS g v H vn H2 := ⟨((Fr.refl _ _ _).grown (Nx.refl _ _) gA).upd u2, nxA⟩
  refine KL.nil (KQ.fin0 Tryz.results57 ?_)
  exact ⟨_, ⟨bb, ww⟩, ws⟩
theorem Nx.le {A B : Heap} {v v' : Value} (h : Nx A v v') (hs : B.size ≤ A.size) : Nx B v v' := h.imp id (fun h => h.imp id (fun h => by omega))
theorem wu32_any {H : Heap} {g : Nat} {v : Value} {l : List Int} {bad : Bool} (wa : WA H g v l bad) (n : Int) (rn : InR .u32 n) (hN : l.length + 10 ≤ 1099511627776) : Ct Tryz.prog 21 [.pointer (some ⟨g, 0, none⟩), .int .u32 n] H (fun _ H' => ∃ v', WA H' g v' (l ++ En.u n) (bad) ∧ WS g v H v' H') := by
  refine Ct.mk Tryz.func21 rfl Tryz.ntmps21 rfl ?_
  intro W0 hW0
  have o0 : OldB 0 H H := OldB.refl _ H
  have bb := wa.b
  have ww := wa.w
  have zg := blk_lt bb
  have zw := ww.lt
  dsimp only [InR] at rn
  refine KC.text (clOf [(7, 2), (8, 2), (11, 2)]) (fun j Hc => j = 4 → Hc[g]? = some (.cells [v, .bool bad].toArray 128 (0, 0))) (by kernel_rfl) (by kernel_rfl) (fun _ _ => bb) ?_
  refine KP.run 4 rfl rfl ?_
  refine KP.op rfl (fun Hg hg => R.load rfl U34 rfl rfl (cell_of (hg rfl) rfl)) rfl rfl rfl ?_
  refine KP.run 1 rfl rfl ?_
  refine KP.op rfl (fun Hg hg => R.convI rfl U28 U95 rfl (by dsimp only [InR]; omega)) rfl rfl rfl ?_
  refine KP.call rfl rfl rfl rfl rfl Tryz.call33 rfl rfl rfl (AppendU_k _ [] n (Sl.nil _ _ _) (by decide) (by omega) (by omega)) (fun _ _ hR j _ _ _ => hR.2.blk bb) ?_
  rintro u H1 ⟨wu, ox⟩
  rw [List.nil_append] at wu
  have zc_H1 := (ox).1
  have o0 := o0.trans ((ox).b (by omega))
  have bb := (ox).blk bb
  have ww := ww.old ox
  have su := wu.sl (emptyOld _) (by decide)
  have hu := En.u_le n
  unfold En.u at hu
  have oA := ox
  have lt2 := ww.lt
  refine KP.opM rfl (M.appendN rfl U34 inf5 rfl (by decide) rfl rfl ww su (fun _ _ h _ => h) (by omega) (by omega) (by unfold maxLen; omega)) rfl rfl rfl (fun _ _ _ j _ hj2 hj => by subst hj; exact absurd (by decide +kernel) hj2) ?_
  rintro vn H2 ⟨w2, g2, nx2⟩
  try dsimp only at g2 nx2
  have ob2 := g2.oldB ww (by omega)
  have o0 := o0.trans (ob2.mono (by omega))
  have z2 := ob2.1
  have bb := (g2.2 _ (blk_lt bb) (by exact ww.lt.imp id (fun h => by omega))).trans bb
  have ww := w2
  have gA := g2
  have nxA := nx2
  refine KP.run 2 rfl rfl ?_
  refine KP.opS rfl (S.store rfl sz34 rfl rfl ww.cells1 ww.one bb (by simp)) rfl rfl (fun _ _ j _ hj2 hj => by subst hj; exact absurd (by decide +kernel) hj2) ?_
  rintro H3 ⟨u3, b3⟩
  have o0 := o0.trans (OldB.upd u3 (by omega))
  have zu3 := u3.1
  have ww := ww.upd u3 (by exact ww.lt.imp id (fun h => by omega))
  have bb := b3
  have ws : WS g v H vn H3 := ⟨((Fr.ofOld oA).grown (Nx.refl _ _) gA).upd u3, nxA.le (by omega)⟩
  refine KP.nil (KQ.fin0 Tryz.results21 ?_)
  exact ⟨_, ⟨bb, ww⟩, ws⟩
theorem wbytes_any {H : Heap} {g : Nat} {v : Value} {l : List Int} {bad : Bool} (wa : WA H g v l bad) {Hb : Heap} (oB : Old Hb H) (hgB : Hb.size ≤ g) {u : Value} {m : List Int} (hs : Sl 1 (EInt .u8) Hb u m) (hm : m.length ≤ 4294967295) (hN : l.length + m.length + 10 ≤ 1099511627776) : Ct Tryz.prog 73 [.pointer (some ⟨g, 0, none⟩), u] H (fun _ H' => ∃ v', WA H' g v' (l ++ (En.u (m.length : Nat) ++ m)) (bad) ∧ WS g v H v' H') := by
  refine Ct.mk Tryz.func73 rfl Tryz.ntmps73 rfl ?_
  intro W0 hW0
  have o0 : OldB 0 H H := OldB.refl _ H
  have ws := WS.refl g v H
  have zg := wa.lt
  refine KC.sr (KL.run 2 rfl (KL.q (R.lenS rfl U34 rfl hs) rfl ?_))
  refine KL.q (R.convI rfl U3 U28 rfl (by dsimp only [InR]; omega)) rfl ?_
  refine KL.c rfl K21 (wu32_any wa _ (by dsimp only [InR]; omega) (by omega)) ?_
  rintro _ H1 ⟨v_1, wa_1, s_1⟩
  have oB := s_1.om wa oB hgB
  have zs_1 := s_1.sz
  have ws := ws.trans s_1
  have wa := wa_1
  have o0 := o0.trans s_1.ob0
  have hul := En.u_le (m.length : Nat)
  refine KL.nil (KQ.r (KL.run 2 rfl ?_))
  refine KL.c rfl K57 (wbyte_any wa (hs.old oB) (by rw [List.length_append]; omega)) ?_
  rintro _ H2 ⟨v_2, wa_2, s_2⟩
  have oB := s_2.om wa oB hgB
  have zs_2 := s_2.sz
  have ws := ws.trans s_2
  have wa := wa_2
  have o0 := o0.trans s_2.ob0
  refine KL.nil (KQ.fin0 Tryz.results73 ?_)
  exact ⟨_, wa.cast (List.append_assoc _ _ _) (rfl), ws⟩
theorem wbytes_own {H : Heap} {g : Nat} {v : Value} {l : List Int} {bad : Bool} (wa : WA H g v l bad) {u : Value} {m : List Int} {Bu : Nat} (hw : Own 1 (EInt .u8) 5 #[] Bu H u m) (h1 : u = .slice none 0 0 ∨ vblock u ≠ g) (h2 : u = .slice none 0 0 ∨ v = .slice none 0 0 ∨ vblock v ≠ vblock u) (hm : m.length ≤ 4294967295) (hN : l.length + m.length + 10 ≤ 1099511627776) : Ct Tryz.prog 73 [.pointer (some ⟨g, 0, none⟩), u] H (fun _ H' => ∃ v', WA H' g v' (l ++ (En.u (m.length : Nat) ++ m)) (bad) ∧ WS g v H v' H') := by
  refine Ct.mk Tryz.func73 rfl Tryz.ntmps73 rfl ?_
  intro W0 hW0
  have o0 : OldB 0 H H := OldB.refl _ H
  have ws := WS.refl g v H
  have zg := wa.lt
  refine KC.sr (KL.run 2 rfl (KL.q (R.lenO rfl U34 rfl hw) rfl ?_))
  refine KL.q (R.convI rfl U3 U28 rfl (by dsimp only [InR]; omega)) rfl ?_
  refine KL.c rfl K21 (wu32_any wa _ (by dsimp only [InR]; omega) (by omega)) ?_
  rintro _ H1 ⟨v_3, wa_3, s_3⟩
  have sw := (s_3.own hw h1 h2).sl (emptyOld _) (by decide)
  have zs_3 := s_3.sz
  have ws := ws.trans s_3
  have wa := wa_3
  have o0 := o0.trans s_3.ob0
  have hul := En.u_le (m.length : Nat)
  refine KL.nil (KQ.r (KL.run 2 rfl ?_))
  refine KL.c rfl K57 (wbyte_any wa sw (by rw [List.length_append]; omega)) ?_
  rintro _ H2 ⟨v_4, wa_4, s_4⟩
  have zs_4 := s_4.sz
  have ws := ws.trans s_4
  have wa := wa_4
  have o0 := o0.trans s_4.ob0
  refine KL.nil (KQ.fin0 Tryz.results73 ?_)
  exact ⟨_, wa.cast (List.append_assoc _ _ _) (rfl), ws⟩
theorem wvalue_any {H : Heap} {g : Nat} {v : Value} {l : List Int} {bad : Bool} (wa : WA H g v l bad) (t : Int) (rt : InR .u8 t) (hN : l.length + 1 ≤ 1099511627776) : Ct Tryz.prog 59 [.pointer (some ⟨g, 0, none⟩), .int .u8 t] H (fun _ H' => ∃ v', WA H' g v' (l ++ [t]) (bad || !En.vOk t) ∧ WS g v H v' H') := by
  refine Ct.mk Tryz.func59 rfl Tryz.ntmps59 rfl ?_
  intro W0 hW0
  have o0 : OldB 0 H H := OldB.refl _ H
  have ws := WS.refl g v H
  have zg := wa.lt
  refine KC.sr (KL.run 4 rfl ?_)
  refine KL.cq 7 rfl ?_ ?_
  · intro hg7
    refine KL.run 3 rfl ?_
    refine KL.c rfl K62 (wmay_any wa _) ?_
    rintro _ H1 ⟨wa_5, s_5⟩
    have zs_5 := s_5.sz
    have ws := ws.trans s_5
    have wa := wa_5
    have o0 := o0.trans s_5.ob0
    refine KL.nil (KQ.r (KL.run 2 rfl ?_))
    refine KL.m (M.lit rfl U34 zs5 (by decide) rfl rfl rfl) rfl ?_
    rintro _ H2 ⟨rfl, n2⟩
    have z2 := n2.2.1
    have o0 := o0.trans ((n2.1).b (by omega))
    have wa := wa.old n2.1
    have ws := ws.old n2.1
    have b2 := n2.2.2
    have st : Sl 1 (EInt .u8) H2 _ [t] := Sl.lits (l := [t]) n2 rfl (by simp) (by intro y hy; simp only [List.mem_cons, List.not_mem_nil, or_false] at hy; subst hy; dsimp only [InR] at *; omega)
    refine KL.c rfl K57 (wbyte_any wa st (by simp only [List.length_singleton]; omega)) ?_
    rintro _ H3 ⟨v_6, wa_6, s_6⟩
    have zs_6 := s_6.sz
    have ws := ws.trans s_6
    have wa := wa_6
    have o0 := o0.trans s_6.ob0
    refine KL.nil (KQ.fin0 Tryz.results59 ?_)
    exact ⟨_, wa.cast (rfl) (congrArg (bad || !·) (by unfold En.vOk; ((symm; exact decide_eq_true (.inl (by omega)))))), ws⟩
  intro hg7
  refine KL.run 3 rfl ?_
  refine KL.c rfl K62 (wmay_any wa _) ?_
  rintro _ H4 ⟨wa_7, s_7⟩
  have zs_7 := s_7.sz
  have ws := ws.trans s_7
  have wa := wa_7
  have o0 := o0.trans s_7.ob0
  refine KL.nil (KQ.r (KL.run 2 rfl ?_))
  refine KL.m (M.lit rfl U34 zs5 (by decide) rfl rfl rfl) rfl ?_
  rintro _ H5 ⟨rfl, n5⟩
  have z5 := n5.2.1
  have o0 := o0.trans ((n5.1).b (by omega))
  have wa := wa.old n5.1
  have ws := ws.old n5.1
  have b5 := n5.2.2
  have st : Sl 1 (EInt .u8) H5 _ [t] := Sl.lits (l := [t]) n5 rfl (by simp) (by intro y hy; simp only [List.mem_cons, List.not_mem_nil, or_false] at hy; subst hy; dsimp only [InR] at *; omega)
  refine KL.c rfl K57 (wbyte_any wa st (by simp only [List.length_singleton]; omega)) ?_
  rintro _ H6 ⟨v_8, wa_8, s_8⟩
  have zs_8 := s_8.sz
  have ws := ws.trans s_8
  have wa := wa_8
  have o0 := o0.trans s_8.ob0
  refine KL.nil (KQ.fin0 Tryz.results59 ?_)
  exact ⟨_, wa.cast (rfl) (congrArg (bad || !·) (by unfold En.vOk; (exact decide_eq_decide.2 (by omega)))), ws⟩
theorem wlimits_any {H : Heap} {g : Nat} {v : Value} {l : List Int} {bad : Bool} (wa : WA H g v l bad) (a b : Int) (ra : InR .u32 a) (rb : InR .i64 b) (hN : l.length + 21 ≤ 1099511627776) : Ct Tryz.prog 26 [.pointer (some ⟨g, 0, none⟩), .agg [.int .u32 a, .int .i64 b].toArray] H (fun _ H' => ∃ v', WA H' g v' (l ++ En.limB (a, b)) (bad || !En.limO (a, b)) ∧ WS g v H v' H') := by
  refine Ct.mk Tryz.func26 rfl Tryz.ntmps26 rfl ?_
  intro W0 hW0
  have o0 : OldB 0 H H := OldB.refl _ H
  have ws := WS.refl g v H
  have zg := wa.lt
  dsimp only [InR] at rb
  refine KC.sr ?_
  have abx : v = .slice none 0 0 ∨ vblock v ≠ Array.size H := wa.w.lt.imp id (fun e => by omega)
  refine KL.m (M.box rfl rfl rfl) rfl ?_
  rintro _ H1 ⟨rfl, n1⟩
  have z1 := n1.2.1
  have o0 := o0.trans ((n1.1).b (by omega))
  have wa := wa.old n1.1
  have ws := ws.old n1.1
  have b1 := n1.2.2
  have bx := b1
  refine KL.nil (KQ.sr (KL.run 2 rfl (KL.ld rfl (cell_of bx rfl) (KL.run 2 rfl ?_))))
  refine KL.cq 8 rfl ?_ ?_
  · intro hg8
    refine KL.run 1 rfl (KL.ld rfl (cell_of bx rfl) (KL.run 2 rfl ?_))
    refine KL.c rfl K62 (wmay_any wa _) ?_
    rintro _ H2 ⟨wa_9, s_9⟩
    have abx2 := s_9.apart abx (blk_lt bx)
    have bx := s_9.blk bx (by omega) abx
    have abx := abx2
    have zs_9 := s_9.sz
    have ws := ws.trans s_9
    have wa := wa_9
    have o0 := o0.trans s_9.ob0
    refine KL.nil (KQ.seq (KC.seq (KC.sr (KL.run 1 rfl (KL.ld rfl (cell_of bx rfl) (KL.fin 1 rfl (KQ.seq ?_)))))))
    refine KC.iq rfl ?_ ?_
    · intro hc16
      refine KC.sr (KL.run 1 rfl ?_)
      refine KL.m (M.lit rfl U34 zs5 (by decide) rfl rfl rfl) rfl ?_
      rintro _ H3 ⟨rfl, n3⟩
      have z3 := n3.2.1
      have o0 := o0.trans ((n3.1).b (by omega))
      have wa := wa.old n3.1
      have ws := ws.old n3.1
      have bx := (n3.1).blk bx
      have b3 := n3.2.2
      have s0 : Sl 1 (EInt .u8) H3 _ [0] := Sl.lits (l := [0]) n3 rfl (by simp) (by intro y hy; simp only [List.mem_cons, List.not_mem_nil, or_false] at hy; subst hy; dsimp only [InR] at *; omega)
      refine KL.c rfl K57 (wbyte_any wa s0 (by simp only [List.length_singleton]; omega)) ?_
      rintro _ H4 ⟨v_10, wa_10, s_10⟩
      have abx2 := s_10.apart abx (blk_lt bx)
      have bx := s_10.blk bx (by omega) abx
      have abx := abx2
      have zs_10 := s_10.sz
      have ws := ws.trans s_10
      have wa := wa_10
      have o0 := o0.trans s_10.ob0
      refine KL.nil (KQ.sr (KL.run 2 rfl (KL.ld rfl (cell_of bx rfl) ?_)))
      refine KL.c rfl K21 (wu32_any wa _ ra (by simp only [List.length_append, List.length_cons, List.length_nil]; omega)) ?_
      rintro _ H5 ⟨v_11, wa_11, s_11⟩
      have abx2 := s_11.apart abx (blk_lt bx)
      have bx := s_11.blk bx (by omega) abx
      have abx := abx2
      have zs_11 := s_11.sz
      have ws := ws.trans s_11
      have wa := wa_11
      have o0 := o0.trans s_11.ob0
      refine KL.nil (KQ.seq (KC.ret (KQ.retThen (KQ.ofRet (KQ.fin0 Tryz.results26 ?_)))))
      exact ⟨_, wa.cast (by unfold En.limB; ((rw [if_pos (by assumption)]; simp))) (congrArg (bad || !·) (by unfold En.limO; ((exact decide_eq_decide.2 (by dsimp only; omega))))), ws⟩
    intro hc16
    refine KC.skip (KQ.sr (KL.run 1 rfl ?_))
    refine KL.m (M.lit rfl U34 zs5 (by decide) rfl rfl rfl) rfl ?_
    rintro _ H6 ⟨rfl, n6⟩
    have z6 := n6.2.1
    have o0 := o0.trans ((n6.1).b (by omega))
    have wa := wa.old n6.1
    have ws := ws.old n6.1
    have bx := (n6.1).blk bx
    have b6 := n6.2.2
    have s1 : Sl 1 (EInt .u8) H6 _ [1] := Sl.lits (l := [1]) n6 rfl (by simp) (by intro y hy; simp only [List.mem_cons, List.not_mem_nil, or_false] at hy; subst hy; dsimp only [InR] at *; omega)
    refine KL.c rfl K57 (wbyte_any wa s1 (by simp only [List.length_singleton]; omega)) ?_
    rintro _ H7 ⟨v_12, wa_12, s_12⟩
    have abx2 := s_12.apart abx (blk_lt bx)
    have bx := s_12.blk bx (by omega) abx
    have abx := abx2
    have zs_12 := s_12.sz
    have ws := ws.trans s_12
    have wa := wa_12
    have o0 := o0.trans s_12.ob0
    refine KL.nil (KQ.sr (KL.run 2 rfl (KL.ld rfl (cell_of bx rfl) ?_)))
    refine KL.c rfl K21 (wu32_any wa _ ra (by simp only [List.length_append, List.length_cons, List.length_nil]; omega)) ?_
    rintro _ H8 ⟨v_13, wa_13, s_13⟩
    have abx2 := s_13.apart abx (blk_lt bx)
    have bx := s_13.blk bx (by omega) abx
    have abx := abx2
    have zs_13 := s_13.sz
    have ws := ws.trans s_13
    have wa := wa_13
    have o0 := o0.trans s_13.ob0
    have hua := En.u_le a
    refine KL.nil (KQ.r (KL.run 2 rfl (KL.ld rfl (cell_of bx rfl) ?_)))
    refine KL.q ((R.convW rfl U2 U28 rfl).val (congrArg (Value.int .u32) (show IntKind.u32.wrap b = b % 4294967296 from by simp [IntKind.wrap, IntKind.bits, IntKind.signed]))) rfl ?_
    refine KL.c rfl K21 (wu32_any wa _ (by dsimp only [InR]; omega) (by simp only [List.length_append, List.length_cons, List.length_nil]; omega)) ?_
    rintro _ H9 ⟨v_14, wa_14, s_14⟩
    have abx2 := s_14.apart abx (blk_lt bx)
    have bx := s_14.blk bx (by omega) abx
    have abx := abx2
    have zs_14 := s_14.sz
    have ws := ws.trans s_14
    have wa := wa_14
    have o0 := o0.trans s_14.ob0
    refine KL.nil (KQ.fin0 Tryz.results26 ?_)
    exact ⟨_, wa.cast (by unfold En.limB; ((rw [if_neg (by assumption)]; simp))) (congrArg (bad || !·) (by unfold En.limO; ((exact decide_eq_decide.2 (by dsimp only; omega))))), ws⟩
  intro hg8
  refine KL.run 4 rfl ?_
  refine KL.c rfl K62 (wmay_any wa _) ?_
  rintro _ H10 ⟨wa_15, s_15⟩
  have abx2 := s_15.apart abx (blk_lt bx)
  have bx := s_15.blk bx (by omega) abx
  have abx := abx2
  have zs_15 := s_15.sz
  have ws := ws.trans s_15
  have wa := wa_15
  have o0 := o0.trans s_15.ob0
  refine KL.nil (KQ.seq (KC.seq (KC.sr (KL.run 1 rfl (KL.ld rfl (cell_of bx rfl) (KL.fin 1 rfl (KQ.seq ?_)))))))
  refine KC.iq rfl ?_ ?_
  · intro hc16
    refine KC.sr (KL.run 1 rfl ?_)
    refine KL.m (M.lit rfl U34 zs5 (by decide) rfl rfl rfl) rfl ?_
    rintro _ H11 ⟨rfl, n11⟩
    have z11 := n11.2.1
    have o0 := o0.trans ((n11.1).b (by omega))
    have wa := wa.old n11.1
    have ws := ws.old n11.1
    have bx := (n11.1).blk bx
    have b11 := n11.2.2
    have s0 : Sl 1 (EInt .u8) H11 _ [0] := Sl.lits (l := [0]) n11 rfl (by simp) (by intro y hy; simp only [List.mem_cons, List.not_mem_nil, or_false] at hy; subst hy; dsimp only [InR] at *; omega)
    refine KL.c rfl K57 (wbyte_any wa s0 (by simp only [List.length_singleton]; omega)) ?_
    rintro _ H12 ⟨v_16, wa_16, s_16⟩
    have abx2 := s_16.apart abx (blk_lt bx)
    have bx := s_16.blk bx (by omega) abx
    have abx := abx2
    have zs_16 := s_16.sz
    have ws := ws.trans s_16
    have wa := wa_16
    have o0 := o0.trans s_16.ob0
    refine KL.nil (KQ.sr (KL.run 2 rfl (KL.ld rfl (cell_of bx rfl) ?_)))
    refine KL.c rfl K21 (wu32_any wa _ ra (by simp only [List.length_append, List.length_cons, List.length_nil]; omega)) ?_
    rintro _ H13 ⟨v_17, wa_17, s_17⟩
    have abx2 := s_17.apart abx (blk_lt bx)
    have bx := s_17.blk bx (by omega) abx
    have abx := abx2
    have zs_17 := s_17.sz
    have ws := ws.trans s_17
    have wa := wa_17
    have o0 := o0.trans s_17.ob0
    refine KL.nil (KQ.seq (KC.ret (KQ.retThen (KQ.ofRet (KQ.fin0 Tryz.results26 ?_)))))
    exact ⟨_, wa.cast (by unfold En.limB; ((rw [if_pos (by assumption)]; simp))) (congrArg (bad || !·) (by unfold En.limO; ((symm; exact decide_eq_false (by dsimp only; omega))))), ws⟩
  intro hc16
  refine KC.skip (KQ.sr (KL.run 1 rfl ?_))
  refine KL.m (M.lit rfl U34 zs5 (by decide) rfl rfl rfl) rfl ?_
  rintro _ H14 ⟨rfl, n14⟩
  have z14 := n14.2.1
  have o0 := o0.trans ((n14.1).b (by omega))
  have wa := wa.old n14.1
  have ws := ws.old n14.1
  have bx := (n14.1).blk bx
  have b14 := n14.2.2
  have s1 : Sl 1 (EInt .u8) H14 _ [1] := Sl.lits (l := [1]) n14 rfl (by simp) (by intro y hy; simp only [List.mem_cons, List.not_mem_nil, or_false] at hy; subst hy; dsimp only [InR] at *; omega)
  refine KL.c rfl K57 (wbyte_any wa s1 (by simp only [List.length_singleton]; omega)) ?_
  rintro _ H15 ⟨v_18, wa_18, s_18⟩
  have abx2 := s_18.apart abx (blk_lt bx)
  have bx := s_18.blk bx (by omega) abx
  have abx := abx2
  have zs_18 := s_18.sz
  have ws := ws.trans s_18
  have wa := wa_18
  have o0 := o0.trans s_18.ob0
  refine KL.nil (KQ.sr (KL.run 2 rfl (KL.ld rfl (cell_of bx rfl) ?_)))
  refine KL.c rfl K21 (wu32_any wa _ ra (by simp only [List.length_append, List.length_cons, List.length_nil]; omega)) ?_
  rintro _ H16 ⟨v_19, wa_19, s_19⟩
  have abx2 := s_19.apart abx (blk_lt bx)
  have bx := s_19.blk bx (by omega) abx
  have abx := abx2
  have zs_19 := s_19.sz
  have ws := ws.trans s_19
  have wa := wa_19
  have o0 := o0.trans s_19.ob0
  have hua := En.u_le a
  refine KL.nil (KQ.r (KL.run 2 rfl (KL.ld rfl (cell_of bx rfl) ?_)))
  refine KL.q ((R.convW rfl U2 U28 rfl).val (congrArg (Value.int .u32) (show IntKind.u32.wrap b = b % 4294967296 from by simp [IntKind.wrap, IntKind.bits, IntKind.signed]))) rfl ?_
  refine KL.c rfl K21 (wu32_any wa _ (by dsimp only [InR]; omega) (by simp only [List.length_append, List.length_cons, List.length_nil]; omega)) ?_
  rintro _ H17 ⟨v_20, wa_20, s_20⟩
  have abx2 := s_20.apart abx (blk_lt bx)
  have bx := s_20.blk bx (by omega) abx
  have abx := abx2
  have zs_20 := s_20.sz
  have ws := ws.trans s_20
  have wa := wa_20
  have o0 := o0.trans s_20.ob0
  refine KL.nil (KQ.fin0 Tryz.results26 ?_)
  exact ⟨_, wa.cast (by unfold En.limB; ((rw [if_neg (by assumption)]; simp))) (congrArg (bad || !·) (by unfold En.limO; ((symm; exact decide_eq_false (by dsimp only; omega))))), ws⟩
theorem wtable_any {H : Heap} {g : Nat} {v : Value} {l : List Int} {bad : Bool} (wa : WA H g v l bad) (a b : Int) (ra : InR .u32 a) (rb : InR .i64 b) (hN : l.length + 22 ≤ 1099511627776) : Ct Tryz.prog 24 [.pointer (some ⟨g, 0, none⟩), .agg [.int .u32 a, .int .i64 b].toArray] H (fun _ H' => ∃ v', WA H' g v' (l ++ En.tabB (a, b)) (bad || !En.limO (a, b)) ∧ WS g v H v' H') := by
  refine Ct.mk Tryz.func24 rfl Tryz.ntmps24 rfl ?_
  intro W0 hW0
  have o0 : OldB 0 H H := OldB.refl _ H
  have ws := WS.refl g v H
  have zg := wa.lt
  refine KC.sr ?_
  have abx : v = .slice none 0 0 ∨ vblock v ≠ Array.size H := wa.w.lt.imp id (fun e => by omega)
  refine KL.m (M.box rfl rfl rfl) rfl ?_
  rintro _ H1 ⟨rfl, n1⟩
  have z1 := n1.2.1
  have o0 := o0.trans ((n1.1).b (by omega))
  have wa := wa.old n1.1
  have ws := ws.old n1.1
  have b1 := n1.2.2
  have bx := b1
  refine KL.nil (KQ.sr (KL.run 1 rfl ?_))
  refine KL.m (M.lit rfl U34 zs5 (by decide) rfl rfl rfl) rfl ?_
  rintro _ H2 ⟨rfl, n2⟩
  have z2 := n2.2.1
  have o0 := o0.trans ((n2.1).b (by omega))
  have wa := wa.old n2.1
  have ws := ws.old n2.1
  have bx := (n2.1).blk bx
  have b2 := n2.2.2
  have s0 : Sl 1 (EInt .u8) H2 _ [112] := Sl.lits (l := [112]) n2 rfl (by simp) (by intro y hy; simp only [List.mem_cons, List.not_mem_nil, or_false] at hy; subst hy; dsimp only [InR] at *; omega)
  refine KL.c rfl K57 (wbyte_any wa s0 (by simp only [List.length_singleton]; omega)) ?_
  rintro _ H3 ⟨v_21, wa_21, s_21⟩
  have abx2 := s_21.apart abx (blk_lt bx)
  have bx := s_21.blk bx (by omega) abx
  have abx := abx2
  have zs_21 := s_21.sz
  have ws := ws.trans s_21
  have wa := wa_21
  have o0 := o0.trans s_21.ob0
  refine KL.nil (KQ.r (KL.run 1 rfl (KL.lda rfl (cells_of bx) rfl ?_)))
  refine KL.c rfl Tryz.call26 (wlimits_any wa a b ra rb (by simp only [List.length_append, List.length_cons, List.length_nil]; omega)) ?_
  rintro _ H4 ⟨v_22, wa_22, s_22⟩
  have abx2 := s_22.apart abx (blk_lt bx)
  have bx := s_22.blk bx (by omega) abx
  have abx := abx2
  have zs_22 := s_22.sz
  have ws := ws.trans s_22
  have wa := wa_22
  have o0 := o0.trans s_22.ob0
  refine KL.nil (KQ.fin0 Tryz.results24 ?_)
  exact ⟨_, wa.cast (by unfold En.tabB; simp) (rfl), ws⟩
theorem wglob_any {H : Heap} {g : Nat} {v : Value} {l : List Int} {bad : Bool} (wa : WA H g v l bad) (t : Int) (mu : Bool) (rt : InR .u8 t) (hN : l.length + 2 ≤ 1099511627776) : Ct Tryz.prog 63 [.pointer (some ⟨g, 0, none⟩), .agg [.int .u8 t, .bool mu].toArray] H (fun _ H' => ∃ v', WA H' g v' (l ++ En.globB (t, mu)) (bad || !En.globO (t, mu)) ∧ WS g v H v' H') := by
  refine Ct.mk Tryz.func63 rfl Tryz.ntmps63 rfl ?_
  intro W0 hW0
  have o0 : OldB 0 H H := OldB.refl _ H
  have ws := WS.refl g v H
  have zg := wa.lt
  refine KC.sr ?_
  have abx : v = .slice none 0 0 ∨ vblock v ≠ Array.size H := wa.w.lt.imp id (fun e => by omega)
  refine KL.m (M.box rfl rfl rfl) rfl ?_
  rintro _ H1 ⟨rfl, n1⟩
  have z1 := n1.2.1
  have o0 := o0.trans ((n1.1).b (by omega))
  have wa := wa.old n1.1
  have ws := ws.old n1.1
  have b1 := n1.2.2
  have bx := b1
  refine KL.nil (KQ.sr (KL.run 2 rfl (KL.ld rfl (cell_of bx rfl) ?_)))
  refine KL.c rfl Tryz.call59 (wvalue_any wa t rt (by omega)) ?_
  rintro _ H2 ⟨v_23, wa_23, s_23⟩
  have abx2 := s_23.apart abx (blk_lt bx)
  have bx := s_23.blk bx (by omega) abx
  have abx := abx2
  have zs_23 := s_23.sz
  have ws := ws.trans s_23
  have wa := wa_23
  have o0 := o0.trans s_23.ob0
  refine KL.nil (KQ.sr (KL.fin 1 rfl (KQ.seq (KC.seq (KC.sr (KL.run 1 rfl (KL.ld rfl (cell_of bx rfl) (KL.nil (KQ.seq ?_)))))))))
  refine KC.iq rfl ?_ ?_
  · intro hc10
    refine KC.region (KL.fin 1 rfl (KQ.r (KL.run 2 rfl ?_)))
    refine KL.m (M.lit rfl U34 zs5 (by decide) rfl rfl rfl) rfl ?_
    rintro _ H3 ⟨rfl, n3⟩
    have z3 := n3.2.1
    have o0 := o0.trans ((n3.1).b (by omega))
    have wa := wa.old n3.1
    have ws := ws.old n3.1
    have bx := (n3.1).blk bx
    have b3 := n3.2.2
    have s0 : Sl 1 (EInt .u8) H3 (.slice (some ⟨Array.size H2, 0, none⟩) 1 1) [if mu = true then 1 else 0] := by
      have h := Sl.lits (l := [_]) n3 rfl (by simp) (by intro y hy; simp only [List.mem_cons, List.not_mem_nil, or_false] at hy; subst hy; dsimp only [InR]; omega)
      ((rw [if_pos (by assumption)]; exact h))
    refine KL.c rfl K57 (wbyte_any wa s0 (by simp only [List.length_append, List.length_cons, List.length_nil]; omega)) ?_
    rintro _ H4 ⟨v_24, wa_24, s_24⟩
    have abx2 := s_24.apart abx (blk_lt bx)
    have bx := s_24.blk bx (by omega) abx
    have abx := abx2
    have zs_24 := s_24.sz
    have ws := ws.trans s_24
    have wa := wa_24
    have o0 := o0.trans s_24.ob0
    refine KL.nil (KQ.fin0 Tryz.results63 ?_)
    exact ⟨_, wa.cast (by unfold En.globB; simp) (rfl), ws⟩
  intro hc10
  refine KC.skip (KQ.r (KL.run 2 rfl ?_))
  refine KL.m (M.lit rfl U34 zs5 (by decide) rfl rfl rfl) rfl ?_
  rintro _ H5 ⟨rfl, n5⟩
  have z5 := n5.2.1
  have o0 := o0.trans ((n5.1).b (by omega))
  have wa := wa.old n5.1
  have ws := ws.old n5.1
  have bx := (n5.1).blk bx
  have b5 := n5.2.2
  have s0 : Sl 1 (EInt .u8) H5 (.slice (some ⟨Array.size H2, 0, none⟩) 1 1) [if mu = true then 1 else 0] := by
    have h := Sl.lits (l := [_]) n5 rfl (by simp) (by intro y hy; simp only [List.mem_cons, List.not_mem_nil, or_false] at hy; subst hy; dsimp only [InR]; omega)
    ((rw [if_neg (by simp_all)]; exact h))
  refine KL.c rfl K57 (wbyte_any wa s0 (by simp only [List.length_append, List.length_cons, List.length_nil]; omega)) ?_
  rintro _ H6 ⟨v_25, wa_25, s_25⟩
  have abx2 := s_25.apart abx (blk_lt bx)
  have bx := s_25.blk bx (by omega) abx
  have abx := abx2
  have zs_25 := s_25.sz
  have ws := ws.trans s_25
  have wa := wa_25
  have o0 := o0.trans s_25.ob0
  refine KL.nil (KQ.fin0 Tryz.results63 ?_)
  exact ⟨_, wa.cast (by unfold En.globB; simp) (rfl), ws⟩
namespace Opc
def inR (op a b : Int) : Bool := decide (a ≤ op ∧ op ≤ b)
def float (op : Int) : Bool := inR op 0x2a 0x2b || inR op 0x38 0x39 || inR op 0x43 0x44 || inR op 0x5b 0x66 || inR op 0x8b 0xa6 || inR op 0xa8 0xab || inR op 0xae 0xbf
def known (op : Int) : Bool := !float op && (decide (op ≤ 5) || inR op 0x0b 0x11 || inR op 0x1a 0x1b || inR op 0x20 0x24 || inR op 0x28 0xad)
def form (op : Int) : Int :=
  if known op = false then 0 else if inR op 2 4 then 1 else if op = 0x0c ∨ op = 0x0d then 2 else if op = 0x0e then 3 else if op = 0x10 ∨ inR op 0x20 0x24 then 4
  else if op = 0x11 then 5 else if inR op 0x28 0x3e then 6 else if op = 0x3f ∨ op = 0x40 then 7 else if op = 0x41 then 8 else if op = 0x42 then 9 else 0
end Opc
theorem in_any (op a b : Int) (w : World) : Calls Tryz.prog 128 #[.int .u8 op, .int .u8 a, .int .u8 b] w fun e w' => e = .returned (.bool (Opc.inR op a b)) ∧ w = w' := by
  have hb : Opc.inR op a b = (decide (a ≤ op) && decide (op ≤ b)) := by unfold Opc.inR; rw [Bool.eq_iff_iff]; simp
  have HB := Lib.hid hb; clear hb
  go_enter Tryz.func128, Tryz.ntmps128
  by_cases h1 : a ≤ op
  · by_cases h2 : op ≤ b
    · go_wp2
      go_ret
      exact ⟨congrArg (fun b => Ending.returned (.bool b)) (by rw [HB.out]; simp [h1, h2]), rfl⟩
    go_wp2
    go_ret
    exact ⟨congrArg (fun b => Ending.returned (.bool b)) (by rw [HB.out]; simp; omega), rfl⟩
  go_wp2
  go_ret
  exact ⟨congrArg (fun b => Ending.returned (.bool b)) (by rw [HB.out]; simp; omega), rfl⟩
theorem retB {x y : Bool} (h : x = y) : Ending.returned (.bool x) = Ending.returned (.bool y) := by rw [h]
theorem Float_any (op : Int) (w : World) : Calls Tryz.prog 127 #[.int .u8 op] w fun e w' => e = .returned (.bool (Opc.float op)) ∧ w = w' := by
  go_enter Tryz.func127, Tryz.ntmps127
  go_wp2_with (go_at_call 128; refine (in_any _ _ _ _).mono ?_; rintro e w' ⟨rfl, rfl⟩)
  all_goals
    go_ret
    exact ⟨retB (by simp [Opc.float, *]), rfl⟩
theorem Known_any (op : Int) (w : World) : Calls Tryz.prog 121 #[.int .u8 op] w fun e w' => e = .returned (.bool (Opc.known op)) ∧ w = w' := by
  go_enter Tryz.func121, Tryz.ntmps121
  cases hf : Opc.float op
  · by_cases h5 : op ≤ 5
    · go_wp2_with (first | (go_at_call 127; refine (Float_any _ _).mono ?_; rintro e w' ⟨rfl, rfl⟩) | (go_at_call 128; refine (in_any _ _ _ _).mono ?_; rintro e w' ⟨rfl, rfl⟩))
      all_goals
        go_ret
        exact ⟨retB (by simp [Opc.known, *]), rfl⟩
    go_wp2_with (first | (go_at_call 127; refine (Float_any _ _).mono ?_; rintro e w' ⟨rfl, rfl⟩) | (go_at_call 128; refine (in_any _ _ _ _).mono ?_; rintro e w' ⟨rfl, rfl⟩))
    all_goals
      go_ret
      exact ⟨retB (by simp [Opc.known, *]), rfl⟩
  go_wp2_with (first | (go_at_call 127; refine (Float_any _ _).mono ?_; rintro e w' ⟨rfl, rfl⟩))
  all_goals
    go_ret
    exact ⟨retB (by simp [Opc.known, *]), rfl⟩
theorem Form_0 (op : Int) (w : World) (hf : Opc.known op = true)  (b0 : Opc.inR op 2 4 = true) : Calls Tryz.prog 122 #[.int .u8 op] w fun e w' => e = .returned (.int .u8 1) ∧ w = w' := by
  go_enter Tryz.func122, Tryz.ntmps122
  go_wp2_with (first | (go_at_call 121; refine (Known_any _ _).mono ?_; rintro e w' ⟨rfl, rfl⟩) | (go_at_call 128; refine (in_any _ _ _ _).mono ?_; rintro e w' ⟨rfl, rfl⟩))
  go_ret
  exact ⟨rfl, rfl⟩
theorem Form_1 (op : Int) (w : World) (hf : Opc.known op = true) (b0 : Opc.inR op 2 4 = false) (b1 : (op == 12) = true) : Calls Tryz.prog 122 #[.int .u8 op] w fun e w' => e = .returned (.int .u8 2) ∧ w = w' := by
  go_enter Tryz.func122, Tryz.ntmps122
  go_wp2_with (first | (go_at_call 121; refine (Known_any _ _).mono ?_; rintro e w' ⟨rfl, rfl⟩) | (go_at_call 128; refine (in_any _ _ _ _).mono ?_; rintro e w' ⟨rfl, rfl⟩))
  go_ret
  exact ⟨rfl, rfl⟩
theorem Form_2 (op : Int) (w : World) (hf : Opc.known op = true) (b0 : Opc.inR op 2 4 = false) (b1 : (op == 12) = false) (b2 : (op == 13) = true) : Calls Tryz.prog 122 #[.int .u8 op] w fun e w' => e = .returned (.int .u8 2) ∧ w = w' := by
  go_enter Tryz.func122, Tryz.ntmps122
  go_wp2_with (first | (go_at_call 121; refine (Known_any _ _).mono ?_; rintro e w' ⟨rfl, rfl⟩) | (go_at_call 128; refine (in_any _ _ _ _).mono ?_; rintro e w' ⟨rfl, rfl⟩))
  go_ret
  exact ⟨rfl, rfl⟩
theorem Form_3 (op : Int) (w : World) (hf : Opc.known op = true) (b0 : Opc.inR op 2 4 = false) (b1 : (op == 12) = false) (b2 : (op == 13) = false) (b3 : (op == 14) = true) : Calls Tryz.prog 122 #[.int .u8 op] w fun e w' => e = .returned (.int .u8 3) ∧ w = w' := by
  go_enter Tryz.func122, Tryz.ntmps122
  go_wp2_with (first | (go_at_call 121; refine (Known_any _ _).mono ?_; rintro e w' ⟨rfl, rfl⟩) | (go_at_call 128; refine (in_any _ _ _ _).mono ?_; rintro e w' ⟨rfl, rfl⟩))
  go_ret
  exact ⟨rfl, rfl⟩
theorem Form_4 (op : Int) (w : World) (hf : Opc.known op = true) (b0 : Opc.inR op 2 4 = false) (b1 : (op == 12) = false) (b2 : (op == 13) = false) (b3 : (op == 14) = false) (b4 : (op == 16) = true) : Calls Tryz.prog 122 #[.int .u8 op] w fun e w' => e = .returned (.int .u8 4) ∧ w = w' := by
  go_enter Tryz.func122, Tryz.ntmps122
  go_wp2_with (first | (go_at_call 121; refine (Known_any _ _).mono ?_; rintro e w' ⟨rfl, rfl⟩) | (go_at_call 128; refine (in_any _ _ _ _).mono ?_; rintro e w' ⟨rfl, rfl⟩))
  go_ret
  exact ⟨rfl, rfl⟩
theorem Form_5 (op : Int) (w : World) (hf : Opc.known op = true) (b0 : Opc.inR op 2 4 = false) (b1 : (op == 12) = false) (b2 : (op == 13) = false) (b3 : (op == 14) = false) (b4 : (op == 16) = false) (b5 : Opc.inR op 32 36 = true) : Calls Tryz.prog 122 #[.int .u8 op] w fun e w' => e = .returned (.int .u8 4) ∧ w = w' := by
  go_enter Tryz.func122, Tryz.ntmps122
  go_wp2_with (first | (go_at_call 121; refine (Known_any _ _).mono ?_; rintro e w' ⟨rfl, rfl⟩) | (go_at_call 128; refine (in_any _ _ _ _).mono ?_; rintro e w' ⟨rfl, rfl⟩))
  go_ret
  exact ⟨rfl, rfl⟩
theorem Form_6 (op : Int) (w : World) (hf : Opc.known op = true) (b0 : Opc.inR op 2 4 = false) (b1 : (op == 12) = false) (b2 : (op == 13) = false) (b3 : (op == 14) = false) (b4 : (op == 16) = false) (b5 : Opc.inR op 32 36 = false) (b6 : (op == 17) = true) : Calls Tryz.prog 122 #[.int .u8 op] w fun e w' => e = .returned (.int .u8 5) ∧ w = w' := by
  go_enter Tryz.func122, Tryz.ntmps122
  go_wp2_with (first | (go_at_call 121; refine (Known_any _ _).mono ?_; rintro e w' ⟨rfl, rfl⟩) | (go_at_call 128; refine (in_any _ _ _ _).mono ?_; rintro e w' ⟨rfl, rfl⟩))
  go_ret
  exact ⟨rfl, rfl⟩
theorem Form_7 (op : Int) (w : World) (hf : Opc.known op = true) (b0 : Opc.inR op 2 4 = false) (b1 : (op == 12) = false) (b2 : (op == 13) = false) (b3 : (op == 14) = false) (b4 : (op == 16) = false) (b5 : Opc.inR op 32 36 = false) (b6 : (op == 17) = false) (b7 : Opc.inR op 40 62 = true) : Calls Tryz.prog 122 #[.int .u8 op] w fun e w' => e = .returned (.int .u8 6) ∧ w = w' := by
  go_enter Tryz.func122, Tryz.ntmps122
  go_wp2_with (first | (go_at_call 121; refine (Known_any _ _).mono ?_; rintro e w' ⟨rfl, rfl⟩) | (go_at_call 128; refine (in_any _ _ _ _).mono ?_; rintro e w' ⟨rfl, rfl⟩))
  go_ret
  exact ⟨rfl, rfl⟩
theorem Form_8 (op : Int) (w : World) (hf : Opc.known op = true) (b0 : Opc.inR op 2 4 = false) (b1 : (op == 12) = false) (b2 : (op == 13) = false) (b3 : (op == 14) = false) (b4 : (op == 16) = false) (b5 : Opc.inR op 32 36 = false) (b6 : (op == 17) = false) (b7 : Opc.inR op 40 62 = false) (b8 : (op == 63) = true) : Calls Tryz.prog 122 #[.int .u8 op] w fun e w' => e = .returned (.int .u8 7) ∧ w = w' := by
  go_enter Tryz.func122, Tryz.ntmps122
  go_wp2_with (first | (go_at_call 121; refine (Known_any _ _).mono ?_; rintro e w' ⟨rfl, rfl⟩) | (go_at_call 128; refine (in_any _ _ _ _).mono ?_; rintro e w' ⟨rfl, rfl⟩))
  go_ret
  exact ⟨rfl, rfl⟩
theorem Form_9 (op : Int) (w : World) (hf : Opc.known op = true) (b0 : Opc.inR op 2 4 = false) (b1 : (op == 12) = false) (b2 : (op == 13) = false) (b3 : (op == 14) = false) (b4 : (op == 16) = false) (b5 : Opc.inR op 32 36 = false) (b6 : (op == 17) = false) (b7 : Opc.inR op 40 62 = false) (b8 : (op == 63) = false) (b9 : (op == 64) = true) : Calls Tryz.prog 122 #[.int .u8 op] w fun e w' => e = .returned (.int .u8 7) ∧ w = w' := by
  go_enter Tryz.func122, Tryz.ntmps122
  go_wp2_with (first | (go_at_call 121; refine (Known_any _ _).mono ?_; rintro e w' ⟨rfl, rfl⟩) | (go_at_call 128; refine (in_any _ _ _ _).mono ?_; rintro e w' ⟨rfl, rfl⟩))
  go_ret
  exact ⟨rfl, rfl⟩
theorem Form_10 (op : Int) (w : World) (hf : Opc.known op = true) (b0 : Opc.inR op 2 4 = false) (b1 : (op == 12) = false) (b2 : (op == 13) = false) (b3 : (op == 14) = false) (b4 : (op == 16) = false) (b5 : Opc.inR op 32 36 = false) (b6 : (op == 17) = false) (b7 : Opc.inR op 40 62 = false) (b8 : (op == 63) = false) (b9 : (op == 64) = false) (b10 : (op == 65) = true) : Calls Tryz.prog 122 #[.int .u8 op] w fun e w' => e = .returned (.int .u8 8) ∧ w = w' := by
  go_enter Tryz.func122, Tryz.ntmps122
  go_wp2_with (first | (go_at_call 121; refine (Known_any _ _).mono ?_; rintro e w' ⟨rfl, rfl⟩) | (go_at_call 128; refine (in_any _ _ _ _).mono ?_; rintro e w' ⟨rfl, rfl⟩))
  go_ret
  exact ⟨rfl, rfl⟩
theorem Form_11 (op : Int) (w : World) (hf : Opc.known op = true) (b0 : Opc.inR op 2 4 = false) (b1 : (op == 12) = false) (b2 : (op == 13) = false) (b3 : (op == 14) = false) (b4 : (op == 16) = false) (b5 : Opc.inR op 32 36 = false) (b6 : (op == 17) = false) (b7 : Opc.inR op 40 62 = false) (b8 : (op == 63) = false) (b9 : (op == 64) = false) (b10 : (op == 65) = false) (b11 : (op == 66) = true) : Calls Tryz.prog 122 #[.int .u8 op] w fun e w' => e = .returned (.int .u8 9) ∧ w = w' := by
  go_enter Tryz.func122, Tryz.ntmps122
  go_wp2_with (first | (go_at_call 121; refine (Known_any _ _).mono ?_; rintro e w' ⟨rfl, rfl⟩) | (go_at_call 128; refine (in_any _ _ _ _).mono ?_; rintro e w' ⟨rfl, rfl⟩))
  go_ret
  exact ⟨rfl, rfl⟩
theorem Form_12 (op : Int) (w : World) (hf : Opc.known op = true) (b0 : Opc.inR op 2 4 = false) (b1 : (op == 12) = false) (b2 : (op == 13) = false) (b3 : (op == 14) = false) (b4 : (op == 16) = false) (b5 : Opc.inR op 32 36 = false) (b6 : (op == 17) = false) (b7 : Opc.inR op 40 62 = false) (b8 : (op == 63) = false) (b9 : (op == 64) = false) (b10 : (op == 65) = false) (b11 : (op == 66) = false) : Calls Tryz.prog 122 #[.int .u8 op] w fun e w' => e = .returned (.int .u8 0) ∧ w = w' := by
  go_enter Tryz.func122, Tryz.ntmps122
  go_wp2_with (first | (go_at_call 121; refine (Known_any _ _).mono ?_; rintro e w' ⟨rfl, rfl⟩) | (go_at_call 128; refine (in_any _ _ _ _).mono ?_; rintro e w' ⟨rfl, rfl⟩))
  go_ret
  exact ⟨rfl, rfl⟩
theorem Form_no (op : Int) (w : World) (hf : Opc.known op = false) : Calls Tryz.prog 122 #[.int .u8 op] w fun e w' => e = .returned (.int .u8 0) ∧ w = w' := by
  go_enter Tryz.func122, Tryz.ntmps122
  go_wp2_with (first | (go_at_call 121; refine (Known_any _ _).mono ?_; rintro e w' ⟨rfl, rfl⟩) | (go_at_call 128; refine (in_any _ _ _ _).mono ?_; rintro e w' ⟨rfl, rfl⟩))
  go_ret
  exact ⟨rfl, rfl⟩
theorem Form_any (op : Int) (w : World) : Calls Tryz.prog 122 #[.int .u8 op] w fun e w' => e = .returned (.int .u8 (Opc.form op)) ∧ w = w' := by
  cases hf : Opc.known op
  · rw [show Opc.form op = 0 by unfold Opc.form; simp [hf]]; exact Form_no op w hf
  cases b0 : Opc.inR op 2 4
  rotate_left
  · rw [show Opc.form op = 1 by unfold Opc.form; simp [hf, b0]]; exact Form_0 op w hf b0
  cases b1 : (op == 12)
  rotate_left
  · rw [show Opc.form op = 2 by (have e := beq_iff_eq.1 b1; subst e; rfl)]; exact Form_1 op w hf b0 b1
  cases b2 : (op == 13)
  rotate_left
  · rw [show Opc.form op = 2 by (have e := beq_iff_eq.1 b2; subst e; rfl)]; exact Form_2 op w hf b0 b1 b2
  cases b3 : (op == 14)
  rotate_left
  · rw [show Opc.form op = 3 by (have e := beq_iff_eq.1 b3; subst e; rfl)]; exact Form_3 op w hf b0 b1 b2 b3
  cases b4 : (op == 16)
  rotate_left
  · rw [show Opc.form op = 4 by (have e := beq_iff_eq.1 b4; subst e; rfl)]; exact Form_4 op w hf b0 b1 b2 b3 b4
  cases b5 : Opc.inR op 32 36
  rotate_left
  · rw [show Opc.form op = 4 by unfold Opc.form; simp [hf, b0, beq_eq_false_iff_ne.1 b1, beq_eq_false_iff_ne.1 b2, beq_eq_false_iff_ne.1 b3, beq_eq_false_iff_ne.1 b4, b5]]; exact Form_5 op w hf b0 b1 b2 b3 b4 b5
  cases b6 : (op == 17)
  rotate_left
  · rw [show Opc.form op = 5 by (have e := beq_iff_eq.1 b6; subst e; rfl)]; exact Form_6 op w hf b0 b1 b2 b3 b4 b5 b6
  cases b7 : Opc.inR op 40 62
  rotate_left
  · rw [show Opc.form op = 6 by unfold Opc.form; simp [hf, b0, beq_eq_false_iff_ne.1 b1, beq_eq_false_iff_ne.1 b2, beq_eq_false_iff_ne.1 b3, beq_eq_false_iff_ne.1 b4, b5, beq_eq_false_iff_ne.1 b6, b7]]; exact Form_7 op w hf b0 b1 b2 b3 b4 b5 b6 b7
  cases b8 : (op == 63)
  rotate_left
  · rw [show Opc.form op = 7 by (have e := beq_iff_eq.1 b8; subst e; rfl)]; exact Form_8 op w hf b0 b1 b2 b3 b4 b5 b6 b7 b8
  cases b9 : (op == 64)
  rotate_left
  · rw [show Opc.form op = 7 by (have e := beq_iff_eq.1 b9; subst e; rfl)]; exact Form_9 op w hf b0 b1 b2 b3 b4 b5 b6 b7 b8 b9
  cases b10 : (op == 65)
  rotate_left
  · rw [show Opc.form op = 8 by (have e := beq_iff_eq.1 b10; subst e; rfl)]; exact Form_10 op w hf b0 b1 b2 b3 b4 b5 b6 b7 b8 b9 b10
  cases b11 : (op == 66)
  rotate_left
  · rw [show Opc.form op = 9 by (have e := beq_iff_eq.1 b11; subst e; rfl)]; exact Form_11 op w hf b0 b1 b2 b3 b4 b5 b6 b7 b8 b9 b10 b11
  rw [show Opc.form op = 0 by unfold Opc.form; simp [hf, b0, beq_eq_false_iff_ne.1 b1, beq_eq_false_iff_ne.1 b2, beq_eq_false_iff_ne.1 b3, beq_eq_false_iff_ne.1 b4, b5, beq_eq_false_iff_ne.1 b6, b7, beq_eq_false_iff_ne.1 b8, beq_eq_false_iff_ne.1 b9, beq_eq_false_iff_ne.1 b10, beq_eq_false_iff_ne.1 b11]]; exact Form_12 op w hf b0 b1 b2 b3 b4 b5 b6 b7 b8 b9 b10 b11
namespace Isp
/-- a reader: what bytes begin with, and of how many bytes it is; or why there is none -/
abbrev Prs (α : Type) := List Int → Except Int (α × Nat)
/-- what is written is read, whatever stands behind; what is read may be written, and is no longer then; cut anywhere it is none -/
structure Cod {α : Type} (p : Prs α) (e : α → List Int) (V : α → Prop) : Prop where
  back : ∀ x, V x → ∀ r, p (e x ++ r) = .ok (x, (e x).length)
  sound : ∀ r x k, p r = .ok (x, k) → V x ∧ (e x).length ≤ k ∧ k ≤ r.length
  cut : ∀ x, V x → ∀ i, i < (e x).length → p ((e x).take i) = .error 60
def bindP {α β : Type} (p : Prs α) (q : α → Prs β) : Prs (α × β) := fun r => match p r with
  | .error e => .error e
  | .ok (x, k) => match q x (r.drop k) with
    | .error e => .error e
    | .ok (y, m) => .ok ((x, y), k + m)
theorem Cod.bind {α β : Type} {p : Prs α} {q : α → Prs β} {e : α → List Int} {d : α → β → List Int} {V : α → Prop} {U : α → β → Prop} (hp : Cod p e V) (hq : ∀ x, Cod (q x) (d x) (U x)) :
    Cod (bindP p q) (fun z => e z.1 ++ d z.1 z.2) (fun z => V z.1 ∧ U z.1 z.2) := by
  refine ⟨fun z ⟨h1, h2⟩ r => ?_, fun r z k h => ?_, fun z ⟨h1, h2⟩ i hi => ?_⟩
  · unfold bindP
    rw [List.append_assoc, hp.back _ h1]
    simp only [List.drop_left]
    rw [(hq z.1).back _ h2]
    simp
  · unfold bindP at h
    split at h
    · cases h
    next x k1 hx =>
    split at h
    · cases h
    next y m hy =>
    injection h with h
    injection h with h3 h4
    subst h3; subst h4
    obtain ⟨a1, a2, a3⟩ := hp.sound _ _ _ hx
    obtain ⟨b1, b2, b3⟩ := (hq x).sound _ _ _ hy
    simp only [List.length_append, List.length_drop] at *
    exact ⟨⟨a1, b1⟩, by omega, by omega⟩
  unfold bindP
  simp only [List.length_append] at hi
  by_cases hlt : i < (e z.1).length
  · rw [List.take_append_of_le_length (by omega), hp.cut _ h1 _ hlt]
  rw [List.take_append, List.take_of_length_le (by omega), hp.back _ h1]
  simp only [List.drop_left]
  rw [(hq z.1).cut _ h2 _ (by omega)]
def mapP {α β : Type} (g : α → β) (p : Prs α) : Prs β := fun r => match p r with
  | .error e => .error e
  | .ok (x, k) => .ok (g x, k)
theorem Cod.map {α β : Type} {p : Prs α} {e : α → List Int} {V : α → Prop} (hp : Cod p e V) (g : α → β) (h : β → α) (hgh : ∀ x, V x → h (g x) = x) : Cod (mapP g p) (fun y => e (h y)) (fun y => V (h y) ∧ g (h y) = y) := by
  refine ⟨fun y ⟨h1, h2⟩ r => ?_, fun r y k hy => ?_, fun y ⟨h1, h2⟩ i hi => ?_⟩
  · unfold mapP; rw [hp.back _ h1]; simp only [h2]
  · unfold mapP at hy
    split at hy
    · cases hy
    next x k1 hx =>
    injection hy with hy
    injection hy with h3 h4
    subst h3; subst h4
    obtain ⟨a1, a2, a3⟩ := hp.sound _ _ _ hx
    rw [hgh x a1]
    exact ⟨⟨a1, rfl⟩, a2, a3⟩
  unfold mapP; rw [hp.cut _ h1 _ hi]
theorem Cod.as {α : Type} {p : Prs α} {e e' : α → List Int} {V V' : α → Prop} (hp : Cod p e V) (hV : ∀ x, V' x ↔ V x) (he : ∀ x, V x → e' x = e x) : Cod p e' V' := by
  refine ⟨fun x h r => ?_, fun r x k h => ?_, fun x h i hi => ?_⟩
  · have hv := (hV x).1 h
    rw [he x hv]; exact hp.back _ hv _
  · obtain ⟨a1, a2, a3⟩ := hp.sound _ _ _ h
    exact ⟨(hV x).2 a1, by rw [he x a1]; exact a2, a3⟩
  have hv := (hV x).1 h
  rw [he x hv] at hi ⊢; exact hp.cut _ hv _ hi
def manyP {α : Type} (p : Prs α) : Nat → Prs (List α)
  | 0 => fun r => .ok ([], 0)
  | n + 1 => mapP (fun z => z.1 :: z.2) (bindP p fun _ => manyP p n)
theorem Cod.many {α : Type} [Inhabited α] {p : Prs α} {e : α → List Int} {V : α → Prop} (hp : Cod p e V) : ∀ n, Cod (manyP p n) (fun l => l.flatMap e) (fun l => l.length = n ∧ ∀ x ∈ l, V x)
  | 0 => ⟨fun l ⟨h1, _⟩ r => by rw [List.eq_nil_of_length_eq_zero h1]; rfl, fun r l k h => by
      simp only [manyP] at h
      injection h with h
      injection h with h3 h4
      subst h3; subst h4; simp, fun l ⟨h1, _⟩ i hi => by rw [List.eq_nil_of_length_eq_zero h1] at hi; simp at hi⟩
  | n + 1 => by
    have ih := Cod.many hp n
    refine ((hp.bind fun _ => ih).map (fun z => z.1 :: z.2) (fun l => (l.headD default, l.tail)) (fun x _ => rfl)).as (fun l => ?_) (fun l hl => ?_)
    · cases l with
      | nil => simp
      | cons y l => simp [and_assoc, and_left_comm]
    cases l with
    | nil => simp at hl
    | cons y l => rfl
def byteP : Prs Int := fun r => match r with
  | [] => .error 60
  | x :: _ => .ok (x, 1)
theorem cod_byte : Cod byteP (fun x => [x]) (fun _ => True) :=
  ⟨fun x _ r => rfl, fun r x k h => by
    cases r with
    | nil => cases h
    | cons y r =>
      simp only [byteP] at h
      injection h with h
      injection h with h3 h4
      subst h3; subst h4; simp, fun x _ i hi => by
    have : i = 0 := by simpa using hi
    subst this; rfl⟩
/-- numbers -/
def okN (sg : Bool) (b : Nat) (z : Int) : Prop := if sg then -(2 ^ b : Int) ≤ 2 * z ∧ 2 * z < 2 ^ b else 0 ≤ z ∧ z < 2 ^ b
def apN (sg : Bool) (z : Int) : List Int := uints (Leb.ap sg 10 z)
def numP (sg : Bool) (b : Nat) : Prs Int := fun r => match Leb.tk sg (r.map Lib.byteOf) b with
  | none => .error 60
  | some (z, k) => .ok (z, k)
theorem fit_of {sg : Bool} {b : Nat} {z : Int} (hb : b ≤ 64) (h : okN sg b z) : Leb.fit7 sg 10 z := by
  have hp : (2 : Int) ^ b ≤ 2 ^ 64 := Leb.pow_le hb
  unfold okN at h
  unfold Leb.fit7
  rw [show (128 : Int) ^ 10 = 1180591620717411303424 by decide]
  rw [show (2 : Int) ^ 64 = 18446744073709551616 by decide] at hp
  cases sg <;> simp at h ⊢ <;> omega
theorem fits_of {sg : Bool} {b : Nat} {z : Int} (h : okN sg b z) : Leb.fits sg b z = true := by
  unfold okN at h
  unfold Leb.fits
  cases sg <;> simp at h ⊢ <;> omega
theorem cod_num (sg : Bool) {b : Nat} (h1 : 1 ≤ b) (h2 : b ≤ 64) : Cod (numP sg b) (apN sg) (okN sg b) := by
  refine ⟨fun z hz r => ?_, fun r z k h => ?_, fun z hz i hi => ?_⟩
  · unfold numP apN
    rw [List.map_append, byteOf_uints, uints_length, Leb.tk_ap (fit_of h2 hz) _ h1 h2, if_pos (fits_of hz)]
  · unfold numP at h
    split at h
    · cases h
    next z' k' ht =>
    injection h with h
    injection h with h3 h4
    subst h3; subst h4
    obtain ⟨_, _, _, a4, a5, a6, a7, a8⟩ := Leb.tk_some ht
    have hs := Leb.tk_short ht
    rw [List.length_map] at a6
    have hn := Leb.fit7_nonneg (Leb.tk_fit ht)
    refine ⟨?_, by unfold apN; rw [uints_length]; exact hs, a6⟩
    unfold Leb.fits at a8
    unfold okN
    simp only [Int.toNat_natCast] at a8
    cases sg <;> simp at a8 hn ⊢ <;> omega
  unfold numP apN at *
  rw [uints_length] at hi
  rw [show ((uints (Leb.ap sg 10 z)).take i).map Lib.byteOf = (Leb.ap sg 10 z).take i by rw [List.map_take, byteOf_uints], Leb.tk_cut (fit_of h2 hz) i hi]
theorem apN_len {sg : Bool} {b : Nat} {z : Int} (hb : b ≤ 64) (h : okN sg b z) : 1 ≤ (apN sg z).length ∧ (apN sg z).length ≤ 10 := by
  unfold apN; rw [uints_length]
  exact ⟨Leb.ap_pos (fit_of hb h), Leb.ap_le (fit_of hb h)⟩
abbrev u32P : Prs Int := numP false 32
def okU (z : Int) : Prop := 0 ≤ z ∧ z < 4294967296
theorem okU_iff (z : Int) : okU z ↔ okN false 32 z := by unfold okU okN; simp
theorem cod_u32 : Cod u32P (apN false) okU := (cod_num false (b := 32) (by omega) (by omega)).as okU_iff (fun _ _ => rfl)
def zeroP : Prs Unit := fun r => match r with
  | [] => .error 60
  | x :: _ => if x = 0 then .ok ((), 1) else .error 60
theorem cod_zero : Cod zeroP (fun _ => [0]) (fun _ => True) :=
  ⟨fun x _ r => rfl, fun r x k h => by
    cases r with
    | nil => cases h
    | cons y r =>
      simp only [zeroP] at h
      split at h
      · injection h with h
        injection h with h3 h4
        subst h4; simp
      (cases h), fun x _ i hi => by
    have : i = 0 := by simpa using hi
    subst this; rfl⟩
def blkOk (t : Int) : Prop := t = 64 ∨ t = 127 ∨ t = 126
instance (t : Int) : Decidable (blkOk t) := by unfold blkOk; infer_instance
def blockP : Prs Int := fun r => match r with
  | [] => .error 60
  | t :: _ => if blkOk t then .ok (t, 1) else if t = 125 ∨ t = 124 then .error 61 else .error 60
theorem cod_block : Cod blockP (fun t => [t]) blkOk :=
  ⟨fun t h r => by show (if blkOk t then _ else _) = _; rw [if_pos h]; rfl, fun r x k h => by
    cases r with
    | nil => cases h
    | cons y r =>
      simp only [blockP] at h
      split at h
      · next hb =>
        injection h with h
        injection h with h3 h4
        subst h3; subst h4; exact ⟨hb, by simp, by simp⟩
      (split at h <;> cases h), fun x _ i hi => by
    have : i = 0 := by simpa using hi
    subst this; rfl⟩
/-- labels: how many, these, and the last one -/
def labsP : Prs (List Int × Int) := mapP (fun z => (z.1.2, z.2)) (bindP (bindP u32P fun n => manyP u32P n.toNat) fun _ => u32P)
def labsE (z : List Int × Int) : List Int := apN false z.1.length ++ z.1.flatMap (apN false) ++ apN false z.2
def labsV (z : List Int × Int) : Prop := z.1.length < 4294967296 ∧ (∀ x ∈ z.1, okU x) ∧ okU z.2
theorem cod_labs : Cod labsP labsE labsV := by
  refine (((cod_u32.bind fun n => cod_u32.many n.toNat).bind fun _ => cod_u32).map (fun z => (z.1.2, z.2)) (fun z => (((z.1.length : Int), z.1), z.2)) ?_).as (fun z => ?_) (fun z _ => rfl)
  · rintro ⟨⟨n, l⟩, a⟩ ⟨⟨h1, h2, h3⟩, h4⟩
    simp only at h1 h2 h3 h4
    unfold okU at h1
    have : (l.length : Int) = n := by omega
    simp only [this]
  obtain ⟨l, a⟩ := z
  unfold labsV okU
  simp only [Int.toNat_natCast, and_true, true_and]
  constructor
  · rintro ⟨h1, h2, h3⟩; exact ⟨⟨⟨by omega, by omega⟩, h2⟩, h3⟩
  rintro ⟨⟨⟨_, h1⟩, h2⟩, h3⟩; exact ⟨by omega, h2, h3⟩
/-- what stands behind an opcode: A, B, C, L -/
abbrev Rest := Int × Int × Int × List Int
def bodyP (f : Int) : Prs Rest :=
  if f = 1 then mapP (fun t => (t, 0, 0, [])) blockP
  else if f = 2 ∨ f = 4 then mapP (fun a => (a, 0, 0, [])) u32P
  else if f = 3 then mapP (fun z => (z.2, 0, 0, z.1)) labsP
  else if f = 5 then mapP (fun z => (z.1, 0, 0, [])) (bindP u32P fun _ => zeroP)
  else if f = 6 then mapP (fun z => (z.1, z.2, 0, [])) (bindP u32P fun _ => u32P)
  else if f = 7 then mapP (fun _ => (0, 0, 0, [])) zeroP
  else if f = 8 then mapP (fun c => (0, 0, c, [])) (numP true 32)
  else if f = 9 then mapP (fun c => (0, 0, c, [])) (numP true 64)
  else fun r => .ok ((0, 0, 0, []), 0)
def bodyE (f : Int) (x : Rest) : List Int :=
  if f = 1 then [x.1]
  else if f = 2 ∨ f = 4 then apN false x.1
  else if f = 3 then labsE (x.2.2.2, x.1)
  else if f = 5 then apN false x.1 ++ [0]
  else if f = 6 then apN false x.1 ++ apN false x.2.1
  else if f = 7 then [0]
  else if f = 8 ∨ f = 9 then apN true x.2.2.1
  else []
def bodyV (f : Int) (x : Rest) : Prop :=
  if f = 1 then blkOk x.1 ∧ x.2 = (0, 0, [])
  else if f = 2 ∨ f = 4 then okU x.1 ∧ x.2 = (0, 0, [])
  else if f = 3 then labsV (x.2.2.2, x.1) ∧ x.2.1 = 0 ∧ x.2.2.1 = 0
  else if f = 5 then okU x.1 ∧ x.2 = (0, 0, [])
  else if f = 6 then okU x.1 ∧ okU x.2.1 ∧ x.2.2 = (0, [])
  else if f = 7 then x = (0, 0, 0, [])
  else if f = 8 then okN true 32 x.2.2.1 ∧ x.1 = 0 ∧ x.2.1 = 0 ∧ x.2.2.2 = []
  else if f = 9 then okN true 64 x.2.2.1 ∧ x.1 = 0 ∧ x.2.1 = 0 ∧ x.2.2.2 = []
  else x = (0, 0, 0, [])
theorem cod_body (f : Int) : Cod (bodyP f) (bodyE f) (bodyV f) := by
  unfold bodyP
  split
  · next h =>
    subst h
    refine (cod_block.map (fun t => (t, 0, 0, [])) (fun x => x.1) (fun x _ => rfl)).as (fun x => ?_) (fun x _ => by simp [bodyE])
    obtain ⟨a, b⟩ := x
    simp [bodyV, Prod.ext_iff, eq_comm]
  split
  · next h1 h =>
    refine (cod_u32.map (fun t => (t, 0, 0, [])) (fun x => x.1) (fun x _ => rfl)).as (fun x => ?_) (fun x _ => by unfold bodyE; rw [if_neg h1, if_pos h])
    obtain ⟨a, b⟩ := x
    unfold bodyV
    rw [if_neg h1, if_pos h]
    simp [Prod.ext_iff, eq_comm]
  split
  · next h =>
    subst h
    refine (cod_labs.map (fun z => (z.2, 0, 0, z.1)) (fun x => (x.2.2.2, x.1)) (fun x _ => rfl)).as (fun x => ?_) (fun x _ => by simp [bodyE])
    obtain ⟨a, b, c, d⟩ := x
    simp [bodyV, Prod.ext_iff, eq_comm]
  split
  · next h =>
    subst h
    refine ((cod_u32.bind fun _ => cod_zero).map (fun z => (z.1, 0, 0, [])) (fun x => (x.1, ())) (fun x _ => rfl)).as (fun x => ?_) (fun x _ => by simp [bodyE])
    obtain ⟨a, b⟩ := x
    simp [bodyV, Prod.ext_iff, eq_comm]
  split
  · next h =>
    subst h
    refine ((cod_u32.bind fun _ => cod_u32).map (fun z => (z.1, z.2, 0, [])) (fun x => (x.1, x.2.1)) (fun x _ => rfl)).as (fun x => ?_) (fun x _ => by simp [bodyE])
    obtain ⟨a, b, c, d⟩ := x
    simp [bodyV, Prod.ext_iff, eq_comm, and_assoc]
  split
  · next h =>
    subst h
    refine (cod_zero.map (fun _ => (0, 0, 0, [])) (fun x => ()) (fun x _ => rfl)).as (fun x => ?_) (fun x _ => by simp [bodyE])
    simp [bodyV, eq_comm]
  split
  · next h =>
    subst h
    refine ((cod_num true (b := 32) (by omega) (by omega)).map (fun c => (0, 0, c, [])) (fun x => x.2.2.1) (fun x _ => rfl)).as (fun x => ?_) (fun x _ => by simp [bodyE])
    obtain ⟨a, b, c, d⟩ := x
    simp [bodyV, Prod.ext_iff, eq_comm]
  split
  · next h =>
    subst h
    refine ((cod_num true (b := 64) (by omega) (by omega)).map (fun c => (0, 0, c, [])) (fun x => x.2.2.1) (fun x _ => rfl)).as (fun x => ?_) (fun x _ => by simp [bodyE])
    obtain ⟨a, b, c, d⟩ := x
    simp [bodyV, Prod.ext_iff, eq_comm]
  next h1 h2 h3 h4 h5 h6 h7 h8 =>
  have eV : ∀ x, bodyV f x ↔ x = (0, 0, 0, []) := fun x => by unfold bodyV; simp only [h1, h2, h3, h4, h5, h6, h7, h8, if_false]
  have eE : ∀ x, bodyE f x = [] := fun x => by unfold bodyE; simp only [h1, h2, h3, h4, h5, h6, h7, h8, if_false, or_self]
  refine ⟨fun x hx r => by rw [eE, (eV x).1 hx]; rfl, fun r x k h => ?_, fun x _ i hi => by rw [eE] at hi; simp at hi⟩
  injection h with h
  injection h with h3 h4
  subst h3; subst h4
  exact ⟨(eV _).2 rfl, by rw [eE]; simp, Nat.zero_le _⟩
/-- an instruction -/
def mk (op : Int) (x : Rest) : Ins := ⟨op, x.1, x.2.1, x.2.2.1, x.2.2.2⟩
def rest (x : Ins) : Rest := (x.a, x.b, x.c, x.l)
def bytes (x : Ins) : List Int := x.op :: bodyE (Opc.form x.op) (rest x)
/-- it has bytes -/
def May (x : Ins) : Prop := Opc.known x.op = true ∧ bodyV (Opc.form x.op) (rest x)
def insP : Prs Ins := fun r => match r with
  | [] => .error 60
  | op :: r => if Opc.float op = true then .error 61 else if Opc.known op = false then .error 60 else match bodyP (Opc.form op) r with
    | .error e => .error e
    | .ok (x, k) => .ok (mk op x, 1 + k)
theorem known_float {op : Int} (h : Opc.known op = true) : Opc.float op = false := by
  unfold Opc.known at h
  cases hf : Opc.float op with
  | false => rfl
  | true => rw [hf] at h; simp at h
theorem cod_ins : Cod insP bytes May := by
  refine ⟨fun x hx r => ?_, fun r x k h => ?_, fun x hx i hi => ?_⟩
  · unfold bytes insP
    simp only [List.cons_append]
    rw [if_neg (by rw [known_float hx.1]; decide), if_neg (by rw [hx.1]; decide), (cod_body _).back _ hx.2]
    simp only [List.length_cons]
    rw [Nat.add_comm]; rfl
  · unfold insP at h
    cases r with
    | nil => cases h
    | cons op r =>
      simp only at h
      split at h
      · cases h
      split at h
      · cases h
      rename_i h1 h2
      split at h
      · cases h
      next y m hy =>
      injection h with h
      injection h with h3 h4
      subst h3; subst h4
      obtain ⟨a1, a2, a3⟩ := (cod_body _).sound _ _ _ hy
      refine ⟨⟨(by simpa using h2 : Opc.known op = true), a1⟩, ?_, ?_⟩
      · show (op :: bodyE (Opc.form op) y).length ≤ _
        simp only [List.length_cons]; omega
      simp only [List.length_cons]; omega
  unfold bytes insP at *
  cases i with
  | zero => rfl
  | succ i =>
    simp only [List.length_cons] at hi
    simp only [List.take_succ_cons]
    rw [if_neg (by rw [known_float hx.1]; decide), if_neg (by rw [hx.1]; decide), (cod_body _).cut _ hx.2 _ (by omega)]
theorem insP_pos {r : List Int} {x : Ins} {k : Nat} (h : insP r = .ok (x, k)) : 1 ≤ k := by
  have := (cod_ins.sound _ _ _ h).2.1
  unfold bytes at this
  simp at this; omega
/-- marks of open blocks -/
inductive Mk where
  | bad
  | over
  | go (m : List Int)
def nx (m : List Int) (op : Int) : Mk :=
  if op = 2 ∨ op = 3 ∨ op = 4 then .go (m ++ [op])
  else if op = 5 then (if m = [] ∨ m.getD (m.length - 1) default ≠ 4 then .bad else .go (m.take (m.length - 1) ++ [5]))
  else if op = 11 then (if m = [] then .over else .go (m.take (m.length - 1)))
  else .go m
theorem nx_over {m : List Int} {op : Int} (h : nx m op = .over) : m = [] ∧ op = 11 := by
  unfold nx at h
  split at h
  · cases h
  split at h
  · split at h <;> cases h
  split at h
  · next h11 =>
    split at h
    · next hm => exact ⟨hm, h11⟩
    cases h
  cases h
def walkM : List Int → List Ins → Option (List Int)
  | m, [] => some m
  | m, x :: xs => match nx m x.op with
    | .go m' => walkM m' xs
    | _ => none
def exprP : Nat → List Int → Prs (List Ins)
  | 0, _ => fun _ => .error 60
  | f + 1, m => fun r => match insP r with
    | .error e => .error e
    | .ok (x, k) => match nx m x.op with
      | .bad => .error 60
      | .over => .ok ([], k)
      | .go m' => match exprP f m' (r.drop k) with
        | .error e => .error e
        | .ok (xs, n) => .ok (x :: xs, k + n)
def flat (l : List Ins) : List Int := l.flatMap bytes
def fin : Ins := ⟨11, 0, 0, 0, []⟩
theorem may_fin : May fin := by
  refine ⟨by decide, ?_⟩
  show bodyV 0 (0, 0, 0, [])
  unfold bodyV; simp
theorem bytes_fin : bytes fin = [11] := by
  show (11 : Int) :: bodyE 0 _ = _
  simp [bodyE]
theorem expr_back : ∀ (xs : List Ins) (m : List Int) (f : Nat) (r : List Int), walkM m xs = some [] → (∀ x ∈ xs, May x) → xs.length < f → exprP f m (flat xs ++ 11 :: r) = .ok (xs, (flat xs).length + 1)
  | [], m, 0, r, h, hm, hf => by simp at hf
  | [], m, f + 1, r, h, hm, hf => by
    have h : m = [] := Option.some.inj h
    subst h
    have := cod_ins.back fin may_fin r
    rw [bytes_fin] at this
    have e : flat [] ++ 11 :: r = [11] ++ r := rfl
    rw [e]
    simp only [exprP]
    rw [this]
    rfl
  | x :: xs, m, 0, r, h, hm, hf => by simp at hf
  | x :: xs, m, f + 1, r, h, hm, hf => by
    simp only [walkM] at h
    have hb := cod_ins.back x (hm x (List.mem_cons_self ..)) (flat xs ++ 11 :: r)
    have e : flat (x :: xs) ++ 11 :: r = bytes x ++ (flat xs ++ 11 :: r) := by simp [flat]
    rw [e]
    simp only [exprP]
    rw [hb]
    cases hn : nx m x.op with
    | bad => rw [hn] at h; cases h
    | over => rw [hn] at h; cases h
    | go m' =>
      rw [hn] at h
      simp only [List.drop_left, hn]
      rw [expr_back xs m' f r h (fun y hy => hm y (List.mem_cons_of_mem _ hy)) (by simpa using hf)]
      simp [flat]; omega
theorem expr_sound : ∀ (f : Nat) (m r : List Int) (xs : List Ins) (n : Nat), exprP f m r = .ok (xs, n) → (∀ x ∈ xs, May x) ∧ walkM m xs = some [] ∧ (flat xs).length + 1 ≤ n ∧ n ≤ r.length
  | 0, m, r, xs, n, h => by cases h
  | f + 1, m, r, xs, n, h => by
    simp only [exprP] at h
    split at h
    · cases h
    next x k hx =>
    obtain ⟨a1, a2, a3⟩ := cod_ins.sound _ _ _ hx
    have a4 := insP_pos hx
    split at h
    · cases h
    · next hn =>
      injection h with h
      injection h with h3 h4
      subst h3; subst h4
      obtain ⟨rfl, _⟩ := nx_over hn
      exact ⟨fun x hx => (by cases hx), rfl, by simpa [flat] using a4, a3⟩
    next m' hn =>
    split at h
    · cases h
    next ys j hy =>
    injection h with h
    injection h with h3 h4
    subst h3; subst h4
    obtain ⟨b1, b2, b3, b4⟩ := expr_sound f m' _ _ _ hy
    rw [List.length_drop] at b4
    refine ⟨fun y hy => ?_, by simp only [walkM, hn]; exact b2, ?_, by omega⟩
    · rcases List.mem_cons.1 hy with rfl | hy
      · exact a1
      exact b1 y hy
    simp only [flat, List.flatMap_cons, List.length_append] at *; omega
theorem expr_cut : ∀ (xs : List Ins) (m : List Int) (f i : Nat), walkM m xs = some [] → (∀ x ∈ xs, May x) → i < (flat xs).length + 1 → exprP f m ((flat xs ++ [11]).take i) = .error 60
  | xs, m, 0, i, h, hm, hi => rfl
  | [], m, f + 1, i, h, hm, hi => by
    have : i = 0 := by simpa [flat] using hi
    subst this; rfl
  | x :: xs, m, f + 1, i, h, hm, hi => by
    have hx := hm x (List.mem_cons_self ..)
    have e : flat (x :: xs) ++ [11] = bytes x ++ (flat xs ++ [11]) := by simp [flat]
    have hl : (flat (x :: xs)).length = (bytes x).length + (flat xs).length := by simp [flat]
    rw [e]
    simp only [exprP]
    by_cases hlt : i < (bytes x).length
    · rw [List.take_append_of_le_length (by omega), cod_ins.cut x hx i hlt]
    rw [List.take_append, List.take_of_length_le (by omega), cod_ins.back x hx]
    simp only [walkM] at h
    cases hn : nx m x.op with
    | bad => rw [hn] at h; cases h
    | over => rw [hn] at h; cases h
    | go m' =>
      rw [hn] at h
      simp only [List.drop_left, hn]
      rw [expr_cut xs m' f (i - (bytes x).length) h (fun y hy => hm y (List.mem_cons_of_mem _ hy)) (by omega)]
/-- many, of which some are read -/
def Pre {α : Type} (p : Prs α) (n : Nat) (r : List Int) (m : Nat) (ls : List α) (k : Nat) : Prop :=
  manyP p n r = (match manyP p m (r.drop k) with
    | .error e => .error e
    | .ok (ys, j) => .ok (ls ++ ys, k + j))
theorem Pre.start {α : Type} (p : Prs α) (n : Nat) (r : List Int) : Pre p n r n [] 0 := by
  unfold Pre
  simp only [List.drop_zero]
  cases manyP p n r with
  | error e => rfl
  | ok x => simp
theorem Pre.step {α : Type} {p : Prs α} {n : Nat} {r : List Int} {m k j : Nat} {ls : List α} {x : α} (h : Pre p n r (m + 1) ls k) (hx : p (r.drop k) = .ok (x, j)) : Pre p n r m (ls ++ [x]) (k + j) := by
  unfold Pre at *
  rw [h]
  simp only [manyP, mapP, bindP]
  rw [hx]
  simp only [List.drop_drop]
  cases manyP p m (r.drop (k + j)) with
  | error e => rfl
  | ok y => simp [Nat.add_assoc]
theorem Pre.fail {α : Type} {p : Prs α} {n : Nat} {r : List Int} {m k : Nat} {ls : List α} {e : Int} (h : Pre p n r (m + 1) ls k) (hx : p (r.drop k) = .error e) : manyP p n r = .error e := by
  unfold Pre at h
  rw [h]
  simp only [manyP, mapP, bindP]
  rw [hx]
theorem Pre.done {α : Type} {p : Prs α} {n : Nat} {r : List Int} {k : Nat} {ls : List α} (h : Pre p n r 0 ls k) : manyP p n r = .ok (ls, k) := by
  unfold Pre at h
  rw [h]
  simp [manyP]
theorem flat_len {l : List Ins} : l.length ≤ (flat l).length := by
  induction l with
  | nil => simp [flat]
  | cons x l ih =>
    simp only [flat, List.flatMap_cons, List.length_append, List.length_cons] at *
    have : 1 ≤ (bytes x).length := by unfold bytes; simp
    omega
end Isp
/-- a panic of one's own -/
def Pan (v : Value) : List PanicEntry := [{ v := v, recovered := false }]
/-- a contract of a call that hands back as R says, or panics as X says -/
def CtX (P : Program) (f : FuncId) (args : List Value) (H : Heap) (R X : Value → Heap → Prop) : Prop :=
  ∀ w, w.heap = H → Calls P f args.toArray w fun e w' => (∃ v, e = .returned v ∧ St w w'.heap w' ∧ R v w'.heap) ∨ (∃ v, e = .panicked (Pan v) ∧ St w w'.heap w' ∧ X v w'.heap)
theorem CtX.mono {P : Program} {f : FuncId} {args : List Value} {H : Heap} {R R' X X' : Value → Heap → Prop} (h : CtX P f args H R X) (hr : ∀ v H', R v H' → R' v H') (hx : ∀ v H', X v H' → X' v H') : CtX P f args H R' X' :=
  fun w hw => (h w hw).mono fun _ _ hq => hq.imp (fun ⟨v, he, hs, hR⟩ => ⟨v, he, hs, hr _ _ hR⟩) (fun ⟨v, he, hs, hX⟩ => ⟨v, he, hs, hx _ _ hX⟩)
theorem Ct.toX {P : Program} {f : FuncId} {args : List Value} {H : Heap} {R X : Value → Heap → Prop} (h : Ct P f args H R) : CtX P f args H R X := fun w hw => (h w hw).mono fun _ _ hq => .inl hq
def PostX (P : Program) (fn : Func) (W0 : World) (R X : Value → Heap → Prop) : Exit → Act → World → Prop :=
  bodyPost P fn (fun e w' => (∃ v, e = .returned v ∧ St W0 w'.heap w' ∧ R v w'.heap) ∨ (∃ v, e = .panicked (Pan v) ∧ St W0 w'.heap w' ∧ X v w'.heap))
section
variable {P : Program} {n d : Nat} {W0 : World} {Q : Exit → Act → World → Prop} {ops rest : List Oper} {o : Oper} {E : Env} {H : Heap} {v : Value} {ch : List PanicEntry}
theorem CtX.mk {f : FuncId} {fn : Func} {c : Code} {args : List Value} {R X : Value → Heap → Prop} (hf : P.funcs[f]? = some fn) (hb : fn.body = some c) (hn : fn.ntmps = n) (hle : Nat.ble args.length n = true)
    (h : ∀ W0 : World, W0.heap = H → KC P n W0 (PostX P fn W0 R X) c (argEnv 0 args) H) : CtX P f args H R X := by
  intro w hw
  have hle' : args.length ≤ n := by simpa using hle
  refine calls_of_wp hf hb (h w hw _ w ⟨rfl, by simp [hn]; omega, ?_⟩ ⟨hw, rfl, rfl, rfl⟩)
  intro t v ht
  rw [get_argEnv] at ht
  simp only [Nat.not_lt_zero, if_false, Nat.sub_zero] at ht
  have hlt := (List.getElem?_eq_some_iff.1 ht).1
  rw [Array.getElem?_append_left (by simpa using hlt)]
  simpa using ht
theorem KQ.toX {fn : Func} {R X : Value → Heap → Prop} (h : KQ n W0 (Post P fn W0 R) .normal E H) : KQ n W0 (PostX P fn W0 R X) .normal E H := fun a w ha hw =>
  let ⟨hd, v, hr, hR⟩ := h a w ha hw; ⟨hd, v, hr, .inl hR⟩
theorem KQ.ofRetX {fn : Func} {R X : Value → Heap → Prop} (h : KQ n W0 (PostX P fn W0 R X) .normal E H) : KQ n W0 (PostX P fn W0 R X) .ret E H := h
theorem KQ.pan {fn : Func} {R X : Value → Heap → Prop} (hX : X v H) : KQ n W0 (PostX P fn W0 R X) (.panic (Pan v)) E H := fun a w ha hw =>
  ⟨ha.defers, .inr ⟨v, rfl, ⟨rfl, hw.os, hw.tape, hw.output⟩, by rw [hw.heap]; exact hX⟩⟩
theorem Fr.ofU {g : Nat} {H H' : Heap} (u : Upd g H H') : Fr g (.slice none 0 0) H H' := ⟨Nat.le_of_eq u.1.symm, fun k _ h _ => u.2 k h⟩
theorem Fr.thenN {g : Nat} {A B D : Heap} (f : Fr g (.slice none 0 0) A B) (k : Fr g (.slice none 0 0) B D) : Fr g (.slice none 0 0) A D := ⟨Nat.le_trans f.1 k.1, fun i hi h1 h2 => (k.2 i (by have := f.1; omega) h1 h2).trans (f.2 i hi h1 h2)⟩
theorem Fr.at_ {g : Nat} {A B : Heap} (f : Fr g (.slice none 0 0) A B) {i : Nat} {o : Obj} (h : A[i]? = some o) (hne : i ≠ g) : B[i]? = some o := (f.2 i (blk_lt h) hne (.inl rfl)).trans h
theorem Fr.low {g B0 : Nat} {A B : Heap} (f : Fr g (.slice none 0 0) A B) (h1 : B0 ≤ A.size) (h2 : B0 ≤ g) : OldB B0 A B := f.oldB h1 h2 (.inl rfl)
theorem KQ.panThen {N : Act → World → Prop} (h : KQ n W0 Q (.panic ch) E H) : KQ n W0 (Exit.then N Q) (.panic ch) E H := h
theorem KQ.panBlock {id : Nat} (h : KQ n W0 Q (.panic ch) E H) : KQ n W0 (Exit.inBlock id Q) (.panic ch) E H := h
theorem KL.callX {f : FuncId} {fo : Operand} {xs : Array Operand} {ts : Array TypeId} {first cap : Array Value} {vs args : List Value} {R X : Value → Heap → Prop} (ho : o.op = .call { callee := .value fo, args := xs, argTypes := ts })
    (hf : ev E fo = some (.func (.func f) first cap)) (has : evs E xs.toList = some vs) (hl : first.toList ++ vs ++ cap.toList = args) (hcall : Enters P f) (hd : o.dst = some d) (hn : Nat.blt d n = true) (hg : want ops E o.guard = some true)
    (hc : CtX P f args H R X) (hx : ∀ v H', X v H' → KQ n W0 Q (.panic (Pan v)) E H') (h : ∀ v H', R v H' → KL P n W0 Q ops rest ((d, v) :: E) H') : KL P n W0 Q ops (o :: rest) E H := by
  intro a w ha hw
  refine wpList_step fun K hK => ?_
  rw [if_pos (want_wanted ha hg)]
  unfold Oper.wp
  rw [run_call ha.agree ho hf has hl hcall]
  refine (hc w hw.heap).mono ?_
  rintro e w' (⟨v, rfl, hst, hR⟩ | ⟨v, rfl, hst, hX⟩)
  · show K (a.put o.dst v) w'
    rw [hd]
    exact hK _ _ (h v _ hR _ _ (ha.put hn v) (hw.trans hst))
  exact hx v _ hX _ _ ha (hw.trans hst)
theorem KL.panic {x : Operand} {T : TypeId} (ho : o.op = .panic x) (hx : ev E x = some (.iface T v)) (hg : want ops E o.guard = some true) (h : KQ n W0 Q (.panic (Pan (.iface T v))) E H) : KL P n W0 Q ops (o :: rest) E H := by
  intro a w ha hw
  refine wpList_step fun K hK => ?_
  rw [if_pos (want_wanted ha hg)]
  unfold Oper.wp
  have hr : (execOp a.eval o).run P w = .halt (.panic (.iface T v)) w := by
    simp [execOp, ho, ha.agree x _ hx]
    rfl
  rw [hr]
  exact h _ _ ha hw
def isIface : TypeDesc → Bool
  | .interface _ => true
  | _ => false
theorem R.makeIface {T : TypeId} {x : Operand} {ds : TypeDesc} (ho : o.op = .makeInterface T x) (ht : P.underlying T = some ds) (hd : isIface ds = false) (hx : ev E x = some v) : Run P E H o (.iface T v) := by
  intro ρ w ha hw
  cases ds <;> simp [isIface] at hd <;> simp [execOp, ho, ha x _ hx, Instr.makeInterface, underlying, program, ht, Sem.run_bind, Sem.run_pure, Result.andThen, Sem.run]
/-- x.(T), ok of an x that holds a T -/
theorem R.assertIs {T S : TypeId} {x : Operand} {ds : TypeDesc} (ho : o.op = .typeAssert x S T true) (ht : P.underlying T = some ds) (hd : isIface ds = false) (hx : ev E x = some (.iface T v)) : Run P E H o (.tuple #[v, .bool true]) := by
  intro ρ w ha hw
  cases ds <;> simp [isIface] at hd <;> simp [execOp, ho, ha x _ hx, Instr.typeAssert, underlying, program, ht, Sem.run_bind, Sem.run_pure, Result.andThen, Sem.run]
theorem Own.frK {α : Type} {m g B : Nat} {E' : El α} {e : TypeId} {H0 H1 H2 : Heap} {u : Value} {l : List α} (h : Own m E' e H0 B H1 u l) (f : Fr g (.slice none 0 0) H1 H2) (hg : g < B) : Own m E' e H0 B H2 u l :=
  h.keepN (h.lt.imp id (fun k => f.2 _ k.2 (by omega) (.inl rfl)))
/-! ### a drawn region in an order of one's own -/
variable {cl : Nat → Nat} {C : Nat → Heap → Prop} {X : Value → Heap → Prop} {k : Nat} {ord : List Nat}
def Xs (cl : Nat → Nat) (W0 : World) (X : Value → Heap → Prop) (i : Nat) (ch : List PanicEntry) (w : World) : Prop := cl i = 3 ∧ ∃ v, ch = Pan v ∧ St W0 w.heap w ∧ X v w.heap
def KO (P : Program) (n : Nat) (W0 : World) (Q : Exit → Act → World → Prop) (cl : Nat → Nat) (C : Nat → Heap → Prop) (X : Value → Heap → Prop) (ops : List Oper) (ord : List Nat) (E : Env) (H : Heap) : Prop :=
  ∀ a w, Rep n E a → St W0 H w → ko P ops.toArray cl (fun i w => C i w.heap ∧ St W0 w.heap w) (Xs cl W0 X) (fun a w => Q .normal a w) ord a w
theorem KC.order {id : Nat} {l : List Oper} (ord : List Nat) (cl : Nat → Nat) (C : Nat → Heap → Prop) (X : Value → Heap → Prop) (hm : P.follows .mixedOrders = true) (hns : Region.noSelect l.toArray = true) (hB : koB l.toArray cl [] ord = true) (hlen : ord.length = l.length) (hC : ∀ i, C i H)
    (hX : ∀ v H', X v H' → KQ n W0 Q (.panic (Pan v)) [] H') (h : KO P n W0 Q cl C X l ord E H) : KC P n W0 Q (.region id l.toArray true) E H :=
  fun a w ha hw => wp_region_ko (C := fun i w => C i w.heap ∧ St W0 w.heap w) (X := Xs cl W0 X) hm hns hB (fun k hk ch w hx => hk hx.1) (by simpa using hlen) (fun i => show C i w.heap ∧ _ from ⟨by rw [hw.heap]; exact hC i, rfl, hw.os, hw.tape, hw.output⟩)
    (fun i ch a' w' hk hx => by
      obtain ⟨_, v, rfl, hst, hv⟩ := hx
      exact hX v w'.heap hv a' w' ⟨hk.defers.trans ha.defers, hk.size.trans ha.size, fun t u ht => by cases ht⟩ hst) (h a _ ha ⟨hw.heap, hw.os, hw.tape, hw.output⟩)
theorem KO.nil (h : KQ n W0 Q .normal E H) : KO P n W0 Q cl C X ops [] E H := fun a w ha hw => h a w ha hw
theorem nth_arr {l : List Oper} {k : Nat} (h : nth l k = some o) : l.toArray[k]? = some o := by rw [nth_eq] at h; simpa using h
theorem KO.op (hk : nth ops k = some o) (hs : cl k = 0) (hr : ∀ H', C k H' → Run P E H' o v) (hd : o.dst = some d) (hn : Nat.blt d n = true) (hg : want ops E o.guard = some true) (h : KO P n W0 Q cl C X ops ord ((d, v) :: E) H) : KO P n W0 Q cl C X ops (k :: ord) E H := by
  intro a w ha hw
  unfold ko sOp
  simp only [nth_arr hk]
  rw [if_pos (want_wanted ha hg), if_pos hs]
  refine ⟨v, fun w' hw' => hr w'.heap hw'.1 a.eval w' ha.agree rfl, ?_⟩
  rw [hd]; exact h _ _ (ha.put hn v) hw
theorem KO.skip (hk : nth ops k = some o) (hd : o.dst = some d) (hn : Nat.blt d n = true) (hg : want ops E o.guard = some false) (h : KO P n W0 Q cl C X ops ord ((d, undef) :: E) H) : KO P n W0 Q cl C X ops (k :: ord) E H := by
  intro a w ha hw
  unfold ko sOp
  simp only [nth_arr hk]
  rw [if_neg (by rw [want_wanted ha hg]; simp), hd]
  exact h _ _ (ha.put hn _) hw
theorem KO.case {c : Bool} (hget : get E d = some (.bool c)) (ht : c = true → KO P n W0 Q cl C X ops ord ((d, .bool true) :: E) H) (hf : c = false → KO P n W0 Q cl C X ops ord ((d, .bool false) :: E) H) : KO P n W0 Q cl C X ops ord E H := by
  intro a w ha hw
  cases hc : c with
  | true => exact ht hc a w (ha.sub (sub_case hget true hc)) hw
  | false => exact hf hc a w (ha.sub (sub_case hget false hc)) hw
theorem KO.opM {R : Value → Heap → Prop} (hk : nth ops k = some o) (hs : cl k = 2) (hr : RunM P E H o R) (hd : o.dst = some d) (hn : Nat.blt d n = true) (hg : want ops E o.guard = some true) (hC : ∀ v H', R v H' → Dk ops.toArray C k H') (h : ∀ v H', R v H' → KO P n W0 Q cl C X ops ord ((d, v) :: E) H') : KO P n W0 Q cl C X ops (k :: ord) E H := by
  intro a w ha hw
  unfold ko sOp
  simp only [nth_arr hk]
  rw [if_pos (want_wanted ha hg), if_neg (by rw [hs]; decide), if_neg (by rw [hs]; decide)]
  obtain ⟨v, w', hrun, hst, hR⟩ := hr a.eval w ha.agree hw.heap
  unfold eff
  rw [hrun]
  simp only [effUpon]
  rw [hd]
  have hst' := hw.trans hst
  exact ⟨fun i _ h1 h2 => ⟨hC _ _ hR i h1 h2, rfl, hst'.os, hst'.tape, hst'.output⟩, h v _ hR _ _ (ha.put hn v) hst'⟩
theorem KO.opS {R : Heap → Prop} (hk : nth ops k = some o) (hs : cl k = 2) (hr : RunS P E H o R) (hd : o.dst = none) (hg : want ops E o.guard = some true) (hC : ∀ H', R H' → Dk ops.toArray C k H') (h : ∀ H', R H' → KO P n W0 Q cl C X ops ord E H') : KO P n W0 Q cl C X ops (k :: ord) E H := by
  intro a w ha hw
  unfold ko sOp
  simp only [nth_arr hk]
  rw [if_pos (want_wanted ha hg), if_neg (by rw [hs]; decide), if_neg (by rw [hs]; decide)]
  obtain ⟨w', hrun, hst, hR⟩ := hr a.eval w ha.agree hw.heap
  unfold eff
  rw [hrun]
  simp only [effUpon]
  rw [hd]
  have hst' := hw.trans hst
  exact ⟨fun i _ h1 h2 => ⟨hC _ hR i h1 h2, rfl, hst'.os, hst'.tape, hst'.output⟩, h _ hR _ _ ha hst'⟩
theorem KO.call {f : FuncId} {fo : Operand} {xs : Array Operand} {ts : Array TypeId} {first cap : Array Value} {vs args : List Value} {R : Value → Heap → Prop} (hk : nth ops k = some o) (hs : cl k = 2) (ho : o.op = .call { callee := .value fo, args := xs, argTypes := ts })
    (hf : ev E fo = some (.func (.func f) first cap)) (has : evs E xs.toList = some vs) (hl : first.toList ++ vs ++ cap.toList = args) (hcall : Enters P f) (hd : o.dst = some d) (hn : Nat.blt d n = true) (hg : want ops E o.guard = some true)
    (hc : Ct P f args H R) (hC : ∀ v H', R v H' → Dk ops.toArray C k H') (h : ∀ v H', R v H' → KO P n W0 Q cl C X ops ord ((d, v) :: E) H') : KO P n W0 Q cl C X ops (k :: ord) E H := by
  intro a w ha hw
  unfold ko sOp
  simp only [nth_arr hk]
  rw [if_pos (want_wanted ha hg), if_neg (by rw [hs]; decide), if_neg (by rw [hs]; decide)]
  unfold eff
  rw [run_call ha.agree ho hf has hl hcall]
  simp only [effUpon]
  refine (hc w hw.heap).mono ?_
  rintro e w' ⟨v, rfl, hst, hR⟩
  have hst' := hw.trans hst
  rw [hd]
  refine .inl ?_
  exact ⟨v, rfl, fun i _ h1 h2 => ⟨hC _ _ hR i h1 h2, rfl, hst'.os, hst'.tape, hst'.output⟩, h v _ hR _ _ (ha.put hn v) hst'⟩
theorem KO.callX {f : FuncId} {fo : Operand} {xs : Array Operand} {ts : Array TypeId} {first cap : Array Value} {vs args : List Value} {R : Value → Heap → Prop} (hk : nth ops k = some o) (hs : cl k = 3) (ho : o.op = .call { callee := .value fo, args := xs, argTypes := ts })
    (hf : ev E fo = some (.func (.func f) first cap)) (has : evs E xs.toList = some vs) (hl : first.toList ++ vs ++ cap.toList = args) (hcall : Enters P f) (hd : o.dst = some d) (hn : Nat.blt d n = true) (hg : want ops E o.guard = some true)
    (hc : CtX P f args H R X) (hC : ∀ v H', R v H' → Dk ops.toArray C k H') (h : ∀ v H', R v H' → KO P n W0 Q cl C X ops ord ((d, v) :: E) H') : KO P n W0 Q cl C X ops (k :: ord) E H := by
  intro a w ha hw
  unfold ko sOp
  simp only [nth_arr hk]
  rw [if_pos (want_wanted ha hg), if_neg (by rw [hs]; decide), if_neg (by rw [hs]; decide)]
  unfold eff
  rw [run_call ha.agree ho hf has hl hcall]
  simp only [effUpon]
  refine (hc w hw.heap).mono ?_
  rintro e w' (⟨v, rfl, hst, hR⟩ | ⟨v, rfl, hst, hX⟩)
  · have hst' := hw.trans hst
    rw [hd]
    refine .inl ?_
    exact ⟨v, rfl, fun i _ h1 h2 => ⟨hC _ _ hR i h1 h2, rfl, hst'.os, hst'.tape, hst'.output⟩, h v _ hR _ _ (ha.put hn v) hst'⟩
  have hst' := hw.trans hst
  exact .inr ⟨_, rfl, hs, v, rfl, ⟨rfl, hst'.os, hst'.tape, hst'.output⟩, hX⟩
end
/-- why there is none, as it is thrown -/
def failV (e : Int) : Value := .iface 219 (.agg #[.int .i64 e])
/-- a reader in memory: its bytes, and where it stands -/
structure RD (H : Heap) (g : Nat) (v : Value) (l : List Int) (i : Nat) : Prop where
  b : H[g]? = some (.cells [v, .int .i64 (i : Nat)].toArray 222 (0, 0))
  s : ∀ H2, OldB g H H2 → Sl 1 (EInt .u8) H2 v l
  le : i ≤ l.length
section
variable {H H' : Heap} {g : Nat} {v : Value} {l : List Int} {i : Nat}
theorem RD.sl (h : RD H g v l i) : Sl 1 (EInt .u8) H v l := h.s H (OldB.refl _ _)
theorem RD.lt (h : RD H g v l i) : g < H.size := blk_lt h.b
theorem RD.next {i' : Nat} (h : RD H g v l i) (fr : Fr g (.slice none 0 0) H H') (hb : H'[g]? = some (.cells [v, .int .i64 (i' : Nat)].toArray 222 (0, 0))) (hle : i' ≤ l.length) : RD H' g v l i' :=
  ⟨hb, fun H2 k => h.s H2 ((fr.low (Nat.le_of_lt h.lt) (Nat.le_refl _)).trans k), hle⟩
theorem RD.old (h : RD H g v l i) (o : Old H H') : RD H' g v l i := h.next (Fr.ofOld o) (o.blk h.b) h.le
theorem RD.updT {g2 : Nat} (h : RD H g v l i) (u : Upd g2 H H') (hne : g < g2) : RD H' g v l i :=
  ⟨(u.2 g (by omega)).trans h.b, fun H2 k => h.s H2 ((OldB.upd u (by omega)).trans k), h.le⟩
theorem RD.grownT {x : Value} (h : RD H g v l i) (gr : Grown x H H') (hlt : x = .slice none 0 0 ∨ g < vblock x) : RD H' g v l i :=
  ⟨(gr.2 g h.lt (hlt.imp id (fun k => by omega))).trans h.b, fun H2 k => h.s H2 (OldB.trans (⟨gr.1, fun j hj => gr.2 j (by have := h.lt; omega) (hlt.imp id (fun k => by omega))⟩ : OldB g H H') k), h.le⟩
end
theorem over_all {cs us : List Value} (h : us.length = cs.length) : cs.take 0 ++ us ++ cs.drop (0 + us.length) = us := by simp [h]
theorem Float_k {H : Heap} (op : Int) : Ct Tryz.prog 127 [.int .u8 op] H (fun u H' => u = .bool (Opc.float op) ∧ H = H') := Ct.same fun w _ => Float_any op w
theorem Known_k {H : Heap} (op : Int) : Ct Tryz.prog 121 [.int .u8 op] H (fun u H' => u = .bool (Opc.known op) ∧ H = H') := Ct.same fun w _ => Known_any op w
theorem Form_k {H : Heap} (op : Int) : Ct Tryz.prog 122 [.int .u8 op] H (fun u H' => u = .int .u8 (Opc.form op) ∧ H = H') := Ct.same fun w _ => Form_any op w
theorem drop_getD {l : List Int} {i : Nat} (h : i < l.length) : l.drop i = l.getD i default :: l.drop (i + 1) := by
  rw [List.drop_eq_getElem_cons h, List.getD_eq_getElem?_getD, List.getElem?_eq_getElem h]; rfl
theorem tkU_eq (o : Option (Int × Nat)) : tkU o = .tuple #[.int .u64 (o.getD (0, 0)).1, .int .i64 ((o.getD (0, 0)).2 : Nat), .bool o.isSome] := by
  cases o with
  | none => rfl
  | some p => rfl
theorem tkS_eq (o : Option (Int × Nat)) : tkS o = .tuple #[.int .i64 (o.getD (0, 0)).1, .int .i64 ((o.getD (0, 0)).2 : Nat), .bool o.isSome] := by
  cases o with
  | none => rfl
  | some p => rfl
theorem numP_some {sg : Bool} {b : Nat} {r : List Int} (h1 : 1 ≤ b) (h2 : b ≤ 64) (h : (Leb.tk sg (r.map Lib.byteOf) (b : Int)).isSome = true) :
    Isp.numP sg b r = .ok (((Leb.tk sg (r.map Lib.byteOf) (b : Int)).getD (0, 0)).1, ((Leb.tk sg (r.map Lib.byteOf) (b : Int)).getD (0, 0)).2) ∧ Isp.okN sg b ((Leb.tk sg (r.map Lib.byteOf) (b : Int)).getD (0, 0)).1 ∧ ((Leb.tk sg (r.map Lib.byteOf) (b : Int)).getD (0, 0)).2 ≤ r.length := by
  have e : Isp.numP sg b r = .ok (((Leb.tk sg (r.map Lib.byteOf) (b : Int)).getD (0, 0)).1, ((Leb.tk sg (r.map Lib.byteOf) (b : Int)).getD (0, 0)).2) := by
    unfold Isp.numP
    cases hq : Leb.tk sg (r.map Lib.byteOf) (b : Int) with
    | none => rw [hq] at h; cases h
    | some p => rfl
  have := (Isp.cod_num sg h1 h2).sound _ _ _ e
  exact ⟨e, this.1, this.2.2⟩
theorem numP_none {sg : Bool} {b : Nat} {r : List Int} (h : (Leb.tk sg (r.map Lib.byteOf) (b : Int)).isSome = false) : Isp.numP sg b r = .error 60 := by
  unfold Isp.numP
  cases hq : Leb.tk sg (r.map Lib.byteOf) (b : Int) with
  | none => rfl
  | some p => rw [hq] at h; cases h
theorem TakeU32_k {H : Heap} (v : Value) (l : List Int) (hs : Sl 1 (EInt .u8) H v l) : Ct Tryz.prog 53 [v, .int .i64 32] H (fun u H' => u = .tuple #[.int .u64 ((Leb.tk false (l.map Lib.byteOf) ((32 : Nat) : Int)).getD (0, 0)).1, .int .i64 (((Leb.tk false (l.map Lib.byteOf) ((32 : Nat) : Int)).getD (0, 0)).2 : Nat), .bool (Leb.tk false (l.map Lib.byteOf) ((32 : Nat) : Int)).isSome] ∧ H = H') := by
  rw [← tkU_eq]; exact TakeU_k v l 32 hs
theorem TakeS_k {H : Heap} (v : Value) (l : List Int) (b : Nat) (hs : Sl 1 (EInt .u8) H v l) : Ct Tryz.prog 136 [v, .int .i64 (b : Nat)] H (fun u H' => u = .tuple #[.int .i64 ((Leb.tk true (l.map Lib.byteOf) (b : Int)).getD (0, 0)).1, .int .i64 (((Leb.tk true (l.map Lib.byteOf) (b : Int)).getD (0, 0)).2 : Nat), .bool (Leb.tk true (l.map Lib.byteOf) (b : Int)).isSome] ∧ H = H') := by
  rw [← tkS_eq]
  exact Ct.same fun w hw => TakeS_any v _ b w (isBs (by rw [hw]; exact hs))
theorem byte_any {H : Heap} {g : Nat} {v : Value} {l : List Int} {i : Nat} (rd : RD H g v l i) : CtX Tryz.prog 131 [.pointer (some ⟨g, 0, none⟩)] H (fun u H' => ∃ x, Isp.byteP (l.drop i) = .ok (x, 1) ∧ u = .int .u8 x ∧ InR .u8 x ∧ RD H' g v l (i + 1) ∧ Fr g (.slice none 0 0) H H') (fun p H' => Isp.byteP (l.drop i) = .error 60 ∧ p = failV 60 ∧ Fr g (.slice none 0 0) H H') := by
  refine CtX.mk Tryz.func131 rfl Tryz.ntmps131 rfl ?_
  intro W0 hW0
  have o0 : OldB 0 H H := OldB.refl _ H
  have hb := rd.b
  have hs := rd.sl
  have hll := hs.len
  have hle := rd.le
  have hlt := rd.lt
  have fr : Fr g (.slice none 0 0) H H := Fr.refl _ _ _
  refine KC.sr (KL.fin 1 rfl (KQ.seq (KC.seq (KC.seq (KC.quiet (by kernel_rfl) (by kernel_rfl) (KD.run 3 rfl (KD.ld rfl (cell_of hb rfl) (KD.run 3 rfl (KD.ld rfl (cell_of hb rfl) (KD.op (R.lenS rfl U34 rfl hs) rfl rfl rfl (KD.fin 1 rfl (KQ.seq ?_))))))))))))
  refine KC.iq rfl ?_ ?_
  · intro hc12
    refine KC.region (KL.b0 bt219 rfl rfl (KL.q (R.makeIface rfl U219 rfl rfl) rfl ?_))
    refine KL.panic rfl rfl rfl ?_
    refine KQ.panThen ?_
    exact KQ.pan (⟨by rw [List.drop_of_length_le (by omega)]; rfl, rfl, fr⟩)
  intro hc12
  refine KC.skip (KQ.sr (KL.run 3 rfl (KL.ld rfl (cell_of hb rfl) ?_)))
  refine KL.q ((R.add rfl rfl rfl (by dsimp only [InR]; omega)).val (congrArg (Value.int .i64) (show (i : Int) + 1 = ((i + 1 : Nat) : Int) by omega))) rfl ?_
  refine KL.run 2 rfl ?_
  refine KL.opS (S.store rfl sz3 rfl rfl rfl rfl hb (by simp)) rfl rfl ?_
  rintro H1 ⟨u1, b1⟩
  have o0 := o0.trans (OldB.upd u1 (by omega))
  have zu1 := u1.1
  have fr := (by exact fr.upd u1)
  have hb := b1
  have hs2 := rd.s H1 (fr.low (Nat.le_of_lt hlt) (Nat.le_refl _))
  refine KL.nil (KQ.seq (KC.seq (KC.quiet (by kernel_rfl) (by kernel_rfl) (KD.run 3 rfl (KD.ld rfl (cell_of hb rfl) (KD.run 3 rfl (KD.ld rfl (cell_of hb rfl) ?_)))))))
  refine KD.op ((R.sub rfl rfl rfl (by dsimp only [InR]; omega)).val (congrArg (Value.int .i64) (show ((i + 1 : Nat) : Int) - 1 = ((i : Nat) : Int) by omega))) rfl rfl rfl ?_
  refine KD.op (R.index1 (j := i) rfl U34 sz5 rfl rfl hs2 rfl (by omega)) rfl rfl rfl ?_
  refine KD.ld rfl (hs2.int i (by omega)).1 ?_
  refine KD.fin 1 rfl (KQ.seq (KC.ret (KQ.ofRetX (KQ.toX (KQ.fin1 Tryz.results131 rfl ?_)))))
  exact ⟨_, by rw [drop_getD (by omega)]; rfl, rfl, (hs2.int i (by omega)).2, rd.next fr hb (by omega), fr⟩
theorem u32_any {H : Heap} {g : Nat} {v : Value} {l : List Int} {i : Nat} (rd : RD H g v l i) : CtX Tryz.prog 133 [.pointer (some ⟨g, 0, none⟩)] H (fun u H' => ∃ x k, Isp.u32P (l.drop i) = .ok (x, k) ∧ u = .int .u32 x ∧ Isp.okU x ∧ RD H' g v l (i + k) ∧ Fr g (.slice none 0 0) H H') (fun p H' => Isp.u32P (l.drop i) = .error 60 ∧ p = failV 60 ∧ Fr g (.slice none 0 0) H H') := by
  refine CtX.mk Tryz.func133 rfl Tryz.ntmps133 rfl ?_
  intro W0 hW0
  have o0 : OldB 0 H H := OldB.refl _ H
  have hb := rd.b
  have hs := rd.sl
  have hll := hs.len
  have hle := rd.le
  have hlt := rd.lt
  have fr : Fr g (.slice none 0 0) H H := Fr.refl _ _ _
  have hsub : Sl 1 (EInt .u8) H (subV 1 v i l.length) (l.drop i) := by have := hs.sub (lo := i) (hi := l.length) (by omega) (Nat.le_refl _); rwa [List.take_length] at this
  refine KC.sr (KL.fin 1 rfl (KQ.seq (KC.seq (KC.quiet (by kernel_rfl) (by kernel_rfl) (KD.run 3 rfl (KD.ld rfl (cell_of hb rfl) (KD.run 3 rfl (KD.ld rfl (cell_of hb rfl) ?_))))))))
  refine KD.op (R.slice rfl U34 sz5 rfl hs (bnd.mk rfl rfl) bnd.no (by omega) (Nat.le_refl _)) rfl rfl rfl ?_
  refine KD.call rfl rfl rfl rfl Tryz.call53 rfl rfl rfl (TakeU32_k _ _ hsub) ?_
  refine KD.fin 7 rfl (KQ.seq (KC.seq (KC.sr (KL.fin 2 rfl (KQ.seq ?_)))))
  refine KC.iq rfl ?_ ?_
  · intro hc21
    have hno := numP_none (sg := false) (b := 32) (r := l.drop i) (by simpa using hc21)
    refine KC.region (KL.b0 bt219 rfl rfl (KL.q (R.makeIface rfl U219 rfl rfl) rfl ?_))
    refine KL.panic rfl rfl rfl ?_
    refine KQ.panThen ?_
    exact KQ.pan (⟨hno, rfl, fr⟩)
  intro hc21
  obtain ⟨hok, hrg, hkl⟩ := numP_some (sg := false) (b := 32) (r := l.drop i) (by omega) (by omega) (by simpa using hc21)
  rw [List.length_drop] at hkl
  refine KC.skip (KQ.sr (KL.run 3 rfl (KL.ld rfl (cell_of hb rfl) (KL.run 1 rfl ?_))))
  refine KL.q ((R.add rfl rfl rfl (by dsimp only [InR]; omega)).val (congrArg (Value.int .i64) (show (i : Int) + (((Leb.tk false ((l.drop i).map Lib.byteOf) ((32 : Nat) : Int)).getD (0, 0)).2 : Nat) = ((i + ((Leb.tk false ((l.drop i).map Lib.byteOf) ((32 : Nat) : Int)).getD (0, 0)).2 : Nat) : Int) by omega))) rfl ?_
  refine KL.run 2 rfl ?_
  refine KL.opS (S.store rfl sz3 rfl rfl rfl rfl hb (by simp)) rfl rfl ?_
  rintro H1 ⟨u1, b1⟩
  have o0 := o0.trans (OldB.upd u1 (by omega))
  have zu1 := u1.1
  have fr := (by exact fr.upd u1)
  have hb := b1
  refine KL.nil (KQ.sr (KL.run 1 rfl ?_))
  refine KL.q (R.convI rfl U95 U28 rfl (by have := (Isp.okU_iff _).2 hrg; unfold Isp.okU at this; dsimp only [InR]; omega)) rfl ?_
  refine KL.fin 1 rfl (KQ.seq (KC.ret (KQ.ofRetX (KQ.toX (KQ.fin1 Tryz.results133 rfl ?_)))))
  exact ⟨_, _, hok, rfl, (Isp.okU_iff _).2 hrg, rd.next fr hb (by omega), fr⟩
theorem signed_any {H : Heap} {g : Nat} {v : Value} {l : List Int} {i : Nat} (rd : RD H g v l i) (b : Nat) (hb1 : 1 ≤ b) (hb2 : b ≤ 64) : CtX Tryz.prog 135 [.pointer (some ⟨g, 0, none⟩), .int .i64 (b : Nat)] H (fun u H' => ∃ x k, Isp.numP true b (l.drop i) = .ok (x, k) ∧ u = .int .i64 x ∧ Isp.okN true b x ∧ RD H' g v l (i + k) ∧ Fr g (.slice none 0 0) H H') (fun p H' => Isp.numP true b (l.drop i) = .error 60 ∧ p = failV 60 ∧ Fr g (.slice none 0 0) H H') := by
  refine CtX.mk Tryz.func135 rfl Tryz.ntmps135 rfl ?_
  intro W0 hW0
  have o0 : OldB 0 H H := OldB.refl _ H
  have hb := rd.b
  have hs := rd.sl
  have hll := hs.len
  have hle := rd.le
  have hlt := rd.lt
  have fr : Fr g (.slice none 0 0) H H := Fr.refl _ _ _
  have hsub : Sl 1 (EInt .u8) H (subV 1 v i l.length) (l.drop i) := by have := hs.sub (lo := i) (hi := l.length) (by omega) (Nat.le_refl _); rwa [List.take_length] at this
  refine KC.sr (KL.fin 1 rfl (KQ.seq (KC.seq (KC.quiet (by kernel_rfl) (by kernel_rfl) (KD.run 3 rfl (KD.ld rfl (cell_of hb rfl) (KD.run 3 rfl (KD.ld rfl (cell_of hb rfl) ?_))))))))
  refine KD.op (R.slice rfl U34 sz5 rfl hs (bnd.mk rfl rfl) bnd.no (by omega) (Nat.le_refl _)) rfl rfl rfl ?_
  refine KD.run 1 rfl ?_
  refine KD.call rfl rfl rfl rfl Tryz.call136 rfl rfl rfl (TakeS_k _ _ b hsub) ?_
  refine KD.fin 7 rfl (KQ.seq (KC.seq (KC.sr (KL.fin 2 rfl (KQ.seq ?_)))))
  refine KC.iq rfl ?_ ?_
  · intro hc24
    have hno := numP_none (sg := true) (b := b) (r := l.drop i) (by simpa using hc24)
    refine KC.region (KL.b0 bt219 rfl rfl (KL.q (R.makeIface rfl U219 rfl rfl) rfl ?_))
    refine KL.panic rfl rfl rfl ?_
    refine KQ.panThen ?_
    exact KQ.pan (⟨hno, rfl, fr⟩)
  intro hc24
  obtain ⟨hok, hrg, hkl⟩ := numP_some (sg := true) (b := b) (r := l.drop i) hb1 hb2 (by simpa using hc24)
  rw [List.length_drop] at hkl
  refine KC.skip (KQ.sr (KL.run 3 rfl (KL.ld rfl (cell_of hb rfl) (KL.run 1 rfl ?_))))
  refine KL.q ((R.add rfl rfl rfl (by dsimp only [InR]; omega)).val (congrArg (Value.int .i64) (show (i : Int) + (((Leb.tk true ((l.drop i).map Lib.byteOf) ((b : Nat) : Int)).getD (0, 0)).2 : Nat) = ((i + ((Leb.tk true ((l.drop i).map Lib.byteOf) ((b : Nat) : Int)).getD (0, 0)).2 : Nat) : Int) by omega))) rfl ?_
  refine KL.run 2 rfl ?_
  refine KL.opS (S.store rfl sz3 rfl rfl rfl rfl hb (by simp)) rfl rfl ?_
  rintro H1 ⟨u1, b1⟩
  have o0 := o0.trans (OldB.upd u1 (by omega))
  have zu1 := u1.1
  have fr := (by exact fr.upd u1)
  have hb := b1
  refine KL.nil (KQ.sr (KL.fin 2 rfl (KQ.seq (KC.ret (KQ.ofRetX (KQ.toX (KQ.fin1 Tryz.results135 rfl ?_)))))))
  exact ⟨_, _, hok, rfl, hrg, rd.next fr hb (by omega), fr⟩
theorem zero_any {H : Heap} {g : Nat} {v : Value} {l : List Int} {i : Nat} (rd : RD H g v l i) : CtX Tryz.prog 134 [.pointer (some ⟨g, 0, none⟩)] H (fun u H' => u = .tuple #[] ∧ Isp.zeroP (l.drop i) = .ok ((), 1) ∧ RD H' g v l (i + 1) ∧ Fr g (.slice none 0 0) H H') (fun p H' => Isp.zeroP (l.drop i) = .error 60 ∧ p = failV 60 ∧ Fr g (.slice none 0 0) H H') := by
  refine CtX.mk Tryz.func134 rfl Tryz.ntmps134 rfl ?_
  intro W0 hW0
  have o0 : OldB 0 H H := OldB.refl _ H
  refine KC.sr (KL.run 1 rfl ?_)
  refine KL.callX rfl rfl rfl rfl Tryz.call131 rfl rfl rfl (byte_any rd) ?_ ?_
  · rintro vx H1 ⟨hx1, hx2, hx3⟩
    have hnil : l.drop i = [] := by
      cases hq : l.drop i with
      | nil => rfl
      | cons y r => rw [hq] at hx1; cases hx1
    refine KQ.panThen ?_
    exact KQ.pan (⟨by rw [hnil]; rfl, hx2, hx3⟩)
  rintro _ H2 ⟨x0, hp, rfl, hx0, rd, fr⟩
  have hd0 : l.drop i = x0 :: l.drop (i + 1) := by
    have hlt : i < l.length := by have := rd.le; omega
    rw [drop_getD hlt] at hp ⊢
    injection hp with hp; injection hp with hp; rw [hp]
  refine KL.fin 1 rfl (KQ.seq ?_)
  refine KC.iq rfl ?_ ?_
  · intro hc4
    refine KC.region (KL.b0 bt219 rfl rfl (KL.q (R.makeIface rfl U219 rfl rfl) rfl ?_))
    refine KL.panic rfl rfl rfl ?_
    exact KQ.pan (⟨by rw [hd0]; simp [Isp.zeroP]; simp_all, rfl, fr⟩)
  intro hc4
  refine KC.skip (KQ.toX (KQ.fin0 Tryz.results134 ?_))
  exact ⟨rfl, by rw [hd0]; simp [Isp.zeroP]; simp_all, rd, fr⟩
theorem block_any {H : Heap} {g : Nat} {v : Value} {l : List Int} {i : Nat} (rd : RD H g v l i) : CtX Tryz.prog 132 [.pointer (some ⟨g, 0, none⟩)] H (fun u H' => ∃ x, Isp.blockP (l.drop i) = .ok (x, 1) ∧ u = .int .u8 x ∧ InR .u8 x ∧ RD H' g v l (i + 1) ∧ Fr g (.slice none 0 0) H H') (fun p H' => ∃ e, Isp.blockP (l.drop i) = .error e ∧ p = failV e ∧ Fr g (.slice none 0 0) H H') := by
  refine CtX.mk Tryz.func132 rfl Tryz.ntmps132 rfl ?_
  intro W0 hW0
  have o0 : OldB 0 H H := OldB.refl _ H
  refine KC.sr (KL.fin 1 rfl (KQ.sr (KL.run 1 rfl ?_)))
  refine KL.callX rfl rfl rfl rfl Tryz.call131 rfl rfl rfl (byte_any rd) ?_ ?_
  · rintro vx H1 ⟨hx1, hx2, hx3⟩
    have hnil : l.drop i = [] := by
      cases hq : l.drop i with
      | nil => rfl
      | cons y r => rw [hq] at hx1; cases hx1
    refine KQ.panThen ?_
    exact KQ.pan (⟨60, by rw [hnil]; rfl, hx2, hx3⟩)
  rintro _ H2 ⟨x0, hp, rfl, hx0, rd, fr⟩
  have hd0 : l.drop i = x0 :: l.drop (i + 1) := by
    have hlt : i < l.length := by have := rd.le; omega
    rw [drop_getD hlt] at hp ⊢
    injection hp with hp; injection hp with hp; rw [hp]
  refine KL.fin 1 rfl (KQ.seq (KC.seq (KC.sr (KL.fin 1 rfl (KQ.seq (KC.block (KC.seq (KC.sr (KL.fin 2 rfl (KQ.seq ?_))))))))))
  refine KC.iq rfl ?_ ?_
  · intro hc7
    refine KC.skip (KQ.seq (KC.condT rfl (KC.sr (KL.fin 2 rfl (KQ.seq (KC.ret (KQ.retBlock (KQ.retThen (KQ.ofRetX (KQ.toX (KQ.fin1 Tryz.results132 rfl ?_)))))))))))
    exact ⟨_, by rw [hd0]; simp [Isp.blockP, Isp.blkOk, *], rfl, hx0, rd, fr⟩
  intro hc7
  refine KC.sr (KL.fin 2 rfl (KQ.seq ?_))
  refine KC.iq rfl ?_ ?_
  · intro hc7
    refine KC.skip (KQ.seq (KC.condT rfl (KC.sr (KL.fin 2 rfl (KQ.seq (KC.ret (KQ.retBlock (KQ.retThen (KQ.ofRetX (KQ.toX (KQ.fin1 Tryz.results132 rfl ?_)))))))))))
    exact ⟨_, by rw [hd0]; simp [Isp.blockP, Isp.blkOk, *], rfl, hx0, rd, fr⟩
  intro hc7
  refine KC.region (KL.fin 2 rfl (KQ.seq ?_))
  refine KC.iq rfl ?_ ?_
  · intro hc7
    refine KC.sr (KL.fin 2 rfl (KQ.seq (KC.ret (KQ.retBlock (KQ.retThen (KQ.ofRetX (KQ.toX (KQ.fin1 Tryz.results132 rfl ?_))))))))
    exact ⟨_, by rw [hd0]; simp [Isp.blockP, Isp.blkOk, *], rfl, hx0, rd, fr⟩
  intro hc7
  refine KC.seq (KC.sr (KL.fin 2 rfl (KQ.seq ?_)))
  refine KC.iq rfl ?_ ?_
  · intro hc12
    refine KC.skip (KQ.seq (KC.condT rfl (KC.region (KL.b0 bt219 rfl rfl (KL.q (R.makeIface rfl U219 rfl rfl) rfl ?_)))))
    refine KL.panic rfl rfl rfl ?_
    refine KQ.panBlock ?_
    refine KQ.panThen ?_
    exact KQ.pan (⟨_, by rw [hd0]; simp [Isp.blockP, Isp.blkOk, *], rfl, fr⟩)
  intro hc12
  refine KC.region (KL.fin 2 rfl (KQ.seq ?_))
  refine KC.iq rfl ?_ ?_
  · intro hc12
    refine KC.region (KL.b0 bt219 rfl rfl (KL.q (R.makeIface rfl U219 rfl rfl) rfl ?_))
    refine KL.panic rfl rfl rfl ?_
    refine KQ.panBlock ?_
    refine KQ.panThen ?_
    exact KQ.pan (⟨_, by rw [hd0]; simp [Isp.blockP, Isp.blkOk, *], rfl, fr⟩)
  intro hc12
  refine KC.skip (KQ.normBlock (KQ.r (KL.b0 bt219 rfl rfl (KL.q (R.makeIface rfl U219 rfl rfl) rfl ?_))))
  refine KL.panic rfl rfl rfl ?_
  exact KQ.pan (⟨_, by rw [hd0]; simp [Isp.blockP, Isp.blkOk, *], rfl, fr⟩)
/-- an instruction as a value -/
def insV (x : Ins) (vl : Value) : Value := .agg [.int .u8 x.op, .int .u32 x.a, .int .u32 x.b, .int .i64 x.c, vl].toArray
theorem zU : InR .u32 0 := by decide
theorem zI : InR .i64 0 := by decide
def InsR (x : Ins) : Prop := InR .u8 x.op ∧ InR .u32 x.a ∧ InR .u32 x.b ∧ InR .i64 x.c
namespace Isp
section
variable {r r1 : List Int} {op e : Int} {k : Nat} {x : Rest}
theorem ins_err (hd : r = op :: r1) (h1 : Opc.float op = false) (h2 : Opc.known op = true) (h : bodyP (Opc.form op) r1 = .error e) : insP r = .error e := by
  subst hd; simp [insP, h1, h2, h]
theorem ins_ok (hd : r = op :: r1) (h1 : Opc.float op = false) (h2 : Opc.known op = true) (h : bodyP (Opc.form op) r1 = .ok (x, k)) : insP r = .ok (mk op x, 1 + k) := by
  subst hd; simp [insP, h1, h2, h]
theorem labs_e1 (h : u32P r = .error e) : labsP r = .error e := by simp [labsP, mapP, bindP, h]
theorem labs_e2 {n : Int} {k1 : Nat} (h1 : u32P r = .ok (n, k1)) (h : manyP u32P n.toNat (r.drop k1) = .error e) : labsP r = .error e := by simp [labsP, mapP, bindP, h1, h]
theorem labs_e3 {n : Int} {k1 k2 : Nat} {ls : List Int} (h1 : u32P r = .ok (n, k1)) (h2 : manyP u32P n.toNat (r.drop k1) = .ok (ls, k2)) (h : u32P (r.drop (k1 + k2)) = .error e) : labsP r = .error e := by simp [labsP, mapP, bindP, h1, h2, h]
theorem labs_ok {n a : Int} {k1 k2 k3 : Nat} {ls : List Int} (h1 : u32P r = .ok (n, k1)) (h2 : manyP u32P n.toNat (r.drop k1) = .ok (ls, k2)) (h : u32P (r.drop (k1 + k2)) = .ok (a, k3)) : labsP r = .ok ((ls, a), k1 + k2 + k3) := by simp [labsP, mapP, bindP, h1, h2, h]
end
end Isp
theorem RD.frame {H H' : Heap} {g i : Nat} {v : Value} {l : List Int} (h : RD H g v l i) : g < H.size := h.lt
theorem b24 {f e : Int} {r : List Int} (hf : f = 2 ∨ f = 4) (h : Isp.u32P r = .error e) : Isp.bodyP f r = .error e := by rcases hf with rfl | rfl <;> simp [Isp.bodyP, Isp.mapP, h]
theorem b24o {f a : Int} {k : Nat} {r : List Int} (hf : f = 2 ∨ f = 4) (h : Isp.u32P r = .ok (a, k)) : Isp.bodyP f r = .ok ((a, 0, 0, []), k) := by rcases hf with rfl | rfl <;> simp [Isp.bodyP, Isp.mapP, h]
theorem instr_any {H : Heap} {g : Nat} {v : Value} {l : List Int} {i : Nat} (rd : RD H g v l i) : CtX Tryz.prog 130 [.pointer (some ⟨g, 0, none⟩)] H (fun u H' => ∃ x k, Isp.insP (l.drop i) = .ok (x, k) ∧ (∃ vl, u = insV x vl ∧ Own 1 (EInt .u32) 28 #[] H.size H' vl x.l) ∧ InsR x ∧ RD H' g v l (i + k) ∧ Fr g (.slice none 0 0) H H') (fun p H' => ∃ e, Isp.insP (l.drop i) = .error e ∧ p = failV e ∧ Fr g (.slice none 0 0) H H') := by
  refine CtX.mk Tryz.func130 rfl Tryz.ntmps130 rfl ?_
  intro W0 hW0
  have o0 : OldB 0 H H := OldB.refl _ H
  have hle := rd.le
  have hlt := rd.lt
  have fr : Fr g (.slice none 0 0) H H := Fr.refl _ _ _
  refine KC.sr ?_
  refine KL.m (M.alloc rfl zr126 rfl) rfl ?_
  rintro _ H1 ⟨rfl, n1⟩
  have z1 := n1.2.1
  have o0 := o0.trans ((n1.1).b (by omega))
  have rd := rd.old n1.1
  have fr := fr.old n1.1
  have b1 := n1.2.2
  have b2 := b1
  refine KL.nil (KQ.sr (KL.run 1 rfl ?_))
  refine KL.callX rfl rfl rfl rfl Tryz.call131 rfl rfl rfl (byte_any rd) ?_ ?_
  · rintro vx H2 ⟨hx1, hx2, hx3⟩
    refine KQ.panThen ?_
    exact KQ.pan (⟨_, by rw [show l.drop i = [] from by
          cases hq : l.drop i with
          | nil => rfl
          | cons y r => rw [hq] at hx1; cases hx1]; rfl, hx2, fr.thenN hx3⟩)
  rintro _ H3 ⟨x0, hp0, rfl, hx0, rd2, f1⟩
  have zf_H3 := f1.1
  have o0 := o0.trans (f1.low (Nat.zero_le _) (Nat.zero_le _))
  have fr := fr.thenN f1
  have b2 := f1.at_ b2 (by omega)
  have rd := rd2
  have zrd := rd.lt
  have hd0 : l.drop i = x0 :: l.drop (i + 1) := by
    have hlt : i < l.length := by have := rd.le; omega
    rw [drop_getD hlt] at hp0 ⊢
    injection hp0 with hp0; injection hp0 with hp0; rw [hp0]
  dsimp only [InR] at hx0
  refine KL.b0 bt126 rfl rfl ?_
  refine KL.m (M.alloc rfl zr126 rfl) rfl ?_
  rintro _ H4 ⟨rfl, n4⟩
  have z4 := n4.2.1
  have o0 := o0.trans ((n4.1).b (by omega))
  have fr := fr.old n4.1
  have b2 := (n4.1).blk b2
  have rd := rd.old n4.1
  have b4 := n4.2.2
  have b3 := b4
  refine KL.opS (S.storeAgg rfl sz126 rfl rfl (rfl) (by simp [Value.oneCell']) b3 (by simp)) rfl rfl ?_
  rintro H5 ⟨u5, b5⟩
  have o0 := o0.trans (OldB.upd u5 (by omega))
  have zu5 := u5.1
  have fr := (by exact fr.updN u5 (by omega))
  have b2 := ((u5).2 _ (by omega)).trans b2
  have rd := rd.updT u5 (by omega)
  have b3 := b5
  rw [over_all (by rfl)] at b3
  refine KL.nil (KQ.seq (KC.seq (KC.sr (KL.run 1 rfl (KL.ld rfl (cell_of b3 rfl) ?_)))))
  refine KL.c rfl Tryz.call127 (Float_k _) ?_
  rintro _ _ ⟨rfl, rfl⟩
  refine KL.nil (KQ.seq ?_)
  refine KC.iq rfl ?_ ?_
  · intro hc10
    refine KC.region (KL.b0 bt219 rfl rfl (KL.q (R.makeIface rfl U219 rfl rfl) rfl ?_))
    refine KL.panic rfl rfl rfl ?_
    refine KQ.panThen ?_
    exact KQ.pan (⟨61, by rw [hd0]; simp [Isp.insP, show Opc.float x0 = true by simpa using hc10], rfl, fr⟩)
  intro hc10
  have hfl : Opc.float x0 = false := by simpa using hc10
  refine KC.skip (KQ.seq (KC.seq (KC.sr (KL.run 1 rfl (KL.ld rfl (cell_of b3 rfl) ?_)))))
  refine KL.c rfl K121 (Known_k _) ?_
  rintro _ _ ⟨rfl, rfl⟩
  refine KL.fin 1 rfl (KQ.seq ?_)
  refine KC.iq rfl ?_ ?_
  · intro hc16
    refine KC.region (KL.b0 bt219 rfl rfl (KL.q (R.makeIface rfl U219 rfl rfl) rfl ?_))
    refine KL.panic rfl rfl rfl ?_
    refine KQ.panThen ?_
    exact KQ.pan (⟨60, by rw [hd0]; simp [Isp.insP, hfl, show Opc.known x0 = false by simpa using hc16], rfl, fr⟩)
  intro hc16
  have hkn : Opc.known x0 = true := by simpa using hc16
  refine KC.skip (KQ.seq (KC.seq (KC.sr (KL.run 1 rfl (KL.ld rfl (cell_of b3 rfl) ?_)))))
  refine KL.c rfl K122 (Form_k _) ?_
  rintro _ _ ⟨rfl, rfl⟩
  refine KL.nil (KQ.seq (KC.block (KC.sr (KL.fin 2 rfl (KQ.seq ?_)))))
  refine KC.iq rfl ?_ ?_
  · intro hc22
    refine KC.region (KL.run 1 rfl ?_)
    refine KL.callX rfl rfl rfl rfl Tryz.call132 rfl rfl rfl (block_any rd) ?_ ?_
    · rintro vx H6 ⟨ex, hx1, hx2, hx3⟩
      refine KQ.panBlock ?_
      refine KQ.panThen ?_
      exact KQ.pan (⟨_, Isp.ins_err hd0 hfl hkn (by simp [Isp.bodyP, Isp.mapP, Isp.bindP, hc22, hx1]), hx2, fr.thenN hx3⟩)
    rintro _ H7 ⟨a1, hp1, rfl, ha1, rd2, f1⟩
    have zf_H7 := f1.1
    have o0 := o0.trans (f1.low (Nat.zero_le _) (Nat.zero_le _))
    have fr := fr.thenN f1
    have b2 := f1.at_ b2 (by omega)
    have b3 := f1.at_ b3 (by omega)
    have rd := rd2
    have zrd := rd.lt
    dsimp only [InR] at ha1
    refine KL.q (R.convI rfl U5 U28 rfl (by dsimp only [InR]; omega)) rfl ?_
    refine KL.run 1 rfl ?_
    refine KL.opS (S.store rfl sz28 rfl rfl rfl rfl b3 (by simp)) rfl rfl ?_
    rintro H8 ⟨u8, b8⟩
    have o0 := o0.trans (OldB.upd u8 (by omega))
    have zu8 := u8.1
    have fr := (by exact fr.updN u8 (by omega))
    have b2 := ((u8).2 _ (by omega)).trans b2
    have rd := rd.updT u8 (by omega)
    have b3 := b8
    refine KL.nil (KQ.normBlock (KQ.seq (KC.seq ?_)))
    have wl : Own 1 (EInt .u32) 28 #[] H.size H8 (.slice none 0 0) [] := Own.nil _ _ _ _ _ _
    refine KC.region (KL.lda rfl (cells_of b3) rfl ?_)
    refine KL.opS (S.storeAgg rfl sz126 rfl rfl (rfl) (by intro u hu; simp only [List.set_cons_succ, List.set_cons_zero, List.mem_cons, List.not_mem_nil, or_false] at hu; rcases hu with rfl | rfl | rfl | rfl | rfl <;> (rfl)) b2 (by simp)) rfl rfl ?_
    rintro H9 ⟨u9, b9⟩
    have o0 := o0.trans (OldB.upd u9 (by omega))
    have zu9 := u9.1
    have fr := (by exact fr.updN u9 (by omega))
    have b3 := ((u9).2 _ (by omega)).trans b3
    have rd := rd.updT u9 (by omega)
    have wl := wl.upd u9 (by exact .inl rfl)
    have b2 := b9
    rw [over_all (by rfl)] at b2
    refine KL.nil (KQ.seq (KC.ret (KQ.ofRetX (KQ.toX ?_))))
    refine KQ.finCell V130 rfl U126 rfl sz126 (cells_of b2) (rfl) ?_
    exact ⟨Isp.mk x0 (a1, 0, 0, []), 1 + 1, Isp.ins_ok hd0 hfl hkn (by simp [Isp.bodyP, Isp.mapP, Isp.bindP, hc22, hp1]), ⟨_, rfl, wl⟩, ⟨hx0, by dsimp only [InR, Isp.mk]; omega, zU, zI⟩, by rw [show i + (1 + 1) = i + 1 + 1 by omega]; exact rd, fr⟩
  intro hc22
  refine KC.seq (KC.sr (KL.fin 2 rfl (KQ.seq ?_)))
  refine KC.iq rfl ?_ ?_
  · intro hc28a
    refine KC.skip (KQ.seq (KC.condT rfl (KC.region (KL.run 1 rfl ?_))))
    refine KL.callX rfl rfl rfl rfl K133 rfl rfl rfl (u32_any rd) ?_ ?_
    · rintro vx H10 ⟨hx1, hx2, hx3⟩
      refine KQ.panBlock ?_
      refine KQ.panThen ?_
      exact KQ.pan (⟨_, Isp.ins_err hd0 hfl hkn (b24 (by exact .inl hc28a) hx1), hx2, fr.thenN hx3⟩)
    rintro _ H11 ⟨a1, k1, hp1, rfl, ha1, rd2, f1⟩
    have zf_H11 := f1.1
    have o0 := o0.trans (f1.low (Nat.zero_le _) (Nat.zero_le _))
    have fr := fr.thenN f1
    have b2 := f1.at_ b2 (by omega)
    have b3 := f1.at_ b3 (by omega)
    have rd := rd2
    have zrd := rd.lt
    refine KL.run 1 rfl ?_
    refine KL.opS (S.store rfl sz28 rfl rfl rfl rfl b3 (by simp)) rfl rfl ?_
    rintro H12 ⟨u12, b12⟩
    have o0 := o0.trans (OldB.upd u12 (by omega))
    have zu12 := u12.1
    have fr := (by exact fr.updN u12 (by omega))
    have b2 := ((u12).2 _ (by omega)).trans b2
    have rd := rd.updT u12 (by omega)
    have b3 := b12
    refine KL.nil (KQ.normBlock (KQ.seq (KC.seq ?_)))
    have wl : Own 1 (EInt .u32) 28 #[] H.size H12 (.slice none 0 0) [] := Own.nil _ _ _ _ _ _
    refine KC.region (KL.lda rfl (cells_of b3) rfl ?_)
    refine KL.opS (S.storeAgg rfl sz126 rfl rfl (rfl) (by intro u hu; simp only [List.set_cons_succ, List.set_cons_zero, List.mem_cons, List.not_mem_nil, or_false] at hu; rcases hu with rfl | rfl | rfl | rfl | rfl <;> (rfl)) b2 (by simp)) rfl rfl ?_
    rintro H13 ⟨u13, b13⟩
    have o0 := o0.trans (OldB.upd u13 (by omega))
    have zu13 := u13.1
    have fr := (by exact fr.updN u13 (by omega))
    have b3 := ((u13).2 _ (by omega)).trans b3
    have rd := rd.updT u13 (by omega)
    have wl := wl.upd u13 (by exact .inl rfl)
    have b2 := b13
    rw [over_all (by rfl)] at b2
    refine KL.nil (KQ.seq (KC.ret (KQ.ofRetX (KQ.toX ?_))))
    refine KQ.finCell V130 rfl U126 rfl sz126 (cells_of b2) (rfl) ?_
    exact ⟨Isp.mk x0 (a1, 0, 0, []), 1 + k1, Isp.ins_ok hd0 hfl hkn (b24o (by exact .inl hc28a) hp1), ⟨_, rfl, wl⟩, ⟨hx0, by unfold Isp.okU at ha1; dsimp only [InR, Isp.mk]; omega, zU, zI⟩, by rw [show i + (1 + k1) = i + 1 + k1 by omega]; exact rd, fr⟩
  intro hc28a
  refine KC.region (KL.fin 2 rfl (KQ.seq ?_))
  refine KC.iq rfl ?_ ?_
  · intro hc28b
    refine KC.region (KL.run 1 rfl ?_)
    refine KL.callX rfl rfl rfl rfl K133 rfl rfl rfl (u32_any rd) ?_ ?_
    · rintro vx H14 ⟨hx1, hx2, hx3⟩
      refine KQ.panBlock ?_
      refine KQ.panThen ?_
      exact KQ.pan (⟨_, Isp.ins_err hd0 hfl hkn (b24 (by exact .inr hc28b) hx1), hx2, fr.thenN hx3⟩)
    rintro _ H15 ⟨a1, k1, hp1, rfl, ha1, rd2, f1⟩
    have zf_H15 := f1.1
    have o0 := o0.trans (f1.low (Nat.zero_le _) (Nat.zero_le _))
    have fr := fr.thenN f1
    have b2 := f1.at_ b2 (by omega)
    have b3 := f1.at_ b3 (by omega)
    have rd := rd2
    have zrd := rd.lt
    refine KL.run 1 rfl ?_
    refine KL.opS (S.store rfl sz28 rfl rfl rfl rfl b3 (by simp)) rfl rfl ?_
    rintro H16 ⟨u16, b16⟩
    have o0 := o0.trans (OldB.upd u16 (by omega))
    have zu16 := u16.1
    have fr := (by exact fr.updN u16 (by omega))
    have b2 := ((u16).2 _ (by omega)).trans b2
    have rd := rd.updT u16 (by omega)
    have b3 := b16
    refine KL.nil (KQ.normBlock (KQ.seq (KC.seq ?_)))
    have wl : Own 1 (EInt .u32) 28 #[] H.size H16 (.slice none 0 0) [] := Own.nil _ _ _ _ _ _
    refine KC.region (KL.lda rfl (cells_of b3) rfl ?_)
    refine KL.opS (S.storeAgg rfl sz126 rfl rfl (rfl) (by intro u hu; simp only [List.set_cons_succ, List.set_cons_zero, List.mem_cons, List.not_mem_nil, or_false] at hu; rcases hu with rfl | rfl | rfl | rfl | rfl <;> (rfl)) b2 (by simp)) rfl rfl ?_
    rintro H17 ⟨u17, b17⟩
    have o0 := o0.trans (OldB.upd u17 (by omega))
    have zu17 := u17.1
    have fr := (by exact fr.updN u17 (by omega))
    have b3 := ((u17).2 _ (by omega)).trans b3
    have rd := rd.updT u17 (by omega)
    have wl := wl.upd u17 (by exact .inl rfl)
    have b2 := b17
    rw [over_all (by rfl)] at b2
    refine KL.nil (KQ.seq (KC.ret (KQ.ofRetX (KQ.toX ?_))))
    refine KQ.finCell V130 rfl U126 rfl sz126 (cells_of b2) (rfl) ?_
    exact ⟨Isp.mk x0 (a1, 0, 0, []), 1 + k1, Isp.ins_ok hd0 hfl hkn (b24o (by exact .inr hc28b) hp1), ⟨_, rfl, wl⟩, ⟨hx0, by unfold Isp.okU at ha1; dsimp only [InR, Isp.mk]; omega, zU, zI⟩, by rw [show i + (1 + k1) = i + 1 + k1 by omega]; exact rd, fr⟩
  intro hc28b
  refine KC.sr (KL.fin 2 rfl (KQ.seq ?_))
  refine KC.iq rfl ?_ ?_
  · intro hc34
    refine KC.seq (KC.sr (KL.run 1 rfl ?_))
    refine KL.callX rfl rfl rfl rfl K133 rfl rfl rfl (u32_any rd) ?_ ?_
    · rintro vx H18 ⟨hx1, hx2, hx3⟩
      refine KQ.panThen ?_
      refine KQ.panThen ?_
      refine KQ.panBlock ?_
      refine KQ.panThen ?_
      exact KQ.pan (⟨_, Isp.ins_err hd0 hfl hkn (by rw [hc34]; simp [Isp.bodyP, Isp.mapP, Isp.labs_e1 hx1]), hx2, fr.thenN hx3⟩)
    rintro _ H19 ⟨n, k1, hp1, rfl, hn, rd2, f1⟩
    have zf_H19 := f1.1
    have o0 := o0.trans (f1.low (Nat.zero_le _) (Nat.zero_le _))
    have fr := fr.thenN f1
    have b2 := f1.at_ b2 (by omega)
    have b3 := f1.at_ b3 (by omega)
    have rd := rd2
    have zrd := rd.lt
    refine KL.fin 1 rfl (KQ.seq (KC.block ?_))
    refine KC.loopD (κ := Nat × List Int × Nat × Value) [38, 39, 42, 43, 44, 45, 46, 47, 48, 40, 41, 4] (fun k => [(4, .int .u32 (k.1 : Nat))]) (fun k Hl => RD Hl g v l (i + 1 + k1 + k.2.2.1) ∧ Hl[Array.size H3]? = some (.cells [.int .u8 x0, .int .u32 0, .int .u32 0, .int .i64 0, k.2.2.2].toArray 126 (0, 0)) ∧ Hl[Array.size H]? = some (.cells [.int .u8 0, .int .u32 0, .int .u32 0, .int .i64 0, .slice none 0 0].toArray 126 (0, 0)) ∧ Own 1 (EInt .u32) 28 #[] (Array.size H19) Hl k.2.2.2 k.2.1 ∧ Isp.Pre Isp.u32P n.toNat (l.drop (i + 1 + k1)) k.1 k.2.1 k.2.2.1 ∧ Fr g (.slice none 0 0) H Hl ∧ k.2.1.length + k.1 = n.toNat ∧ Array.size H19 ≤ Hl.size) (fun k => k.1) (n.toNat, [], 0, .slice none 0 0) ?_ ?_ ?_
    · exact (Sub.cons (congrArg (fun z => some (Value.int .u32 z)) (show n = ((n.toNat : Nat) : Int) by unfold Isp.okU at hn; omega)) (Ext.sub (Ext.refl _ _)))
    · exact ⟨by simpa using rd, b3, b2, Own.nil _ _ _ _ _ _, Isp.Pre.start _ _ _, fr, by simp, Nat.le_refl _⟩
    rintro ⟨m, ls, kk, vl⟩ H20 ⟨rd, b3, b2, wl, hpre, fr, hlen, hsz⟩
    dsimp only at rd b3 b2 wl hpre hlen
    have zrd := rd.lt
    have o0 : OldB 0 H H20 := fr.low (Nat.zero_le _) (Nat.zero_le _)
    have zfr := fr.1
    have hn2 := hn
    unfold Isp.okU at hn2
    refine KC.seq (KC.sr (KL.fin 2 rfl (KQ.seq ?_)))
    refine KC.iq rfl ?_ ?_
    · intro hc39
      try dsimp only at hc39
      refine KC.skip (KQ.seq (KC.seq (KC.block ?_)))
      refine KC.order [0, 1, 2, 3, 4, 5, 6, 7] (clOf [(3, 3), (4, 2), (5, 2), (7, 2)]) (fun j Hc => j = 1 → Hc[Array.size H3]? = some (.cells [.int .u8 x0, .int .u32 0, .int .u32 0, .int .i64 0, vl].toArray 126 (0, 0))) (fun p H' => ∃ e, Isp.insP (l.drop i) = .error e ∧ p = failV e ∧ Fr g (.slice none 0 0) H H') (by kernel_rfl) (by kernel_rfl) (by kernel_rfl) rfl (fun _ _ => b3) (fun vx Hx hx => KQ.panBlock (KQ.panThen (KQ.panThen (KQ.panBlock (KQ.panThen (KQ.panBlock (KQ.panThen (KQ.pan hx)))))))) ?_
      refine KO.op rfl rfl (fun Hg hg => (R.fieldAddr rfl U126 rfl rfl sz24 rfl)) rfl rfl rfl ?_
      refine KO.op rfl rfl (fun Hg hg => R.load rfl U24 rfl rfl (cell_of (hg rfl) rfl)) rfl rfl rfl ?_
      refine KO.op rfl rfl (fun Hg hg => R.move rfl rfl) rfl rfl rfl ?_
      refine KO.callX rfl rfl rfl rfl rfl rfl K133 rfl rfl rfl ((u32_any rd).mono (fun _ _ h => h) (fun vx Hx ⟨hx1, hx2, hx3⟩ => ⟨_, Isp.ins_err hd0 hfl hkn (by
          rw [hc34]
          have hm1 : m = (m - 1) + 1 := by omega
          rw [hm1] at hpre
          simp [Isp.bodyP, Isp.mapP, Isp.labs_e2 hp1 (by rw [List.drop_drop]; exact hpre.fail (by rw [List.drop_drop]; exact hx1))]), hx2, fr.thenN hx3⟩)) (fun _ _ hR j _ _ _ => by obtain ⟨x, k, _, _, _, _, f⟩ := hR; exact f.at_ b3 (by omega)) ?_
      rintro _ H21 ⟨a2, k2, hp2, rfl, ha2, rd2, f1⟩
      have zf_H21 := f1.1
      have o0 := o0.trans (f1.low (Nat.zero_le _) (Nat.zero_le _))
      have b3 := f1.at_ b3 (by omega)
      have b2 := f1.at_ b2 (by omega)
      have wl := wl.frK f1 (by omega)
      have fr := fr.thenN f1
      have rd := rd2
      have zrd := rd.lt
      refine KO.opM rfl rfl (M.lit rfl U24 zs28 (by decide) rfl rfl rfl) rfl rfl rfl (fun _ _ hR j _ _ _ => hR.2.1.blk b3) ?_
      rintro _ H22 ⟨rfl, n22⟩
      have z22 := n22.2.1
      have o0 := o0.trans ((n22.1).b (by omega))
      have b3 := (n22.1).blk b3
      have b2 := (n22.1).blk b2
      have wl := wl.old n22.1
      have fr := fr.old n22.1
      have rd := rd.old n22.1
      have b22 := n22.2.2
      have h1 : Sl 1 (EInt .u32) H22 _ [a2] := Sl.lits (l := [a2]) n22 rfl (by simp) (by intro y hy; simp only [List.mem_cons, List.not_mem_nil, or_false] at hy; subst hy; unfold Isp.okU at ha2; dsimp only [InR]; omega)
      have lt23 := wl.lt
      refine KO.opM rfl rfl (M.append rfl U24 inf28 rfl (by decide) rfl rfl wl h1 (fun _ _ h _ => h) (by omega) (by simp; omega) (by unfold maxLen; simp; omega)) rfl rfl rfl (fun _ _ hR j _ _ _ => (hR.2.2 _ (blk_lt b3) (wl.lt.imp id (fun h => by omega))).trans b3) ?_
      rintro vn H23 ⟨w23, g23⟩
      have ob23 := g23.oldB wl (by omega)
      have o0 := o0.trans (ob23.mono (by omega))
      have z23 := ob23.1
      have b3 := (g23.2 _ (blk_lt b3) (by exact lt23.imp id (fun h => by omega))).trans b3
      have b2 := (g23.2 _ (blk_lt b2) (by exact lt23.imp id (fun h => by omega))).trans b2
      have fr := (by exact fr.grownN g23 (lt23.imp id (fun h => by omega)))
      have rd := rd.grownT g23 (lt23.imp id (fun h => by omega))
      have wl := w23
      refine KO.op rfl rfl (fun Hg hg => (R.fieldAddr rfl U126 rfl rfl sz24 rfl)) rfl rfl rfl ?_
      refine KO.opS rfl rfl (S.store rfl sz24 rfl rfl wl.cells1 wl.one b3 (by simp)) rfl rfl (fun _ hR j hj1 hj2 hj => by subst hj; exact absurd (by decide +kernel) hj2) ?_
      rintro H24 ⟨u24, b24⟩
      have o0 := o0.trans (OldB.upd u24 (by omega))
      have zu24 := u24.1
      have b2 := ((u24).2 _ (by omega)).trans b2
      have wl := wl.upd u24 (by exact wl.lt.imp id (fun h => by omega))
      have fr := (by exact fr.updN u24 (by omega))
      have rd := rd.updT u24 (by omega)
      have b3 := b24
      refine KO.nil ?_
      refine KQ.normBlock (KQ.r (KL.run 1 rfl ?_))
      refine KL.q ((R.sub rfl rfl rfl (by dsimp only [InR]; omega)).val (congrArg (Value.int .u32) (show (m : Int) - 1 = ((m - 1 : Nat) : Int) by omega))) rfl ?_
      refine KL.fin 1 rfl ?_
      refine KQ.again ((m - 1, ls ++ [a2], kk + k2, vn)) ?_ ?_ ?_
      · exact Sub.all rfl
      · show m - 1 < m; omega
      exact ⟨by rw [show i + 1 + k1 + (kk + k2) = i + 1 + k1 + kk + k2 by omega]; exact rd, b3, b2, wl, by
        dsimp only
        have hm1 : m = (m - 1) + 1 := by omega
        rw [hm1] at hpre
        exact hpre.step (by rw [List.drop_drop]; exact hp2), fr, by simp only [List.length_append, List.length_singleton]; omega, by omega⟩
    intro hc39
    try dsimp only at hc39
    refine KC.exit (KQ.exitThen (KQ.exitThen (KQ.hit (KQ.r (KL.run 1 rfl ?_)))))
    have hm0 : m = 0 := by omega
    subst hm0
    have hmany := hpre.done
    refine KL.callX rfl rfl rfl rfl K133 rfl rfl rfl (u32_any rd) ?_ ?_
    · rintro vx H25 ⟨hx1, hx2, hx3⟩
      refine KQ.panBlock ?_
      refine KQ.panThen ?_
      exact KQ.pan (⟨_, Isp.ins_err hd0 hfl hkn (by rw [hc34]; simp [Isp.bodyP, Isp.mapP, Isp.labs_e3 hp1 (by rw [List.drop_drop]; exact hmany) (by rw [List.drop_drop, ← Nat.add_assoc]; exact hx1)]), hx2, fr.thenN hx3⟩)
    rintro _ H26 ⟨a3, k3, hp3, rfl, ha3, rd2, f1⟩
    have zf_H26 := f1.1
    have o0 := o0.trans (f1.low (Nat.zero_le _) (Nat.zero_le _))
    have b3 := f1.at_ b3 (by omega)
    have b2 := f1.at_ b2 (by omega)
    have wl := wl.frK f1 (by omega)
    have fr := fr.thenN f1
    have rd := rd2
    have zrd := rd.lt
    refine KL.run 1 rfl ?_
    refine KL.opS (S.store rfl sz28 rfl rfl rfl rfl b3 (by simp)) rfl rfl ?_
    rintro H27 ⟨u27, b27⟩
    have o0 := o0.trans (OldB.upd u27 (by omega))
    have zu27 := u27.1
    have b2 := ((u27).2 _ (by omega)).trans b2
    have wl := wl.upd u27 (by exact wl.lt.imp id (fun h => by omega))
    have fr := (by exact fr.updN u27 (by omega))
    have rd := rd.updT u27 (by omega)
    have b3 := b27
    refine KL.nil (KQ.normBlock (KQ.sr (KL.lda rfl (cells_of b3) rfl ?_)))
    refine KL.opS (S.storeAgg rfl sz126 rfl rfl (rfl) (by intro u hu; simp only [List.set_cons_succ, List.set_cons_zero, List.mem_cons, List.not_mem_nil, or_false] at hu; rcases hu with rfl | rfl | rfl | rfl | rfl <;> first | rfl | exact wl.one) b2 (by simp)) rfl rfl ?_
    rintro H28 ⟨u28, b28⟩
    have o0 := o0.trans (OldB.upd u28 (by omega))
    have zu28 := u28.1
    have b3 := ((u28).2 _ (by omega)).trans b3
    have wl := wl.upd u28 (by exact wl.lt.imp id (fun h => by omega))
    have fr := (by exact fr.updN u28 (by omega))
    have rd := rd.updT u28 (by omega)
    have b2 := b28
    rw [over_all (by rfl)] at b2
    refine KL.nil (KQ.seq (KC.ret (KQ.ofRetX (KQ.toX ?_))))
    refine KQ.finCell V130 rfl U126 rfl sz126 (cells_of b2) (rfl) ?_
    exact ⟨Isp.mk x0 (a3, 0, 0, ls), 1 + (k1 + kk + k3), Isp.ins_ok hd0 hfl hkn (by rw [hc34]; simp [Isp.bodyP, Isp.mapP, Isp.labs_ok hp1 (by rw [List.drop_drop]; exact hmany) (by rw [List.drop_drop, ← Nat.add_assoc]; exact hp3)]), ⟨_, rfl, wl.weak (by omega)⟩, ⟨hx0, by unfold Isp.okU at ha3; dsimp only [InR, Isp.mk]; omega, zU, zI⟩, by rw [show i + (1 + (k1 + kk + k3)) = i + 1 + k1 + kk + k3 by omega]; exact rd, fr⟩
  intro hc34
  refine KC.sr (KL.fin 2 rfl (KQ.seq ?_))
  refine KC.iq rfl ?_ ?_
  · intro hc52
    try dsimp only at hc52
    refine KC.sr (KL.run 1 rfl ?_)
    refine KL.callX rfl rfl rfl rfl K133 rfl rfl rfl (u32_any rd) ?_ ?_
    · rintro vx H29 ⟨hx1, hx2, hx3⟩
      refine KQ.panThen ?_
      refine KQ.panBlock ?_
      refine KQ.panThen ?_
      exact KQ.pan (⟨_, Isp.ins_err hd0 hfl hkn (by simp [Isp.bodyP, Isp.mapP, Isp.bindP, hc52, hx1]), hx2, fr.thenN hx3⟩)
    rintro _ H30 ⟨a1, k1, hp1, rfl, ha1, rd2, f1⟩
    have zf_H30 := f1.1
    have o0 := o0.trans (f1.low (Nat.zero_le _) (Nat.zero_le _))
    have fr := fr.thenN f1
    have b2 := f1.at_ b2 (by omega)
    have b3 := f1.at_ b3 (by omega)
    have rd := rd2
    have zrd := rd.lt
    refine KL.run 1 rfl ?_
    refine KL.opS (S.store rfl sz28 rfl rfl rfl rfl b3 (by simp)) rfl rfl ?_
    rintro H31 ⟨u31, b31⟩
    have o0 := o0.trans (OldB.upd u31 (by omega))
    have zu31 := u31.1
    have fr := (by exact fr.updN u31 (by omega))
    have b2 := ((u31).2 _ (by omega)).trans b2
    have rd := rd.updT u31 (by omega)
    have b3 := b31
    refine KL.nil (KQ.r (KL.run 1 rfl ?_))
    refine KL.callX rfl rfl rfl rfl Tryz.call134 rfl rfl rfl (zero_any rd) ?_ ?_
    · rintro vx H32 ⟨hx1, hx2, hx3⟩
      refine KQ.panBlock ?_
      refine KQ.panThen ?_
      exact KQ.pan (⟨_, Isp.ins_err hd0 hfl hkn (by simp [Isp.bodyP, Isp.mapP, Isp.bindP, hc52, hp1, List.drop_drop, hx1]), hx2, fr.thenN hx3⟩)
    rintro _ H33 ⟨rfl, hp2, rd2, f1⟩
    have zf_H33 := f1.1
    have o0 := o0.trans (f1.low (Nat.zero_le _) (Nat.zero_le _))
    have fr := fr.thenN f1
    have b2 := f1.at_ b2 (by omega)
    have b3 := f1.at_ b3 (by omega)
    have rd := rd2
    have zrd := rd.lt
    refine KL.nil (KQ.normBlock (KQ.seq (KC.seq ?_)))
    have wl : Own 1 (EInt .u32) 28 #[] H.size H33 (.slice none 0 0) [] := Own.nil _ _ _ _ _ _
    refine KC.region (KL.lda rfl (cells_of b3) rfl ?_)
    refine KL.opS (S.storeAgg rfl sz126 rfl rfl (rfl) (by intro u hu; simp only [List.set_cons_succ, List.set_cons_zero, List.mem_cons, List.not_mem_nil, or_false] at hu; rcases hu with rfl | rfl | rfl | rfl | rfl <;> (rfl)) b2 (by simp)) rfl rfl ?_
    rintro H34 ⟨u34, b34⟩
    have o0 := o0.trans (OldB.upd u34 (by omega))
    have zu34 := u34.1
    have fr := (by exact fr.updN u34 (by omega))
    have b3 := ((u34).2 _ (by omega)).trans b3
    have rd := rd.updT u34 (by omega)
    have wl := wl.upd u34 (by exact .inl rfl)
    have b2 := b34
    rw [over_all (by rfl)] at b2
    refine KL.nil (KQ.seq (KC.ret (KQ.ofRetX (KQ.toX ?_))))
    refine KQ.finCell V130 rfl U126 rfl sz126 (cells_of b2) (rfl) ?_
    exact ⟨Isp.mk x0 (a1, 0, 0, []), 1 + (k1 + 1), Isp.ins_ok hd0 hfl hkn (by simp [Isp.bodyP, Isp.mapP, Isp.bindP, hc52, hp1, List.drop_drop, hp2]), ⟨_, rfl, wl⟩, ⟨hx0, by unfold Isp.okU at ha1; dsimp only [InR, Isp.mk]; omega, zU, zI⟩, by rw [show i + (1 + (k1 + 1)) = i + 1 + k1 + 1 by omega]; exact rd, fr⟩
  intro hc52
  try dsimp only at hc52
  refine KC.sr (KL.fin 2 rfl (KQ.seq ?_))
  refine KC.iq rfl ?_ ?_
  · intro hc59
    try dsimp only at hc59
    refine KC.region (KL.run 1 rfl ?_)
    refine KL.callX rfl rfl rfl rfl K133 rfl rfl rfl (u32_any rd) ?_ ?_
    · rintro vx H35 ⟨hx1, hx2, hx3⟩
      refine KQ.panBlock ?_
      refine KQ.panThen ?_
      exact KQ.pan (⟨_, Isp.ins_err hd0 hfl hkn (by simp [Isp.bodyP, Isp.mapP, Isp.bindP, hc59, hx1]), hx2, fr.thenN hx3⟩)
    rintro _ H36 ⟨a1, k1, hp1, rfl, ha1, rd2, f1⟩
    have zf_H36 := f1.1
    have o0 := o0.trans (f1.low (Nat.zero_le _) (Nat.zero_le _))
    have fr := fr.thenN f1
    have b2 := f1.at_ b2 (by omega)
    have b3 := f1.at_ b3 (by omega)
    have rd := rd2
    have zrd := rd.lt
    refine KL.run 1 rfl ?_
    refine KL.callX rfl rfl rfl rfl K133 rfl rfl rfl (u32_any rd) ?_ ?_
    · rintro vx H37 ⟨hx1, hx2, hx3⟩
      refine KQ.panBlock ?_
      refine KQ.panThen ?_
      exact KQ.pan (⟨_, Isp.ins_err hd0 hfl hkn (by simp [Isp.bodyP, Isp.mapP, Isp.bindP, hc59, hp1, List.drop_drop, hx1]), hx2, fr.thenN hx3⟩)
    rintro _ H38 ⟨a2, k2, hp2, rfl, ha2, rd2, f1⟩
    have zf_H38 := f1.1
    have o0 := o0.trans (f1.low (Nat.zero_le _) (Nat.zero_le _))
    have fr := fr.thenN f1
    have b2 := f1.at_ b2 (by omega)
    have b3 := f1.at_ b3 (by omega)
    have rd := rd2
    have zrd := rd.lt
    refine KL.run 1 rfl ?_
    refine KL.opS (S.store rfl sz28 rfl rfl rfl rfl b3 (by simp)) rfl rfl ?_
    rintro H39 ⟨u39, b39⟩
    have o0 := o0.trans (OldB.upd u39 (by omega))
    have zu39 := u39.1
    have fr := (by exact fr.updN u39 (by omega))
    have b2 := ((u39).2 _ (by omega)).trans b2
    have rd := rd.updT u39 (by omega)
    have b3 := b39
    refine KL.run 1 rfl ?_
    refine KL.opS (S.store rfl sz28 rfl rfl rfl rfl b3 (by simp)) rfl rfl ?_
    rintro H40 ⟨u40, b40⟩
    have o0 := o0.trans (OldB.upd u40 (by omega))
    have zu40 := u40.1
    have fr := (by exact fr.updN u40 (by omega))
    have b2 := ((u40).2 _ (by omega)).trans b2
    have rd := rd.updT u40 (by omega)
    have b3 := b40
    refine KL.nil (KQ.normBlock (KQ.seq (KC.seq ?_)))
    have wl : Own 1 (EInt .u32) 28 #[] H.size H40 (.slice none 0 0) [] := Own.nil _ _ _ _ _ _
    refine KC.region (KL.lda rfl (cells_of b3) rfl ?_)
    refine KL.opS (S.storeAgg rfl sz126 rfl rfl (rfl) (by intro u hu; simp only [List.set_cons_succ, List.set_cons_zero, List.mem_cons, List.not_mem_nil, or_false] at hu; rcases hu with rfl | rfl | rfl | rfl | rfl <;> (rfl)) b2 (by simp)) rfl rfl ?_
    rintro H41 ⟨u41, b41⟩
    have o0 := o0.trans (OldB.upd u41 (by omega))
    have zu41 := u41.1
    have fr := (by exact fr.updN u41 (by omega))
    have b3 := ((u41).2 _ (by omega)).trans b3
    have rd := rd.updT u41 (by omega)
    have wl := wl.upd u41 (by exact .inl rfl)
    have b2 := b41
    rw [over_all (by rfl)] at b2
    refine KL.nil (KQ.seq (KC.ret (KQ.ofRetX (KQ.toX ?_))))
    refine KQ.finCell V130 rfl U126 rfl sz126 (cells_of b2) (rfl) ?_
    exact ⟨Isp.mk x0 (a1, a2, 0, []), 1 + (k1 + k2), Isp.ins_ok hd0 hfl hkn (by simp [Isp.bodyP, Isp.mapP, Isp.bindP, hc59, hp1, List.drop_drop, hp2]), ⟨_, rfl, wl⟩, ⟨hx0, by unfold Isp.okU at ha1; dsimp only [InR, Isp.mk]; omega, by unfold Isp.okU at ha2; dsimp only [InR, Isp.mk]; omega, zI⟩, by rw [show i + (1 + (k1 + k2)) = i + 1 + k1 + k2 by omega]; exact rd, fr⟩
  intro hc59
  try dsimp only at hc59
  refine KC.sr (KL.fin 2 rfl (KQ.seq ?_))
  refine KC.iq rfl ?_ ?_
  · intro hc67
    try dsimp only at hc67
    refine KC.region (KL.run 1 rfl ?_)
    refine KL.callX rfl rfl rfl rfl Tryz.call134 rfl rfl rfl (zero_any rd) ?_ ?_
    · rintro vx H42 ⟨hx1, hx2, hx3⟩
      refine KQ.panBlock ?_
      refine KQ.panThen ?_
      exact KQ.pan (⟨_, Isp.ins_err hd0 hfl hkn (by simp [Isp.bodyP, Isp.mapP, Isp.bindP, hc67, hx1]), hx2, fr.thenN hx3⟩)
    rintro _ H43 ⟨rfl, hp2, rd2, f1⟩
    have zf_H43 := f1.1
    have o0 := o0.trans (f1.low (Nat.zero_le _) (Nat.zero_le _))
    have fr := fr.thenN f1
    have b2 := f1.at_ b2 (by omega)
    have b3 := f1.at_ b3 (by omega)
    have rd := rd2
    have zrd := rd.lt
    refine KL.nil (KQ.normBlock (KQ.seq (KC.seq ?_)))
    have wl : Own 1 (EInt .u32) 28 #[] H.size H43 (.slice none 0 0) [] := Own.nil _ _ _ _ _ _
    refine KC.region (KL.lda rfl (cells_of b3) rfl ?_)
    refine KL.opS (S.storeAgg rfl sz126 rfl rfl (rfl) (by intro u hu; simp only [List.set_cons_succ, List.set_cons_zero, List.mem_cons, List.not_mem_nil, or_false] at hu; rcases hu with rfl | rfl | rfl | rfl | rfl <;> (rfl)) b2 (by simp)) rfl rfl ?_
    rintro H44 ⟨u44, b44⟩
    have o0 := o0.trans (OldB.upd u44 (by omega))
    have zu44 := u44.1
    have fr := (by exact fr.updN u44 (by omega))
    have b3 := ((u44).2 _ (by omega)).trans b3
    have rd := rd.updT u44 (by omega)
    have wl := wl.upd u44 (by exact .inl rfl)
    have b2 := b44
    rw [over_all (by rfl)] at b2
    refine KL.nil (KQ.seq (KC.ret (KQ.ofRetX (KQ.toX ?_))))
    refine KQ.finCell V130 rfl U126 rfl sz126 (cells_of b2) (rfl) ?_
    exact ⟨Isp.mk x0 (0, 0, 0, []), 1 + 1, Isp.ins_ok hd0 hfl hkn (by simp [Isp.bodyP, Isp.mapP, Isp.bindP, hc67, hp2]), ⟨_, rfl, wl⟩, ⟨hx0, zU, zU, zI⟩, by rw [show i + (1 + 1) = i + 1 + 1 by omega]; exact rd, fr⟩
  intro hc67
  try dsimp only at hc67
  refine KC.sr (KL.fin 2 rfl (KQ.seq ?_))
  refine KC.iq rfl ?_ ?_
  · intro hc71
    try dsimp only at hc71
    refine KC.region (KL.run 1 rfl ?_)
    refine KL.callX rfl rfl rfl rfl Tryz.call135 rfl rfl rfl (signed_any rd 32 (by omega) (by omega)) ?_ ?_
    · rintro vx H45 ⟨hx1, hx2, hx3⟩
      refine KQ.panBlock ?_
      refine KQ.panThen ?_
      exact KQ.pan (⟨_, Isp.ins_err hd0 hfl hkn (by simp [Isp.bodyP, Isp.mapP, Isp.bindP, hc71, hx1]), hx2, fr.thenN hx3⟩)
    rintro _ H46 ⟨a1, k1, hp1, rfl, ha1, rd2, f1⟩
    have zf_H46 := f1.1
    have o0 := o0.trans (f1.low (Nat.zero_le _) (Nat.zero_le _))
    have fr := fr.thenN f1
    have b2 := f1.at_ b2 (by omega)
    have b3 := f1.at_ b3 (by omega)
    have rd := rd2
    have zrd := rd.lt
    refine KL.run 1 rfl ?_
    refine KL.opS (S.store rfl sz2 rfl rfl rfl rfl b3 (by simp)) rfl rfl ?_
    rintro H47 ⟨u47, b47⟩
    have o0 := o0.trans (OldB.upd u47 (by omega))
    have zu47 := u47.1
    have fr := (by exact fr.updN u47 (by omega))
    have b2 := ((u47).2 _ (by omega)).trans b2
    have rd := rd.updT u47 (by omega)
    have b3 := b47
    refine KL.nil (KQ.normBlock (KQ.seq (KC.seq ?_)))
    have wl : Own 1 (EInt .u32) 28 #[] H.size H47 (.slice none 0 0) [] := Own.nil _ _ _ _ _ _
    refine KC.region (KL.lda rfl (cells_of b3) rfl ?_)
    refine KL.opS (S.storeAgg rfl sz126 rfl rfl (rfl) (by intro u hu; simp only [List.set_cons_succ, List.set_cons_zero, List.mem_cons, List.not_mem_nil, or_false] at hu; rcases hu with rfl | rfl | rfl | rfl | rfl <;> (rfl)) b2 (by simp)) rfl rfl ?_
    rintro H48 ⟨u48, b48⟩
    have o0 := o0.trans (OldB.upd u48 (by omega))
    have zu48 := u48.1
    have fr := (by exact fr.updN u48 (by omega))
    have b3 := ((u48).2 _ (by omega)).trans b3
    have rd := rd.updT u48 (by omega)
    have wl := wl.upd u48 (by exact .inl rfl)
    have b2 := b48
    rw [over_all (by rfl)] at b2
    refine KL.nil (KQ.seq (KC.ret (KQ.ofRetX (KQ.toX ?_))))
    refine KQ.finCell V130 rfl U126 rfl sz126 (cells_of b2) (rfl) ?_
    exact ⟨Isp.mk x0 (0, 0, a1, []), 1 + k1, Isp.ins_ok hd0 hfl hkn (by simp [Isp.bodyP, Isp.mapP, Isp.bindP, hc71, hp1]), ⟨_, rfl, wl⟩, ⟨hx0, zU, zU, by unfold Isp.okN at ha1; simp at ha1; dsimp only [InR, Isp.mk]; omega⟩, by rw [show i + (1 + k1) = i + 1 + k1 by omega]; exact rd, fr⟩
  intro hc71
  try dsimp only at hc71
  refine KC.sr (KL.fin 2 rfl (KQ.seq ?_))
  refine KC.iq rfl ?_ ?_
  · intro hc76
    try dsimp only at hc76
    refine KC.region (KL.run 1 rfl ?_)
    refine KL.callX rfl rfl rfl rfl Tryz.call135 rfl rfl rfl (signed_any rd 64 (by omega) (by omega)) ?_ ?_
    · rintro vx H49 ⟨hx1, hx2, hx3⟩
      refine KQ.panBlock ?_
      refine KQ.panThen ?_
      exact KQ.pan (⟨_, Isp.ins_err hd0 hfl hkn (by simp [Isp.bodyP, Isp.mapP, Isp.bindP, hc76, hx1]), hx2, fr.thenN hx3⟩)
    rintro _ H50 ⟨a1, k1, hp1, rfl, ha1, rd2, f1⟩
    have zf_H50 := f1.1
    have o0 := o0.trans (f1.low (Nat.zero_le _) (Nat.zero_le _))
    have fr := fr.thenN f1
    have b2 := f1.at_ b2 (by omega)
    have b3 := f1.at_ b3 (by omega)
    have rd := rd2
    have zrd := rd.lt
    refine KL.run 1 rfl ?_
    refine KL.opS (S.store rfl sz2 rfl rfl rfl rfl b3 (by simp)) rfl rfl ?_
    rintro H51 ⟨u51, b51⟩
    have o0 := o0.trans (OldB.upd u51 (by omega))
    have zu51 := u51.1
    have fr := (by exact fr.updN u51 (by omega))
    have b2 := ((u51).2 _ (by omega)).trans b2
    have rd := rd.updT u51 (by omega)
    have b3 := b51
    refine KL.nil (KQ.normBlock (KQ.seq (KC.seq ?_)))
    have wl : Own 1 (EInt .u32) 28 #[] H.size H51 (.slice none 0 0) [] := Own.nil _ _ _ _ _ _
    refine KC.region (KL.lda rfl (cells_of b3) rfl ?_)
    refine KL.opS (S.storeAgg rfl sz126 rfl rfl (rfl) (by intro u hu; simp only [List.set_cons_succ, List.set_cons_zero, List.mem_cons, List.not_mem_nil, or_false] at hu; rcases hu with rfl | rfl | rfl | rfl | rfl <;> (rfl)) b2 (by simp)) rfl rfl ?_
    rintro H52 ⟨u52, b52⟩
    have o0 := o0.trans (OldB.upd u52 (by omega))
    have zu52 := u52.1
    have fr := (by exact fr.updN u52 (by omega))
    have b3 := ((u52).2 _ (by omega)).trans b3
    have rd := rd.updT u52 (by omega)
    have wl := wl.upd u52 (by exact .inl rfl)
    have b2 := b52
    rw [over_all (by rfl)] at b2
    refine KL.nil (KQ.seq (KC.ret (KQ.ofRetX (KQ.toX ?_))))
    refine KQ.finCell V130 rfl U126 rfl sz126 (cells_of b2) (rfl) ?_
    exact ⟨Isp.mk x0 (0, 0, a1, []), 1 + k1, Isp.ins_ok hd0 hfl hkn (by simp [Isp.bodyP, Isp.mapP, Isp.bindP, hc76, hp1]), ⟨_, rfl, wl⟩, ⟨hx0, zU, zU, by unfold Isp.okN at ha1; simp at ha1; dsimp only [InR, Isp.mk]; omega⟩, by rw [show i + (1 + k1) = i + 1 + k1 by omega]; exact rd, fr⟩
  intro hc76
  try dsimp only at hc76
  refine KC.skip (KQ.normBlock (KQ.seq (KC.seq ?_)))
  have wl : Own 1 (EInt .u32) 28 #[] H.size H5 (.slice none 0 0) [] := Own.nil _ _ _ _ _ _
  refine KC.region (KL.lda rfl (cells_of b3) rfl ?_)
  refine KL.opS (S.storeAgg rfl sz126 rfl rfl (rfl) (by intro u hu; simp only [List.set_cons_succ, List.set_cons_zero, List.mem_cons, List.not_mem_nil, or_false] at hu; rcases hu with rfl | rfl | rfl | rfl | rfl <;> (rfl)) b2 (by simp)) rfl rfl ?_
  rintro H53 ⟨u53, b53⟩
  have o0 := o0.trans (OldB.upd u53 (by omega))
  have zu53 := u53.1
  have fr := (by exact fr.updN u53 (by omega))
  have rd := rd.updT u53 (by omega)
  have b3 := ((u53).2 _ (by omega)).trans b3
  have wl := wl.upd u53 (by exact .inl rfl)
  have b2 := b53
  rw [over_all (by rfl)] at b2
  refine KL.nil (KQ.seq (KC.ret (KQ.ofRetX (KQ.toX ?_))))
  refine KQ.finCell V130 rfl U126 rfl sz126 (cells_of b2) (rfl) ?_
  exact ⟨Isp.mk x0 (0, 0, 0, []), 1 + 0, Isp.ins_ok hd0 hfl hkn (by simp [Isp.bodyP, Isp.mapP, Isp.bindP, hc22, hc28a, hc28b, hc34, hc52, hc59, hc67, hc71, hc76]), ⟨_, rfl, wl⟩, ⟨hx0, zU, zU, zI⟩, by rw [show i + (1 + 0) = i + 1 by omega]; exact rd, fr⟩
namespace Isp
/-- an expression of which some is read -/
def EPre (F : Nat) (l : List Int) (f : Nat) (m : List Int) (acc : List Ins) (k : Nat) : Prop :=
  exprP F [] l = (match exprP f m (l.drop k) with
    | .error e => .error e
    | .ok (xs, n) => .ok (acc ++ xs, k + n))
theorem EPre.start (F : Nat) (l : List Int) : EPre F l F [] [] 0 := by
  unfold EPre
  simp only [List.drop_zero]
  cases exprP F [] l with
  | error e => rfl
  | ok x => simp
section
variable {F f k k2 : Nat} {l m m' : List Int} {acc : List Ins} {x : Ins} {e : Int}
theorem EPre.err (h : EPre F l (f + 1) m acc k) (hx : insP (l.drop k) = .error e) : exprP F [] l = .error e := by
  unfold EPre at h; rw [h]; simp only [exprP, hx]
theorem EPre.bad (h : EPre F l (f + 1) m acc k) (hx : insP (l.drop k) = .ok (x, k2)) (hn : nx m x.op = .bad) : exprP F [] l = .error 60 := by
  unfold EPre at h; rw [h]; simp only [exprP, hx, hn]
theorem EPre.over (h : EPre F l (f + 1) m acc k) (hx : insP (l.drop k) = .ok (x, k2)) (hn : nx m x.op = .over) : exprP F [] l = .ok (acc, k + k2) := by
  unfold EPre at h; rw [h]; simp only [exprP, hx, hn]; simp
theorem EPre.step (h : EPre F l (f + 1) m acc k) (hx : insP (l.drop k) = .ok (x, k2)) (hn : nx m x.op = .go m') : EPre F l f m' (acc ++ [x]) (k + k2) := by
  unfold EPre at *
  rw [h]
  simp only [exprP, hx, hn, List.drop_drop]
  cases exprP f m' (l.drop (k + k2)) with
  | error e => rfl
  | ok y => simp [Nat.add_assoc]
theorem nx_range {m : List Int} {op : Int} (hm : ∀ x ∈ m, InR .u8 x) (hop : InR .u8 op) {m' : List Int} (h : nx m op = .go m') : (∀ x ∈ m', InR .u8 x) ∧ m'.length ≤ m.length + 1 := by
  unfold nx at h
  split at h
  · injection h with h; subst h
    exact ⟨fun x hx => by rcases List.mem_append.1 hx with hx | hx; exact hm x hx; simp at hx; subst hx; exact hop, by simp⟩
  split at h
  · split at h
    · cases h
    injection h with h; subst h
    exact ⟨fun x hx => by rcases List.mem_append.1 hx with hx | hx; exact hm x (List.mem_of_mem_take hx); simp at hx; subst hx; decide, by rw [List.length_append, List.length_take, List.length_singleton]; omega⟩
  split at h
  · split at h
    · cases h
    injection h with h; subst h
    exact ⟨fun x hx => hm x (List.mem_of_mem_take hx), by simp; omega⟩
  injection h with h; subst h; exact ⟨hm, by omega⟩
theorem set_last {m : List Int} (h : 0 < m.length) (x : Int) : m.set (m.length - 1) x = m.take (m.length - 1) ++ [x] := by
  rw [List.set_eq_take_append_cons_drop, if_pos (by omega), List.drop_of_length_le (by omega)]
end
end Isp
/-- a row hangs on no block of gs -/
theorem fk_ownN {k : IntKind} {bs : List Int} {c : Value} {H H0 : Heap} {e : TypeId} {B : Nat} {gs : List Nat} (h : Own 1 (EInt k) e H0 B H c bs) (hg : ∀ g ∈ gs, c = .slice none 0 0 ∨ vblock c ≠ g) : ∀ H2, KeepX gs H H2 → Sl 1 (EInt k) H2 c bs := by
  intro H2 kx
  have h2 : Own 1 (EInt k) e #[] B H c bs := h.mapE fun cs x hx => hx
  refine (h2.keepN ?_ : Own 1 (EInt k) e #[] B H2 c bs).sl (emptyOld _) (by omega)
  rcases h.lt with hl | hl
  · exact .inl hl
  by_cases hn : c = .slice none 0 0
  · exact .inl hn
  exact .inr (kx.2 _ hl.2 (fun hm => (hg _ hm).elim hn (fun h => h rfl)))
/-- marks and instructions that are being gathered -/
structure ES (H : Heap) (g gm B : Nat) (vm : Value) (m : List Int) (vo : Value) (acc : List Ins) : Prop where
  bm : H[gm]? = some (.cells [vm].toArray 198 (0, 0))
  wm : Own 1 (EInt .u8) 5 #[] B H vm m
  wo : OwnE 5 EIns 126 B H vo (List.range (g + 1) ++ [gm, vblock vm]) acc
  sep : vo = .slice none 0 0 ∨ vm = .slice none 0 0 ∨ vblock vo ≠ vblock vm
  gB : g < B
  mB : gm < B
  ne : g < gm
section
variable {H H' : Heap} {g gm B : Nat} {vm vo : Value} {m : List Int} {acc : List Ins}
theorem ES.old (h : ES H g gm B vm m vo acc) (o : Old H H') : ES H' g gm B vm m vo acc := ⟨o.blk h.bm, h.wm.old o, OwnE.old h.wo o, h.sep, h.gB, h.mB, h.ne⟩
theorem KeepX.fr {gs : List Nat} {A B D : Heap} {g : Nat} (f : Fr g (.slice none 0 0) A B) (hg : g ∈ gs) (k : KeepX gs B D) : KeepX gs A D :=
  ⟨Nat.le_trans f.1 k.1, fun i hi hn => (k.2 i (by have := f.1; omega) hn).trans (f.2 i hi (fun e => hn (e ▸ hg)) (.inl rfl))⟩
theorem ES.frT (h : ES H g gm B vm m vo acc) (f : Fr g (.slice none 0 0) H H') : ES H' g gm B vm m vo acc := by
  refine ⟨f.at_ h.bm (by have := h.ne; omega), h.wm.frK f h.gB, ?_, h.sep, h.gB, h.mB, h.ne⟩
  exact (Own.frK h.wo.own f h.gB).mapE fun cs x hf H2 k => hf H2 (KeepX.fr f (List.mem_cons_of_mem _ (List.mem_append_left _ (List.mem_range.2 (by omega)))) k)
/-- the marks are changed -/
theorem ES.mark {vm' : Value} {m' : List Int} (h : ES H g gm B vm m vo acc) (bm : H'[gm]? = some (.cells [vm'].toArray 198 (0, 0))) (wm : Own 1 (EInt .u8) 5 #[] B H' vm' m') (fr : Fr gm vm H H') (nx : Nx H vm vm') (hv : vm' = .slice none 0 0 → vm = .slice none 0 0) : ES H' g gm B vm' m' vo acc := by
  have hmB := h.mB
  have hsep' : vo = .slice none 0 0 ∨ vm' = .slice none 0 0 ∨ vblock vo ≠ vblock vm' := by
    rcases OwnE.lt h.wo with hn | hl
    · exact .inl hn
    rcases nx with n | ⟨n1, n2⟩ | n
    · exact .inr (.inl n)
    · rw [n2]
      rcases h.sep with s | s | s
      · exact .inl s
      · exact absurd s n1
      exact .inr (.inr s)
    exact .inr (.inr (by omega))
  refine ⟨bm, wm, ?_, hsep', h.gB, hmB, h.ne⟩
  have hk : vo = .slice none 0 0 ∨ H'[vblock vo]? = H[vblock vo]? := by
    rcases OwnE.lt h.wo with hn | hl
    · exact .inl hn
    rcases h.sep with s | s | s
    · exact .inl s
    · exact .inr (fr.2 _ hl.2 (by omega) (.inl s))
    exact .inr (fr.2 _ hl.2 (by omega) (.inr s))
  refine (Own.keepN h.wo.own hk).mapE fun cs x hf H2 k => hf H2 ⟨Nat.le_trans fr.1 k.1, fun i hi hn => ?_⟩
  have hmem : ∀ y, y ∉ vblock vo :: (List.range (g + 1) ++ [gm, vblock vm]) → y ≠ vblock vo ∧ ¬ y < g + 1 ∧ y ≠ gm ∧ y ≠ vblock vm := by
    intro y hy
    simp only [List.mem_cons, List.mem_append, List.mem_range, List.not_mem_nil, or_false, not_or] at hy
    exact ⟨hy.1, hy.2.1, hy.2.2.1, hy.2.2.2⟩
  obtain ⟨h1, h2, h3, h4⟩ := hmem i hn
  have hne' : i ≠ vblock vm' := by
    rcases nx with n | ⟨n1, n2⟩ | n
    · rw [n]; intro e; rw [hv n] at h4; exact h4 e
    · rw [n2]; exact h4
    omega
  rw [k.2 i (by have := fr.1; omega) (by
    simp only [List.mem_cons, List.mem_append, List.mem_range, List.not_mem_nil, or_false, not_or]
    exact ⟨h1, h2, h3, hne'⟩)]
  exact fr.2 i hi h3 (.inr h4)
/-- one more is gathered -/
theorem ES.add {vo' : Value} {x : Ins} (h : ES H g gm B vm m vo acc) (wo : OwnE 5 EIns 126 B H' vo' (List.range (g + 1) ++ [gm, vblock vm]) (acc ++ [x])) (gr : Grown vo H H') (nx : Nx H vo vo') : ES H' g gm B vm m vo' (acc ++ [x]) := by
  have hmB := h.mB
  have hk : vm = .slice none 0 0 ∨ H'[vblock vm]? = H[vblock vm]? := by
    rcases h.wm.lt with hn | hl
    · exact .inl hn
    rcases h.sep with s | s | s
    · exact .inr (gr.2 _ hl.2 (.inl s))
    · exact .inl s
    exact .inr (gr.2 _ hl.2 (.inr (fun e => s e.symm)))
  refine ⟨(gr.2 gm (blk_lt h.bm) ((OwnE.lt h.wo).imp id (fun k => by omega))).trans h.bm, h.wm.keepN hk, wo, ?_, h.gB, hmB, h.ne⟩
  rcases nx with n | ⟨n1, n2⟩ | n
  · exact .inl n
  · rw [n2]
    rcases h.sep with s | s | s
    · exact absurd s n1
    · exact .inr (.inl s)
    exact .inr (.inr s)
  rcases h.wm.lt with hn | hl
  · exact .inr (.inl hn)
  exact .inr (.inr (by omega))
theorem ES.apart {vl vm2 : Value} {Hn : Heap} {S1 : Nat} (h : ES H g gm B vm m vo acc) (hB : B ≤ H.size) (hl : vl = .slice none 0 0 ∨ (H.size ≤ vblock vl ∧ vblock vl < S1)) (nx : Nx Hn vm vm2) (hn : S1 ≤ Hn.size) : ∀ y ∈ vblock vo :: (List.range (g + 1) ++ [gm, vblock vm2]), vl = .slice none 0 0 ∨ vblock vl ≠ y := by
  intro y hy
  have hgB := h.gB
  have hmB := h.mB
  refine hl.imp id (fun hl => ?_)
  have z : vblock (Value.slice none 0 0) = 0 := rfl
  have hvo : vblock vo < H.size := by
    rcases OwnE.lt h.wo with k | k
    · rw [k, z]; omega
    exact k.2
  have hvm : vblock vm < H.size := by
    rcases h.wm.lt with k | k
    · rw [k, z]; omega
    exact k.2
  have hv2 : vblock vl ≠ vblock vm2 := by
    rcases nx with k | ⟨_, k⟩ | k
    · rw [k, z]; omega
    · rw [k]; omega
    omega
  simp only [List.mem_cons, List.mem_append, List.mem_range, List.not_mem_nil, or_false] at hy
  rcases hy with rfl | hy | rfl | rfl
  · omega
  · omega
  · omega
  exact hv2
theorem OwnE.outlive {gs : List Nat} {v : Value} {l : List Ins} {e : TypeId} (h : OwnE 5 EIns e B H v (List.range (g + 1) ++ gs) l) (hg : g < B) : ∀ H2, KeepX (List.range (g + 1)) H H2 → Sl 5 EIns H2 v l := by
  intro H2 kx
  have hk : v = .slice none 0 0 ∨ H2[vblock v]? = H[vblock v]? := (OwnE.lt h).imp id (fun k => kx.2 _ k.2 (by rw [List.mem_range]; omega))
  have h2 : Own 5 (FK EIns H (vblock v :: (List.range (g + 1) ++ gs))) e #[] B H2 v l := Own.keepN h.own hk
  exact (Own.sl h2 (emptyOld _) (by omega)).mapE fun cs x hf => hf H2 ⟨kx.1, fun k hk hn => kx.2 k hk (fun hm => hn (List.mem_cons_of_mem _ (List.mem_append_left _ hm)))⟩
theorem RD.frG {i : Nat} {v x : Value} {l : List Int} (h : RD H g v l i) (f : Fr gm x H H') (h1 : g < gm) (h2 : x = .slice none 0 0 ∨ g < vblock x) : RD H' g v l i :=
  ⟨(f.2 g h.lt (by omega) (h2.imp id (fun k => by omega))).trans h.b, fun H2 k => h.s H2 ((f.oldB (B := g) (Nat.le_of_lt h.lt) (by omega) (h2.imp id (fun k => by omega))).trans k), h.le⟩
theorem Fr.low2 {A : Heap} {x : Value} (fr : Fr g (.slice none 0 0) H A) (f : Fr gm x A H') (h1 : H.size ≤ gm) (h2 : x = .slice none 0 0 ∨ H.size ≤ vblock x) : Fr g (.slice none 0 0) H H' :=
  ⟨Nat.le_trans fr.1 f.1, fun i hi a b => (f.2 i (by have := fr.1; omega) (by omega) (h2.imp id (fun k => by omega))).trans (fr.2 i hi a b)⟩
end
theorem Own.not_nil {α : Type} {n : Nat} {E : El α} {e : TypeId} {H0 H : Heap} {B : Nat} {v : Value} {l : List α} (h : Own n E e H0 B H v l) (hl : 0 < l.length) : v ≠ .slice none 0 0 := by
  rintro rfl
  obtain ⟨a, cap, e, _⟩ := h.val
  injection e with e1 e2
  omega
theorem Own.to_ne {α : Type} {n : Nat} {E : El α} {e : TypeId} {H0 H : Heap} {B j : Nat} {v : Value} {l : List α} (h : Own n E e H0 B H v l) (hv : v ≠ .slice none 0 0) : toV v j ≠ .slice none 0 0 := by
  obtain ⟨a, cap, e, _, _, h3⟩ := h.val
  subst e
  intro e
  simp only [toV, Value.slice.injEq] at e
  obtain ⟨e1, e2, e3⟩ := e
  subst e1
  apply hv
  have := h3 rfl
  obtain ⟨flat, ⟨h0, h1⟩, _⟩ := h
  rcases h1 with ⟨h1, _⟩ | ⟨g, cp, cu, h1, _⟩
  · exact h1
  injection h1 with h1; cases h1
theorem nx_old {α : Type} {n : Nat} {E : El α} {e : TypeId} {H0 H H1 : Heap} {B : Nat} {v v' : Value} {l : List α} (o : Old H H1) (h : Own n E e H0 B H v l) (nx : Nx H1 v v') : Nx H v v' := by
  rcases nx with k | k | k
  · exact .inl k
  · exact .inr (.inl k)
  exact .inr (.inr (by have := o.1; omega))
theorem next_any {H : Heap} {gm B : Nat} {vm : Value} {m : List Int} (hm : H[gm]? = some (.cells [vm].toArray 198 (0, 0))) (wm : Own 1 (EInt .u8) 5 #[] B H vm m) (hgB : gm < B) (op : Int) (hop : InR .u8 op) (hml : m.length ≤ 1000000000000) (hBH : B ≤ H.size) : Ct Tryz.prog 116 [.pointer (some ⟨gm, 0, none⟩), .int .u8 op] H (fun u H' => (Isp.nx m op = .bad ∧ u = .tuple #[.bool false, .bool true] ∧ Old H H') ∨ (Isp.nx m op = .over ∧ u = .tuple #[.bool true, .bool false] ∧ Old H H') ∨ (∃ m' vm', Isp.nx m op = .go m' ∧ u = .tuple #[.bool false, .bool false] ∧ H'[gm]? = some (.cells [vm'].toArray 198 (0, 0)) ∧ Own 1 (EInt .u8) 5 #[] B H' vm' m' ∧ Fr gm vm H H' ∧ Nx H vm vm' ∧ (vm' = .slice none 0 0 → vm = .slice none 0 0))) := by
  refine Ct.mk Tryz.func116 rfl Tryz.ntmps116 rfl ?_
  intro W0 hW0
  have o0 : OldB 0 H H := OldB.refl _ H
  have wm00 := wm
  have hlm := blk_lt hm
  refine KC.sr (KL.fin 2 rfl (KQ.sr (KL.run 2 rfl (KL.ld rfl (cell_of hm rfl) (KL.fin 1 rfl (KQ.sr (KL.run 1 rfl (KL.q (R.lenO rfl U198 rfl wm) rfl ?_))))))))
  refine KL.q (R.sub rfl rfl rfl (by dsimp only [InR]; omega)) rfl ?_
  refine KL.fin 1 rfl (KQ.seq (KC.seq (KC.sr (KL.fin 1 rfl (KQ.seq (KC.block (KC.seq (KC.sr (KL.fin 2 rfl (KQ.seq ?_))))))))))
  refine KC.iq rfl ?_ ?_
  · intro hc15
    refine KC.skip (KQ.seq (KC.condT rfl (KC.region (KL.run 3 rfl ?_))))
    refine KL.m (M.lit rfl U198 zs5 (by decide) rfl rfl rfl) rfl ?_
    rintro _ H1 ⟨rfl, n1⟩
    have z1 := n1.2.1
    have o0 := o0.trans ((n1.1).b (by omega))
    have hm := (n1.1).blk hm
    have wm := wm.old n1.1
    have b1 := n1.2.2
    have h1 : Sl 1 (EInt .u8) H1 _ [op] := Sl.lits (l := [op]) n1 rfl (by simp) (by intro y hy; simp only [List.mem_cons, List.not_mem_nil, or_false] at hy; subst hy; exact hop)
    have nb := n1
    have o1 : Old H H1 := nb.1
    have wm0 : Own 1 (EInt .u8) 5 #[] B H vm m := wm00
    have lt2 := wm.lt
    refine KL.m (M.appendN rfl U198 inf5 rfl (by decide) rfl rfl wm h1 (fun _ _ h _ => h) (by omega) (by simp; omega) (by unfold maxLen; simp; omega)) rfl ?_
    rintro vn H2 ⟨w2, g2, nx2⟩
    try dsimp only at g2 nx2
    have ob2 := g2.oldB wm (by omega)
    have o0 := o0.trans (ob2.mono (by omega))
    have z2 := ob2.1
    have hm := (g2.2 _ (blk_lt hm) (by exact lt2.imp id (fun h => by omega))).trans hm
    have wm := w2
    have frA : Fr gm vm H H2 := ((Fr.ofOld o1).trans (Nx.refl _ _) ((Fr.refl gm vm _).grown (Nx.refl _ _) g2))
    have nxA : Nx H vm vn := nx_old o1 wm0 nx2
    have hne : vn = .slice none 0 0 → vm = .slice none 0 0 := fun e => absurd (Own.not_nil wm (by simp)) (fun k => k e)
    refine KL.run 1 rfl ?_
    refine KL.opS (S.store rfl sz198 rfl rfl wm.cells1 wm.one hm (by simp)) rfl rfl ?_
    rintro H3 ⟨u3, b3⟩
    have o0 := o0.trans (OldB.upd u3 (by omega))
    have zu3 := u3.1
    have wm := wm.upd u3 (by exact wm.lt.imp id (fun h => by omega))
    have hm := b3
    have fr := frA.upd u3
    refine KL.nil (KQ.normBlock (KQ.sr (KL.fin 2 rfl (KQ.seq (KC.ret (KQ.ofRet (KQ.fin2 V116 rfl rfl ?_)))))))
    (exact .inr (.inr ⟨_, _, by unfold Isp.nx; rw [if_pos (by exact .inl hc15)], rfl, hm, wm, fr, nxA, hne⟩))
  intro hc15
  refine KC.sr (KL.fin 2 rfl (KQ.seq ?_))
  refine KC.iq rfl ?_ ?_
  · intro hc15
    refine KC.skip (KQ.seq (KC.condT rfl (KC.region (KL.run 3 rfl ?_))))
    refine KL.m (M.lit rfl U198 zs5 (by decide) rfl rfl rfl) rfl ?_
    rintro _ H4 ⟨rfl, n4⟩
    have z4 := n4.2.1
    have o0 := o0.trans ((n4.1).b (by omega))
    have hm := (n4.1).blk hm
    have wm := wm.old n4.1
    have b4 := n4.2.2
    have h1 : Sl 1 (EInt .u8) H4 _ [op] := Sl.lits (l := [op]) n4 rfl (by simp) (by intro y hy; simp only [List.mem_cons, List.not_mem_nil, or_false] at hy; subst hy; exact hop)
    have nb := n4
    have o1 : Old H H4 := nb.1
    have wm0 : Own 1 (EInt .u8) 5 #[] B H vm m := wm00
    have lt5 := wm.lt
    refine KL.m (M.appendN rfl U198 inf5 rfl (by decide) rfl rfl wm h1 (fun _ _ h _ => h) (by omega) (by simp; omega) (by unfold maxLen; simp; omega)) rfl ?_
    rintro vn H5 ⟨w5, g5, nx5⟩
    try dsimp only at g5 nx5
    have ob5 := g5.oldB wm (by omega)
    have o0 := o0.trans (ob5.mono (by omega))
    have z5 := ob5.1
    have hm := (g5.2 _ (blk_lt hm) (by exact lt5.imp id (fun h => by omega))).trans hm
    have wm := w5
    have frA : Fr gm vm H H5 := ((Fr.ofOld o1).trans (Nx.refl _ _) ((Fr.refl gm vm _).grown (Nx.refl _ _) g5))
    have nxA : Nx H vm vn := nx_old o1 wm0 nx5
    have hne : vn = .slice none 0 0 → vm = .slice none 0 0 := fun e => absurd (Own.not_nil wm (by simp)) (fun k => k e)
    refine KL.run 1 rfl ?_
    refine KL.opS (S.store rfl sz198 rfl rfl wm.cells1 wm.one hm (by simp)) rfl rfl ?_
    rintro H6 ⟨u6, b6⟩
    have o0 := o0.trans (OldB.upd u6 (by omega))
    have zu6 := u6.1
    have wm := wm.upd u6 (by exact wm.lt.imp id (fun h => by omega))
    have hm := b6
    have fr := frA.upd u6
    refine KL.nil (KQ.normBlock (KQ.sr (KL.fin 2 rfl (KQ.seq (KC.ret (KQ.ofRet (KQ.fin2 V116 rfl rfl ?_)))))))
    (exact .inr (.inr ⟨_, _, by unfold Isp.nx; rw [if_pos (by exact .inr (.inl hc15))], rfl, hm, wm, fr, nxA, hne⟩))
  intro hc15
  refine KC.region (KL.fin 2 rfl (KQ.seq ?_))
  refine KC.iq rfl ?_ ?_
  · intro hc15
    refine KC.region (KL.run 3 rfl ?_)
    refine KL.m (M.lit rfl U198 zs5 (by decide) rfl rfl rfl) rfl ?_
    rintro _ H7 ⟨rfl, n7⟩
    have z7 := n7.2.1
    have o0 := o0.trans ((n7.1).b (by omega))
    have hm := (n7.1).blk hm
    have wm := wm.old n7.1
    have b7 := n7.2.2
    have h1 : Sl 1 (EInt .u8) H7 _ [op] := Sl.lits (l := [op]) n7 rfl (by simp) (by intro y hy; simp only [List.mem_cons, List.not_mem_nil, or_false] at hy; subst hy; exact hop)
    have nb := n7
    have o1 : Old H H7 := nb.1
    have wm0 : Own 1 (EInt .u8) 5 #[] B H vm m := wm00
    have lt8 := wm.lt
    refine KL.m (M.appendN rfl U198 inf5 rfl (by decide) rfl rfl wm h1 (fun _ _ h _ => h) (by omega) (by simp; omega) (by unfold maxLen; simp; omega)) rfl ?_
    rintro vn H8 ⟨w8, g8, nx8⟩
    try dsimp only at g8 nx8
    have ob8 := g8.oldB wm (by omega)
    have o0 := o0.trans (ob8.mono (by omega))
    have z8 := ob8.1
    have hm := (g8.2 _ (blk_lt hm) (by exact lt8.imp id (fun h => by omega))).trans hm
    have wm := w8
    have frA : Fr gm vm H H8 := ((Fr.ofOld o1).trans (Nx.refl _ _) ((Fr.refl gm vm _).grown (Nx.refl _ _) g8))
    have nxA : Nx H vm vn := nx_old o1 wm0 nx8
    have hne : vn = .slice none 0 0 → vm = .slice none 0 0 := fun e => absurd (Own.not_nil wm (by simp)) (fun k => k e)
    refine KL.run 1 rfl ?_
    refine KL.opS (S.store rfl sz198 rfl rfl wm.cells1 wm.one hm (by simp)) rfl rfl ?_
    rintro H9 ⟨u9, b9⟩
    have o0 := o0.trans (OldB.upd u9 (by omega))
    have zu9 := u9.1
    have wm := wm.upd u9 (by exact wm.lt.imp id (fun h => by omega))
    have hm := b9
    have fr := frA.upd u9
    refine KL.nil (KQ.normBlock (KQ.sr (KL.fin 2 rfl (KQ.seq (KC.ret (KQ.ofRet (KQ.fin2 V116 rfl rfl ?_)))))))
    (exact .inr (.inr ⟨_, _, by unfold Isp.nx; rw [if_pos (by exact .inr (.inr hc15))], rfl, hm, wm, fr, nxA, hne⟩))
  intro hc15
  refine KC.sr (KL.fin 2 rfl (KQ.seq ?_))
  refine KC.iq rfl ?_ ?_
  · intro hc25
    refine KC.seq (KC.sr (KL.run 3 rfl ?_))
    refine KL.cq 29 rfl ?_ ?_
    · intro hg29
      refine KL.fin 6 rfl (KQ.seq (KC.condT rfl (KC.sr (KL.fin 2 rfl (KQ.seq (KC.ret (KQ.retThen (KQ.retBlock (KQ.retThen (KQ.ofRet (KQ.fin2 V116 rfl rfl ?_)))))))))))
      (exact .inl ⟨by unfold Isp.nx; rw [if_neg (by omega), if_pos hc25, if_pos (by exact .inl (List.eq_nil_of_length_eq_zero (by omega)))], rfl, Old.refl _⟩)
    intro hg29
    refine KL.run 2 rfl ?_
    refine KL.q (R.indexO1 (j := m.length - 1) rfl U198 sz5 rfl rfl wm (by omega) (by omega)) rfl ?_
    refine KL.ld rfl (wm.int (m.length - 1) (by omega)).1 ?_
    refine KL.fin 2 rfl (KQ.seq ?_)
    refine KC.iq rfl ?_ ?_
    · intro hc35
      refine KC.sr (KL.fin 2 rfl (KQ.seq (KC.ret (KQ.retThen (KQ.retBlock (KQ.retThen (KQ.ofRet (KQ.fin2 V116 rfl rfl ?_))))))))
      (exact .inl ⟨by unfold Isp.nx; rw [if_neg (by omega), if_pos hc25, if_pos (by exact .inr (by assumption))], rfl, Old.refl _⟩)
    intro hc35
    refine KC.skip (KQ.r (KL.run 2 rfl ?_))
    refine KL.q (R.indexO1 (j := m.length - 1) rfl U198 sz5 rfl rfl wm (by omega) (by omega)) rfl ?_
    have hvb := wm00.lt.resolve_left (Own.not_nil wm00 (by omega))
    refine KL.opS (S.own1 rfl sz5 rfl rfl rfl rfl wm (by omega) ⟨rfl, by decide⟩) rfl rfl ?_
    rintro H10 ⟨u10, w10⟩
    have o0 := o0.trans (OldB.upd u10 (by omega))
    have zu10 := u10.1
    have hm := ((u10).2 _ (by omega)).trans hm
    have wm := w10
    have fr : Fr gm vm H H10 := Fr.ofUpd (by rintro rfl; have := wm00.val; obtain ⟨a, cap, e, _⟩ := this; injection e with e1 e2; omega) u10
    rw [Isp.set_last (by omega)] at wm
    refine KL.nil (KQ.normBlock (KQ.sr (KL.fin 2 rfl (KQ.seq (KC.ret (KQ.ofRet (KQ.fin2 V116 rfl rfl ?_)))))))
    (exact .inr (.inr ⟨_, vm, by unfold Isp.nx; rw [if_neg (by omega), if_pos hc25, if_neg (fun h => h.elim (fun e => absurd (congrArg List.length e) (by simp only [List.length_nil]; omega)) (fun e => e (by assumption)))], rfl, hm, wm, fr, Nx.refl _ _, id⟩))
  intro hc25
  refine KC.sr (KL.fin 2 rfl (KQ.seq ?_))
  refine KC.iq rfl ?_ ?_
  · intro hc39
    refine KC.seq (KC.sr (KL.fin 2 rfl (KQ.seq ?_)))
    refine KC.iq rfl ?_ ?_
    · intro hc42
      refine KC.sr (KL.fin 2 rfl (KQ.seq (KC.ret (KQ.retThen (KQ.retBlock (KQ.retThen (KQ.ofRet (KQ.fin2 V116 rfl rfl ?_))))))))
      (exact .inr (.inl ⟨by unfold Isp.nx; rw [if_neg (by omega), if_neg (by omega), if_pos hc39, if_pos (List.eq_nil_of_length_eq_zero (by omega))], rfl, Old.refl _⟩))
    intro hc42
    refine KC.skip (KQ.r (KL.run 3 rfl ?_))
    refine KL.q (R.sliceTo (j := m.length - 1) rfl U198 sz5 rfl rfl wm (by omega) (by omega)) rfl ?_
    refine KL.run 1 rfl ?_
    have wt := (wm.to (j := m.length - 1) (by omega)).1
    have wtb := (wm.to (j := m.length - 1) (by omega)).2
    refine KL.opS (S.store rfl sz198 rfl rfl wt.cells1 wt.one hm (by simp)) rfl rfl ?_
    rintro H11 ⟨u11, b11⟩
    have o0 := o0.trans (OldB.upd u11 (by omega))
    have zu11 := u11.1
    have wm := wm.upd u11 (by exact wm.lt.imp id (fun h => by omega))
    have hm := b11
    have fr : Fr gm vm H H11 := (Fr.refl gm vm H).upd u11
    have wt := wt.upd u11 (by rw [wtb]; exact wm00.lt.elim (fun e => .inr (by subst e; have := wm00.val; obtain ⟨a, cap, e, _⟩ := this; injection e with e1 e2; omega)) (fun k => .inr (by omega)))
    have hnn : vm ≠ .slice none 0 0 := by rintro rfl; have := wm00.val; obtain ⟨a, cap, e, _⟩ := this; injection e with e1 e2; omega
    refine KL.nil (KQ.normBlock (KQ.sr (KL.fin 2 rfl (KQ.seq (KC.ret (KQ.ofRet (KQ.fin2 V116 rfl rfl ?_)))))))
    (exact .inr (.inr ⟨_, _, by unfold Isp.nx; rw [if_neg (by omega), if_neg (by omega), if_pos hc39, if_neg (by rintro e; subst e; simp at *)], rfl, hm, wt, fr, .inr (.inl ⟨hnn, wtb⟩), fun e => absurd e (Own.to_ne wm00 hnn)⟩))
  intro hc39
  refine KC.skip (KQ.normBlock (KQ.sr (KL.fin 2 rfl (KQ.seq (KC.ret (KQ.ofRet (KQ.fin2 V116 rfl rfl ?_)))))))
  (exact .inr (.inr ⟨_, vm, by unfold Isp.nx; rw [if_neg (by omega), if_neg (by omega), if_neg (by omega)], rfl, hm, wm, Fr.refl _ _ _, Nx.refl _ _, id⟩))
namespace Opc
def sv (l : List Int) : Value := .string (bstr l)
/-- a row of the document's table -/
structure Row where
  op : Int
  name : List Int
  form : Int
  sg : List Int
  width : Int
  deriving Inhabited
def Row.cells (x : Row) : List Value := [.int .u8 x.op, sv x.name, .int .u8 x.form, sv x.sg, .int .i64 x.width]
def Row.val (x : Row) : Value := .agg x.cells.toArray
def Row.zero : Row := ⟨0, [], 0, [], 0⟩
def low : List Row := [⟨0, [117, 110, 114, 101, 97, 99, 104, 97, 98, 108, 101], 0, [45], 0⟩, ⟨1, [110, 111, 112], 0, [45], 0⟩, ⟨2, [98, 108, 111, 99, 107], 1, [45], 0⟩, ⟨3, [108, 111, 111, 112], 1, [45], 0⟩, ⟨4, [105, 102], 1, [45], 0⟩, ⟨5, [101, 108, 115, 101], 0, [45], 0⟩, ⟨11, [101, 110, 100], 0, [45], 0⟩, ⟨12, [98, 114], 2, [45], 0⟩, ⟨13, [98, 114, 95, 105, 102], 2, [45], 0⟩, ⟨14, [98, 114, 95, 116, 97, 98, 108, 101], 3, [45], 0⟩, ⟨15, [114, 101, 116, 117, 114, 110], 0, [45], 0⟩, ⟨16, [99, 97, 108, 108], 4, [45], 0⟩, ⟨17, [99, 97, 108, 108, 95, 105, 110, 100, 105, 114, 101, 99, 116], 5, [45], 0⟩, ⟨26, [100, 114, 111, 112], 0, [45], 0⟩, ⟨27, [115, 101, 108, 101, 99, 116], 0, [45], 0⟩, ⟨32, [108, 111, 99, 97, 108, 46, 103, 101, 116], 4, [45], 0⟩, ⟨33, [108, 111, 99, 97, 108, 46, 115, 101, 116], 4, [45], 0⟩, ⟨34, [108, 111, 99, 97, 108, 46, 116, 101, 101], 4, [45], 0⟩, ⟨35, [103, 108, 111, 98, 97, 108, 46, 103, 101, 116], 4, [45], 0⟩, ⟨36, [103, 108, 111, 98, 97, 108, 46, 115, 101, 116], 4, [45], 0⟩, ⟨40, [105, 51, 50, 46, 108, 111, 97, 100], 6, [105, 62, 105], 4⟩, ⟨41, [105, 54, 52, 46, 108, 111, 97, 100], 6, [105, 62, 73], 8⟩, ⟨44, [105, 51, 50, 46, 108, 111, 97, 100, 56, 95, 115], 6, [105, 62, 105], 1⟩, ⟨45, [105, 51, 50, 46, 108, 111, 97, 100, 56, 95, 117], 6, [105, 62, 105], 1⟩, ⟨46, [105, 51, 50, 46, 108, 111, 97, 100, 49, 54, 95, 115], 6, [105, 62, 105], 2⟩, ⟨47, [105, 51, 50, 46, 108, 111, 97, 100, 49, 54, 95, 117], 6, [105, 62, 105], 2⟩, ⟨48, [105, 54, 52, 46, 108, 111, 97, 100, 56, 95, 115], 6, [105, 62, 73], 1⟩, ⟨49, [105, 54, 52, 46, 108, 111, 97, 100, 56, 95, 117], 6, [105, 62, 73], 1⟩, ⟨50, [105, 54, 52, 46, 108, 111, 97, 100, 49, 54, 95, 115], 6, [105, 62, 73], 2⟩, ⟨51, [105, 54, 52, 46, 108, 111, 97, 100, 49, 54, 95, 117], 6, [105, 62, 73], 2⟩, ⟨52, [105, 54, 52, 46, 108, 111, 97, 100, 51, 50, 95, 115], 6, [105, 62, 73], 4⟩, ⟨53, [105, 54, 52, 46, 108, 111, 97, 100, 51, 50, 95, 117], 6, [105, 62, 73], 4⟩, ⟨54, [105, 51, 50, 46, 115, 116, 111, 114, 101], 6, [105, 105, 62], 4⟩, ⟨55, [105, 54, 52, 46, 115, 116, 111, 114, 101], 6, [105, 73, 62], 8⟩, ⟨58, [105, 51, 50, 46, 115, 116, 111, 114, 101, 56], 6, [105, 105, 62], 1⟩, ⟨59, [105, 51, 50, 46, 115, 116, 111, 114, 101, 49, 54], 6, [105, 105, 62], 2⟩, ⟨60, [105, 54, 52, 46, 115, 116, 111, 114, 101, 56], 6, [105, 73, 62], 1⟩, ⟨61, [105, 54, 52, 46, 115, 116, 111, 114, 101, 49, 54], 6, [105, 73, 62], 2⟩, ⟨62, [105, 54, 52, 46, 115, 116, 111, 114, 101, 51, 50], 6, [105, 73, 62], 4⟩, ⟨63, [109, 101, 109, 111, 114, 121, 46, 115, 105, 122, 101], 7, [62, 105], 0⟩, ⟨64, [109, 101, 109, 111, 114, 121, 46, 103, 114, 111, 119], 7, [105, 62, 105], 0⟩, ⟨65, [105, 51, 50, 46, 99, 111, 110, 115, 116], 8, [62, 105], 0⟩, ⟨66, [105, 54, 52, 46, 99, 111, 110, 115, 116], 9, [62, 73], 0⟩]
def middle : List Row := [⟨69, [105, 51, 50, 46, 101, 113, 122], 0, [105, 62, 105], 0⟩, ⟨70, [105, 51, 50, 46, 101, 113], 0, [105, 105, 62, 105], 0⟩, ⟨71, [105, 51, 50, 46, 110, 101], 0, [105, 105, 62, 105], 0⟩, ⟨72, [105, 51, 50, 46, 108, 116, 95, 115], 0, [105, 105, 62, 105], 0⟩, ⟨73, [105, 51, 50, 46, 108, 116, 95, 117], 0, [105, 105, 62, 105], 0⟩, ⟨74, [105, 51, 50, 46, 103, 116, 95, 115], 0, [105, 105, 62, 105], 0⟩, ⟨75, [105, 51, 50, 46, 103, 116, 95, 117], 0, [105, 105, 62, 105], 0⟩, ⟨76, [105, 51, 50, 46, 108, 101, 95, 115], 0, [105, 105, 62, 105], 0⟩, ⟨77, [105, 51, 50, 46, 108, 101, 95, 117], 0, [105, 105, 62, 105], 0⟩, ⟨78, [105, 51, 50, 46, 103, 101, 95, 115], 0, [105, 105, 62, 105], 0⟩, ⟨79, [105, 51, 50, 46, 103, 101, 95, 117], 0, [105, 105, 62, 105], 0⟩, ⟨80, [105, 54, 52, 46, 101, 113, 122], 0, [73, 62, 105], 0⟩, ⟨81, [105, 54, 52, 46, 101, 113], 0, [73, 73, 62, 105], 0⟩, ⟨82, [105, 54, 52, 46, 110, 101], 0, [73, 73, 62, 105], 0⟩, ⟨83, [105, 54, 52, 46, 108, 116, 95, 115], 0, [73, 73, 62, 105], 0⟩, ⟨84, [105, 54, 52, 46, 108, 116, 95, 117], 0, [73, 73, 62, 105], 0⟩, ⟨85, [105, 54, 52, 46, 103, 116, 95, 115], 0, [73, 73, 62, 105], 0⟩, ⟨86, [105, 54, 52, 46, 103, 116, 95, 117], 0, [73, 73, 62, 105], 0⟩, ⟨87, [105, 54, 52, 46, 108, 101, 95, 115], 0, [73, 73, 62, 105], 0⟩, ⟨88, [105, 54, 52, 46, 108, 101, 95, 117], 0, [73, 73, 62, 105], 0⟩, ⟨89, [105, 54, 52, 46, 103, 101, 95, 115], 0, [73, 73, 62, 105], 0⟩, ⟨90, [105, 54, 52, 46, 103, 101, 95, 117], 0, [73, 73, 62, 105], 0⟩, ⟨103, [105, 51, 50, 46, 99, 108, 122], 0, [105, 62, 105], 0⟩, ⟨104, [105, 51, 50, 46, 99, 116, 122], 0, [105, 62, 105], 0⟩, ⟨105, [105, 51, 50, 46, 112, 111, 112, 99, 110, 116], 0, [105, 62, 105], 0⟩, ⟨106, [105, 51, 50, 46, 97, 100, 100], 0, [105, 105, 62, 105], 0⟩, ⟨107, [105, 51, 50, 46, 115, 117, 98], 0, [105, 105, 62, 105], 0⟩, ⟨108, [105, 51, 50, 46, 109, 117, 108], 0, [105, 105, 62, 105], 0⟩, ⟨109, [105, 51, 50, 46, 100, 105, 118, 95, 115], 0, [105, 105, 62, 105], 0⟩, ⟨110, [105, 51, 50, 46, 100, 105, 118, 95, 117], 0, [105, 105, 62, 105], 0⟩, ⟨111, [105, 51, 50, 46, 114, 101, 109, 95, 115], 0, [105, 105, 62, 105], 0⟩, ⟨112, [105, 51, 50, 46, 114, 101, 109, 95, 117], 0, [105, 105, 62, 105], 0⟩, ⟨113, [105, 51, 50, 46, 97, 110, 100], 0, [105, 105, 62, 105], 0⟩, ⟨114, [105, 51, 50, 46, 111, 114], 0, [105, 105, 62, 105], 0⟩, ⟨115, [105, 51, 50, 46, 120, 111, 114], 0, [105, 105, 62, 105], 0⟩, ⟨116, [105, 51, 50, 46, 115, 104, 108], 0, [105, 105, 62, 105], 0⟩, ⟨117, [105, 51, 50, 46, 115, 104, 114, 95, 115], 0, [105, 105, 62, 105], 0⟩, ⟨118, [105, 51, 50, 46, 115, 104, 114, 95, 117], 0, [105, 105, 62, 105], 0⟩, ⟨119, [105, 51, 50, 46, 114, 111, 116, 108], 0, [105, 105, 62, 105], 0⟩, ⟨120, [105, 51, 50, 46, 114, 111, 116, 114], 0, [105, 105, 62, 105], 0⟩]
def high : List Row := [⟨121, [105, 54, 52, 46, 99, 108, 122], 0, [73, 62, 73], 0⟩, ⟨122, [105, 54, 52, 46, 99, 116, 122], 0, [73, 62, 73], 0⟩, ⟨123, [105, 54, 52, 46, 112, 111, 112, 99, 110, 116], 0, [73, 62, 73], 0⟩, ⟨124, [105, 54, 52, 46, 97, 100, 100], 0, [73, 73, 62, 73], 0⟩, ⟨125, [105, 54, 52, 46, 115, 117, 98], 0, [73, 73, 62, 73], 0⟩, ⟨126, [105, 54, 52, 46, 109, 117, 108], 0, [73, 73, 62, 73], 0⟩, ⟨127, [105, 54, 52, 46, 100, 105, 118, 95, 115], 0, [73, 73, 62, 73], 0⟩, ⟨128, [105, 54, 52, 46, 100, 105, 118, 95, 117], 0, [73, 73, 62, 73], 0⟩, ⟨129, [105, 54, 52, 46, 114, 101, 109, 95, 115], 0, [73, 73, 62, 73], 0⟩, ⟨130, [105, 54, 52, 46, 114, 101, 109, 95, 117], 0, [73, 73, 62, 73], 0⟩, ⟨131, [105, 54, 52, 46, 97, 110, 100], 0, [73, 73, 62, 73], 0⟩, ⟨132, [105, 54, 52, 46, 111, 114], 0, [73, 73, 62, 73], 0⟩, ⟨133, [105, 54, 52, 46, 120, 111, 114], 0, [73, 73, 62, 73], 0⟩, ⟨134, [105, 54, 52, 46, 115, 104, 108], 0, [73, 73, 62, 73], 0⟩, ⟨135, [105, 54, 52, 46, 115, 104, 114, 95, 115], 0, [73, 73, 62, 73], 0⟩, ⟨136, [105, 54, 52, 46, 115, 104, 114, 95, 117], 0, [73, 73, 62, 73], 0⟩, ⟨137, [105, 54, 52, 46, 114, 111, 116, 108], 0, [73, 73, 62, 73], 0⟩, ⟨138, [105, 54, 52, 46, 114, 111, 116, 114], 0, [73, 73, 62, 73], 0⟩, ⟨167, [105, 51, 50, 46, 119, 114, 97, 112, 95, 105, 54, 52], 0, [73, 62, 105], 0⟩, ⟨172, [105, 54, 52, 46, 101, 120, 116, 101, 110, 100, 95, 105, 51, 50, 95, 115], 0, [105, 62, 73], 0⟩, ⟨173, [105, 54, 52, 46, 101, 120, 116, 101, 110, 100, 95, 105, 51, 50, 95, 117], 0, [105, 62, 73], 0⟩]
def rows : List Row := low ++ middle ++ high
def part (op : Int) : List Row := if op < 69 then low else if op < 121 then middle else high
theorem part_sub (op : Int) : ∀ r ∈ part op, r ∈ rows := by
  intro r hr
  unfold part at hr
  unfold rows
  split at hr
  · simp [hr]
  split at hr <;> simp [hr]
end Opc
namespace Opc
theorem all_ops {p : Int → Prop} (h : ∀ n, n < 256 → p ((n : Nat) : Int)) {op : Int} (r : InR .u8 op) : p op := by
  have := h op.toNat (by dsimp only [InR] at r; omega)
  rwa [Int.toNat_of_nonneg (by dsimp only [InR] at r; omega)] at this
end Opc
namespace Isp
theorem form_range {op : Int} (r : InR .u8 op) : 0 ≤ Opc.form op ∧ Opc.form op ≤ 9 := by
  exact Opc.all_ops (p := fun op => 0 ≤ Opc.form op ∧ Opc.form op ≤ 9) (by decide +kernel) r
/-- it has bytes, said by its fields -/
def mayC (f a b c : Int) (n : Nat) : Prop := (f ≠ 1 ∨ a = 64 ∨ a = 127 ∨ a = 126) ∧ (f ≠ 8 ∨ (-2147483648 ≤ c ∧ c ≤ 2147483647)) ∧ ((f ≠ 0 ∧ f ≤ 6) ∨ a = 0) ∧ (f = 6 ∨ b = 0) ∧ (8 ≤ f ∨ c = 0) ∧ (f = 3 ∨ n = 0)
theorem may_iff {x : Ins} (hx : InsR x) (hl : x.l.length < 4294967296) (hr : ∀ y ∈ x.l, InR .u32 y) : May x ↔ Opc.known x.op = true ∧ mayC (Opc.form x.op) x.a x.b x.c x.l.length := by
  obtain ⟨op, a, b, c, l⟩ := x
  obtain ⟨h1, h2, h3, h4⟩ := hx
  have hf := form_range h1
  dsimp only at *
  unfold May
  refine and_congr_right fun _ => ?_
  generalize Opc.form op = f at *
  have hr' : ∀ y ∈ l, okU y := fun y hy => by have := hr y hy; unfold okU; dsimp only [InR] at this; omega
  dsimp only [InR] at h2 h3 h4
  unfold bodyV mayC rest
  dsimp only
  have hc : f = 0 ∨ f = 1 ∨ f = 2 ∨ f = 3 ∨ f = 4 ∨ f = 5 ∨ f = 6 ∨ f = 7 ∨ f = 8 ∨ f = 9 := by omega
  cases l with
  | nil => rcases hc with rfl | rfl | rfl | rfl | rfl | rfl | rfl | rfl | rfl | rfl <;> simp [okU, okN, blkOk, labsV] <;> omega
  | cons y t =>
    have hn2 : (y :: t) ≠ [] := by simp
    have hL : (∀ z ∈ y :: t, 0 ≤ z ∧ z < 4294967296) := hr'
    generalize y :: t = l at *
    rcases hc with rfl | rfl | rfl | rfl | rfl | rfl | rfl | rfl | rfl | rfl <;> simp [okU, okN, blkOk, labsV, hn2] <;> ((intro h5 h6; exact ⟨hl, hL, by omega, by omega⟩))
end Isp
theorem Sl.rng {k : IntKind} {H : Heap} {v : Value} {l : List Int} (h : Sl 1 (EInt k) H v l) : ∀ y ∈ l, InR k y := by
  intro y hy
  obtain ⟨j, hj, rfl⟩ := List.getElem_of_mem hy
  have := (h.int j hj).2
  rwa [List.getD_eq_getElem?_getD, List.getElem?_eq_getElem hj] at this
theorem apL {z : Int} (h : InR .u32 z) : (Isp.apN false z).length ≤ 10 := (Isp.apN_len (b := 32) (by omega) ((Isp.okU_iff z).1 ⟨by dsimp only [InR] at h; omega, by dsimp only [InR] at h; omega⟩)).2
theorem apS {z : Int} (h : InR .i64 z) : (Isp.apN true z).length ≤ 10 := (Isp.apN_len (sg := true) (b := 64) (by omega) (by unfold Isp.okN; dsimp only [InR] at h; simp; omega)).2
theorem apF {xs : List Int} (h : ∀ y ∈ xs, InR .u32 y) : (xs.flatMap (Isp.apN false)).length ≤ 10 * xs.length := by
  induction xs with
  | nil => simp
  | cons y t ih =>
    have := apL (h y (by simp))
    have := ih (fun z hz => h z (by simp [hz]))
    simp only [List.flatMap_cons, List.length_append, List.length_cons]
    omega
theorem fm_take {xs : List Int} {k : Nat} (hk : k < xs.length) : (xs.take (k + 1)).flatMap (Isp.apN false) = (xs.take k).flatMap (Isp.apN false) ++ Isp.apN false (xs.getD k default) := by
  rw [List.take_add_one, List.getElem?_eq_getElem hk, List.flatMap_append, List.getD_eq_getElem?_getD, List.getElem?_eq_getElem hk]
  simp
namespace Isp
/-- how much there is -/
def bulk (l : List Ins) : Nat := (l.map fun x => 1 + x.l.length).sum
theorem bulk_mem {l : List Ins} {x : Ins} (h : x ∈ l) : 1 + x.l.length ≤ bulk l := by
  induction l with
  | nil => cases h
  | cons y l ih =>
    simp only [bulk, List.map_cons, List.sum_cons] at *
    rcases List.mem_cons.1 h with h | h
    · subst h; omega
    have := ih h; omega
theorem bulk_len (l : List Ins) : l.length ≤ bulk l := by
  induction l with
  | nil => simp [bulk]
  | cons x l ih => simp only [bulk, List.map_cons, List.sum_cons, List.length_cons] at *; omega
theorem bulk_step {l : List Ins} {k : Nat} (hk : k < l.length) : bulk (l.take (k + 1)) = bulk (l.take k) + 1 + (l.getD k default).l.length := by
  unfold bulk
  rw [List.take_add_one, List.getElem?_eq_getElem hk, List.map_append, List.sum_append, List.getD_eq_getElem?_getD, List.getElem?_eq_getElem hk]
  simp
  omega
theorem bulk_take {l : List Ins} (k : Nat) : bulk (l.take k) ≤ bulk l := by
  have h := congrArg bulk (List.take_append_drop k l)
  unfold bulk at *
  rw [List.map_append, List.sum_append] at h
  omega
theorem bytes_len {x : Ins} (hx : InsR x) (hr : ∀ y ∈ x.l, InR .u32 y) (hl : x.l.length ≤ 100000000) : (bytes x).length ≤ 31 * (1 + x.l.length) := by
  have h1 := apL hx.2.1
  have h2 := apL hx.2.2.1
  have h3 := apS hx.2.2.2
  have h4 := apF hr
  have h5 := apL (z := ((x.l.length : Nat) : Int)) (by dsimp only [InR]; omega)
  unfold bytes bodyE rest labsE
  dsimp only
  simp only [List.length_cons]
  repeat' split
  all_goals try simp only [List.length_append, List.length_cons, List.length_nil]
  all_goals omega
theorem flat_le {l : List Ins} (h : ∀ x ∈ l, InsR x ∧ (∀ y ∈ x.l, InR .u32 y) ∧ x.l.length ≤ 100000000) : (flat l).length ≤ 31 * bulk l := by
  induction l with
  | nil => simp [flat, bulk]
  | cons x l ih =>
    have h1 := bytes_len (h x (by simp)).1 (h x (by simp)).2.1 (h x (by simp)).2.2
    have h2 := ih (fun y hy => h y (by simp [hy]))
    simp only [flat, bulk, List.flatMap_cons, List.map_cons, List.sum_cons, List.length_append] at *
    omega
theorem walk_step {l : List Ins} {k : Nat} {m m' : List Int} (hk : k < l.length) (h : walkM [] (l.take k) = some m) (hn : nx m (l.getD k default).op = .go m') : walkM [] (l.take (k + 1)) = some m' := by
  have key : ∀ (xs : List Ins) (a : List Int) (y : Ins), walkM a xs = some m → nx m y.op = .go m' → walkM a (xs ++ [y]) = some m' := by
    intro xs
    induction xs with
    | nil => intro a y h1 h2; simp only [walkM, Option.some.injEq] at h1; subst h1; simp [walkM, h2]
    | cons z xs ih =>
      intro a y h1 h2
      simp only [walkM, List.cons_append] at h1 ⊢
      split at h1
      · next a' e => exact ih _ _ h1 h2
      cases h1
  rw [List.take_add_one, List.getElem?_eq_getElem hk]
  refine key _ _ _ h ?_
  rw [List.getD_eq_getElem?_getD, List.getElem?_eq_getElem hk] at hn
  exact hn
theorem walk_stop {l : List Ins} {k : Nat} {m : List Int} (hk : k < l.length) (h : walkM [] (l.take k) = some m) (hn : ∀ m', nx m (l.getD k default).op ≠ .go m') : walkM [] l = none := by
  have key : ∀ (xs ys : List Ins) (a : List Int) (y : Ins), walkM a xs = some m → (∀ m', nx m y.op ≠ .go m') → walkM a (xs ++ y :: ys) = none := by
    intro xs ys
    induction xs with
    | nil =>
      intro a y h1 h2
      simp only [walkM, Option.some.injEq] at h1; subst h1
      simp only [List.nil_append, walkM] <;> (cases hq : nx a y.op <;> first | rfl | exact absurd hq (h2 _))
    | cons z xs ih =>
      intro a y h1 h2
      simp only [walkM, List.cons_append] at h1 ⊢
      split at h1
      · next a' e => exact ih _ _ h1 h2
      cases h1
  have e : l = l.take k ++ l.getD k default :: l.drop (k + 1) := by
    rw [List.getD_eq_getElem?_getD, List.getElem?_eq_getElem hk]
    conv => lhs; rw [← List.take_append_drop k l, List.drop_eq_getElem_cons hk]
    rfl
  rw [e]; exact key _ _ _ _ h hn
theorem flat_step {l : List Ins} {k : Nat} (hk : k < l.length) : flat (l.take (k + 1)) = flat (l.take k) ++ bytes (l.getD k default) := by
  unfold flat
  rw [List.take_add_one, List.getElem?_eq_getElem hk, List.flatMap_append, List.getD_eq_getElem?_getD, List.getElem?_eq_getElem hk]
  simp
end Isp
end Go.Proofs.YtldmfchamcpmmaaGreatDoor
