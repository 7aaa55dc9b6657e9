/- Instructions in memory: how an api.Instr's five cells read, and lists of them. No condition. -/
import Derived.Test.YtlnofmgelkohoaaSl
namespace Go.Proofs.Ytlnofmgelkohoaa
open Go.RowKit Go.ChangeShapes Go.WideShapes Go.Deep
set_option linter.unusedVariables false

/-- an instruction -/
structure Ins where
  op : Int
  a : Int
  b : Int
  c : Int
  l : List Int
  deriving Inhabited

def EIns : El Ins := fun w cs x => ∃ v, cs = [.int .u8 x.op, .int .u32 x.a, .int .u32 x.b, .int .i64 x.c, v] ∧ Sl 1 (EInt .u32) w v x.l ∧ (Lit.int .u8 x.op).wf = true ∧ (Lit.int .u32 x.a).wf = true ∧ (Lit.int .u32 x.b).wf = true ∧ (Lit.int .i64 x.c).wf = true

theorem keeps_ins : Keeps EIns := fun _ _ _ _ ho h => by
  obtain ⟨v, hv, hs, r⟩ := h
  exact ⟨v, hv, hs.old (keeps_int _) ho, r⟩

theorem opens_ins : Opens Try.prog 25 EIns := by
  intro H enc w base spare held fuel cs x h
  obtain ⟨c0, c1, c2, c3, c4, n, y0, y1, y2, y3, y4, rfl, h0, h1, h2, h3, h4⟩ := trod5 Try.underlying25 (by kernel_rfl) (by kernel_rfl) h
  obtain ⟨a, e0, w0⟩ := opens_int Try.underlying5 _ _ _ _ _ _ _ _ _ h0
  obtain ⟨b, e1, w1⟩ := opens_int Try.underlying22 _ _ _ _ _ _ _ _ _ h1
  obtain ⟨c, e2, w2⟩ := opens_int Try.underlying22 _ _ _ _ _ _ _ _ _ h2
  obtain ⟨d, e3, w3⟩ := opens_int Try.underlying2 _ _ _ _ _ _ _ _ _ h3
  obtain ⟨l, v, e4, hl⟩ := opens_slice (n := 1) Try.underlying23 (by kernel_rfl) (by omega) (opens_int Try.underlying22) _ _ _ _ _ _ _ _ _ h4
  simp only [List.cons.injEq, and_true] at e0 e1 e2 e3 e4
  subst e0 e1 e2 e3 e4
  exact ⟨⟨a, b, c, d, l⟩, _, rfl, hl, w0, w1, w2, w3⟩

theorem one_ins (w : World) (cs : List Value) (x : Ins) (h : EIns w cs x) : ∀ u ∈ cs, u.oneCell' = true := by
  obtain ⟨v, rfl, ⟨a, cap, rfl, _⟩, _⟩ := h
  intro u hu
  simp only [List.mem_cons, List.not_mem_nil, or_false] at hu
  rcases hu with rfl | rfl | rfl | rfl | rfl <;> rfl

/-- a slice of instructions -/
abbrev IsIns (w : World) (v : Value) (l : List Ins) : Prop := Sl 5 EIns w v l

theorem opens_inss : Opens Try.prog 26 (ESl 5 EIns) := opens_slice Try.underlying26 (by kernel_rfl) (by omega) opens_ins

/-- what is read at a place of a list of instructions -/
theorem IsIns.at {w : World} {a : Option Addr} {n cap : Nat} {l : List Ins} (h : IsIns w (.slice a n cap) l) (k : Nat) (hk : k < n) :
    ∃ b off x v, a = some ⟨b, off, none⟩ ∧ Hid (l[k]? = some x) ∧ (0 ≤ x.op ∧ x.op < 256) ∧ Sl 1 (EInt .u32) w v x.l ∧ w.cell? ⟨b, off + k * 5, none⟩ = some (.int .u8 x.op) ∧ w.cell? ⟨b, off + k * 5 + 1, none⟩ = some (.int .u32 x.a) ∧
      w.cell? ⟨b, off + k * 5 + 2, none⟩ = some (.int .u32 x.b) ∧ w.cell? ⟨b, off + k * 5 + 3, none⟩ = some (.int .i64 x.c) ∧ w.cell? ⟨b, off + k * 5 + 4, none⟩ = some v := by
  obtain ⟨a', cap', e, h1, h2, h3, h4⟩ := h
  injection e with e1 e2 e3
  subst e1; subst e3
  have hlt : k < l.length := by omega
  have hx : l[k]? = some l[k] := List.getElem?_eq_getElem hlt
  obtain ⟨b, off, cs, ha, hl, hc, hE⟩ := h4 k _ hx
  generalize l[k] = x at *
  obtain ⟨v, rfl, hs, wf, _⟩ := hE
  have hb : 0 ≤ x.op ∧ x.op ≤ 255 := by simpa [Lit.wf, IntKind.min, IntKind.max, IntKind.signed, IntKind.bits] using wf
  exact ⟨b, off, x, v, ha, Lib.hid hx, by omega, hs, hc 0 _ rfl, hc 1 _ rfl, hc 2 _ rfl, hc 3 _ rfl, hc 4 _ rfl⟩

theorem IsIns.len {w : World} {a : Option Addr} {n cap : Nat} {l : List Ins} (h : IsIns w (.slice a n cap) l) : n = l.length ∧ n ≤ cap ∧ cap ≤ 9223372036854775807 := by
  obtain ⟨a', cap', e, h1, h2, h3, h4⟩ := h
  injection e with e1 e2 e3
  unfold maxLen at h2
  omega

end Go.Proofs.Ytlnofmgelkohoaa
