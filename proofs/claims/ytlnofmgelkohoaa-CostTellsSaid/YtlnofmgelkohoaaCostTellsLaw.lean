/- gabellelaw13.CostTells returns true for every input, and each argument reads afterwards as before. No condition. -/
import Derived.Test.YtlnofmgelkohoaaRows
import Derived.WalkKit
import Derived.ProofKit
import Derived.OpenShut
import Derived.ShutString
import Derived.ChangeOld
import Derived.Below
import Derived.Test.YtlnofmgelkohoaaIns
import Derived.Test.YtlnofmgelkohoaaCostTellsWalk
namespace Go.Proofs.Ytlnofmgelkohoaa.costTells
open Go.ChangeShapes Go.WideShapes Go.ChangeAt Go.RowKit
open Go.ChangeMaps (open_string shut_string)
set_option linter.unusedVariables false

theorem own : ownKnob Try.prog.godebug = none := by kernel_rfl
theorem laidOut : laidOutB Try.prog = true := by kernel_rfl

theorem walk (x0 : Ins) (u0 : Value) (v1 : Value) (l1 : List Ins) (w : World) (e0 : Sl 1 (EInt .u32) w u0 x0.l) (f0 : ((Lit.int .u8 x0.op).wf = true ∧ (Lit.int .u32 x0.a).wf = true ∧ (Lit.int .u32 x0.b).wf = true ∧ (Lit.int .i64 x0.c).wf = true)) (e1 : Sl 5 (EIns) w v1 l1) :
    Calls Try.prog 3 #[.agg #[.int .u8 x0.op, .int .u32 x0.a, .int .u32 x0.b, .int .i64 x0.c, u0], v1] w fun e w' => e = .returned (.bool true) ∧ Below w.heap.size w w' := by
  obtain ⟨la, lc, rfl, -, -, -⟩ := e0
  have h := f0.1
  have hb : 0 ≤ x0.op ∧ x0.op ≤ 255 := by simpa [Lit.wf, IntKind.min, IntKind.max, IntKind.signed, IntKind.bits] using h
  exact CostTells_walk x0.op x0.a x0.b x0.c la x0.l.length lc v1 l1 w hb.1 (by omega) e1

set_option maxRecDepth 100000 in
theorem lifted (os : Os) (started : os.Started) (H : Type) (enc : TypeId × Value → H) :
    ReturnsInHanded {} Try.checked os 3 .any (Rows.costTellsSpec.pre6 enc Try.prog Try.f3 Rows.costTellsRow.domain false) (Rows.costTellsSpec.post enc Try.prog Try.f3 false true false false) := by
  refine returnsInHanded_of_change (C := Try.checked) own started (by kernel_rfl) Try.func3
    (ChangeSpec.witness6 (enc := enc) (C := Try.checked) false ⟨#[], #[.agg #[.int .u8 0, .int .u32 0, .int .u32 0, .int .i64 0, .slice none 0 0], .slice none 0 0], []⟩ 8 (by kernel_rfl) (by kernel_rfl) (by kernel_rfl) (by kernel_rfl)) ?_
  intro W base args ds gs before hval0 hW hcnd _
  have hval : ∀ (j : Nat) t v, Try.f3.params[j]? = some t → args[j]? = some v → Value.okWide Try.prog W .any base t v := hval0
  have hW' := hW
  obtain ⟨p, q, hA0, hV, rfl, hfz, hnd⟩ := hW
  have hA : DataW.TrodAll enc Try.prog W 0 (fun _ => true) true Try.f3.params.toList args.toList ds p := hA0
  rw [Try.params3] at hA hval
  obtain ⟨v0, vs0, d0, ds0, p0, q0, hargs, rfl, rfl, h0, r0⟩ := trodAll_cons hA
  obtain ⟨v1, vs1, d1, ds1, p1, q1, rfl, rfl, rfl, h1, r1⟩ := trodAll_cons r0
  obtain ⟨rfl, rfl, rfl⟩ := trodAll_nil r1
  obtain rfl : args = #[v0, v1] := by cases args; simp_all
  obtain ⟨rfl, rfl⟩ := trodVars_none hV
  have k0 := h0
  have lt0 : ∀ x ∈ p0, x.block < W.heap.size := by obtain ⟨m, hm⟩ := k0; exact DataW.trod_lt m _ _ _ hm
  obtain ⟨x0, u0, y0, e0, f0⟩ : ∃ (x : Ins) (u : Value), v0 = .agg #[.int .u8 x.op, .int .u32 x.a, .int .u32 x.b, .int .i64 x.c, u] ∧ Sl 1 (EInt .u32) W u x.l ∧ ((Lit.int .u8 x.op).wf = true ∧ (Lit.int .u32 x.a).wf = true ∧ (Lit.int .u32 x.b).wf = true ∧ (Lit.int .i64 x.c).wf = true) := by
    obtain ⟨fuel, hf⟩ := h0
    obtain ⟨x, u, hu, hs, hw⟩ := opens_ins _ _ _ _ _ _ _ _ _ hf
    obtain ⟨cs, rfl, -⟩ := okWide_struct Try.underlying25 (hval 0 25 v0 rfl rfl)
    simp [Value.cells] at hu
    exact ⟨x, u, by rw [show cs = #[_, _, _, _, _] from Array.ext' hu], hs, hw⟩
  subst y0
  have k1 := h1
  have lt1 : ∀ x ∈ p1, x.block < W.heap.size := by obtain ⟨m, hm⟩ := k1; exact DataW.trod_lt m _ _ _ hm
  obtain ⟨l1, e1⟩ : ∃ l : List Ins, Sl 5 (EIns) W v1 l := by
    obtain ⟨fuel, hf⟩ := h1
    obtain ⟨l, u, hu, hs⟩ := (opens_inss) _ _ _ _ _ _ _ _ _ hf
    obtain ⟨a, len, cap, rfl⟩ := okWide_slice Try.underlying26 (hval 1 26 v1 rfl rfl)
    simp [Value.cells] at hu
    subst hu
    exact ⟨l, hs⟩
  clear hA0 hval0
  refine (walk x0 u0 v1 l1 W e0 f0 e1).mono fun e W' ⟨he, bel⟩ => ?_
  subst he
  exact ⟨_, rfl, _, _, _, [], _, [], hW', trodAll_mk1 (shut_bool Try.underlying4 _), (trodAll_cons_mk (Below.trod laidOut (by kernel_rfl) (of_decide_eq_true (by kernel_rfl)) k0 bel lt0) (trodAll_cons_mk (Below.trod laidOut (by kernel_rfl) (of_decide_eq_true (by kernel_rfl)) k1 bel lt1) trodAll_mk0)), rfl, bel.frame _, fun h => by cases h⟩

theorem over : Rows.costTellsRow.holds Try.pinned (OpenSpec.ofChange Rows.costTellsSpec) :=
  OpenClaim.holds_of_wide 3 Try.f3 rfl rfl rfl rfl rfl rfl rfl ⟨rfl, rfl, rfl, rfl, rfl⟩ rfl rfl rfl rfl rfl (by kernel_rfl) Try.func3 (by kernel_rfl)
    (of_decide_eq_true (by kernel_rfl)) (by unfold Func.isWrapper; first | (rw [if_pos (by decide +kernel)]; kernel_rfl) | (rw [if_neg (by decide +kernel)]; exact ⟨rfl, rfl⟩))
    (fun os started H enc _ => lifted os started H enc)

theorem proved : Rows.CostTellsSaid := over
#print axioms proved
end Go.Proofs.Ytlnofmgelkohoaa.costTells
