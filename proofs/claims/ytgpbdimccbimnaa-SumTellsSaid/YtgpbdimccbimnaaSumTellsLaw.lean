/- gabellelaw33.SumTells returns true for every input, and each argument reads afterwards as before. No condition. -/
import Derived.Test.YtgpbdimccbimnaaRows
import Derived.WalkKit
import Derived.ProofKit
import Derived.OpenShut
import Derived.ShutString
import Derived.ChangeOld
import Derived.Below
import Derived.Test.YtgpbdimccbimnaaSumM
import Derived.Test.YtgpbdimccbimnaaKOpen
namespace Go.Proofs.Ytgpbdimccbimnaa.sumTells
open Go.ChangeShapes Go.WideShapes Go.ChangeAt Go.RowKit
open Go.ChangeMaps (open_string shut_string)
set_option linter.unusedVariables false
set_option linter.unusedSimpArgs false

theorem own : ownKnob Try.prog.godebug = none := by kernel_rfl
theorem laidOut : laidOutB Try.prog = true := by kernel_rfl

theorem walk (v0 : Value) (l0 : List Int) (c1 : List Value) (x1 : List Int) (c2 : List Value) (x2 : List Int) (w : World) (e0 : Sl 1 (EInt .u8) w.heap v0 l0) (e1 : EArr .u8 32 w.heap c1 x1) (e2 : EArr .u8 32 w.heap c2 x2) :
    Calls Try.prog 6 #[v0, .agg c1.toArray, .agg c2.toArray] w fun e w' => e = .returned (.bool true) ∧ Below w.heap.size w w' :=
  Ct.calls (by obtain ⟨rfl, h1, h2⟩ := e1; obtain ⟨rfl, h3, h4⟩ := e2; exact SumTells_any v0 l0 x1 x2 e0 h1 h3 h2 h4)
set_option maxRecDepth 100000 in
theorem lifted (os : Os) (started : os.Started) (H : Type) (enc : TypeId × Value → H) :
    ReturnsInHanded {} Try.checked os 6 .any (Rows.sumTellsSpec.pre6 enc Try.prog Try.f6 Rows.sumTellsRow.domain false) (Rows.sumTellsSpec.post enc Try.prog Try.f6 false true false false) := by
  refine returnsInHanded_of_change (C := Try.checked) own started (by kernel_rfl) Try.func6
    (ChangeSpec.witness6 (enc := enc) (C := Try.checked) false ⟨#[], #[.slice none 0 0, .agg (Array.replicate 32 (.int .u8 0)), .agg (Array.replicate 32 (.int .u8 0))], []⟩ 8 (by kernel_rfl) (by kernel_rfl) (by kernel_rfl) (by kernel_rfl)) ?_
  intro W base args ds gs before hval0 hW hcnd _
  have hval : ∀ (j : Nat) t v, Try.f6.params[j]? = some t → args[j]? = some v → Value.okWide Try.prog W .any base t v := hval0
  have hW' := hW
  obtain ⟨p, q, hA0, hV, rfl, hfz, hnd⟩ := hW
  have hA : DataW.TrodAll enc Try.prog W 0 (fun _ => true) true Try.f6.params.toList args.toList ds p := hA0
  rw [Try.params6] at hA hval
  obtain ⟨v0, vs0, d0, ds0, p0, q0, hargs, rfl, rfl, h0, r0⟩ := trodAll_cons hA
  obtain ⟨v1, vs1, d1, ds1, p1, q1, rfl, rfl, rfl, h1, r1⟩ := trodAll_cons r0
  obtain ⟨v2, vs2, d2, ds2, p2, q2, rfl, rfl, rfl, h2, r2⟩ := trodAll_cons r1
  obtain ⟨rfl, rfl, rfl⟩ := trodAll_nil r2
  obtain rfl : args = #[v0, v1, v2] := by cases args; simp_all
  obtain ⟨rfl, rfl⟩ := trodVars_none hV
  have k0 := h0
  have lt0 : ∀ x ∈ p0, x.block < W.heap.size := by obtain ⟨m, hm⟩ := k0; exact DataW.trod_lt m _ _ _ hm
  obtain ⟨l0, e0⟩ : ∃ l : List Int, Sl 1 (EInt .u8) W.heap v0 l := by
    obtain ⟨fuel, hf⟩ := h0
    obtain ⟨l, u, hu, hs⟩ := (opens_slice (n := 1) Try.underlying24 (by kernel_rfl) (by decide) (opens_int Try.underlying5)) _ _ _ _ _ _ _ _ _ hf
    obtain ⟨a, len, cap, rfl⟩ := okWide_slice Try.underlying24 (hval 0 24 v0 rfl rfl)
    simp [Value.cells] at hu
    subst hu
    exact ⟨l, hs⟩
  have k1 := h1
  have lt1 : ∀ x ∈ p1, x.block < W.heap.size := by obtain ⟨m, hm⟩ := k1; exact DataW.trod_lt m _ _ _ hm
  obtain ⟨x1, c1, y1, e1⟩ : ∃ (x : List Int) (cs : List Value), v1 = .agg cs.toArray ∧ EArr .u8 32 W.heap cs x := by
    obtain ⟨fuel, hf⟩ := h1
    obtain ⟨x, hx⟩ := (opens_array Try.underlying33 Try.underlying5 (by kernel_rfl) (by kernel_rfl)) _ _ _ _ _ _ _ _ _ hf
    obtain ⟨cs, rfl⟩ : ∃ cs, v1 = Value.agg cs := by
      have hv := hval 1 33 v1 rfl rfl
      simp only [Value.okWide, Try.underlying33] at hv
      obtain ⟨cs, h1, _⟩ := hv
      exact ⟨cs, h1⟩
    exact ⟨x, cs.toList, by simp, by simpa [Value.cells] using hx⟩
  subst y1
  have k2 := h2
  have lt2 : ∀ x ∈ p2, x.block < W.heap.size := by obtain ⟨m, hm⟩ := k2; exact DataW.trod_lt m _ _ _ hm
  obtain ⟨x2, c2, y2, e2⟩ : ∃ (x : List Int) (cs : List Value), v2 = .agg cs.toArray ∧ EArr .u8 32 W.heap cs x := by
    obtain ⟨fuel, hf⟩ := h2
    obtain ⟨x, hx⟩ := (opens_array Try.underlying33 Try.underlying5 (by kernel_rfl) (by kernel_rfl)) _ _ _ _ _ _ _ _ _ hf
    obtain ⟨cs, rfl⟩ : ∃ cs, v2 = Value.agg cs := by
      have hv := hval 2 33 v2 rfl rfl
      simp only [Value.okWide, Try.underlying33] at hv
      obtain ⟨cs, h1, _⟩ := hv
      exact ⟨cs, h1⟩
    exact ⟨x, cs.toList, by simp, by simpa [Value.cells] using hx⟩
  subst y2
  clear hA0 hval0
  refine (walk v0 l0 c1 x1 c2 x2 W e0 e1 e2).mono fun e W' ⟨he, bel⟩ => ?_
  subst he
  exact ⟨_, rfl, _, _, _, [], _, [], hW', trodAll_mk1 (shut_bool Try.underlying4 _), (trodAll_cons_mk (Below.trod laidOut (by kernel_rfl) (of_decide_eq_true (by kernel_rfl)) k0 bel lt0) (trodAll_cons_mk (Below.trod laidOut (by kernel_rfl) (of_decide_eq_true (by kernel_rfl)) k1 bel lt1) (trodAll_cons_mk (Below.trod laidOut (by kernel_rfl) (of_decide_eq_true (by kernel_rfl)) k2 bel lt2) trodAll_mk0))), rfl, bel.frame _, fun h => by cases h⟩

theorem over : Rows.sumTellsRow.holds Try.pinned (OpenSpec.ofChange Rows.sumTellsSpec) :=
  OpenClaim.holds_of_wide 6 Try.f6 rfl rfl rfl rfl rfl rfl rfl ⟨rfl, rfl, rfl, rfl, rfl⟩ rfl rfl rfl rfl rfl (by kernel_rfl) Try.func6 (by kernel_rfl)
    (of_decide_eq_true (by kernel_rfl)) (by unfold Func.isWrapper; first | (rw [if_pos (by decide +kernel)]; kernel_rfl) | (rw [if_neg (by decide +kernel)]; exact ⟨rfl, rfl⟩))
    (fun os started H enc _ => lifted os started H enc)

theorem proved : Rows.SumTellsSaid := over
#print axioms proved
end Go.Proofs.Ytgpbdimccbimnaa.sumTells
