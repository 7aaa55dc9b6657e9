/- gabellelaw17.MemPlays returns true for every input, and each argument reads afterwards as before. No condition. -/
import Derived.Test.YtdefjpakpgchhaaRows
import Derived.WalkKit
import Derived.ProofKit
import Derived.OpenShut
import Derived.ShutString
import Derived.ChangeOld
import Derived.Below
import Derived.Test.YtdefjpakpgchhaaMemV
import Derived.Test.YtdefjpakpgchhaaKOpen
import Derived.Test.YtdefjpakpgchhaaKLim
namespace Go.Proofs.Ytdefjpakpgchhaa.memPlays
open Go.ChangeShapes Go.WideShapes Go.ChangeAt Go.RowKit
open Go.ChangeMaps (open_string shut_string)
set_option linter.unusedVariables false
set_option linter.unusedSimpArgs false

theorem own : ownKnob Try.prog.godebug = none := by kernel_rfl
theorem laidOut : laidOutB Try.prog = true := by kernel_rfl

theorem walk (c0 : List Value) (x0 : Int × Int) (v1 : Value) (l1 : List Dox) (w : World) (e0 : ELim w.heap c0 x0) (e1 : Sl 7 (EDo) w.heap v1 l1) :
    Calls Try.prog 7 #[.agg c0.toArray, v1] w fun e w' => e = .returned (.bool true) ∧ Below w.heap.size w w' :=
  Ct.calls (MemPlays_c c0 x0 e0 v1 l1 e1)
set_option maxRecDepth 100000 in
theorem lifted (os : Os) (started : os.Started) (H : Type) (enc : TypeId × Value → H) :
    ReturnsInHanded {} Try.checked os 7 .any (Rows.memPlaysSpec.pre6 enc Try.prog Try.f7 Rows.memPlaysRow.domain false) (Rows.memPlaysSpec.post enc Try.prog Try.f7 false true false false) := by
  refine returnsInHanded_of_change (C := Try.checked) own started (by kernel_rfl) Try.func7
    (ChangeSpec.witness6 (enc := enc) (C := Try.checked) false ⟨#[], #[.agg #[.int .u32 0, .int .i64 0], .slice none 0 0], []⟩ 8 (by kernel_rfl) (by kernel_rfl) (by kernel_rfl) (by kernel_rfl)) ?_
  intro W base args ds gs before hval0 hW hcnd _
  have hval : ∀ (j : Nat) t v, Try.f7.params[j]? = some t → args[j]? = some v → Value.okWide Try.prog W .any base t v := hval0
  have hW' := hW
  obtain ⟨p, q, hA0, hV, rfl, hfz, hnd⟩ := hW
  have hA : DataW.TrodAll enc Try.prog W 0 (fun _ => true) true Try.f7.params.toList args.toList ds p := hA0
  rw [Try.params7] at hA hval
  obtain ⟨v0, vs0, d0, ds0, p0, q0, hargs, rfl, rfl, h0, r0⟩ := trodAll_cons hA
  obtain ⟨v1, vs1, d1, ds1, p1, q1, rfl, rfl, rfl, h1, r1⟩ := trodAll_cons r0
  obtain ⟨rfl, rfl, rfl⟩ := trodAll_nil r1
  obtain rfl : args = #[v0, v1] := by cases args; simp_all
  obtain ⟨rfl, rfl⟩ := trodVars_none hV
  have k0 := h0
  have lt0 : ∀ x ∈ p0, x.block < W.heap.size := by obtain ⟨m, hm⟩ := k0; exact DataW.trod_lt m _ _ _ hm
  obtain ⟨x0, c0, y0, e0⟩ : ∃ (x : Int × Int) (cs : List Value), v0 = .agg cs.toArray ∧ ELim W.heap cs x := by
    obtain ⟨fuel, hf⟩ := h0
    obtain ⟨x, hx⟩ := (opens_lim) _ _ _ _ _ _ _ _ _ hf
    obtain ⟨cs, rfl, -⟩ := okWide_struct Try.underlying42 (hval 0 42 v0 rfl rfl)
    exact ⟨x, cs.toList, by simp, by simpa [Value.cells] using hx⟩
  subst y0
  have k1 := h1
  have lt1 : ∀ x ∈ p1, x.block < W.heap.size := by obtain ⟨m, hm⟩ := k1; exact DataW.trod_lt m _ _ _ hm
  obtain ⟨l1, e1⟩ : ∃ l : List Dox, Sl 7 (EDo) W.heap v1 l := by
    obtain ⟨fuel, hf⟩ := h1
    obtain ⟨l, u, hu, hs⟩ := (opens_slice (n := 7) Try.underlying50 (by kernel_rfl) (by decide) opens_do) _ _ _ _ _ _ _ _ _ hf
    obtain ⟨a, len, cap, rfl⟩ := okWide_slice Try.underlying50 (hval 1 50 v1 rfl rfl)
    simp [Value.cells] at hu
    subst hu
    exact ⟨l, hs⟩
  clear hA0 hval0
  refine (walk c0 x0 v1 l1 W e0 e1).mono fun e W' ⟨he, bel⟩ => ?_
  subst he
  exact ⟨_, rfl, _, _, _, [], _, [], hW', trodAll_mk1 (shut_bool Try.underlying4 _), (trodAll_cons_mk (Below.trod laidOut (by kernel_rfl) (of_decide_eq_true (by kernel_rfl)) k0 bel lt0) (trodAll_cons_mk (Below.trod laidOut (by kernel_rfl) (of_decide_eq_true (by kernel_rfl)) k1 bel lt1) trodAll_mk0)), rfl, bel.frame _, fun h => by cases h⟩

theorem over : Rows.memPlaysRow.holds Try.pinned (OpenSpec.ofChange Rows.memPlaysSpec) :=
  OpenClaim.holds_of_wide 7 Try.f7 rfl rfl rfl rfl rfl rfl rfl ⟨rfl, rfl, rfl, rfl, rfl⟩ rfl rfl rfl rfl rfl (by kernel_rfl) Try.func7 (by kernel_rfl)
    (of_decide_eq_true (by kernel_rfl)) (by unfold Func.isWrapper; first | (rw [if_pos (by decide +kernel)]; kernel_rfl) | (rw [if_neg (by decide +kernel)]; exact ⟨rfl, rfl⟩))
    (fun os started H enc _ => lifted os started H enc)

theorem proved : Rows.MemPlaysSaid := over
#print axioms proved
end Go.Proofs.Ytdefjpakpgchhaa.memPlays
