/- gabellelaw18.InstLast returns true for every input, and each argument reads afterwards as before. No condition. -/
import Derived.Test.YticnkojpfmkjeaaRows
import Derived.WalkKit
import Derived.ProofKit
import Derived.OpenShut
import Derived.ShutString
import Derived.ChangeOld
import Derived.Below
import Derived.SizedLaws
import Derived.Test.YticnkojpfmkjeaaIstM
import Derived.Test.YticnkojpfmkjeaaIstW
namespace Go.Proofs.Yticnkojpfmkjeaa.instLast
open Go.ChangeShapes Go.WideShapes Go.ChangeAt Go.RowKit
open Go.ChangeMaps (open_string shut_string)
set_option linter.unusedVariables false
set_option linter.unusedSimpArgs false

theorem own : ownKnob Try.prog.godebug = none := by kernel_rfl
theorem laidOut : laidOutB Try.prog = true := by kernel_rfl

theorem walk (c0 : List Value) (x0 : Md) (w : World) (e0 : EMiB w.heap c0 x0) :
    Calls Try.prog 3 #[.agg c0.toArray] w fun e w' => e = .returned (.bool true) ∧ Below w.heap.size w w' :=
  Ct.calls (by obtain ⟨v0, v1, v2, v3, v4, v5, v6, v7, v8, v9, va, vb, rfl, mv⟩ := e0; exact InstLast_any mv)
set_option maxRecDepth 100000 in
theorem lifted (os : Os) (started : os.Started) (H : Type) (enc : TypeId × Value → H) :
    ReturnsInHanded {} Try.checked os 3 .any (Rows.instLastSpec.pre6 enc Try.prog Try.f3 Rows.instLastRow.domain false) (Rows.instLastSpec.post enc Try.prog Try.f3 false true false false) := by
  refine returnsInHanded_of_change_sized (C := Try.checked) own started (by kernel_rfl) Try.func3
    (ChangeSpec.witness6 (enc := enc) (C := Try.checked) false ⟨#[], #[.agg #[.slice none 0 0, .slice none 0 0, .slice none 0 0, .slice none 0 0, .slice none 0 0, .slice none 0 0, .slice none 0 0, .bool false, .int .u32 0, .slice none 0 0, .slice none 0 0, .slice none 0 0]], []⟩ 8 (by kernel_rfl) (by kernel_rfl) (by kernel_rfl) (by kernel_rfl)) ?_
  intro W base args ds gs before hval0 hW hcnd hreach _
  have hval : ∀ (j : Nat) t v, Try.f3.params[j]? = some t → args[j]? = some v → Value.okWide Try.prog W .any base t v := hval0
  have hW' := hW
  obtain ⟨p, q, hA0, hV, rfl, hfz, hnd⟩ := hW
  have hA : DataW.TrodAll enc Try.prog W 0 (fun _ => true) true Try.f3.params.toList args.toList ds p := hA0
  rw [Try.params3] at hA hval hreach
  obtain ⟨v0, vs0, d0, ds0, p0, q0, hargs, rfl, rfl, h0, r0⟩ := trodAll_cons hA
  obtain ⟨rfl, rfl, rfl⟩ := trodAll_nil r0
  obtain rfl : args = #[v0] := by cases args; simp_all
  obtain ⟨rfl, rfl⟩ := trodVars_none hV
  have k0 := h0
  have lt0 : ∀ x ∈ p0, x.block < W.heap.size := by obtain ⟨m, hm⟩ := k0; exact DataW.trod_lt m _ _ _ hm
  have hwt0 : ∀ n ∈ d0.weights Try.prog 33, n ≤ 140737488351232 := by
    have h9 := hreach
    simp only [DataW.weightsEach, List.all_append, Bool.and_eq_true, List.all_eq_true, decide_eq_true_eq, List.cons_append, List.nil_append] at h9
    intro n hn
    first
      | exact h9 n hn
      | exact h9.1 n hn
      | exact h9.2 n hn
      | exact h9.2.1 n hn
      | exact h9.2.2.1 n hn
      | exact h9.2.2.2.1 n hn
      | exact h9 n (by simp [hn])
  obtain ⟨x0, c0, y0, e0⟩ : ∃ (x : Md) (cs : List Value), v0 = .agg cs.toArray ∧ EMiB W.heap cs x := by
    obtain ⟨fuel, hf⟩ := h0
    obtain ⟨x, hx⟩ := (opensW_mi) _ _ _ _ _ _ _ _ _ hf hwt0
    obtain ⟨cs, rfl, -⟩ := okWide_struct Try.underlying33 (hval 0 33 v0 rfl rfl)
    exact ⟨x, cs.toList, by simp, by simpa [Value.cells] using hx⟩
  subst y0
  clear hA0 hval0
  refine (walk c0 x0 W e0).mono fun e W' ⟨he, bel⟩ => ?_
  subst he
  exact ⟨_, rfl, _, _, _, [], _, [], hW', trodAll_mk1 (shut_bool Try.underlying4 _), (trodAll_cons_mk (Below.trod laidOut (by kernel_rfl) (of_decide_eq_true (by kernel_rfl)) k0 bel lt0) trodAll_mk0), rfl, bel.frame _, fun h => by cases h⟩

theorem over : Rows.instLastRow.holds Try.pinned (OpenSpec.ofChange Rows.instLastSpec) :=
  OpenClaim.holds_of_wide 3 Try.f3 rfl rfl rfl rfl rfl rfl rfl ⟨rfl, rfl, rfl, rfl, rfl⟩ rfl rfl rfl rfl rfl (by kernel_rfl) Try.func3 (by kernel_rfl)
    (of_decide_eq_true (by kernel_rfl)) (by unfold Func.isWrapper; first | (rw [if_pos (by decide +kernel)]; kernel_rfl) | (rw [if_neg (by decide +kernel)]; exact ⟨rfl, rfl⟩))
    (fun os started H enc _ => lifted os started H enc)

theorem proved : Rows.InstLastSaid := over
#print axioms proved
end Go.Proofs.Yticnkojpfmkjeaa.instLast
