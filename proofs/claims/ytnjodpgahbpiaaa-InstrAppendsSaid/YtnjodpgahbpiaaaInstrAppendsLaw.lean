/- gabellelaw04.InstrAppends returns true for every input, and each argument reads afterwards as before. No condition. -/
import Derived.Test.YtnjodpgahbpiaaaRows
import Derived.WalkKit
import Derived.ProofKit
import Derived.OpenShut
import Derived.ShutString
import Derived.ChangeOld
import Derived.Below
import Derived.SizedLaws
import Derived.Test.YtnjodpgahbpiaaaInsU
import Derived.Test.YtnjodpgahbpiaaaInsW
namespace Go.Proofs.Ytnjodpgahbpiaaa.instrAppends
open Go.ChangeShapes Go.WideShapes Go.ChangeAt Go.RowKit
open Go.ChangeMaps (open_string shut_string)
set_option linter.unusedVariables false
set_option linter.unusedSimpArgs false

theorem own : ownKnob Try.prog.godebug = none := by kernel_rfl
theorem laidOut : laidOutB Try.prog = true := by kernel_rfl

theorem walk (v0 : Value) (l0 : List Int) (c1 : List Value) (x1 : Ins) (v2 : Value) (l2 : List Ins) (w : World) (e0 : Sl 1 (EInt .u8) w.heap v0 l0) (e1 : EInsB w.heap c1 x1) (e2 : Sl 5 (EInsB) w.heap v2 l2) (q2 : l2.length * 48 ≤ 140737488351232) :
    Calls Try.prog 4 #[v0, .agg c1.toArray, v2] w fun e w' => e = .returned (.bool true) ∧ Below w.heap.size w w' :=
  Ct.calls (InstrAppends_any e0 e1.1 e1.2 e2.unW.1 e2.unW.2)
set_option maxRecDepth 100000 in
theorem lifted (os : Os) (started : os.Started) (H : Type) (enc : TypeId × Value → H) :
    ReturnsInHanded {} Try.checked os 4 .any (Rows.instrAppendsSpec.pre6 enc Try.prog Try.f4 Rows.instrAppendsRow.domain false) (Rows.instrAppendsSpec.post enc Try.prog Try.f4 false true false false) := by
  refine returnsInHanded_of_change_sized (C := Try.checked) own started (by kernel_rfl) Try.func4
    (ChangeSpec.witness6 (enc := enc) (C := Try.checked) false ⟨#[], #[.slice none 0 0, .agg #[.int .u8 0, .int .u32 0, .int .u32 0, .int .i64 0, .slice none 0 0], .slice none 0 0], []⟩ 8 (by kernel_rfl) (by kernel_rfl) (by kernel_rfl) (by kernel_rfl)) ?_
  intro W base args ds gs before hval0 hW hcnd hreach _
  have hval : ∀ (j : Nat) t v, Try.f4.params[j]? = some t → args[j]? = some v → Value.okWide Try.prog W .any base t v := hval0
  have hW' := hW
  obtain ⟨p, q, hA0, hV, rfl, hfz, hnd⟩ := hW
  have hA : DataW.TrodAll enc Try.prog W 0 (fun _ => true) true Try.f4.params.toList args.toList ds p := hA0
  rw [Try.params4] at hA hval hreach
  obtain ⟨v0, vs0, d0, ds0, p0, q0, hargs, rfl, rfl, h0, r0⟩ := trodAll_cons hA
  obtain ⟨v1, vs1, d1, ds1, p1, q1, rfl, rfl, rfl, h1, r1⟩ := trodAll_cons r0
  obtain ⟨v2, vs2, d2, ds2, p2, q2, rfl, rfl, rfl, h2, r2⟩ := trodAll_cons r1
  obtain ⟨rfl, rfl, rfl⟩ := trodAll_nil r2
  obtain rfl : args = #[v0, v1, v2] := by cases args; simp_all
  obtain ⟨rfl, rfl⟩ := trodVars_none hV
  have k0 := h0
  have lt0 : ∀ x ∈ p0, x.block < W.heap.size := by obtain ⟨m, hm⟩ := k0; exact DataW.trod_lt m _ _ _ hm
  obtain ⟨l0, e0⟩ : ∃ l : List Int, Sl 1 (EInt .u8) W.heap v0 l := by
    obtain ⟨fuel, hf⟩ := h0
    obtain ⟨l, u, hu, hs⟩ := (opens_slice (n := 1) Try.underlying23 (by kernel_rfl) (by decide) (opens_int Try.underlying5)) _ _ _ _ _ _ _ _ _ hf
    obtain ⟨a, len, cap, rfl⟩ := okWide_slice Try.underlying23 (hval 0 23 v0 rfl rfl)
    simp [Value.cells] at hu
    subst hu
    exact ⟨l, hs⟩
  have k1 := h1
  have lt1 : ∀ x ∈ p1, x.block < W.heap.size := by obtain ⟨m, hm⟩ := k1; exact DataW.trod_lt m _ _ _ hm
  have hwt1 : ∀ n ∈ d1.weights Try.prog 36, n ≤ 140737488351232 := by
    have h9 := hreach
    simp only [DataW.weightsEach, List.all_append, Bool.and_eq_true, List.all_eq_true, decide_eq_true_eq, List.cons_append, List.nil_append] at h9
    intro n hn
    first
      | exact h9 n hn
      | exact h9.1 n hn
      | exact h9.2 n hn
      | exact h9.2.1 n hn
      | exact h9.2.2.1 n hn
      | exact h9.2.2.2.1 n hn
      | exact h9 n (by simp [hn])
  obtain ⟨x1, c1, y1, e1⟩ : ∃ (x : Ins) (cs : List Value), v1 = .agg cs.toArray ∧ EInsB W.heap cs x := by
    obtain ⟨fuel, hf⟩ := h1
    obtain ⟨x, hx⟩ := (opensW_ins) _ _ _ _ _ _ _ _ _ hf hwt1
    obtain ⟨cs, rfl, -⟩ := okWide_struct Try.underlying36 (hval 1 36 v1 rfl rfl)
    exact ⟨x, cs.toList, by simp, by simpa [Value.cells] using hx⟩
  subst y1
  have k2 := h2
  have lt2 : ∀ x ∈ p2, x.block < W.heap.size := by obtain ⟨m, hm⟩ := k2; exact DataW.trod_lt m _ _ _ hm
  have hwt2 : ∀ n ∈ d2.weights Try.prog 22, n ≤ 140737488351232 := by
    have h9 := hreach
    simp only [DataW.weightsEach, List.all_append, Bool.and_eq_true, List.all_eq_true, decide_eq_true_eq, List.cons_append, List.nil_append] at h9
    intro n hn
    first
      | exact h9 n hn
      | exact h9.1 n hn
      | exact h9.2 n hn
      | exact h9.2.1 n hn
      | exact h9.2.2.1 n hn
      | exact h9.2.2.2.1 n hn
      | exact h9 n (by simp [hn])
  obtain ⟨l2, e2, q2⟩ : ∃ l : List Ins, Sl 5 (EInsB) W.heap v2 l ∧ l.length * 48 ≤ 140737488351232 := by
    obtain ⟨fuel, hf⟩ := h2
    obtain ⟨l, u, hu, hs, hb⟩ := (opensW_inss) _ _ _ _ _ _ _ _ _ hf hwt2
    obtain ⟨a, len, cap, rfl⟩ := okWide_slice Try.underlying22 (hval 2 22 v2 rfl rfl)
    simp [Value.cells] at hu
    subst hu
    exact ⟨l, hs, hb⟩
  clear hA0 hval0
  refine (walk v0 l0 c1 x1 v2 l2 W e0 e1 e2 q2).mono fun e W' ⟨he, bel⟩ => ?_
  subst he
  exact ⟨_, rfl, _, _, _, [], _, [], hW', trodAll_mk1 (shut_bool Try.underlying4 _), (trodAll_cons_mk (Below.trod laidOut (by kernel_rfl) (of_decide_eq_true (by kernel_rfl)) k0 bel lt0) (trodAll_cons_mk (Below.trod laidOut (by kernel_rfl) (of_decide_eq_true (by kernel_rfl)) k1 bel lt1) (trodAll_cons_mk (Below.trod laidOut (by kernel_rfl) (of_decide_eq_true (by kernel_rfl)) k2 bel lt2) trodAll_mk0))), rfl, bel.frame _, fun h => by cases h⟩

theorem over : Rows.instrAppendsRow.holds Try.pinned (OpenSpec.ofChange Rows.instrAppendsSpec) :=
  OpenClaim.holds_of_wide 4 Try.f4 rfl rfl rfl rfl rfl rfl rfl ⟨rfl, rfl, rfl, rfl, rfl⟩ rfl rfl rfl rfl rfl (by kernel_rfl) Try.func4 (by kernel_rfl)
    (of_decide_eq_true (by kernel_rfl)) (by unfold Func.isWrapper; first | (rw [if_pos (by decide +kernel)]; kernel_rfl) | (rw [if_neg (by decide +kernel)]; exact ⟨rfl, rfl⟩))
    (fun os started H enc _ => lifted os started H enc)

theorem proved : Rows.InstrAppendsSaid := over
#print axioms proved
end Go.Proofs.Ytnjodpgahbpiaaa.instrAppends
