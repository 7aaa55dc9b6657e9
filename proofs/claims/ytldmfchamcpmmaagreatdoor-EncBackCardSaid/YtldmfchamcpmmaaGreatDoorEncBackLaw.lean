/- gabellelaw07.EncBack returns true for every input, and each argument reads afterwards as before. No condition. -/
import Derived.Test.YtldmfchamcpmmaaGreatDoorRows
import Derived.Test.YtldmfchamcpmmaaGreatDoorTie
import Derived.Test.YtldmfchamcpmmaaGreatDoorCards
import Derived.WalkKit
import Derived.ProofKit
import Derived.OpenShut
import Derived.ShutString
import Derived.ChangeOld
import Derived.Below
import Derived.LaidMore
import Derived.Lay
import Derived.SevenTiedAt
import Derived.Stop.Joined
import Derived.Test.YtldmfchamcpmmaaGreatDoorEncBackPF
namespace Go.Proofs.YtldmfchamcpmmaaGreatDoor.encBack
open Go.ChangeShapes Go.WideShapes Go.ChangeAt Go.RowKit
open Go.ChangeMaps (open_string shut_string)
set_option linter.unusedVariables false
set_option linter.unusedSimpArgs false

theorem own : ownKnob Tryz.prog.godebug = none := by kernel_rfl
theorem laidOut : laidOutB Tryz.prog = true := by kernel_rfl

theorem walk (c0 : List Value) (x0 : Mo) (v1 : Value) (l1 : List Int) (w : World) (hL : laidMetH Tryz.prog Rows.encBackRow.laid w) (e0 : EMoS w.heap c0 x0) (e1 : Sl 1 (EInt .u8) w.heap v1 l1) :
    Calls Tryz.prog 3 #[.agg c0.toArray, v1] w fun e w' => e = .returned (.bool true) ∧ Below w.heap.size w w' :=
  Ct.calls (by obtain ⟨t, i, f, tb, me, g, e, el, c, d, rfl, mv, hZ⟩ := e0; exact EncBack_any mv hZ e1 (tabU_laid (by kernel_rfl) hL))
set_option maxRecDepth 100000 in
theorem lifted (os : Os) (started : os.Started) (H : Type) (enc : TypeId × Value → H) :
    ReturnsInHanded {} Tryz.checked os 3 .any (fun w args => (Rows.encBackSpec.pre enc Tryz.prog Tryz.f3 Rows.encBackRow.domain false w args ∧ laidMetH Tryz.prog Rows.encBackRow.laid w) ∧ sizedMet enc Tryz.prog Tryz.f3 (OpenSpec.ofChange Rows.encBackSpec) false w args)
      (Rows.encBackSpec.post enc Tryz.prog Tryz.f3 false true false false) := by
  refine returnsInHanded_of_change_and (C := Tryz.checked) (X := (fun w _ => laidMetH Tryz.prog Rows.encBackRow.laid w)) (fun _ _ _ hh h => h.of_heap hh) own started (by kernel_rfl) Tryz.func3
    (ChangeSpec.witness_shaped (enc := enc) (C := Tryz.checked) (os := os) (X := (fun w _ => laidMetH Tryz.prog Rows.encBackRow.laid w)) false (World.laidAll Tryz.prog os Rows.encBackRow.laid) #[.agg #[.slice none 0 0, .slice none 0 0, .slice none 0 0, .slice none 0 0, .slice none 0 0, .slice none 0 0, .slice none 0 0, .bool false, .int .u32 0, .slice none 0 0, .slice none 0 0, .slice none 0 0], .slice none 0 0] 8 (World.laidAll_os _ _ _)
      (World.shaped_of_ZipB (by kernel_rfl) (by kernel_rfl)) (by kernel_rfl) (by kernel_rfl) (by kernel_rfl)
      (by rw [MakeChecks.laidMetH_plain _ _ _ (by kernel_rfl)]; exact laidMet_laidAll _ (by kernel_rfl) (by kernel_rfl))) ?_
  intro W base args ds gs before hval0 hW hcnd hreach hL _
  have hval : ∀ (j : Nat) t v, Tryz.f3.params[j]? = some t → args[j]? = some v → Value.okWide Tryz.prog W .any base t v := hval0
  have hW' := hW
  obtain ⟨p, q, hA0, hV, rfl, hfz, hnd⟩ := hW
  have hA : DataW.TrodAll enc Tryz.prog W 0 (fun _ => true) true Tryz.f3.params.toList args.toList ds p := hA0
  rw [Tryz.params3] at hA hval hreach
  obtain ⟨v0, vs0, d0, ds0, p0, q0, hargs, rfl, rfl, h0, r0⟩ := trodAll_cons hA
  obtain ⟨v1, vs1, d1, ds1, p1, q1, rfl, rfl, rfl, h1, r1⟩ := trodAll_cons r0
  obtain ⟨rfl, rfl, rfl⟩ := trodAll_nil r1
  obtain rfl : args = #[v0, v1] := by cases args; simp_all
  obtain ⟨rfl, rfl⟩ := trodVars_none hV
  have k0 := h0
  have lt0 : ∀ x ∈ p0, x.block < W.heap.size := by obtain ⟨m, hm⟩ := k0; exact DataW.trod_lt m _ _ _ hm
  have hwt0 : ∀ n ∈ d0.weights Tryz.prog 33, n ≤ 140737488351232 := by
    have h9 := hreach
    simp only [DataW.weightsEach, List.all_append, Bool.and_eq_true, List.all_eq_true, decide_eq_true_eq, List.cons_append, List.nil_append] at h9
    intro n hn
    first
      | exact h9 n hn
      | exact h9.1 n hn
      | exact h9.2 n hn
      | exact h9.2.1 n hn
      | exact h9.2.2.1 n hn
      | exact h9.2.2.2.1 n hn
      | exact h9 n (by simp [hn])
  obtain ⟨x0, c0, y0, e0⟩ : ∃ (x : Mo) (cs : List Value), v0 = .agg cs.toArray ∧ EMoS W.heap cs x := by
    obtain ⟨fuel, hf⟩ := h0
    obtain ⟨x, hx⟩ := (opensW_mod) _ _ _ _ _ _ _ _ _ hf hwt0
    obtain ⟨cs, rfl, -⟩ := okWide_struct Tryz.underlying33 (hval 0 33 v0 rfl rfl)
    exact ⟨x, cs.toList, by simp, by simpa [Value.cells] using hx⟩
  subst y0
  have k1 := h1
  have lt1 : ∀ x ∈ p1, x.block < W.heap.size := by obtain ⟨m, hm⟩ := k1; exact DataW.trod_lt m _ _ _ hm
  obtain ⟨l1, e1⟩ : ∃ l : List Int, Sl 1 (EInt .u8) W.heap v1 l := by
    obtain ⟨fuel, hf⟩ := h1
    obtain ⟨l, u, hu, hs⟩ := (opens_slice (n := 1) Tryz.underlying34 (by kernel_rfl) (by decide) (opens_int Tryz.underlying5)) _ _ _ _ _ _ _ _ _ hf
    obtain ⟨a, len, cap, rfl⟩ := okWide_slice Tryz.underlying34 (hval 1 34 v1 rfl rfl)
    simp [Value.cells] at hu
    subst hu
    exact ⟨l, hs⟩
  clear hA0 hval0
  refine (walk c0 x0 v1 l1 W hL e0 e1).mono fun e W' ⟨he, bel⟩ => ?_
  subst he
  exact ⟨_, rfl, _, _, _, [], _, [], hW', trodAll_mk1 (shut_bool Tryz.underlying4 _), (trodAll_cons_mk (Below.trod laidOut (by kernel_rfl) (of_decide_eq_true (by kernel_rfl)) k0 bel lt0) (trodAll_cons_mk (Below.trod laidOut (by kernel_rfl) (of_decide_eq_true (by kernel_rfl)) k1 bel lt1) trodAll_mk0)), rfl, bel.frame _, fun h => by cases h⟩

theorem over : Rows.encBackRow.holds Tryz.pinned (OpenSpec.ofChange Rows.encBackSpec) :=
  OpenClaim.holds_of_wide 3 Tryz.f3 rfl rfl rfl rfl rfl rfl rfl ⟨rfl, rfl, rfl, rfl, rfl⟩ rfl rfl rfl rfl rfl (by kernel_rfl) Tryz.func3 (by kernel_rfl)
    (of_decide_eq_true (by kernel_rfl)) (by unfold Func.isWrapper; first | (rw [if_pos (by decide +kernel)]; kernel_rfl) | (rw [if_neg (by decide +kernel)]; exact ⟨rfl, rfl⟩))
    (fun os started H enc _ => lifted os started H enc)

set_option maxRecDepth 100000 in
theorem proved : Rows.EncBackCardSaid :=
  Claim7.holds_tied_plain_at .later [] [.data, .pinned] true (true, "71c54abfbdf6f5898ec8406407d86a59981210ed31076e1c6582bec08f52db20") true over (fun _ h => by cases h) (by kernel_rfl) (fun _ h => by cases h) encBack_row_tie rfl ⟨rfl, rfl⟩ (by kernel_rfl) rfl
    (fun f fn hf hfn => by
      obtain rfl : f = 3 := Option.some.inj ((show Tryz.prog.funcNamed "gabelle/gabellelaw07.EncBack" = some 3 by kernel_rfl).symm.trans hf) |>.symm
      obtain rfl : fn = Tryz.f3 := (Option.some.inj (Tryz.func3.symm.trans hfn)).symm
      exact ⟨by kernel_rfl, fun j t ht => by
        rw [Tryz.params3] at ht
        have hm : t ∈ ([33, 34] : List TypeId) := by simpa using Array.mem_of_getElem? ht
        have hall : (([33, 34] : List TypeId).all fun u => !Tryz.prog.wantsStandIn u) = true := by kernel_rfl
        exact (show Tryz.prog.wantsStandIn t = false by simpa using List.all_eq_true.1 hall t hm)⟩)
    (by kernel_rfl)
#print axioms proved
end Go.Proofs.YtldmfchamcpmmaaGreatDoor.encBack
