/- gabellelaw05.SectCut returns true for every input, and each argument reads afterwards as before. No condition. -/
import Derived.Test.YtnbdadjomnpcgaaDoorRows
import Derived.Test.YtnbdadjomnpcgaaDoorTie
import Derived.Test.YtnbdadjomnpcgaaDoorCards
import Derived.WalkKit
import Derived.ProofKit
import Derived.OpenShut
import Derived.ShutString
import Derived.ChangeOld
import Derived.Below
import Derived.LaidMore
import Derived.Lay
import Derived.SevenTiedAt
import Derived.Stop.Joined
import Derived.Test.YtnbdadjomnpcgaaDoorSectW
import Derived.Test.YtnbdadjomnpcgaaDoorKOpen
import Derived.Test.YtnbdadjomnpcgaaDoorUtfL
import Derived.Test.YtnbdadjomnpcgaaDoorSectF
namespace Go.Proofs.YtnbdadjomnpcgaaDoor.sectCut
open Go.ChangeShapes Go.WideShapes Go.ChangeAt Go.RowKit
open Go.ChangeMaps (open_string shut_string)
set_option linter.unusedVariables false
set_option linter.unusedSimpArgs false

theorem own : ownKnob Tryd.prog.godebug = none := by kernel_rfl
theorem laidOut : laidOutB Tryd.prog = true := by kernel_rfl

theorem walk (v0 : Value) (l0 : List Int) (a1 : Int) (w : World) (hL : laidMetH Tryd.prog Rows.sectCutRow.laid w) (e0 : Sl 1 (EInt .u8) w.heap v0 l0) (q0 : l0.length * 1 ≤ 140737488351232) (r1 : InR .i64 a1) :
    Calls Tryd.prog 6 #[v0, .int .i64 a1] w fun e w' => e = .returned (.bool true) ∧ Below w.heap.size w w' :=
  Ct.calls (SectCut_any v0 l0 e0 (by omega) a1 r1 (tabU_laid (by kernel_rfl) hL))
set_option maxRecDepth 100000 in
theorem lifted (os : Os) (started : os.Started) (H : Type) (enc : TypeId × Value → H) :
    ReturnsInHanded {} Tryd.checked os 6 .any (fun w args => (Rows.sectCutSpec.pre enc Tryd.prog Tryd.f6 Rows.sectCutRow.domain false w args ∧ laidMetH Tryd.prog Rows.sectCutRow.laid w) ∧ sizedMet enc Tryd.prog Tryd.f6 (OpenSpec.ofChange Rows.sectCutSpec) false w args)
      (Rows.sectCutSpec.post enc Tryd.prog Tryd.f6 false true false false) := by
  refine returnsInHanded_of_change_and (C := Tryd.checked) (X := (fun w _ => laidMetH Tryd.prog Rows.sectCutRow.laid w)) (fun _ _ _ hh h => h.of_heap hh) own started (by kernel_rfl) Tryd.func6
    (ChangeSpec.witness_shaped (enc := enc) (C := Tryd.checked) (os := os) (X := (fun w _ => laidMetH Tryd.prog Rows.sectCutRow.laid w)) false (World.laidAll Tryd.prog os Rows.sectCutRow.laid) #[.slice none 0 0, .int .i64 0] 8 (World.laidAll_os _ _ _)
      (World.shaped_of_ZipB (by kernel_rfl) (by kernel_rfl)) (by kernel_rfl) (by kernel_rfl) (by kernel_rfl)
      (by rw [MakeChecks.laidMetH_plain _ _ _ (by kernel_rfl)]; exact laidMet_laidAll _ (by kernel_rfl) (by kernel_rfl))) ?_
  intro W base args ds gs before hval0 hW hcnd hreach hL _
  have hval : ∀ (j : Nat) t v, Tryd.f6.params[j]? = some t → args[j]? = some v → Value.okWide Tryd.prog W .any base t v := hval0
  have hW' := hW
  obtain ⟨p, q, hA0, hV, rfl, hfz, hnd⟩ := hW
  have hA : DataW.TrodAll enc Tryd.prog W 0 (fun _ => true) true Tryd.f6.params.toList args.toList ds p := hA0
  rw [Tryd.params6] at hA hval hreach
  obtain ⟨v0, vs0, d0, ds0, p0, q0, hargs, rfl, rfl, h0, r0⟩ := trodAll_cons hA
  obtain ⟨v1, vs1, d1, ds1, p1, q1, rfl, rfl, rfl, h1, r1⟩ := trodAll_cons r0
  obtain ⟨rfl, rfl, rfl⟩ := trodAll_nil r1
  obtain rfl : args = #[v0, v1] := by cases args; simp_all
  obtain ⟨rfl, rfl⟩ := trodVars_none hV
  have k0 := h0
  have lt0 : ∀ x ∈ p0, x.block < W.heap.size := by obtain ⟨m, hm⟩ := k0; exact DataW.trod_lt m _ _ _ hm
  have hwt0 : ∀ n ∈ d0.weights Tryd.prog 22, n ≤ 140737488351232 := by
    have h9 := hreach
    simp only [DataW.weightsEach, List.all_append, Bool.and_eq_true, List.all_eq_true, decide_eq_true_eq, List.cons_append, List.nil_append] at h9
    intro n hn
    first
      | exact h9 n hn
      | exact h9.1 n hn
      | exact h9.2 n hn
      | exact h9.2.1 n hn
      | exact h9.2.2.1 n hn
      | exact h9.2.2.2.1 n hn
      | exact h9 n (by simp [hn])
  obtain ⟨l0, e0, q0⟩ : ∃ l : List Int, Sl 1 (EInt .u8) W.heap v0 l ∧ l.length * 1 ≤ 140737488351232 := by
    obtain ⟨fuel, hf⟩ := h0
    obtain ⟨l, u, hu, hs, hb⟩ := (opensW_slice (n := 1) (b := 1) Tryd.underlying22 (by kernel_rfl) (by kernel_rfl) (by decide) (opens_int Tryd.underlying5).w) _ _ _ _ _ _ _ _ _ hf hwt0
    obtain ⟨a, len, cap, rfl⟩ := okWide_slice Tryd.underlying22 (hval 0 22 v0 rfl rfl)
    simp [Value.cells] at hu
    subst hu
    exact ⟨l, hs, hb⟩
  obtain ⟨a1, rfl, rfl, rfl, w1⟩ := open_int Tryd.underlying3 (hval 1 3 v1 rfl rfl) h1
  clear hA0 hval0
  refine (walk v0 l0 a1 W hL e0 q0 (inR_wf.1 w1)).mono fun e W' ⟨he, bel⟩ => ?_
  subst he
  exact ⟨_, rfl, _, _, _, [], _, [], hW', trodAll_mk1 (shut_bool Tryd.underlying4 _), (trodAll_cons_mk (Below.trod laidOut (by kernel_rfl) (of_decide_eq_true (by kernel_rfl)) k0 bel lt0) (trodAll_cons_mk (shut_int Tryd.underlying3 w1) trodAll_mk0)), rfl, bel.frame _, fun h => by cases h⟩

theorem over : Rows.sectCutRow.holds Tryd.pinned (OpenSpec.ofChange Rows.sectCutSpec) :=
  OpenClaim.holds_of_wide 6 Tryd.f6 rfl rfl rfl rfl rfl rfl rfl ⟨rfl, rfl, rfl, rfl, rfl⟩ rfl rfl rfl rfl rfl (by kernel_rfl) Tryd.func6 (by kernel_rfl)
    (of_decide_eq_true (by kernel_rfl)) (by unfold Func.isWrapper; first | (rw [if_pos (by decide +kernel)]; kernel_rfl) | (rw [if_neg (by decide +kernel)]; exact ⟨rfl, rfl⟩))
    (fun os started H enc _ => lifted os started H enc)

set_option maxRecDepth 100000 in
theorem proved : Rows.SectCutCardSaid :=
  Claim7.holds_tied_plain_at .later [] [.data, .pinned] true (true, "b7021b23c2d1a8872b7004bfaeb9f2df72bfd6bb2ceb4c7d45b75eb0a726379b") false over (fun _ h => by cases h) (by kernel_rfl) (fun _ h => by cases h) sectCut_row_tie rfl ⟨rfl, rfl⟩ (by kernel_rfl) rfl
    (fun f fn hf hfn => by
      obtain rfl : f = 6 := Option.some.inj ((show Tryd.prog.funcNamed "gabelle/gabellelaw05.SectCut" = some 6 by kernel_rfl).symm.trans hf) |>.symm
      obtain rfl : fn = Tryd.f6 := (Option.some.inj (Tryd.func6.symm.trans hfn)).symm
      exact ⟨by kernel_rfl, fun j t ht => by
        rw [Tryd.params6] at ht
        have hm : t ∈ ([22, 3] : List TypeId) := by simpa using Array.mem_of_getElem? ht
        have hall : (([22, 3] : List TypeId).all fun u => !Tryd.prog.wantsStandIn u) = true := by kernel_rfl
        exact (show Tryd.prog.wantsStandIn t = false by simpa using List.all_eq_true.1 hall t hm)⟩)
    (by kernel_rfl)
#print axioms proved
end Go.Proofs.YtnbdadjomnpcgaaDoor.sectCut
