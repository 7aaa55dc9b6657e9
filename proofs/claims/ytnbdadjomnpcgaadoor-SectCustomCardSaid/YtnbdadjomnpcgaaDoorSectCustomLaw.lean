/- gabellelaw05.SectCustom returns true for every input, and each argument reads afterwards as before. No condition. -/
import Derived.Test.YtnbdadjomnpcgaaDoorRows
import Derived.Test.YtnbdadjomnpcgaaDoorTie
import Derived.Test.YtnbdadjomnpcgaaDoorCards
import Derived.WalkKit
import Derived.ProofKit
import Derived.OpenShut
import Derived.ShutString
import Derived.ChangeOld
import Derived.Below
import Derived.LaidMore
import Derived.Lay
import Derived.SevenTiedAt
import Derived.Stop.Joined
import Derived.Test.YtnbdadjomnpcgaaDoorSectW
import Derived.Test.YtnbdadjomnpcgaaDoorKOpen
import Derived.Test.YtnbdadjomnpcgaaDoorUtfL
import Derived.Test.YtnbdadjomnpcgaaDoorSectG
namespace Go.Proofs.YtnbdadjomnpcgaaDoor.sectCustom
open Go.ChangeShapes Go.WideShapes Go.ChangeAt Go.RowKit
open Go.ChangeMaps (open_string shut_string)
set_option linter.unusedVariables false
set_option linter.unusedSimpArgs false

theorem own : ownKnob Tryd.prog.godebug = none := by kernel_rfl
theorem laidOut : laidOutB Tryd.prog = true := by kernel_rfl

theorem walk (v0 : Value) (l0 : List Sec) (a1 : Int) (s2 : ByteArray) (v3 : Value) (l3 : List Int) (w : World) (hL : laidMetH Tryd.prog Rows.sectCustomRow.laid w) (e0 : Sl 2 (ESecB) w.heap v0 l0) (q0 : l0.length * 32 ≤ 140737488351232) (r1 : InR .i64 a1) (z2 : s2.size ≤ maxLen) (q2 : s2.size ≤ 140737488351232) (e3 : Sl 1 (EInt .u8) w.heap v3 l3) (q3 : l3.length * 1 ≤ 140737488351232) :
    Calls Tryd.prog 7 #[v0, .int .i64 a1, .string s2, v3] w fun e w' => e = .returned (.bool true) ∧ Below w.heap.size w w' :=
  Ct.calls (SectCustom_any v0 l0 e0.unB.1 e0.unB.2 a1 r1 s2 (by omega) v3 l3 e3 (by omega) (tabU_laid (by kernel_rfl) hL))
set_option maxRecDepth 100000 in
theorem lifted (os : Os) (started : os.Started) (H : Type) (enc : TypeId × Value → H) :
    ReturnsInHanded {} Tryd.checked os 7 .any (fun w args => (Rows.sectCustomSpec.pre enc Tryd.prog Tryd.f7 Rows.sectCustomRow.domain false w args ∧ laidMetH Tryd.prog Rows.sectCustomRow.laid w) ∧ sizedMet enc Tryd.prog Tryd.f7 (OpenSpec.ofChange Rows.sectCustomSpec) false w args)
      (Rows.sectCustomSpec.post enc Tryd.prog Tryd.f7 false true false false) := by
  refine returnsInHanded_of_change_and (C := Tryd.checked) (X := (fun w _ => laidMetH Tryd.prog Rows.sectCustomRow.laid w)) (fun _ _ _ hh h => h.of_heap hh) own started (by kernel_rfl) Tryd.func7
    (ChangeSpec.witness_shaped (enc := enc) (C := Tryd.checked) (os := os) (X := (fun w _ => laidMetH Tryd.prog Rows.sectCustomRow.laid w)) false (World.laidAll Tryd.prog os Rows.sectCustomRow.laid) #[.slice none 0 0, .int .i64 0, .string ⟨#[]⟩, .slice none 0 0] 8 (World.laidAll_os _ _ _)
      (World.shaped_of_ZipB (by kernel_rfl) (by kernel_rfl)) (by kernel_rfl) (by kernel_rfl) (by kernel_rfl)
      (by rw [MakeChecks.laidMetH_plain _ _ _ (by kernel_rfl)]; exact laidMet_laidAll _ (by kernel_rfl) (by kernel_rfl))) ?_
  intro W base args ds gs before hval0 hW hcnd hreach hL _
  have hval : ∀ (j : Nat) t v, Tryd.f7.params[j]? = some t → args[j]? = some v → Value.okWide Tryd.prog W .any base t v := hval0
  have hW' := hW
  obtain ⟨p, q, hA0, hV, rfl, hfz, hnd⟩ := hW
  have hA : DataW.TrodAll enc Tryd.prog W 0 (fun _ => true) true Tryd.f7.params.toList args.toList ds p := hA0
  rw [Tryd.params7] at hA hval hreach
  obtain ⟨v0, vs0, d0, ds0, p0, q0, hargs, rfl, rfl, h0, r0⟩ := trodAll_cons hA
  obtain ⟨v1, vs1, d1, ds1, p1, q1, rfl, rfl, rfl, h1, r1⟩ := trodAll_cons r0
  obtain ⟨v2, vs2, d2, ds2, p2, q2, rfl, rfl, rfl, h2, r2⟩ := trodAll_cons r1
  obtain ⟨v3, vs3, d3, ds3, p3, q3, rfl, rfl, rfl, h3, r3⟩ := trodAll_cons r2
  obtain ⟨rfl, rfl, rfl⟩ := trodAll_nil r3
  obtain rfl : args = #[v0, v1, v2, v3] := by cases args; simp_all
  obtain ⟨rfl, rfl⟩ := trodVars_none hV
  have k0 := h0
  have lt0 : ∀ x ∈ p0, x.block < W.heap.size := by obtain ⟨m, hm⟩ := k0; exact DataW.trod_lt m _ _ _ hm
  have hwt0 : ∀ n ∈ d0.weights Tryd.prog 24, n ≤ 140737488351232 := by
    have h9 := hreach
    simp only [DataW.weightsEach, List.all_append, Bool.and_eq_true, List.all_eq_true, decide_eq_true_eq, List.cons_append, List.nil_append] at h9
    intro n hn
    first
      | exact h9 n hn
      | exact h9.1 n hn
      | exact h9.2 n hn
      | exact h9.2.1 n hn
      | exact h9.2.2.1 n hn
      | exact h9.2.2.2.1 n hn
      | exact h9 n (by simp [hn])
  obtain ⟨l0, e0, q0⟩ : ∃ l : List Sec, Sl 2 (ESecB) W.heap v0 l ∧ l.length * 32 ≤ 140737488351232 := by
    obtain ⟨fuel, hf⟩ := h0
    obtain ⟨l, u, hu, hs, hb⟩ := (opensW_secs) _ _ _ _ _ _ _ _ _ hf hwt0
    obtain ⟨a, len, cap, rfl⟩ := okWide_slice Tryd.underlying24 (hval 0 24 v0 rfl rfl)
    simp [Value.cells] at hu
    subst hu
    exact ⟨l, hs, hb⟩
  obtain ⟨a1, rfl, rfl, rfl, w1⟩ := open_int Tryd.underlying3 (hval 1 3 v1 rfl rfl) h1
  obtain ⟨s2, rfl, rfl, rfl, w2⟩ := open_string Tryd.underlying9 (hval 2 9 v2 rfl rfl) h2
  have k3 := h3
  have lt3 : ∀ x ∈ p3, x.block < W.heap.size := by obtain ⟨m, hm⟩ := k3; exact DataW.trod_lt m _ _ _ hm
  have hwt3 : ∀ n ∈ d3.weights Tryd.prog 22, n ≤ 140737488351232 := by
    have h9 := hreach
    simp only [DataW.weightsEach, List.all_append, Bool.and_eq_true, List.all_eq_true, decide_eq_true_eq, List.cons_append, List.nil_append] at h9
    intro n hn
    first
      | exact h9 n hn
      | exact h9.1 n hn
      | exact h9.2 n hn
      | exact h9.2.1 n hn
      | exact h9.2.2.1 n hn
      | exact h9.2.2.2.1 n hn
      | exact h9 n (by simp [hn])
  obtain ⟨l3, e3, q3⟩ : ∃ l : List Int, Sl 1 (EInt .u8) W.heap v3 l ∧ l.length * 1 ≤ 140737488351232 := by
    obtain ⟨fuel, hf⟩ := h3
    obtain ⟨l, u, hu, hs, hb⟩ := (opensW_slice (n := 1) (b := 1) Tryd.underlying22 (by kernel_rfl) (by kernel_rfl) (by decide) (opens_int Tryd.underlying5).w) _ _ _ _ _ _ _ _ _ hf hwt3
    obtain ⟨a, len, cap, rfl⟩ := okWide_slice Tryd.underlying22 (hval 3 22 v3 rfl rfl)
    simp [Value.cells] at hu
    subst hu
    exact ⟨l, hs, hb⟩
  have q2 : s2.size ≤ 140737488351232 := by
    have h9 := hreach
    simp [DataW.weightsEach, DataW.weights] at h9
    unfold reachBytes at h9
    have e9 : s2.size = s2.data.size := rfl
    omega
  clear hA0 hval0
  refine (walk v0 l0 a1 s2 v3 l3 W hL e0 q0 (inR_wf.1 w1) w2 q2 e3 q3).mono fun e W' ⟨he, bel⟩ => ?_
  subst he
  exact ⟨_, rfl, _, _, _, [], _, [], hW', trodAll_mk1 (shut_bool Tryd.underlying4 _), (trodAll_cons_mk (Below.trod laidOut (by kernel_rfl) (of_decide_eq_true (by kernel_rfl)) k0 bel lt0) (trodAll_cons_mk (shut_int Tryd.underlying3 w1) (trodAll_cons_mk (shut_string Tryd.underlying9 w2) (trodAll_cons_mk (Below.trod laidOut (by kernel_rfl) (of_decide_eq_true (by kernel_rfl)) k3 bel lt3) trodAll_mk0)))), rfl, bel.frame _, fun h => by cases h⟩

theorem over : Rows.sectCustomRow.holds Tryd.pinned (OpenSpec.ofChange Rows.sectCustomSpec) :=
  OpenClaim.holds_of_wide 7 Tryd.f7 rfl rfl rfl rfl rfl rfl rfl ⟨rfl, rfl, rfl, rfl, rfl⟩ rfl rfl rfl rfl rfl (by kernel_rfl) Tryd.func7 (by kernel_rfl)
    (of_decide_eq_true (by kernel_rfl)) (by unfold Func.isWrapper; first | (rw [if_pos (by decide +kernel)]; kernel_rfl) | (rw [if_neg (by decide +kernel)]; exact ⟨rfl, rfl⟩))
    (fun os started H enc _ => lifted os started H enc)

set_option maxRecDepth 100000 in
theorem proved : Rows.SectCustomCardSaid :=
  Claim7.holds_tied_plain_at .later [] [.data, .pinned] true (true, "b7021b23c2d1a8872b7004bfaeb9f2df72bfd6bb2ceb4c7d45b75eb0a726379b") false over (fun _ h => by cases h) (by kernel_rfl) (fun _ h => by cases h) sectCustom_row_tie rfl ⟨rfl, rfl⟩ (by kernel_rfl) rfl
    (fun f fn hf hfn => by
      obtain rfl : f = 7 := Option.some.inj ((show Tryd.prog.funcNamed "gabelle/gabellelaw05.SectCustom" = some 7 by kernel_rfl).symm.trans hf) |>.symm
      obtain rfl : fn = Tryd.f7 := (Option.some.inj (Tryd.func7.symm.trans hfn)).symm
      exact ⟨by kernel_rfl, fun j t ht => by
        rw [Tryd.params7] at ht
        have hm : t ∈ ([24, 3, 9, 22] : List TypeId) := by simpa using Array.mem_of_getElem? ht
        have hall : (([24, 3, 9, 22] : List TypeId).all fun u => !Tryd.prog.wantsStandIn u) = true := by kernel_rfl
        exact (show Tryd.prog.wantsStandIn t = false by simpa using List.all_eq_true.1 hall t hm)⟩)
    (by kernel_rfl)
#print axioms proved
end Go.Proofs.YtnbdadjomnpcgaaDoor.sectCustom
