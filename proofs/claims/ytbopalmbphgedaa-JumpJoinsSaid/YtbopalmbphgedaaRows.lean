/-
  No cell of these rows narrows 'for every input' (looked for: loops, veiled, ifaces, maps, wideKeys, modest, calm, conditions, laid).
  DERIVED. THE GIVEN ROWS OF THIS SEAT. 4 by the template 'for every input the law returns true; each argument reads behind the call as it read before'; 0 by the template 'total and deterministic' (their statements: YtbopalmbphgedaaTotals.lean).
  GIVEN WITH THE SEED: the statements are not yours to turn. If you find one false, say at which input.
  Laid BY PROGRAM, IN A SANDBOX (cutbox-rows.mjs): the forced cells as the released guide's own fill.sh prints them over the translation f0ff25af63c199db… (all of the seat's roots in one cut). By AI agents, Wed Nov 11 2026. No macro, syntax, notation, axiom, sorry.
-/
import Derived.Test.YtbopalmbphgedaaChecked
import GoSem.Claim
import GoSem.ClaimJoined
import GoSem.ClaimMapViews
import Derived.JoinedTies
import Derived.KernelRfl
namespace Go.Proofs.Ytbopalmbphgedaa
/- THE CELL 'sum', in the pinned program and in every row, IS THE sha256 OF THE DUMP (.gsa) THAT YtbopalmbphgedaaProg.lean LOADS. Nothing in Lean hashes anything: it is a label: what it is worth is what the hold of that sum in a sandbox is worth. -/
noncomputable def Try.pinned : Pinned := { name := "ytbopalmbphgedaa", sum := "f0ff25af63c199db954f7247247295db7b746ae66e4ca0f9d685ebc20577bf5c", checked := Try.checked }
namespace Rows
def none {H : Type} : Left H := { results := [], args := [] }

/-- 'gabellelaw19.JumpKnown': WHATEVER THE INPUT: true; the input reads as it did. -/
def jumpKnownSpec : ChangeSpec := { name := "jumpKnown", fn := fun _ => fun
  | [] => { results := [.lit (.bool true)], args := [] }
  | _ => none }
def jumpKnownRow : OpenClaim := { program := "ytbopalmbphgedaa", sum := "f0ff25af63c199db954f7247247295db7b746ae66e4ca0f9d685ebc20577bf5c", func := "gabelle/gabellelaw19.JumpKnown", spec := "jumpKnown", unfollowed := true, recurses := true, apart := false }
def JumpKnownSaid : Prop := jumpKnownRow.holds Try.pinned (OpenSpec.ofChange jumpKnownSpec)

/-- ITS FALSE NEIGHBOUR: 'it returns false'. Refute it at one input. -/
def jumpKnownWrong : ChangeSpec := { name := "jumpKnown", fn := fun _ => fun
  | [] => { results := [.lit (.bool false)], args := [] }
  | _ => none }
def JumpKnownWrongFalsely : Prop := jumpKnownRow.holds Try.pinned (OpenSpec.ofChange jumpKnownWrong)

/-- 'gabellelaw19.JumpTells': WHATEVER THE INPUT: true; the input reads as it did. -/
def jumpTellsSpec : ChangeSpec := { name := "jumpTells", fn := fun _ => fun
  | [d] => { results := [.lit (.bool true)], args := [d] }
  | _ => none }
def jumpTellsRow : OpenClaim := { program := "ytbopalmbphgedaa", sum := "f0ff25af63c199db954f7247247295db7b746ae66e4ca0f9d685ebc20577bf5c", func := "gabelle/gabellelaw19.JumpTells", spec := "jumpTells", unfollowed := true, recurses := true, apart := false }
def JumpTellsSaid : Prop := jumpTellsRow.holds Try.pinned (OpenSpec.ofChange jumpTellsSpec)

/-- ITS FALSE NEIGHBOUR: 'it returns false'. Refute it at one input. -/
def jumpTellsWrong : ChangeSpec := { name := "jumpTells", fn := fun _ => fun
  | [d] => { results := [.lit (.bool false)], args := [d] }
  | _ => none }
def JumpTellsWrongFalsely : Prop := jumpTellsRow.holds Try.pinned (OpenSpec.ofChange jumpTellsWrong)

/-- 'gabellelaw19.JumpNests': WHATEVER THE INPUT: true; the input reads as it did. -/
def jumpNestsSpec : ChangeSpec := { name := "jumpNests", fn := fun _ => fun
  | [d] => { results := [.lit (.bool true)], args := [d] }
  | _ => none }
def jumpNestsRow : OpenClaim := { program := "ytbopalmbphgedaa", sum := "f0ff25af63c199db954f7247247295db7b746ae66e4ca0f9d685ebc20577bf5c", func := "gabelle/gabellelaw19.JumpNests", spec := "jumpNests", unfollowed := true, recurses := true, apart := false }
def JumpNestsSaid : Prop := jumpNestsRow.holds Try.pinned (OpenSpec.ofChange jumpNestsSpec)

/-- ITS FALSE NEIGHBOUR: 'it returns false'. Refute it at one input. -/
def jumpNestsWrong : ChangeSpec := { name := "jumpNests", fn := fun _ => fun
  | [d] => { results := [.lit (.bool false)], args := [d] }
  | _ => none }
def JumpNestsWrongFalsely : Prop := jumpNestsRow.holds Try.pinned (OpenSpec.ofChange jumpNestsWrong)

/-- 'gabellelaw19.JumpJoins': WHATEVER THE INPUT: true; the input reads as it did. -/
def jumpJoinsSpec : ChangeSpec := { name := "jumpJoins", fn := fun _ => fun
  | [d1, d2, d3] => { results := [.lit (.bool true)], args := [d1, d2, d3] }
  | _ => none }
def jumpJoinsRow : OpenClaim := { program := "ytbopalmbphgedaa", sum := "f0ff25af63c199db954f7247247295db7b746ae66e4ca0f9d685ebc20577bf5c", func := "gabelle/gabellelaw19.JumpJoins", spec := "jumpJoins", unfollowed := true, recurses := true, apart := false }
def JumpJoinsSaid : Prop := jumpJoinsRow.holds Try.pinned (OpenSpec.ofChange jumpJoinsSpec)

/-- ITS FALSE NEIGHBOUR: 'it returns false'. Refute it at one input. -/
def jumpJoinsWrong : ChangeSpec := { name := "jumpJoins", fn := fun _ => fun
  | [d1, d2, d3] => { results := [.lit (.bool false)], args := [d1, d2, d3] }
  | _ => none }
def JumpJoinsWrongFalsely : Prop := jumpJoinsRow.holds Try.pinned (OpenSpec.ofChange jumpJoinsWrong)

/- THE SECOND FORM. 'bulk': how many values and letters a reading holds, each counted each time it is reached (what is shared counts as often as it is met; a slice's spare places count too). A statement '..UptoSaid' is the law's where the arguments, and the package variables that the reading takes, are together of bulk at most 1048576: NARROWER than '..Said'. Prove '..Said' where nothing that the law and all that it calls make is longer than what came in: it says more and counts as full. Else prove '..UptoSaid'. A law counts once. -/
mutual
def uptoBulk {H : Type} : DataW H → Nat
  | .lit (.string bytes) => bytes.length + 1
  | .lit _ => 1
  | .nil => 1
  | .ptr d => uptoBulk d + 1
  | .slice elems spare => uptoBulkAll elems + uptoBulkAll spare + 1
  | .agg parts => uptoBulkAll parts + 1
  | .iface _ d => uptoBulk d + 1
  | .map entries => uptoBulkEntries entries + 1
  | .held _ => 1
def uptoBulkAll {H : Type} : List (DataW H) → Nat
  | [] => 0
  | d :: r => uptoBulk d + uptoBulkAll r
def uptoBulkEntries {H : Type} : List (Lit × DataW H) → Nat
  | [] => 0
  | x :: r => uptoBulkEntry x + uptoBulkEntries r
def uptoBulkEntry {H : Type} : Lit × DataW H → Nat
  | (.string bytes, d) => bytes.length + uptoBulk d + 1
  | (_, d) => uptoBulk d + 1
 end
def uptoSmall : (H : Type) → List (DataW H) → Bool := fun _ ds => decide (uptoBulkAll ds ≤ 1048576)
def OpenSpec.upto (s : _root_.Go.ChangeSpec) : _root_.Go.OpenSpec := { _root_.Go.OpenSpec.ofChange s with cond := some uptoSmall }

/-- 'gabellelaw19.JumpKnown', WHERE WHAT IT READS IS OF BULK AT MOST 1048576: true; the input reads as it did. -/
def jumpKnownUptoRow : OpenClaim := { program := "ytbopalmbphgedaa", sum := "f0ff25af63c199db954f7247247295db7b746ae66e4ca0f9d685ebc20577bf5c", func := "gabelle/gabellelaw19.JumpKnown", spec := "jumpKnown", unfollowed := true, recurses := true, apart := false, narrowed := true }
def JumpKnownUptoSaid : Prop := jumpKnownUptoRow.holds Try.pinned (OpenSpec.upto jumpKnownSpec)

/-- 'gabellelaw19.JumpTells', WHERE WHAT IT READS IS OF BULK AT MOST 1048576: true; the input reads as it did. -/
def jumpTellsUptoRow : OpenClaim := { program := "ytbopalmbphgedaa", sum := "f0ff25af63c199db954f7247247295db7b746ae66e4ca0f9d685ebc20577bf5c", func := "gabelle/gabellelaw19.JumpTells", spec := "jumpTells", unfollowed := true, recurses := true, apart := false, narrowed := true }
def JumpTellsUptoSaid : Prop := jumpTellsUptoRow.holds Try.pinned (OpenSpec.upto jumpTellsSpec)

/-- 'gabellelaw19.JumpNests', WHERE WHAT IT READS IS OF BULK AT MOST 1048576: true; the input reads as it did. -/
def jumpNestsUptoRow : OpenClaim := { program := "ytbopalmbphgedaa", sum := "f0ff25af63c199db954f7247247295db7b746ae66e4ca0f9d685ebc20577bf5c", func := "gabelle/gabellelaw19.JumpNests", spec := "jumpNests", unfollowed := true, recurses := true, apart := false, narrowed := true }
def JumpNestsUptoSaid : Prop := jumpNestsUptoRow.holds Try.pinned (OpenSpec.upto jumpNestsSpec)

/-- 'gabellelaw19.JumpJoins', WHERE WHAT IT READS IS OF BULK AT MOST 1048576: true; the input reads as it did. -/
def jumpJoinsUptoRow : OpenClaim := { program := "ytbopalmbphgedaa", sum := "f0ff25af63c199db954f7247247295db7b746ae66e4ca0f9d685ebc20577bf5c", func := "gabelle/gabellelaw19.JumpJoins", spec := "jumpJoins", unfollowed := true, recurses := true, apart := false, narrowed := true }
def JumpJoinsUptoSaid : Prop := jumpJoinsUptoRow.holds Try.pinned (OpenSpec.upto jumpJoinsSpec)

end Rows
end Go.Proofs.Ytbopalmbphgedaa
