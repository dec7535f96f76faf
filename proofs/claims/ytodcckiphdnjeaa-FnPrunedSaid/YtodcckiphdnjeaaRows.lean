/-
  No cell of these rows narrows 'for every input' (looked for: loops, veiled, ifaces, maps, wideKeys, modest, calm, conditions, laid).
  DERIVED. THE GIVEN ROWS OF THIS SEAT. 5 by the template 'for every input the law returns true; each argument reads behind the call as it read before'; 0 by the template 'total and deterministic' (their statements: YtodcckiphdnjeaaTotals.lean).
  GIVEN WITH THE SEED: the statements are not yours to turn. If you find one false, say at which input.
  Laid BY PROGRAM, IN A SANDBOX (cutbox-rows.mjs): the forced cells as the released guide's own fill.sh prints them over the translation 313fa5b332d209ea… (all of the seat's roots in one cut). By AI agents, Wed Nov 11 2026. No macro, syntax, notation, axiom, sorry.
-/
import Derived.Test.YtodcckiphdnjeaaChecked
import GoSem.Claim
import GoSem.ClaimJoined
import GoSem.ClaimMapViews
import Derived.JoinedTies
import Derived.KernelRfl
namespace Go.Proofs.Ytodcckiphdnjeaa
/- THE CELL 'sum', in the pinned program and in every row, IS THE sha256 OF THE DUMP (.gsa) THAT YtodcckiphdnjeaaProg.lean LOADS. Nothing in Lean hashes anything: it is a label: what it is worth is what the hold of that sum in a sandbox is worth. -/
noncomputable def Try.pinned : Pinned := { name := "ytodcckiphdnjeaa", sum := "313fa5b332d209ea9e99b1ffdcdd09fc74c7dde5807176c9631b805eca9dab10", checked := Try.checked }
namespace Rows
def none {H : Type} : Left H := { results := [], args := [] }

/-- 'laws.FnExactIsUniqueFill': WHATEVER THE INPUT: true; the input reads as it did. -/
def fnExactIsUniqueFillSpec : ChangeSpec := { name := "fnExactIsUniqueFill", fn := fun _ => fun
  | [d1, d2, d3] => { results := [.lit (.bool true)], args := [d1, d2, d3] }
  | _ => none }
def fnExactIsUniqueFillRow : OpenClaim := { program := "ytodcckiphdnjeaa", sum := "313fa5b332d209ea9e99b1ffdcdd09fc74c7dde5807176c9631b805eca9dab10", func := "loop.example/g03003/laws.FnExactIsUniqueFill", spec := "fnExactIsUniqueFill", unfollowed := true, recurses := true, apart := false }
def FnExactIsUniqueFillSaid : Prop := fnExactIsUniqueFillRow.holds Try.pinned (OpenSpec.ofChange fnExactIsUniqueFillSpec)

/-- ITS FALSE NEIGHBOUR: 'it returns false'. Refute it at one input. -/
def fnExactIsUniqueFillWrong : ChangeSpec := { name := "fnExactIsUniqueFill", fn := fun _ => fun
  | [d1, d2, d3] => { results := [.lit (.bool false)], args := [d1, d2, d3] }
  | _ => none }
def FnExactIsUniqueFillWrongFalsely : Prop := fnExactIsUniqueFillRow.holds Try.pinned (OpenSpec.ofChange fnExactIsUniqueFillWrong)

/-- 'laws.FnExactFillGrid': WHATEVER THE INPUT: true; the input reads as it did. -/
def fnExactFillGridSpec : ChangeSpec := { name := "fnExactFillGrid", fn := fun _ => fun
  | [d1, d2, d3] => { results := [.lit (.bool true)], args := [d1, d2, d3] }
  | _ => none }
def fnExactFillGridRow : OpenClaim := { program := "ytodcckiphdnjeaa", sum := "313fa5b332d209ea9e99b1ffdcdd09fc74c7dde5807176c9631b805eca9dab10", func := "loop.example/g03003/laws.FnExactFillGrid", spec := "fnExactFillGrid", unfollowed := true, recurses := true, apart := false }
def FnExactFillGridSaid : Prop := fnExactFillGridRow.holds Try.pinned (OpenSpec.ofChange fnExactFillGridSpec)

/-- ITS FALSE NEIGHBOUR: 'it returns false'. Refute it at one input. -/
def fnExactFillGridWrong : ChangeSpec := { name := "fnExactFillGrid", fn := fun _ => fun
  | [d1, d2, d3] => { results := [.lit (.bool false)], args := [d1, d2, d3] }
  | _ => none }
def FnExactFillGridWrongFalsely : Prop := fnExactFillGridRow.holds Try.pinned (OpenSpec.ofChange fnExactFillGridWrong)

/-- 'laws.FnExactFillsOf': WHATEVER THE INPUT: true; the input reads as it did. -/
def fnExactFillsOfSpec : ChangeSpec := { name := "fnExactFillsOf", fn := fun _ => fun
  | [d1, d2, d3, d4] => { results := [.lit (.bool true)], args := [d1, d2, d3, d4] }
  | _ => none }
def fnExactFillsOfRow : OpenClaim := { program := "ytodcckiphdnjeaa", sum := "313fa5b332d209ea9e99b1ffdcdd09fc74c7dde5807176c9631b805eca9dab10", func := "loop.example/g03003/laws.FnExactFillsOf", spec := "fnExactFillsOf", unfollowed := true, recurses := true, apart := false }
def FnExactFillsOfSaid : Prop := fnExactFillsOfRow.holds Try.pinned (OpenSpec.ofChange fnExactFillsOfSpec)

/-- ITS FALSE NEIGHBOUR: 'it returns false'. Refute it at one input. -/
def fnExactFillsOfWrong : ChangeSpec := { name := "fnExactFillsOf", fn := fun _ => fun
  | [d1, d2, d3, d4] => { results := [.lit (.bool false)], args := [d1, d2, d3, d4] }
  | _ => none }
def FnExactFillsOfWrongFalsely : Prop := fnExactFillsOfRow.holds Try.pinned (OpenSpec.ofChange fnExactFillsOfWrong)

/-- 'laws.FnFilled': WHATEVER THE INPUT: true; the input reads as it did. -/
def fnFilledSpec : ChangeSpec := { name := "fnFilled", fn := fun _ => fun
  | [d] => { results := [.lit (.bool true)], args := [d] }
  | _ => none }
def fnFilledRow : OpenClaim := { program := "ytodcckiphdnjeaa", sum := "313fa5b332d209ea9e99b1ffdcdd09fc74c7dde5807176c9631b805eca9dab10", func := "loop.example/g03003/laws.FnFilled", spec := "fnFilled", unfollowed := true, recurses := true, apart := false }
def FnFilledSaid : Prop := fnFilledRow.holds Try.pinned (OpenSpec.ofChange fnFilledSpec)

/-- ITS FALSE NEIGHBOUR: 'it returns false'. Refute it at one input. -/
def fnFilledWrong : ChangeSpec := { name := "fnFilled", fn := fun _ => fun
  | [d] => { results := [.lit (.bool false)], args := [d] }
  | _ => none }
def FnFilledWrongFalsely : Prop := fnFilledRow.holds Try.pinned (OpenSpec.ofChange fnFilledWrong)

/-- 'laws.FnPruned': WHATEVER THE INPUT: true; the input reads as it did. -/
def fnPrunedSpec : ChangeSpec := { name := "fnPruned", fn := fun _ => fun
  | [d] => { results := [.lit (.bool true)], args := [d] }
  | _ => none }
def fnPrunedRow : OpenClaim := { program := "ytodcckiphdnjeaa", sum := "313fa5b332d209ea9e99b1ffdcdd09fc74c7dde5807176c9631b805eca9dab10", func := "loop.example/g03003/laws.FnPruned", spec := "fnPruned", unfollowed := true, recurses := true, apart := false }
def FnPrunedSaid : Prop := fnPrunedRow.holds Try.pinned (OpenSpec.ofChange fnPrunedSpec)

/-- ITS FALSE NEIGHBOUR: 'it returns false'. Refute it at one input. -/
def fnPrunedWrong : ChangeSpec := { name := "fnPruned", fn := fun _ => fun
  | [d] => { results := [.lit (.bool false)], args := [d] }
  | _ => none }
def FnPrunedWrongFalsely : Prop := fnPrunedRow.holds Try.pinned (OpenSpec.ofChange fnPrunedWrong)

/- THE SECOND FORM. 'bulk': how many values and letters a reading holds, each counted each time it is reached (what is shared counts as often as it is met; a slice's spare places count too). A statement '..UptoSaid' is the law's where the arguments, and the package variables that the reading takes, are together of bulk at most 1048576: NARROWER than '..Said'. Prove '..Said' where nothing that the law and all that it calls make is longer than what came in: it says more and counts as full. Else prove '..UptoSaid'. A law counts once. -/
mutual
def uptoBulk {H : Type} : DataW H → Nat
  | .lit (.string bytes) => bytes.length + 1
  | .lit _ => 1
  | .nil => 1
  | .ptr d => uptoBulk d + 1
  | .slice elems spare => uptoBulkAll elems + uptoBulkAll spare + 1
  | .agg parts => uptoBulkAll parts + 1
  | .iface _ d => uptoBulk d + 1
  | .map entries => uptoBulkEntries entries + 1
  | .held _ => 1
def uptoBulkAll {H : Type} : List (DataW H) → Nat
  | [] => 0
  | d :: r => uptoBulk d + uptoBulkAll r
def uptoBulkEntries {H : Type} : List (Lit × DataW H) → Nat
  | [] => 0
  | x :: r => uptoBulkEntry x + uptoBulkEntries r
def uptoBulkEntry {H : Type} : Lit × DataW H → Nat
  | (.string bytes, d) => bytes.length + uptoBulk d + 1
  | (_, d) => uptoBulk d + 1
 end
def uptoSmall : (H : Type) → List (DataW H) → Bool := fun _ ds => decide (uptoBulkAll ds ≤ 1048576)
def OpenSpec.upto (s : _root_.Go.ChangeSpec) : _root_.Go.OpenSpec := { _root_.Go.OpenSpec.ofChange s with cond := some uptoSmall }

/-- 'laws.FnExactIsUniqueFill', WHERE WHAT IT READS IS OF BULK AT MOST 1048576: true; the input reads as it did. -/
def fnExactIsUniqueFillUptoRow : OpenClaim := { program := "ytodcckiphdnjeaa", sum := "313fa5b332d209ea9e99b1ffdcdd09fc74c7dde5807176c9631b805eca9dab10", func := "loop.example/g03003/laws.FnExactIsUniqueFill", spec := "fnExactIsUniqueFill", unfollowed := true, recurses := true, apart := false, narrowed := true }
def FnExactIsUniqueFillUptoSaid : Prop := fnExactIsUniqueFillUptoRow.holds Try.pinned (OpenSpec.upto fnExactIsUniqueFillSpec)

/-- 'laws.FnExactFillGrid', WHERE WHAT IT READS IS OF BULK AT MOST 1048576: true; the input reads as it did. -/
def fnExactFillGridUptoRow : OpenClaim := { program := "ytodcckiphdnjeaa", sum := "313fa5b332d209ea9e99b1ffdcdd09fc74c7dde5807176c9631b805eca9dab10", func := "loop.example/g03003/laws.FnExactFillGrid", spec := "fnExactFillGrid", unfollowed := true, recurses := true, apart := false, narrowed := true }
def FnExactFillGridUptoSaid : Prop := fnExactFillGridUptoRow.holds Try.pinned (OpenSpec.upto fnExactFillGridSpec)

/-- 'laws.FnExactFillsOf', WHERE WHAT IT READS IS OF BULK AT MOST 1048576: true; the input reads as it did. -/
def fnExactFillsOfUptoRow : OpenClaim := { program := "ytodcckiphdnjeaa", sum := "313fa5b332d209ea9e99b1ffdcdd09fc74c7dde5807176c9631b805eca9dab10", func := "loop.example/g03003/laws.FnExactFillsOf", spec := "fnExactFillsOf", unfollowed := true, recurses := true, apart := false, narrowed := true }
def FnExactFillsOfUptoSaid : Prop := fnExactFillsOfUptoRow.holds Try.pinned (OpenSpec.upto fnExactFillsOfSpec)

/-- 'laws.FnFilled', WHERE WHAT IT READS IS OF BULK AT MOST 1048576: true; the input reads as it did. -/
def fnFilledUptoRow : OpenClaim := { program := "ytodcckiphdnjeaa", sum := "313fa5b332d209ea9e99b1ffdcdd09fc74c7dde5807176c9631b805eca9dab10", func := "loop.example/g03003/laws.FnFilled", spec := "fnFilled", unfollowed := true, recurses := true, apart := false, narrowed := true }
def FnFilledUptoSaid : Prop := fnFilledUptoRow.holds Try.pinned (OpenSpec.upto fnFilledSpec)

/-- 'laws.FnPruned', WHERE WHAT IT READS IS OF BULK AT MOST 1048576: true; the input reads as it did. -/
def fnPrunedUptoRow : OpenClaim := { program := "ytodcckiphdnjeaa", sum := "313fa5b332d209ea9e99b1ffdcdd09fc74c7dde5807176c9631b805eca9dab10", func := "loop.example/g03003/laws.FnPruned", spec := "fnPruned", unfollowed := true, recurses := true, apart := false, narrowed := true }
def FnPrunedUptoSaid : Prop := fnPrunedUptoRow.holds Try.pinned (OpenSpec.upto fnPrunedSpec)

end Rows
end Go.Proofs.Ytodcckiphdnjeaa
