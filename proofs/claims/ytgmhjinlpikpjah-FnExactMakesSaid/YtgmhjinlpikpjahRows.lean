/-
  No cell of these rows narrows 'for every input' (looked for: loops, veiled, ifaces, maps, wideKeys, modest, calm, conditions, laid).
  DERIVED. THE GIVEN ROWS OF THIS SEAT. 5 by the template 'for every input the law returns true; each argument reads behind the call as it read before'; 0 by the template 'total and deterministic' (their statements: YtgmhjinlpikpjahTotals.lean).
  GIVEN WITH THE SEED: the statements are not yours to turn. If you find one false, say at which input.
  Laid BY PROGRAM, IN A SANDBOX (cutbox-rows.mjs): the forced cells as the released guide's own fill.sh prints them over the translation fb2cca0b54cf661a… (all of the seat's roots in one cut). By AI agents, Wed Nov 11 2026. No macro, syntax, notation, axiom, sorry.
-/
import Derived.Test.YtgmhjinlpikpjahChecked
import GoSem.Claim
import GoSem.ClaimJoined
import GoSem.ClaimMapViews
import Derived.JoinedTies
import Derived.KernelRfl
namespace Go.Proofs.Ytgmhjinlpikpjah
/- THE CELL 'sum', in the pinned program and in every row, IS THE sha256 OF THE DUMP (.gsa) THAT YtgmhjinlpikpjahProg.lean LOADS. Nothing in Lean hashes anything: it is a label: what it is worth is what the hold of that sum in a sandbox is worth. -/
noncomputable def Try.pinned : Pinned := { name := "ytgmhjinlpikpjah", sum := "fb2cca0b54cf661af5f8619a99003b0d01c99baaec3e2ec6df6f87fe8d3b79a7", checked := Try.checked }
namespace Rows
def none {H : Type} : Left H := { results := [], args := [] }

/-- 'laws.FnCrossings': WHATEVER THE INPUT: true; the input reads as it did. -/
def fnCrossingsSpec : ChangeSpec := { name := "fnCrossings", fn := fun _ => fun
  | [d] => { results := [.lit (.bool true)], args := [d] }
  | _ => none }
def fnCrossingsRow : OpenClaim := { program := "ytgmhjinlpikpjah", sum := "fb2cca0b54cf661af5f8619a99003b0d01c99baaec3e2ec6df6f87fe8d3b79a7", func := "loop.example/g03003/laws.FnCrossings", spec := "fnCrossings", recurses := true, apart := false }
def FnCrossingsSaid : Prop := fnCrossingsRow.holds Try.pinned (OpenSpec.ofChange fnCrossingsSpec)

/-- ITS FALSE NEIGHBOUR: 'it returns false'. Refute it at one input. -/
def fnCrossingsWrong : ChangeSpec := { name := "fnCrossings", fn := fun _ => fun
  | [d] => { results := [.lit (.bool false)], args := [d] }
  | _ => none }
def FnCrossingsWrongFalsely : Prop := fnCrossingsRow.holds Try.pinned (OpenSpec.ofChange fnCrossingsWrong)

/-- 'laws.FnExactCrossedBy': WHATEVER THE INPUT: true; the input reads as it did. -/
def fnExactCrossedBySpec : ChangeSpec := { name := "fnExactCrossedBy", fn := fun _ => fun
  | [d1, d2] => { results := [.lit (.bool true)], args := [d1, d2] }
  | _ => none }
def fnExactCrossedByRow : OpenClaim := { program := "ytgmhjinlpikpjah", sum := "fb2cca0b54cf661af5f8619a99003b0d01c99baaec3e2ec6df6f87fe8d3b79a7", func := "loop.example/g03003/laws.FnExactCrossedBy", spec := "fnExactCrossedBy", recurses := true, apart := false }
def FnExactCrossedBySaid : Prop := fnExactCrossedByRow.holds Try.pinned (OpenSpec.ofChange fnExactCrossedBySpec)

/-- ITS FALSE NEIGHBOUR: 'it returns false'. Refute it at one input. -/
def fnExactCrossedByWrong : ChangeSpec := { name := "fnExactCrossedBy", fn := fun _ => fun
  | [d1, d2] => { results := [.lit (.bool false)], args := [d1, d2] }
  | _ => none }
def FnExactCrossedByWrongFalsely : Prop := fnExactCrossedByRow.holds Try.pinned (OpenSpec.ofChange fnExactCrossedByWrong)

/-- 'laws.FnExactMakes': WHATEVER THE INPUT: true; the input reads as it did. -/
def fnExactMakesSpec : ChangeSpec := { name := "fnExactMakes", fn := fun _ => fun
  | [d1, d2] => { results := [.lit (.bool true)], args := [d1, d2] }
  | _ => none }
def fnExactMakesRow : OpenClaim := { program := "ytgmhjinlpikpjah", sum := "fb2cca0b54cf661af5f8619a99003b0d01c99baaec3e2ec6df6f87fe8d3b79a7", func := "loop.example/g03003/laws.FnExactMakes", spec := "fnExactMakes", recurses := true, apart := false }
def FnExactMakesSaid : Prop := fnExactMakesRow.holds Try.pinned (OpenSpec.ofChange fnExactMakesSpec)

/-- ITS FALSE NEIGHBOUR: 'it returns false'. Refute it at one input. -/
def fnExactMakesWrong : ChangeSpec := { name := "fnExactMakes", fn := fun _ => fun
  | [d1, d2] => { results := [.lit (.bool false)], args := [d1, d2] }
  | _ => none }
def FnExactMakesWrongFalsely : Prop := fnExactMakesRow.holds Try.pinned (OpenSpec.ofChange fnExactMakesWrong)

/-- 'laws.FnPruned': WHATEVER THE INPUT: true; the input reads as it did. -/
def fnPrunedSpec : ChangeSpec := { name := "fnPruned", fn := fun _ => fun
  | [d] => { results := [.lit (.bool true)], args := [d] }
  | _ => none }
def fnPrunedRow : OpenClaim := { program := "ytgmhjinlpikpjah", sum := "fb2cca0b54cf661af5f8619a99003b0d01c99baaec3e2ec6df6f87fe8d3b79a7", func := "loop.example/g03003/laws.FnPruned", spec := "fnPruned", unfollowed := true, recurses := true, apart := false }
def FnPrunedSaid : Prop := fnPrunedRow.holds Try.pinned (OpenSpec.ofChange fnPrunedSpec)

/-- ITS FALSE NEIGHBOUR: 'it returns false'. Refute it at one input. -/
def fnPrunedWrong : ChangeSpec := { name := "fnPruned", fn := fun _ => fun
  | [d] => { results := [.lit (.bool false)], args := [d] }
  | _ => none }
def FnPrunedWrongFalsely : Prop := fnPrunedRow.holds Try.pinned (OpenSpec.ofChange fnPrunedWrong)

/-- 'laws.FnForms': WHATEVER THE INPUT: true; the input reads as it did. -/
def fnFormsSpec : ChangeSpec := { name := "fnForms", fn := fun _ => fun
  | [d] => { results := [.lit (.bool true)], args := [d] }
  | _ => none }
def fnFormsRow : OpenClaim := { program := "ytgmhjinlpikpjah", sum := "fb2cca0b54cf661af5f8619a99003b0d01c99baaec3e2ec6df6f87fe8d3b79a7", func := "loop.example/g03003/laws.FnForms", spec := "fnForms", unfollowed := true, recurses := true, apart := false }
def FnFormsSaid : Prop := fnFormsRow.holds Try.pinned (OpenSpec.ofChange fnFormsSpec)

/-- ITS FALSE NEIGHBOUR: 'it returns false'. Refute it at one input. -/
def fnFormsWrong : ChangeSpec := { name := "fnForms", fn := fun _ => fun
  | [d] => { results := [.lit (.bool false)], args := [d] }
  | _ => none }
def FnFormsWrongFalsely : Prop := fnFormsRow.holds Try.pinned (OpenSpec.ofChange fnFormsWrong)

/- THE SECOND FORM. 'bulk': how many values and letters a reading holds, each counted each time it is reached (what is shared counts as often as it is met; a slice's spare places count too). A statement '..UptoSaid' is the law's where the arguments, and the package variables that the reading takes, are together of bulk at most 1048576: NARROWER than '..Said'. Prove '..Said' where nothing that the law and all that it calls make is longer than what came in: it says more and counts as full. Else prove '..UptoSaid'. A law counts once. -/
mutual
def uptoBulk {H : Type} : DataW H → Nat
  | .lit (.string bytes) => bytes.length + 1
  | .lit _ => 1
  | .nil => 1
  | .ptr d => uptoBulk d + 1
  | .slice elems spare => uptoBulkAll elems + uptoBulkAll spare + 1
  | .agg parts => uptoBulkAll parts + 1
  | .iface _ d => uptoBulk d + 1
  | .map entries => uptoBulkEntries entries + 1
  | .held _ => 1
def uptoBulkAll {H : Type} : List (DataW H) → Nat
  | [] => 0
  | d :: r => uptoBulk d + uptoBulkAll r
def uptoBulkEntries {H : Type} : List (Lit × DataW H) → Nat
  | [] => 0
  | x :: r => uptoBulkEntry x + uptoBulkEntries r
def uptoBulkEntry {H : Type} : Lit × DataW H → Nat
  | (.string bytes, d) => bytes.length + uptoBulk d + 1
  | (_, d) => uptoBulk d + 1
 end
def uptoSmall : (H : Type) → List (DataW H) → Bool := fun _ ds => decide (uptoBulkAll ds ≤ 1048576)
def OpenSpec.upto (s : _root_.Go.ChangeSpec) : _root_.Go.OpenSpec := { _root_.Go.OpenSpec.ofChange s with cond := some uptoSmall }

/-- 'laws.FnCrossings', WHERE WHAT IT READS IS OF BULK AT MOST 1048576: true; the input reads as it did. -/
def fnCrossingsUptoRow : OpenClaim := { program := "ytgmhjinlpikpjah", sum := "fb2cca0b54cf661af5f8619a99003b0d01c99baaec3e2ec6df6f87fe8d3b79a7", func := "loop.example/g03003/laws.FnCrossings", spec := "fnCrossings", recurses := true, apart := false, narrowed := true }
def FnCrossingsUptoSaid : Prop := fnCrossingsUptoRow.holds Try.pinned (OpenSpec.upto fnCrossingsSpec)

/-- 'laws.FnExactCrossedBy', WHERE WHAT IT READS IS OF BULK AT MOST 1048576: true; the input reads as it did. -/
def fnExactCrossedByUptoRow : OpenClaim := { program := "ytgmhjinlpikpjah", sum := "fb2cca0b54cf661af5f8619a99003b0d01c99baaec3e2ec6df6f87fe8d3b79a7", func := "loop.example/g03003/laws.FnExactCrossedBy", spec := "fnExactCrossedBy", recurses := true, apart := false, narrowed := true }
def FnExactCrossedByUptoSaid : Prop := fnExactCrossedByUptoRow.holds Try.pinned (OpenSpec.upto fnExactCrossedBySpec)

/-- 'laws.FnExactMakes', WHERE WHAT IT READS IS OF BULK AT MOST 1048576: true; the input reads as it did. -/
def fnExactMakesUptoRow : OpenClaim := { program := "ytgmhjinlpikpjah", sum := "fb2cca0b54cf661af5f8619a99003b0d01c99baaec3e2ec6df6f87fe8d3b79a7", func := "loop.example/g03003/laws.FnExactMakes", spec := "fnExactMakes", recurses := true, apart := false, narrowed := true }
def FnExactMakesUptoSaid : Prop := fnExactMakesUptoRow.holds Try.pinned (OpenSpec.upto fnExactMakesSpec)

/-- 'laws.FnPruned', WHERE WHAT IT READS IS OF BULK AT MOST 1048576: true; the input reads as it did. -/
def fnPrunedUptoRow : OpenClaim := { program := "ytgmhjinlpikpjah", sum := "fb2cca0b54cf661af5f8619a99003b0d01c99baaec3e2ec6df6f87fe8d3b79a7", func := "loop.example/g03003/laws.FnPruned", spec := "fnPruned", unfollowed := true, recurses := true, apart := false, narrowed := true }
def FnPrunedUptoSaid : Prop := fnPrunedUptoRow.holds Try.pinned (OpenSpec.upto fnPrunedSpec)

/-- 'laws.FnForms', WHERE WHAT IT READS IS OF BULK AT MOST 1048576: true; the input reads as it did. -/
def fnFormsUptoRow : OpenClaim := { program := "ytgmhjinlpikpjah", sum := "fb2cca0b54cf661af5f8619a99003b0d01c99baaec3e2ec6df6f87fe8d3b79a7", func := "loop.example/g03003/laws.FnForms", spec := "fnForms", unfollowed := true, recurses := true, apart := false, narrowed := true }
def FnFormsUptoSaid : Prop := fnFormsUptoRow.holds Try.pinned (OpenSpec.upto fnFormsSpec)

end Rows
end Go.Proofs.Ytgmhjinlpikpjah
