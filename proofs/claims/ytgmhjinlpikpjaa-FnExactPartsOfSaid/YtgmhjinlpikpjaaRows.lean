/-
  No cell of these rows narrows 'for every input' (looked for: loops, veiled, ifaces, maps, wideKeys, modest, calm, conditions, laid).
  DERIVED. THE GIVEN ROWS OF THIS SEAT. 5 by the template 'for every input the law returns true; each argument reads behind the call as it read before'; 0 by the template 'total and deterministic' (their statements: YtgmhjinlpikpjaaTotals.lean).
  GIVEN WITH THE SEED: the statements are not yours to turn. If you find one false, say at which input.
  Laid BY PROGRAM, IN A SANDBOX (cutbox-rows.mjs): the forced cells as the released guide's own fill.sh prints them over the translation 340bf3aab5450eae… (all of the seat's roots in one cut). By AI agents, Wed Nov 11 2026. No macro, syntax, notation, axiom, sorry.
-/
import Derived.Test.YtgmhjinlpikpjaaChecked
import GoSem.Claim
import GoSem.ClaimJoined
import GoSem.ClaimMapViews
import Derived.JoinedTies
import Derived.KernelRfl
namespace Go.Proofs.Ytgmhjinlpikpjaa
/- THE CELL 'sum', in the pinned program and in every row, IS THE sha256 OF THE DUMP (.gsa) THAT YtgmhjinlpikpjaaProg.lean LOADS. Nothing in Lean hashes anything: it is a label: what it is worth is what the hold of that sum in a sandbox is worth. -/
noncomputable def Try.pinned : Pinned := { name := "ytgmhjinlpikpjaa", sum := "340bf3aab5450eaee96bc804a16e2a21cf2ffd1d7055179e2506612ccc7030c1", checked := Try.checked }
namespace Rows
def none {H : Type} : Left H := { results := [], args := [] }

/-- 'laws.FnExactRepeatsIn': WHATEVER THE INPUT: true; the input reads as it did. -/
def fnExactRepeatsInSpec : ChangeSpec := { name := "fnExactRepeatsIn", fn := fun _ => fun
  | [d] => { results := [.lit (.bool true)], args := [d] }
  | _ => none }
def fnExactRepeatsInRow : OpenClaim := { program := "ytgmhjinlpikpjaa", sum := "340bf3aab5450eaee96bc804a16e2a21cf2ffd1d7055179e2506612ccc7030c1", func := "loop.example/g03003/laws.FnExactRepeatsIn", spec := "fnExactRepeatsIn", apart := false }
def FnExactRepeatsInSaid : Prop := fnExactRepeatsInRow.holds Try.pinned (OpenSpec.ofChange fnExactRepeatsInSpec)

/-- ITS FALSE NEIGHBOUR: 'it returns false'. Refute it at one input. -/
def fnExactRepeatsInWrong : ChangeSpec := { name := "fnExactRepeatsIn", fn := fun _ => fun
  | [d] => { results := [.lit (.bool false)], args := [d] }
  | _ => none }
def FnExactRepeatsInWrongFalsely : Prop := fnExactRepeatsInRow.holds Try.pinned (OpenSpec.ofChange fnExactRepeatsInWrong)

/-- 'laws.FnExactCountChoices': WHATEVER THE INPUT: true; the input reads as it did. -/
def fnExactCountChoicesSpec : ChangeSpec := { name := "fnExactCountChoices", fn := fun _ => fun
  | [d] => { results := [.lit (.bool true)], args := [d] }
  | _ => none }
def fnExactCountChoicesRow : OpenClaim := { program := "ytgmhjinlpikpjaa", sum := "340bf3aab5450eaee96bc804a16e2a21cf2ffd1d7055179e2506612ccc7030c1", func := "loop.example/g03003/laws.FnExactCountChoices", spec := "fnExactCountChoices", apart := false }
def FnExactCountChoicesSaid : Prop := fnExactCountChoicesRow.holds Try.pinned (OpenSpec.ofChange fnExactCountChoicesSpec)

/-- ITS FALSE NEIGHBOUR: 'it returns false'. Refute it at one input. -/
def fnExactCountChoicesWrong : ChangeSpec := { name := "fnExactCountChoices", fn := fun _ => fun
  | [d] => { results := [.lit (.bool false)], args := [d] }
  | _ => none }
def FnExactCountChoicesWrongFalsely : Prop := fnExactCountChoicesRow.holds Try.pinned (OpenSpec.ofChange fnExactCountChoicesWrong)

/-- 'laws.FnExactIsDead': WHATEVER THE INPUT: true; the input reads as it did. -/
def fnExactIsDeadSpec : ChangeSpec := { name := "fnExactIsDead", fn := fun _ => fun
  | [d] => { results := [.lit (.bool true)], args := [d] }
  | _ => none }
def fnExactIsDeadRow : OpenClaim := { program := "ytgmhjinlpikpjaa", sum := "340bf3aab5450eaee96bc804a16e2a21cf2ffd1d7055179e2506612ccc7030c1", func := "loop.example/g03003/laws.FnExactIsDead", spec := "fnExactIsDead", unfollowed := true, recurses := true, apart := false }
def FnExactIsDeadSaid : Prop := fnExactIsDeadRow.holds Try.pinned (OpenSpec.ofChange fnExactIsDeadSpec)

/-- ITS FALSE NEIGHBOUR: 'it returns false'. Refute it at one input. -/
def fnExactIsDeadWrong : ChangeSpec := { name := "fnExactIsDead", fn := fun _ => fun
  | [d] => { results := [.lit (.bool false)], args := [d] }
  | _ => none }
def FnExactIsDeadWrongFalsely : Prop := fnExactIsDeadRow.holds Try.pinned (OpenSpec.ofChange fnExactIsDeadWrong)

/-- 'laws.FnExactTurnGrid': WHATEVER THE INPUT: true; the input reads as it did. -/
def fnExactTurnGridSpec : ChangeSpec := { name := "fnExactTurnGrid", fn := fun _ => fun
  | [d] => { results := [.lit (.bool true)], args := [d] }
  | _ => none }
def fnExactTurnGridRow : OpenClaim := { program := "ytgmhjinlpikpjaa", sum := "340bf3aab5450eaee96bc804a16e2a21cf2ffd1d7055179e2506612ccc7030c1", func := "loop.example/g03003/laws.FnExactTurnGrid", spec := "fnExactTurnGrid", apart := false }
def FnExactTurnGridSaid : Prop := fnExactTurnGridRow.holds Try.pinned (OpenSpec.ofChange fnExactTurnGridSpec)

/-- ITS FALSE NEIGHBOUR: 'it returns false'. Refute it at one input. -/
def fnExactTurnGridWrong : ChangeSpec := { name := "fnExactTurnGrid", fn := fun _ => fun
  | [d] => { results := [.lit (.bool false)], args := [d] }
  | _ => none }
def FnExactTurnGridWrongFalsely : Prop := fnExactTurnGridRow.holds Try.pinned (OpenSpec.ofChange fnExactTurnGridWrong)

/-- 'laws.FnExactPartsOf': WHATEVER THE INPUT: true; the input reads as it did. -/
def fnExactPartsOfSpec : ChangeSpec := { name := "fnExactPartsOf", fn := fun _ => fun
  | [d] => { results := [.lit (.bool true)], args := [d] }
  | _ => none }
def fnExactPartsOfRow : OpenClaim := { program := "ytgmhjinlpikpjaa", sum := "340bf3aab5450eaee96bc804a16e2a21cf2ffd1d7055179e2506612ccc7030c1", func := "loop.example/g03003/laws.FnExactPartsOf", spec := "fnExactPartsOf", unfollowed := true, recurses := true, apart := false }
def FnExactPartsOfSaid : Prop := fnExactPartsOfRow.holds Try.pinned (OpenSpec.ofChange fnExactPartsOfSpec)

/-- ITS FALSE NEIGHBOUR: 'it returns false'. Refute it at one input. -/
def fnExactPartsOfWrong : ChangeSpec := { name := "fnExactPartsOf", fn := fun _ => fun
  | [d] => { results := [.lit (.bool false)], args := [d] }
  | _ => none }
def FnExactPartsOfWrongFalsely : Prop := fnExactPartsOfRow.holds Try.pinned (OpenSpec.ofChange fnExactPartsOfWrong)

/- THE SECOND FORM. 'bulk': how many values and letters a reading holds, each counted each time it is reached (what is shared counts as often as it is met; a slice's spare places count too). A statement '..UptoSaid' is the law's where the arguments, and the package variables that the reading takes, are together of bulk at most 1048576: NARROWER than '..Said'. Prove '..Said' where nothing that the law and all that it calls make is longer than what came in: it says more and counts as full. Else prove '..UptoSaid'. A law counts once. -/
mutual
def uptoBulk {H : Type} : DataW H → Nat
  | .lit (.string bytes) => bytes.length + 1
  | .lit _ => 1
  | .nil => 1
  | .ptr d => uptoBulk d + 1
  | .slice elems spare => uptoBulkAll elems + uptoBulkAll spare + 1
  | .agg parts => uptoBulkAll parts + 1
  | .iface _ d => uptoBulk d + 1
  | .map entries => uptoBulkEntries entries + 1
  | .held _ => 1
def uptoBulkAll {H : Type} : List (DataW H) → Nat
  | [] => 0
  | d :: r => uptoBulk d + uptoBulkAll r
def uptoBulkEntries {H : Type} : List (Lit × DataW H) → Nat
  | [] => 0
  | x :: r => uptoBulkEntry x + uptoBulkEntries r
def uptoBulkEntry {H : Type} : Lit × DataW H → Nat
  | (.string bytes, d) => bytes.length + uptoBulk d + 1
  | (_, d) => uptoBulk d + 1
 end
def uptoSmall : (H : Type) → List (DataW H) → Bool := fun _ ds => decide (uptoBulkAll ds ≤ 1048576)
def OpenSpec.upto (s : _root_.Go.ChangeSpec) : _root_.Go.OpenSpec := { _root_.Go.OpenSpec.ofChange s with cond := some uptoSmall }

/-- 'laws.FnExactRepeatsIn', WHERE WHAT IT READS IS OF BULK AT MOST 1048576: true; the input reads as it did. -/
def fnExactRepeatsInUptoRow : OpenClaim := { program := "ytgmhjinlpikpjaa", sum := "340bf3aab5450eaee96bc804a16e2a21cf2ffd1d7055179e2506612ccc7030c1", func := "loop.example/g03003/laws.FnExactRepeatsIn", spec := "fnExactRepeatsIn", apart := false, narrowed := true }
def FnExactRepeatsInUptoSaid : Prop := fnExactRepeatsInUptoRow.holds Try.pinned (OpenSpec.upto fnExactRepeatsInSpec)

/-- 'laws.FnExactCountChoices', WHERE WHAT IT READS IS OF BULK AT MOST 1048576: true; the input reads as it did. -/
def fnExactCountChoicesUptoRow : OpenClaim := { program := "ytgmhjinlpikpjaa", sum := "340bf3aab5450eaee96bc804a16e2a21cf2ffd1d7055179e2506612ccc7030c1", func := "loop.example/g03003/laws.FnExactCountChoices", spec := "fnExactCountChoices", apart := false, narrowed := true }
def FnExactCountChoicesUptoSaid : Prop := fnExactCountChoicesUptoRow.holds Try.pinned (OpenSpec.upto fnExactCountChoicesSpec)

/-- 'laws.FnExactIsDead', WHERE WHAT IT READS IS OF BULK AT MOST 1048576: true; the input reads as it did. -/
def fnExactIsDeadUptoRow : OpenClaim := { program := "ytgmhjinlpikpjaa", sum := "340bf3aab5450eaee96bc804a16e2a21cf2ffd1d7055179e2506612ccc7030c1", func := "loop.example/g03003/laws.FnExactIsDead", spec := "fnExactIsDead", unfollowed := true, recurses := true, apart := false, narrowed := true }
def FnExactIsDeadUptoSaid : Prop := fnExactIsDeadUptoRow.holds Try.pinned (OpenSpec.upto fnExactIsDeadSpec)

/-- 'laws.FnExactTurnGrid', WHERE WHAT IT READS IS OF BULK AT MOST 1048576: true; the input reads as it did. -/
def fnExactTurnGridUptoRow : OpenClaim := { program := "ytgmhjinlpikpjaa", sum := "340bf3aab5450eaee96bc804a16e2a21cf2ffd1d7055179e2506612ccc7030c1", func := "loop.example/g03003/laws.FnExactTurnGrid", spec := "fnExactTurnGrid", apart := false, narrowed := true }
def FnExactTurnGridUptoSaid : Prop := fnExactTurnGridUptoRow.holds Try.pinned (OpenSpec.upto fnExactTurnGridSpec)

/-- 'laws.FnExactPartsOf', WHERE WHAT IT READS IS OF BULK AT MOST 1048576: true; the input reads as it did. -/
def fnExactPartsOfUptoRow : OpenClaim := { program := "ytgmhjinlpikpjaa", sum := "340bf3aab5450eaee96bc804a16e2a21cf2ffd1d7055179e2506612ccc7030c1", func := "loop.example/g03003/laws.FnExactPartsOf", spec := "fnExactPartsOf", unfollowed := true, recurses := true, apart := false, narrowed := true }
def FnExactPartsOfUptoSaid : Prop := fnExactPartsOfUptoRow.holds Try.pinned (OpenSpec.upto fnExactPartsOfSpec)

end Rows
end Go.Proofs.Ytgmhjinlpikpjaa
