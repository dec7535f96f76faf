/-
  No cell of these rows narrows 'for every input' (looked for: loops, veiled, ifaces, maps, wideKeys, modest, calm, conditions, laid).
  DERIVED. THE GIVEN ROWS OF THIS SEAT. 6 by the template 'for every input the law returns true; each argument reads behind the call as it read before'; 0 by the template 'total and deterministic' (their statements: YtgmhjinlpikpjabTotals.lean).
  GIVEN WITH THE SEED: the statements are not yours to turn. If you find one false, say at which input.
  Laid BY PROGRAM, IN A SANDBOX (cutbox-rows.mjs): the forced cells as the released guide's own fill.sh prints them over the translation c8d67e839dba454a… (all of the seat's roots in one cut). By AI agents, Wed Nov 11 2026. No macro, syntax, notation, axiom, sorry.
-/
import Derived.Test.YtgmhjinlpikpjabChecked
import GoSem.Claim
import GoSem.ClaimJoined
import GoSem.ClaimMapViews
import Derived.JoinedTies
import Derived.KernelRfl
namespace Go.Proofs.Ytgmhjinlpikpjab
/- THE CELL 'sum', in the pinned program and in every row, IS THE sha256 OF THE DUMP (.gsa) THAT YtgmhjinlpikpjabProg.lean LOADS. Nothing in Lean hashes anything: it is a label: what it is worth is what the hold of that sum in a sandbox is worth. -/
noncomputable def Try.pinned : Pinned := { name := "ytgmhjinlpikpjab", sum := "c8d67e839dba454aa52ad5235874c3ab673718c13bce802e21a7e72a83989aa4", checked := Try.checked }
namespace Rows
def none {H : Type} : Left H := { results := [], args := [] }

/-- 'laws.FnExactWordsMade': WHATEVER THE INPUT: true; the input reads as it did. -/
def fnExactWordsMadeSpec : ChangeSpec := { name := "fnExactWordsMade", fn := fun _ => fun
  | [d1, d2] => { results := [.lit (.bool true)], args := [d1, d2] }
  | _ => none }
def fnExactWordsMadeRow : OpenClaim := { program := "ytgmhjinlpikpjab", sum := "c8d67e839dba454aa52ad5235874c3ab673718c13bce802e21a7e72a83989aa4", func := "loop.example/g03003/laws.FnExactWordsMade", spec := "fnExactWordsMade", unfollowed := true, recurses := true, apart := false }
def FnExactWordsMadeSaid : Prop := fnExactWordsMadeRow.holds Try.pinned (OpenSpec.ofChange fnExactWordsMadeSpec)

/-- ITS FALSE NEIGHBOUR: 'it returns false'. Refute it at one input. -/
def fnExactWordsMadeWrong : ChangeSpec := { name := "fnExactWordsMade", fn := fun _ => fun
  | [d1, d2] => { results := [.lit (.bool false)], args := [d1, d2] }
  | _ => none }
def FnExactWordsMadeWrongFalsely : Prop := fnExactWordsMadeRow.holds Try.pinned (OpenSpec.ofChange fnExactWordsMadeWrong)

/-- 'laws.FnExactIsConnected': WHATEVER THE INPUT: true; the input reads as it did. -/
def fnExactIsConnectedSpec : ChangeSpec := { name := "fnExactIsConnected", fn := fun _ => fun
  | [d] => { results := [.lit (.bool true)], args := [d] }
  | _ => none }
def fnExactIsConnectedRow : OpenClaim := { program := "ytgmhjinlpikpjab", sum := "c8d67e839dba454aa52ad5235874c3ab673718c13bce802e21a7e72a83989aa4", func := "loop.example/g03003/laws.FnExactIsConnected", spec := "fnExactIsConnected", unfollowed := true, recurses := true, apart := false }
def FnExactIsConnectedSaid : Prop := fnExactIsConnectedRow.holds Try.pinned (OpenSpec.ofChange fnExactIsConnectedSpec)

/-- ITS FALSE NEIGHBOUR: 'it returns false'. Refute it at one input. -/
def fnExactIsConnectedWrong : ChangeSpec := { name := "fnExactIsConnected", fn := fun _ => fun
  | [d] => { results := [.lit (.bool false)], args := [d] }
  | _ => none }
def FnExactIsConnectedWrongFalsely : Prop := fnExactIsConnectedRow.holds Try.pinned (OpenSpec.ofChange fnExactIsConnectedWrong)

/-- 'laws.FnExactSplitsOf': WHATEVER THE INPUT: true; the input reads as it did. -/
def fnExactSplitsOfSpec : ChangeSpec := { name := "fnExactSplitsOf", fn := fun _ => fun
  | [d] => { results := [.lit (.bool true)], args := [d] }
  | _ => none }
def fnExactSplitsOfRow : OpenClaim := { program := "ytgmhjinlpikpjab", sum := "c8d67e839dba454aa52ad5235874c3ab673718c13bce802e21a7e72a83989aa4", func := "loop.example/g03003/laws.FnExactSplitsOf", spec := "fnExactSplitsOf", apart := false }
def FnExactSplitsOfSaid : Prop := fnExactSplitsOfRow.holds Try.pinned (OpenSpec.ofChange fnExactSplitsOfSpec)

/-- ITS FALSE NEIGHBOUR: 'it returns false'. Refute it at one input. -/
def fnExactSplitsOfWrong : ChangeSpec := { name := "fnExactSplitsOf", fn := fun _ => fun
  | [d] => { results := [.lit (.bool false)], args := [d] }
  | _ => none }
def FnExactSplitsOfWrongFalsely : Prop := fnExactSplitsOfRow.holds Try.pinned (OpenSpec.ofChange fnExactSplitsOfWrong)

/-- 'laws.FnExactInsertions': WHATEVER THE INPUT: true; the input reads as it did. -/
def fnExactInsertionsSpec : ChangeSpec := { name := "fnExactInsertions", fn := fun _ => fun
  | [d1, d2] => { results := [.lit (.bool true)], args := [d1, d2] }
  | _ => none }
def fnExactInsertionsRow : OpenClaim := { program := "ytgmhjinlpikpjab", sum := "c8d67e839dba454aa52ad5235874c3ab673718c13bce802e21a7e72a83989aa4", func := "loop.example/g03003/laws.FnExactInsertions", spec := "fnExactInsertions", apart := false }
def FnExactInsertionsSaid : Prop := fnExactInsertionsRow.holds Try.pinned (OpenSpec.ofChange fnExactInsertionsSpec)

/-- ITS FALSE NEIGHBOUR: 'it returns false'. Refute it at one input. -/
def fnExactInsertionsWrong : ChangeSpec := { name := "fnExactInsertions", fn := fun _ => fun
  | [d1, d2] => { results := [.lit (.bool false)], args := [d1, d2] }
  | _ => none }
def FnExactInsertionsWrongFalsely : Prop := fnExactInsertionsRow.holds Try.pinned (OpenSpec.ofChange fnExactInsertionsWrong)

/-- 'laws.FnExactLongestSlot': WHATEVER THE INPUT: true; the input reads as it did. -/
def fnExactLongestSlotSpec : ChangeSpec := { name := "fnExactLongestSlot", fn := fun _ => fun
  | [d] => { results := [.lit (.bool true)], args := [d] }
  | _ => none }
def fnExactLongestSlotRow : OpenClaim := { program := "ytgmhjinlpikpjab", sum := "c8d67e839dba454aa52ad5235874c3ab673718c13bce802e21a7e72a83989aa4", func := "loop.example/g03003/laws.FnExactLongestSlot", spec := "fnExactLongestSlot", apart := false }
def FnExactLongestSlotSaid : Prop := fnExactLongestSlotRow.holds Try.pinned (OpenSpec.ofChange fnExactLongestSlotSpec)

/-- ITS FALSE NEIGHBOUR: 'it returns false'. Refute it at one input. -/
def fnExactLongestSlotWrong : ChangeSpec := { name := "fnExactLongestSlot", fn := fun _ => fun
  | [d] => { results := [.lit (.bool false)], args := [d] }
  | _ => none }
def FnExactLongestSlotWrongFalsely : Prop := fnExactLongestSlotRow.holds Try.pinned (OpenSpec.ofChange fnExactLongestSlotWrong)

/-- 'laws.FnExactUsedWords': WHATEVER THE INPUT: true; the input reads as it did. -/
def fnExactUsedWordsSpec : ChangeSpec := { name := "fnExactUsedWords", fn := fun _ => fun
  | [d] => { results := [.lit (.bool true)], args := [d] }
  | _ => none }
def fnExactUsedWordsRow : OpenClaim := { program := "ytgmhjinlpikpjab", sum := "c8d67e839dba454aa52ad5235874c3ab673718c13bce802e21a7e72a83989aa4", func := "loop.example/g03003/laws.FnExactUsedWords", spec := "fnExactUsedWords", apart := false }
def FnExactUsedWordsSaid : Prop := fnExactUsedWordsRow.holds Try.pinned (OpenSpec.ofChange fnExactUsedWordsSpec)

/-- ITS FALSE NEIGHBOUR: 'it returns false'. Refute it at one input. -/
def fnExactUsedWordsWrong : ChangeSpec := { name := "fnExactUsedWords", fn := fun _ => fun
  | [d] => { results := [.lit (.bool false)], args := [d] }
  | _ => none }
def FnExactUsedWordsWrongFalsely : Prop := fnExactUsedWordsRow.holds Try.pinned (OpenSpec.ofChange fnExactUsedWordsWrong)

/- THE SECOND FORM. 'bulk': how many values and letters a reading holds, each counted each time it is reached (what is shared counts as often as it is met; a slice's spare places count too). A statement '..UptoSaid' is the law's where the arguments, and the package variables that the reading takes, are together of bulk at most 1048576: NARROWER than '..Said'. Prove '..Said' where nothing that the law and all that it calls make is longer than what came in: it says more and counts as full. Else prove '..UptoSaid'. A law counts once. -/
mutual
def uptoBulk {H : Type} : DataW H → Nat
  | .lit (.string bytes) => bytes.length + 1
  | .lit _ => 1
  | .nil => 1
  | .ptr d => uptoBulk d + 1
  | .slice elems spare => uptoBulkAll elems + uptoBulkAll spare + 1
  | .agg parts => uptoBulkAll parts + 1
  | .iface _ d => uptoBulk d + 1
  | .map entries => uptoBulkEntries entries + 1
  | .held _ => 1
def uptoBulkAll {H : Type} : List (DataW H) → Nat
  | [] => 0
  | d :: r => uptoBulk d + uptoBulkAll r
def uptoBulkEntries {H : Type} : List (Lit × DataW H) → Nat
  | [] => 0
  | x :: r => uptoBulkEntry x + uptoBulkEntries r
def uptoBulkEntry {H : Type} : Lit × DataW H → Nat
  | (.string bytes, d) => bytes.length + uptoBulk d + 1
  | (_, d) => uptoBulk d + 1
 end
def uptoSmall : (H : Type) → List (DataW H) → Bool := fun _ ds => decide (uptoBulkAll ds ≤ 1048576)
def OpenSpec.upto (s : _root_.Go.ChangeSpec) : _root_.Go.OpenSpec := { _root_.Go.OpenSpec.ofChange s with cond := some uptoSmall }

/-- 'laws.FnExactWordsMade', WHERE WHAT IT READS IS OF BULK AT MOST 1048576: true; the input reads as it did. -/
def fnExactWordsMadeUptoRow : OpenClaim := { program := "ytgmhjinlpikpjab", sum := "c8d67e839dba454aa52ad5235874c3ab673718c13bce802e21a7e72a83989aa4", func := "loop.example/g03003/laws.FnExactWordsMade", spec := "fnExactWordsMade", unfollowed := true, recurses := true, apart := false, narrowed := true }
def FnExactWordsMadeUptoSaid : Prop := fnExactWordsMadeUptoRow.holds Try.pinned (OpenSpec.upto fnExactWordsMadeSpec)

/-- 'laws.FnExactIsConnected', WHERE WHAT IT READS IS OF BULK AT MOST 1048576: true; the input reads as it did. -/
def fnExactIsConnectedUptoRow : OpenClaim := { program := "ytgmhjinlpikpjab", sum := "c8d67e839dba454aa52ad5235874c3ab673718c13bce802e21a7e72a83989aa4", func := "loop.example/g03003/laws.FnExactIsConnected", spec := "fnExactIsConnected", unfollowed := true, recurses := true, apart := false, narrowed := true }
def FnExactIsConnectedUptoSaid : Prop := fnExactIsConnectedUptoRow.holds Try.pinned (OpenSpec.upto fnExactIsConnectedSpec)

/-- 'laws.FnExactSplitsOf', WHERE WHAT IT READS IS OF BULK AT MOST 1048576: true; the input reads as it did. -/
def fnExactSplitsOfUptoRow : OpenClaim := { program := "ytgmhjinlpikpjab", sum := "c8d67e839dba454aa52ad5235874c3ab673718c13bce802e21a7e72a83989aa4", func := "loop.example/g03003/laws.FnExactSplitsOf", spec := "fnExactSplitsOf", apart := false, narrowed := true }
def FnExactSplitsOfUptoSaid : Prop := fnExactSplitsOfUptoRow.holds Try.pinned (OpenSpec.upto fnExactSplitsOfSpec)

/-- 'laws.FnExactInsertions', WHERE WHAT IT READS IS OF BULK AT MOST 1048576: true; the input reads as it did. -/
def fnExactInsertionsUptoRow : OpenClaim := { program := "ytgmhjinlpikpjab", sum := "c8d67e839dba454aa52ad5235874c3ab673718c13bce802e21a7e72a83989aa4", func := "loop.example/g03003/laws.FnExactInsertions", spec := "fnExactInsertions", apart := false, narrowed := true }
def FnExactInsertionsUptoSaid : Prop := fnExactInsertionsUptoRow.holds Try.pinned (OpenSpec.upto fnExactInsertionsSpec)

/-- 'laws.FnExactLongestSlot', WHERE WHAT IT READS IS OF BULK AT MOST 1048576: true; the input reads as it did. -/
def fnExactLongestSlotUptoRow : OpenClaim := { program := "ytgmhjinlpikpjab", sum := "c8d67e839dba454aa52ad5235874c3ab673718c13bce802e21a7e72a83989aa4", func := "loop.example/g03003/laws.FnExactLongestSlot", spec := "fnExactLongestSlot", apart := false, narrowed := true }
def FnExactLongestSlotUptoSaid : Prop := fnExactLongestSlotUptoRow.holds Try.pinned (OpenSpec.upto fnExactLongestSlotSpec)

/-- 'laws.FnExactUsedWords', WHERE WHAT IT READS IS OF BULK AT MOST 1048576: true; the input reads as it did. -/
def fnExactUsedWordsUptoRow : OpenClaim := { program := "ytgmhjinlpikpjab", sum := "c8d67e839dba454aa52ad5235874c3ab673718c13bce802e21a7e72a83989aa4", func := "loop.example/g03003/laws.FnExactUsedWords", spec := "fnExactUsedWords", apart := false, narrowed := true }
def FnExactUsedWordsUptoSaid : Prop := fnExactUsedWordsUptoRow.holds Try.pinned (OpenSpec.upto fnExactUsedWordsSpec)

end Rows
end Go.Proofs.Ytgmhjinlpikpjab
