/-
  No cell of these rows narrows 'for every input' (looked for: loops, veiled, ifaces, maps, wideKeys, modest, calm, conditions, laid).
  DERIVED. THE GIVEN ROWS OF THIS SEAT. 6 by the template 'for every input the law returns true; each argument reads behind the call as it read before'; 0 by the template 'total and deterministic' (their statements: YtdofkaemeongpaaTotals.lean).
  GIVEN WITH THE SEED: the statements are not yours to turn. If you find one false, say at which input.
  Laid BY PROGRAM, IN A SANDBOX (cutbox-rows.mjs): the forced cells as the released guide's own fill.sh prints them over the translation a010a399b4aa578f… (all of the seat's roots in one cut). By AI agents, Wed Nov 11 2026. No macro, syntax, notation, axiom, sorry.
-/
import Derived.Test.YtdofkaemeongpaaChecked
import GoSem.Claim
import GoSem.ClaimJoined
import GoSem.ClaimMapViews
import Derived.JoinedTies
import Derived.KernelRfl
namespace Go.Proofs.Ytdofkaemeongpaa
/- THE CELL 'sum', in the pinned program and in every row, IS THE sha256 OF THE DUMP (.gsa) THAT YtdofkaemeongpaaProg.lean LOADS. Nothing in Lean hashes anything: it is a label: what it is worth is what the hold of that sum in a sandbox is worth. -/
noncomputable def Try.pinned : Pinned := { name := "ytdofkaemeongpaa", sum := "a010a399b4aa578fd8967238d6e73ddd8a1a40c916f36987651fd3eef3e3d152", checked := Try.checked }
namespace Rows
def none {H : Type} : Left H := { results := [], args := [] }

/-- 'laws.FnExactFormName': WHATEVER THE INPUT: true; the input reads as it did. -/
def fnExactFormNameSpec : ChangeSpec := { name := "fnExactFormName", fn := fun _ => fun
  | [d] => { results := [.lit (.bool true)], args := [d] }
  | _ => none }
def fnExactFormNameRow : OpenClaim := { program := "ytdofkaemeongpaa", sum := "a010a399b4aa578fd8967238d6e73ddd8a1a40c916f36987651fd3eef3e3d152", func := "loop.example/g03003/laws.FnExactFormName", spec := "fnExactFormName", apart := false }
def FnExactFormNameSaid : Prop := fnExactFormNameRow.holds Try.pinned (OpenSpec.ofChange fnExactFormNameSpec)

/-- ITS FALSE NEIGHBOUR: 'it returns false'. Refute it at one input. -/
def fnExactFormNameWrong : ChangeSpec := { name := "fnExactFormName", fn := fun _ => fun
  | [d] => { results := [.lit (.bool false)], args := [d] }
  | _ => none }
def FnExactFormNameWrongFalsely : Prop := fnExactFormNameRow.holds Try.pinned (OpenSpec.ofChange fnExactFormNameWrong)

/-- 'laws.FnExactHeadOf': WHATEVER THE INPUT: true; the input reads as it did. -/
def fnExactHeadOfSpec : ChangeSpec := { name := "fnExactHeadOf", fn := fun _ => fun
  | [d] => { results := [.lit (.bool true)], args := [d] }
  | _ => none }
def fnExactHeadOfRow : OpenClaim := { program := "ytdofkaemeongpaa", sum := "a010a399b4aa578fd8967238d6e73ddd8a1a40c916f36987651fd3eef3e3d152", func := "loop.example/g03003/laws.FnExactHeadOf", spec := "fnExactHeadOf", apart := false }
def FnExactHeadOfSaid : Prop := fnExactHeadOfRow.holds Try.pinned (OpenSpec.ofChange fnExactHeadOfSpec)

/-- ITS FALSE NEIGHBOUR: 'it returns false'. Refute it at one input. -/
def fnExactHeadOfWrong : ChangeSpec := { name := "fnExactHeadOf", fn := fun _ => fun
  | [d] => { results := [.lit (.bool false)], args := [d] }
  | _ => none }
def FnExactHeadOfWrongFalsely : Prop := fnExactHeadOfRow.holds Try.pinned (OpenSpec.ofChange fnExactHeadOfWrong)

/-- 'laws.FnExactWithoutHead': WHATEVER THE INPUT: true; the input reads as it did. -/
def fnExactWithoutHeadSpec : ChangeSpec := { name := "fnExactWithoutHead", fn := fun _ => fun
  | [d] => { results := [.lit (.bool true)], args := [d] }
  | _ => none }
def fnExactWithoutHeadRow : OpenClaim := { program := "ytdofkaemeongpaa", sum := "a010a399b4aa578fd8967238d6e73ddd8a1a40c916f36987651fd3eef3e3d152", func := "loop.example/g03003/laws.FnExactWithoutHead", spec := "fnExactWithoutHead", apart := false }
def FnExactWithoutHeadSaid : Prop := fnExactWithoutHeadRow.holds Try.pinned (OpenSpec.ofChange fnExactWithoutHeadSpec)

/-- ITS FALSE NEIGHBOUR: 'it returns false'. Refute it at one input. -/
def fnExactWithoutHeadWrong : ChangeSpec := { name := "fnExactWithoutHead", fn := fun _ => fun
  | [d] => { results := [.lit (.bool false)], args := [d] }
  | _ => none }
def FnExactWithoutHeadWrongFalsely : Prop := fnExactWithoutHeadRow.holds Try.pinned (OpenSpec.ofChange fnExactWithoutHeadWrong)

/-- 'laws.FnExactWithoutTail': WHATEVER THE INPUT: true; the input reads as it did. -/
def fnExactWithoutTailSpec : ChangeSpec := { name := "fnExactWithoutTail", fn := fun _ => fun
  | [d] => { results := [.lit (.bool true)], args := [d] }
  | _ => none }
def fnExactWithoutTailRow : OpenClaim := { program := "ytdofkaemeongpaa", sum := "a010a399b4aa578fd8967238d6e73ddd8a1a40c916f36987651fd3eef3e3d152", func := "loop.example/g03003/laws.FnExactWithoutTail", spec := "fnExactWithoutTail", apart := false }
def FnExactWithoutTailSaid : Prop := fnExactWithoutTailRow.holds Try.pinned (OpenSpec.ofChange fnExactWithoutTailSpec)

/-- ITS FALSE NEIGHBOUR: 'it returns false'. Refute it at one input. -/
def fnExactWithoutTailWrong : ChangeSpec := { name := "fnExactWithoutTail", fn := fun _ => fun
  | [d] => { results := [.lit (.bool false)], args := [d] }
  | _ => none }
def FnExactWithoutTailWrongFalsely : Prop := fnExactWithoutTailRow.holds Try.pinned (OpenSpec.ofChange fnExactWithoutTailWrong)

/-- 'laws.FnExactIsInside': WHATEVER THE INPUT: true; the input reads as it did. -/
def fnExactIsInsideSpec : ChangeSpec := { name := "fnExactIsInside", fn := fun _ => fun
  | [d1, d2] => { results := [.lit (.bool true)], args := [d1, d2] }
  | _ => none }
def fnExactIsInsideRow : OpenClaim := { program := "ytdofkaemeongpaa", sum := "a010a399b4aa578fd8967238d6e73ddd8a1a40c916f36987651fd3eef3e3d152", func := "loop.example/g03003/laws.FnExactIsInside", spec := "fnExactIsInside", apart := false }
def FnExactIsInsideSaid : Prop := fnExactIsInsideRow.holds Try.pinned (OpenSpec.ofChange fnExactIsInsideSpec)

/-- ITS FALSE NEIGHBOUR: 'it returns false'. Refute it at one input. -/
def fnExactIsInsideWrong : ChangeSpec := { name := "fnExactIsInside", fn := fun _ => fun
  | [d1, d2] => { results := [.lit (.bool false)], args := [d1, d2] }
  | _ => none }
def FnExactIsInsideWrongFalsely : Prop := fnExactIsInsideRow.holds Try.pinned (OpenSpec.ofChange fnExactIsInsideWrong)

/-- 'laws.FnExactIsFill': WHATEVER THE INPUT: true; the input reads as it did. -/
def fnExactIsFillSpec : ChangeSpec := { name := "fnExactIsFill", fn := fun _ => fun
  | [d1, d2] => { results := [.lit (.bool true)], args := [d1, d2] }
  | _ => none }
def fnExactIsFillRow : OpenClaim := { program := "ytdofkaemeongpaa", sum := "a010a399b4aa578fd8967238d6e73ddd8a1a40c916f36987651fd3eef3e3d152", func := "loop.example/g03003/laws.FnExactIsFill", spec := "fnExactIsFill", apart := false }
def FnExactIsFillSaid : Prop := fnExactIsFillRow.holds Try.pinned (OpenSpec.ofChange fnExactIsFillSpec)

/-- ITS FALSE NEIGHBOUR: 'it returns false'. Refute it at one input. -/
def fnExactIsFillWrong : ChangeSpec := { name := "fnExactIsFill", fn := fun _ => fun
  | [d1, d2] => { results := [.lit (.bool false)], args := [d1, d2] }
  | _ => none }
def FnExactIsFillWrongFalsely : Prop := fnExactIsFillRow.holds Try.pinned (OpenSpec.ofChange fnExactIsFillWrong)

/- THE SECOND FORM. 'bulk': how many values and letters a reading holds, each counted each time it is reached (what is shared counts as often as it is met; a slice's spare places count too). A statement '..UptoSaid' is the law's where the arguments, and the package variables that the reading takes, are together of bulk at most 1048576: NARROWER than '..Said'. Prove '..Said' where nothing that the law and all that it calls make is longer than what came in: it says more and counts as full. Else prove '..UptoSaid'. A law counts once. -/
mutual
def uptoBulk {H : Type} : DataW H → Nat
  | .lit (.string bytes) => bytes.length + 1
  | .lit _ => 1
  | .nil => 1
  | .ptr d => uptoBulk d + 1
  | .slice elems spare => uptoBulkAll elems + uptoBulkAll spare + 1
  | .agg parts => uptoBulkAll parts + 1
  | .iface _ d => uptoBulk d + 1
  | .map entries => uptoBulkEntries entries + 1
  | .held _ => 1
def uptoBulkAll {H : Type} : List (DataW H) → Nat
  | [] => 0
  | d :: r => uptoBulk d + uptoBulkAll r
def uptoBulkEntries {H : Type} : List (Lit × DataW H) → Nat
  | [] => 0
  | x :: r => uptoBulkEntry x + uptoBulkEntries r
def uptoBulkEntry {H : Type} : Lit × DataW H → Nat
  | (.string bytes, d) => bytes.length + uptoBulk d + 1
  | (_, d) => uptoBulk d + 1
 end
def uptoSmall : (H : Type) → List (DataW H) → Bool := fun _ ds => decide (uptoBulkAll ds ≤ 1048576)
def OpenSpec.upto (s : _root_.Go.ChangeSpec) : _root_.Go.OpenSpec := { _root_.Go.OpenSpec.ofChange s with cond := some uptoSmall }

/-- 'laws.FnExactFormName', WHERE WHAT IT READS IS OF BULK AT MOST 1048576: true; the input reads as it did. -/
def fnExactFormNameUptoRow : OpenClaim := { program := "ytdofkaemeongpaa", sum := "a010a399b4aa578fd8967238d6e73ddd8a1a40c916f36987651fd3eef3e3d152", func := "loop.example/g03003/laws.FnExactFormName", spec := "fnExactFormName", apart := false, narrowed := true }
def FnExactFormNameUptoSaid : Prop := fnExactFormNameUptoRow.holds Try.pinned (OpenSpec.upto fnExactFormNameSpec)

/-- 'laws.FnExactHeadOf', WHERE WHAT IT READS IS OF BULK AT MOST 1048576: true; the input reads as it did. -/
def fnExactHeadOfUptoRow : OpenClaim := { program := "ytdofkaemeongpaa", sum := "a010a399b4aa578fd8967238d6e73ddd8a1a40c916f36987651fd3eef3e3d152", func := "loop.example/g03003/laws.FnExactHeadOf", spec := "fnExactHeadOf", apart := false, narrowed := true }
def FnExactHeadOfUptoSaid : Prop := fnExactHeadOfUptoRow.holds Try.pinned (OpenSpec.upto fnExactHeadOfSpec)

/-- 'laws.FnExactWithoutHead', WHERE WHAT IT READS IS OF BULK AT MOST 1048576: true; the input reads as it did. -/
def fnExactWithoutHeadUptoRow : OpenClaim := { program := "ytdofkaemeongpaa", sum := "a010a399b4aa578fd8967238d6e73ddd8a1a40c916f36987651fd3eef3e3d152", func := "loop.example/g03003/laws.FnExactWithoutHead", spec := "fnExactWithoutHead", apart := false, narrowed := true }
def FnExactWithoutHeadUptoSaid : Prop := fnExactWithoutHeadUptoRow.holds Try.pinned (OpenSpec.upto fnExactWithoutHeadSpec)

/-- 'laws.FnExactWithoutTail', WHERE WHAT IT READS IS OF BULK AT MOST 1048576: true; the input reads as it did. -/
def fnExactWithoutTailUptoRow : OpenClaim := { program := "ytdofkaemeongpaa", sum := "a010a399b4aa578fd8967238d6e73ddd8a1a40c916f36987651fd3eef3e3d152", func := "loop.example/g03003/laws.FnExactWithoutTail", spec := "fnExactWithoutTail", apart := false, narrowed := true }
def FnExactWithoutTailUptoSaid : Prop := fnExactWithoutTailUptoRow.holds Try.pinned (OpenSpec.upto fnExactWithoutTailSpec)

/-- 'laws.FnExactIsInside', WHERE WHAT IT READS IS OF BULK AT MOST 1048576: true; the input reads as it did. -/
def fnExactIsInsideUptoRow : OpenClaim := { program := "ytdofkaemeongpaa", sum := "a010a399b4aa578fd8967238d6e73ddd8a1a40c916f36987651fd3eef3e3d152", func := "loop.example/g03003/laws.FnExactIsInside", spec := "fnExactIsInside", apart := false, narrowed := true }
def FnExactIsInsideUptoSaid : Prop := fnExactIsInsideUptoRow.holds Try.pinned (OpenSpec.upto fnExactIsInsideSpec)

/-- 'laws.FnExactIsFill', WHERE WHAT IT READS IS OF BULK AT MOST 1048576: true; the input reads as it did. -/
def fnExactIsFillUptoRow : OpenClaim := { program := "ytdofkaemeongpaa", sum := "a010a399b4aa578fd8967238d6e73ddd8a1a40c916f36987651fd3eef3e3d152", func := "loop.example/g03003/laws.FnExactIsFill", spec := "fnExactIsFill", apart := false, narrowed := true }
def FnExactIsFillUptoSaid : Prop := fnExactIsFillUptoRow.holds Try.pinned (OpenSpec.upto fnExactIsFillSpec)

end Rows
end Go.Proofs.Ytdofkaemeongpaa
