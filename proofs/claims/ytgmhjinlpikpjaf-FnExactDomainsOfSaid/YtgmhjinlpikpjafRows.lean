/-
  No cell of these rows narrows 'for every input' (looked for: loops, veiled, ifaces, maps, wideKeys, modest, calm, conditions, laid).
  DERIVED. THE GIVEN ROWS OF THIS SEAT. 4 by the template 'for every input the law returns true; each argument reads behind the call as it read before'; 0 by the template 'total and deterministic' (their statements: YtgmhjinlpikpjafTotals.lean).
  GIVEN WITH THE SEED: the statements are not yours to turn. If you find one false, say at which input.
  Laid BY PROGRAM, IN A SANDBOX (cutbox-rows.mjs): the forced cells as the released guide's own fill.sh prints them over the translation 57af83cebf1567ce… (all of the seat's roots in one cut). By AI agents, Wed Nov 11 2026. No macro, syntax, notation, axiom, sorry.
-/
import Derived.Test.YtgmhjinlpikpjafChecked
import GoSem.Claim
import GoSem.ClaimJoined
import GoSem.ClaimMapViews
import Derived.JoinedTies
import Derived.KernelRfl
namespace Go.Proofs.Ytgmhjinlpikpjaf
/- THE CELL 'sum', in the pinned program and in every row, IS THE sha256 OF THE DUMP (.gsa) THAT YtgmhjinlpikpjafProg.lean LOADS. Nothing in Lean hashes anything: it is a label: what it is worth is what the hold of that sum in a sandbox is worth. -/
noncomputable def Try.pinned : Pinned := { name := "ytgmhjinlpikpjaf", sum := "57af83cebf1567cebbe27b257e2d5e0acbf62706999fa15df64fb67f83caccf5", checked := Try.checked }
namespace Rows
def none {H : Type} : Left H := { results := [], args := [] }

/-- 'laws.FnExactSupport': WHATEVER THE INPUT: true; the input reads as it did. -/
def fnExactSupportSpec : ChangeSpec := { name := "fnExactSupport", fn := fun _ => fun
  | [d1, d2, d3, d4] => { results := [.lit (.bool true)], args := [d1, d2, d3, d4] }
  | _ => none }
def fnExactSupportRow : OpenClaim := { program := "ytgmhjinlpikpjaf", sum := "57af83cebf1567cebbe27b257e2d5e0acbf62706999fa15df64fb67f83caccf5", func := "loop.example/g03003/laws.FnExactSupport", spec := "fnExactSupport", unfollowed := true, recurses := true, apart := false }
def FnExactSupportSaid : Prop := fnExactSupportRow.holds Try.pinned (OpenSpec.ofChange fnExactSupportSpec)

/-- ITS FALSE NEIGHBOUR: 'it returns false'. Refute it at one input. -/
def fnExactSupportWrong : ChangeSpec := { name := "fnExactSupport", fn := fun _ => fun
  | [d1, d2, d3, d4] => { results := [.lit (.bool false)], args := [d1, d2, d3, d4] }
  | _ => none }
def FnExactSupportWrongFalsely : Prop := fnExactSupportRow.holds Try.pinned (OpenSpec.ofChange fnExactSupportWrong)

/-- 'laws.FnExactDomainsOf': WHATEVER THE INPUT: true; the input reads as it did. -/
def fnExactDomainsOfSpec : ChangeSpec := { name := "fnExactDomainsOf", fn := fun _ => fun
  | [d1, d2, d3] => { results := [.lit (.bool true)], args := [d1, d2, d3] }
  | _ => none }
def fnExactDomainsOfRow : OpenClaim := { program := "ytgmhjinlpikpjaf", sum := "57af83cebf1567cebbe27b257e2d5e0acbf62706999fa15df64fb67f83caccf5", func := "loop.example/g03003/laws.FnExactDomainsOf", spec := "fnExactDomainsOf", unfollowed := true, recurses := true, apart := false }
def FnExactDomainsOfSaid : Prop := fnExactDomainsOfRow.holds Try.pinned (OpenSpec.ofChange fnExactDomainsOfSpec)

/-- ITS FALSE NEIGHBOUR: 'it returns false'. Refute it at one input. -/
def fnExactDomainsOfWrong : ChangeSpec := { name := "fnExactDomainsOf", fn := fun _ => fun
  | [d1, d2, d3] => { results := [.lit (.bool false)], args := [d1, d2, d3] }
  | _ => none }
def FnExactDomainsOfWrongFalsely : Prop := fnExactDomainsOfRow.holds Try.pinned (OpenSpec.ofChange fnExactDomainsOfWrong)

/-- 'laws.FnExactForced': WHATEVER THE INPUT: true; the input reads as it did. -/
def fnExactForcedSpec : ChangeSpec := { name := "fnExactForced", fn := fun _ => fun
  | [d1, d2, d3] => { results := [.lit (.bool true)], args := [d1, d2, d3] }
  | _ => none }
def fnExactForcedRow : OpenClaim := { program := "ytgmhjinlpikpjaf", sum := "57af83cebf1567cebbe27b257e2d5e0acbf62706999fa15df64fb67f83caccf5", func := "loop.example/g03003/laws.FnExactForced", spec := "fnExactForced", apart := false }
def FnExactForcedSaid : Prop := fnExactForcedRow.holds Try.pinned (OpenSpec.ofChange fnExactForcedSpec)

/-- ITS FALSE NEIGHBOUR: 'it returns false'. Refute it at one input. -/
def fnExactForcedWrong : ChangeSpec := { name := "fnExactForced", fn := fun _ => fun
  | [d1, d2, d3] => { results := [.lit (.bool false)], args := [d1, d2, d3] }
  | _ => none }
def FnExactForcedWrongFalsely : Prop := fnExactForcedRow.holds Try.pinned (OpenSpec.ofChange fnExactForcedWrong)

/-- 'laws.FnExactFormOf': WHATEVER THE INPUT: true; the input reads as it did. -/
def fnExactFormOfSpec : ChangeSpec := { name := "fnExactFormOf", fn := fun _ => fun
  | [d] => { results := [.lit (.bool true)], args := [d] }
  | _ => none }
def fnExactFormOfRow : OpenClaim := { program := "ytgmhjinlpikpjaf", sum := "57af83cebf1567cebbe27b257e2d5e0acbf62706999fa15df64fb67f83caccf5", func := "loop.example/g03003/laws.FnExactFormOf", spec := "fnExactFormOf", unfollowed := true, recurses := true, apart := false }
def FnExactFormOfSaid : Prop := fnExactFormOfRow.holds Try.pinned (OpenSpec.ofChange fnExactFormOfSpec)

/-- ITS FALSE NEIGHBOUR: 'it returns false'. Refute it at one input. -/
def fnExactFormOfWrong : ChangeSpec := { name := "fnExactFormOf", fn := fun _ => fun
  | [d] => { results := [.lit (.bool false)], args := [d] }
  | _ => none }
def FnExactFormOfWrongFalsely : Prop := fnExactFormOfRow.holds Try.pinned (OpenSpec.ofChange fnExactFormOfWrong)

/- THE SECOND FORM. 'bulk': how many values and letters a reading holds, each counted each time it is reached (what is shared counts as often as it is met; a slice's spare places count too). A statement '..UptoSaid' is the law's where the arguments, and the package variables that the reading takes, are together of bulk at most 1048576: NARROWER than '..Said'. Prove '..Said' where nothing that the law and all that it calls make is longer than what came in: it says more and counts as full. Else prove '..UptoSaid'. A law counts once. -/
mutual
def uptoBulk {H : Type} : DataW H → Nat
  | .lit (.string bytes) => bytes.length + 1
  | .lit _ => 1
  | .nil => 1
  | .ptr d => uptoBulk d + 1
  | .slice elems spare => uptoBulkAll elems + uptoBulkAll spare + 1
  | .agg parts => uptoBulkAll parts + 1
  | .iface _ d => uptoBulk d + 1
  | .map entries => uptoBulkEntries entries + 1
  | .held _ => 1
def uptoBulkAll {H : Type} : List (DataW H) → Nat
  | [] => 0
  | d :: r => uptoBulk d + uptoBulkAll r
def uptoBulkEntries {H : Type} : List (Lit × DataW H) → Nat
  | [] => 0
  | x :: r => uptoBulkEntry x + uptoBulkEntries r
def uptoBulkEntry {H : Type} : Lit × DataW H → Nat
  | (.string bytes, d) => bytes.length + uptoBulk d + 1
  | (_, d) => uptoBulk d + 1
 end
def uptoSmall : (H : Type) → List (DataW H) → Bool := fun _ ds => decide (uptoBulkAll ds ≤ 1048576)
def OpenSpec.upto (s : _root_.Go.ChangeSpec) : _root_.Go.OpenSpec := { _root_.Go.OpenSpec.ofChange s with cond := some uptoSmall }

/-- 'laws.FnExactSupport', WHERE WHAT IT READS IS OF BULK AT MOST 1048576: true; the input reads as it did. -/
def fnExactSupportUptoRow : OpenClaim := { program := "ytgmhjinlpikpjaf", sum := "57af83cebf1567cebbe27b257e2d5e0acbf62706999fa15df64fb67f83caccf5", func := "loop.example/g03003/laws.FnExactSupport", spec := "fnExactSupport", unfollowed := true, recurses := true, apart := false, narrowed := true }
def FnExactSupportUptoSaid : Prop := fnExactSupportUptoRow.holds Try.pinned (OpenSpec.upto fnExactSupportSpec)

/-- 'laws.FnExactDomainsOf', WHERE WHAT IT READS IS OF BULK AT MOST 1048576: true; the input reads as it did. -/
def fnExactDomainsOfUptoRow : OpenClaim := { program := "ytgmhjinlpikpjaf", sum := "57af83cebf1567cebbe27b257e2d5e0acbf62706999fa15df64fb67f83caccf5", func := "loop.example/g03003/laws.FnExactDomainsOf", spec := "fnExactDomainsOf", unfollowed := true, recurses := true, apart := false, narrowed := true }
def FnExactDomainsOfUptoSaid : Prop := fnExactDomainsOfUptoRow.holds Try.pinned (OpenSpec.upto fnExactDomainsOfSpec)

/-- 'laws.FnExactForced', WHERE WHAT IT READS IS OF BULK AT MOST 1048576: true; the input reads as it did. -/
def fnExactForcedUptoRow : OpenClaim := { program := "ytgmhjinlpikpjaf", sum := "57af83cebf1567cebbe27b257e2d5e0acbf62706999fa15df64fb67f83caccf5", func := "loop.example/g03003/laws.FnExactForced", spec := "fnExactForced", apart := false, narrowed := true }
def FnExactForcedUptoSaid : Prop := fnExactForcedUptoRow.holds Try.pinned (OpenSpec.upto fnExactForcedSpec)

/-- 'laws.FnExactFormOf', WHERE WHAT IT READS IS OF BULK AT MOST 1048576: true; the input reads as it did. -/
def fnExactFormOfUptoRow : OpenClaim := { program := "ytgmhjinlpikpjaf", sum := "57af83cebf1567cebbe27b257e2d5e0acbf62706999fa15df64fb67f83caccf5", func := "loop.example/g03003/laws.FnExactFormOf", spec := "fnExactFormOf", unfollowed := true, recurses := true, apart := false, narrowed := true }
def FnExactFormOfUptoSaid : Prop := fnExactFormOfUptoRow.holds Try.pinned (OpenSpec.upto fnExactFormOfSpec)

end Rows
end Go.Proofs.Ytgmhjinlpikpjaf
