/-
  DERIVED. GIVEN WITH THE SEED: THE CARDS: each row of YtodcckiphdnjeacDoorRows.lean that lists a variable, with what it lists TIED to the program's text (the seventh form; the later family's looks); each row that meets fmt, with fmt's text TOLD by the authors' own Lean function (tested against real Go, not proved from fmt's source: count such statements apart). THE CARD IS WHAT COUNTS. Prove the row's statement (the work); the ties are given (YtodcckiphdnjeacDoorTie.lean); close each card by the builder's one call (the guide's Derived/Test/ToyasCard.lean, 'card_holds'). Laid BY PROGRAM, IN A SANDBOX (cutbox-door.mjs). By AI agents, Wed Nov 11 2026. No macro, syntax, notation, axiom, sorry.
-/
import Derived.Test.YtodcckiphdnjeacDoorRows
import GoSem.ClaimSeven
namespace Go.Proofs.YtodcckiphdnjeacDoor
namespace Rows

/-- THE TIED CARD OF 'laws.FnExactSlotNamed'. -/
def fnExactSlotNamedCard : Claim7 := { stood := { row := fnExactSlotNamedRow, standIns := [], harness := (true, "7d035308b7da5ee37d1cac68ac60654e851f4f925ff5dbe1a7f90bd2d612baff"), looks := false }, kinds := [], alts := [], laidByText := true, laidKinds := [.data, .data, .data], laidTests := true, laidLooks := .later }
def FnExactSlotNamedCardSaid : Prop := Claim7.holds Tryd.pinned (.plain (OpenSpec.ofChange fnExactSlotNamedSpec)) fnExactSlotNamedCard

/-- THE TIED CARD OF 'laws.FnExactParseGrid'. -/
def fnExactParseGridCard : Claim7 := { stood := { row := fnExactParseGridRow, standIns := [], harness := (true, "7d035308b7da5ee37d1cac68ac60654e851f4f925ff5dbe1a7f90bd2d612baff"), looks := false }, kinds := [], alts := [], laidByText := true, laidKinds := [.data, .pinned], laidTests := true, laidLooks := .later }
def FnExactParseGridCardSaid : Prop := Claim7.holds Tryd.pinned (.plain (OpenSpec.ofChange fnExactParseGridSpec)) fnExactParseGridCard

/-- THE TIED CARD OF 'laws.FnGrids'. -/
def fnGridsCard : Claim7 := { stood := { row := fnGridsRow, standIns := [], harness := (true, "7d035308b7da5ee37d1cac68ac60654e851f4f925ff5dbe1a7f90bd2d612baff"), looks := false }, kinds := [], alts := [], laidByText := true, laidKinds := [.data, .pinned], laidTests := true, laidLooks := .later }
def FnGridsCardSaid : Prop := Claim7.holds Tryd.pinned (.plain (OpenSpec.ofChange fnGridsSpec)) fnGridsCard

/-- THE TIED CARD OF 'laws.FnSlots'. -/
def fnSlotsCard : Claim7 := { stood := { row := fnSlotsRow, standIns := [], harness := (true, "7d035308b7da5ee37d1cac68ac60654e851f4f925ff5dbe1a7f90bd2d612baff"), looks := false }, kinds := [], alts := [], laidByText := true, laidKinds := [.data, .data, .data], laidTests := true, laidLooks := .later }
def FnSlotsCardSaid : Prop := Claim7.holds Tryd.pinned (.plain (OpenSpec.ofChange fnSlotsSpec)) fnSlotsCard

/-- THE SECOND FORM's CARD OF 'laws.FnExactSlotNamed'. -/
def fnExactSlotNamedUptoCard : Claim7 := { stood := { row := fnExactSlotNamedUptoRow, standIns := [], harness := (true, "7d035308b7da5ee37d1cac68ac60654e851f4f925ff5dbe1a7f90bd2d612baff"), looks := false }, kinds := [], alts := [], laidByText := true, laidKinds := [.data, .data, .data], laidTests := true, laidLooks := .later }
def FnExactSlotNamedUptoCardSaid : Prop := Claim7.holds Tryd.pinned (.plain (OpenSpec.upto fnExactSlotNamedSpec)) fnExactSlotNamedUptoCard

/-- THE SECOND FORM's CARD OF 'laws.FnExactParseGrid'. -/
def fnExactParseGridUptoCard : Claim7 := { stood := { row := fnExactParseGridUptoRow, standIns := [], harness := (true, "7d035308b7da5ee37d1cac68ac60654e851f4f925ff5dbe1a7f90bd2d612baff"), looks := false }, kinds := [], alts := [], laidByText := true, laidKinds := [.data, .pinned], laidTests := true, laidLooks := .later }
def FnExactParseGridUptoCardSaid : Prop := Claim7.holds Tryd.pinned (.plain (OpenSpec.upto fnExactParseGridSpec)) fnExactParseGridUptoCard

/-- THE SECOND FORM's CARD OF 'laws.FnGrids'. -/
def fnGridsUptoCard : Claim7 := { stood := { row := fnGridsUptoRow, standIns := [], harness := (true, "7d035308b7da5ee37d1cac68ac60654e851f4f925ff5dbe1a7f90bd2d612baff"), looks := false }, kinds := [], alts := [], laidByText := true, laidKinds := [.data, .pinned], laidTests := true, laidLooks := .later }
def FnGridsUptoCardSaid : Prop := Claim7.holds Tryd.pinned (.plain (OpenSpec.upto fnGridsSpec)) fnGridsUptoCard

/-- THE SECOND FORM's CARD OF 'laws.FnSlots'. -/
def fnSlotsUptoCard : Claim7 := { stood := { row := fnSlotsUptoRow, standIns := [], harness := (true, "7d035308b7da5ee37d1cac68ac60654e851f4f925ff5dbe1a7f90bd2d612baff"), looks := false }, kinds := [], alts := [], laidByText := true, laidKinds := [.data, .data, .data], laidTests := true, laidLooks := .later }
def FnSlotsUptoCardSaid : Prop := Claim7.holds Tryd.pinned (.plain (OpenSpec.upto fnSlotsSpec)) fnSlotsUptoCard
end Rows
end Go.Proofs.YtodcckiphdnjeacDoor
