/-
  DERIVED. GIVEN WITH THE SEED: THE CARDS: each row of YtgmhjinlpikpjaeDoorRows.lean that lists a variable, with what it lists TIED to the program's text (the seventh form; the later family's looks); each row that meets fmt, with fmt's text TOLD by the authors' own Lean function (tested against real Go, not proved from fmt's source: count such statements apart). THE CARD IS WHAT COUNTS. Prove the row's statement (the work); the ties are given (YtgmhjinlpikpjaeDoorTie.lean); close each card by the builder's one call (the guide's Derived/Test/ToyasCard.lean, 'card_holds'). Laid BY PROGRAM, IN A SANDBOX (cutbox-door.mjs). By AI agents, Wed Nov 11 2026. No macro, syntax, notation, axiom, sorry.
-/
import Derived.Test.YtgmhjinlpikpjaeDoorRows
import GoSem.ClaimSeven
namespace Go.Proofs.YtgmhjinlpikpjaeDoor
namespace Rows

/-- THE TIED CARD OF 'laws.FnExactSlotName'. -/
def fnExactSlotNameCard : Claim7 := { stood := { row := fnExactSlotNameRow, standIns := [], harness := (true, "02305dfb9c2e67c39b6683c418f946018eefeb643e33e8eefaa6dbbe7e873837"), looks := false }, kinds := [], alts := [], laidByText := true, laidKinds := [.data, .data, .data], laidTests := true, laidLooks := .later }
def FnExactSlotNameCardSaid : Prop := Claim7.holds Tryd.pinned (.plain (OpenSpec.ofChange fnExactSlotNameSpec)) fnExactSlotNameCard

/-- THE TIED CARD OF 'laws.FnExactEmptyFill'. -/
def fnExactEmptyFillCard : Claim7 := { stood := { row := fnExactEmptyFillRow, standIns := [], harness := (true, "02305dfb9c2e67c39b6683c418f946018eefeb643e33e8eefaa6dbbe7e873837"), looks := false }, kinds := [], alts := [], laidByText := true, laidKinds := [.data, .pinned], laidTests := true, laidLooks := .later }
def FnExactEmptyFillCardSaid : Prop := Claim7.holds Tryd.pinned (.plain (OpenSpec.ofChange fnExactEmptyFillSpec)) fnExactEmptyFillCard

/-- THE TIED CARD OF 'laws.FnExactSlotNamed'. -/
def fnExactSlotNamedCard : Claim7 := { stood := { row := fnExactSlotNamedRow, standIns := [], harness := (true, "02305dfb9c2e67c39b6683c418f946018eefeb643e33e8eefaa6dbbe7e873837"), looks := false }, kinds := [], alts := [], laidByText := true, laidKinds := [.data, .data, .data], laidTests := true, laidLooks := .later }
def FnExactSlotNamedCardSaid : Prop := Claim7.holds Tryd.pinned (.plain (OpenSpec.ofChange fnExactSlotNamedSpec)) fnExactSlotNamedCard

/-- THE SECOND FORM's CARD OF 'laws.FnExactSlotName'. -/
def fnExactSlotNameUptoCard : Claim7 := { stood := { row := fnExactSlotNameUptoRow, standIns := [], harness := (true, "02305dfb9c2e67c39b6683c418f946018eefeb643e33e8eefaa6dbbe7e873837"), looks := false }, kinds := [], alts := [], laidByText := true, laidKinds := [.data, .data, .data], laidTests := true, laidLooks := .later }
def FnExactSlotNameUptoCardSaid : Prop := Claim7.holds Tryd.pinned (.plain (OpenSpec.upto fnExactSlotNameSpec)) fnExactSlotNameUptoCard

/-- THE SECOND FORM's CARD OF 'laws.FnExactEmptyFill'. -/
def fnExactEmptyFillUptoCard : Claim7 := { stood := { row := fnExactEmptyFillUptoRow, standIns := [], harness := (true, "02305dfb9c2e67c39b6683c418f946018eefeb643e33e8eefaa6dbbe7e873837"), looks := false }, kinds := [], alts := [], laidByText := true, laidKinds := [.data, .pinned], laidTests := true, laidLooks := .later }
def FnExactEmptyFillUptoCardSaid : Prop := Claim7.holds Tryd.pinned (.plain (OpenSpec.upto fnExactEmptyFillSpec)) fnExactEmptyFillUptoCard

/-- THE SECOND FORM's CARD OF 'laws.FnExactSlotNamed'. -/
def fnExactSlotNamedUptoCard : Claim7 := { stood := { row := fnExactSlotNamedUptoRow, standIns := [], harness := (true, "02305dfb9c2e67c39b6683c418f946018eefeb643e33e8eefaa6dbbe7e873837"), looks := false }, kinds := [], alts := [], laidByText := true, laidKinds := [.data, .data, .data], laidTests := true, laidLooks := .later }
def FnExactSlotNamedUptoCardSaid : Prop := Claim7.holds Tryd.pinned (.plain (OpenSpec.upto fnExactSlotNamedSpec)) fnExactSlotNamedUptoCard
end Rows
end Go.Proofs.YtgmhjinlpikpjaeDoor
