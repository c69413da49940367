/-
  DERIVED. GIVEN WITH THE SEED: THE CARDS: each row of YtbmkmaobejlkgaaGreatDoorRows.lean that lists a variable, with what it lists TIED to the program's text (the seventh form; the later family's looks); each row that meets fmt, with fmt's text TOLD by the authors' own Lean function (tested against real Go, not proved from fmt's source: count such statements apart). THE CARD IS WHAT COUNTS. Prove the row's statement (the work); the ties are given (YtbmkmaobejlkgaaGreatDoorTie.lean); close each card by the builder's one call (the guide's Derived/Test/ToyasCard.lean, 'card_holds'). Laid BY PROGRAM, IN A SANDBOX (cutbox-door.mjs). By AI agents, Wed Nov 11 2026. No macro, syntax, notation, axiom, sorry.
-/
import Derived.Test.YtbmkmaobejlkgaaGreatDoorRows
import GoSem.ClaimSeven
namespace Go.Proofs.YtbmkmaobejlkgaaGreatDoor
namespace Rows

/-- THE TIED CARD OF 'probecardlaw30.PacksTables'. -/
def packsTablesCard : Claim7 := { stood := { row := packsTablesRow, standIns := [], harness := (true, "76ee560b48fba16c9ab1c4a1ff2d03f0e553e10976b4242b7630d88ac66baa32"), looks := false }, kinds := [], alts := [], laidByText := true, laidKinds := [.data, .data, .data], laidTests := true, laidLooks := .later }
def PacksTablesCardSaid : Prop := Claim7.holds Tryz.pinned (.plain (OpenSpec.ofChange packsTablesSpec)) packsTablesCard

/-- THE TIED CARD OF 'probecardlaw30.PacksErrors'. -/
def packsErrorsCard : Claim7 := { stood := { row := packsErrorsRow, standIns := [], harness := (true, "76ee560b48fba16c9ab1c4a1ff2d03f0e553e10976b4242b7630d88ac66baa32"), looks := false }, kinds := [], alts := [], laidByText := true, laidKinds := [.data, .data, .data], laidTests := true, laidLooks := .later }
def PacksErrorsCardSaid : Prop := Claim7.holds Tryz.pinned (.plain (OpenSpec.ofChange packsErrorsSpec)) packsErrorsCard

/-- THE TIED CARD OF 'probecardlaw30.PacksKnown'. -/
def packsKnownCard : Claim7 := { stood := { row := packsKnownRow, standIns := [], harness := (true, "76ee560b48fba16c9ab1c4a1ff2d03f0e553e10976b4242b7630d88ac66baa32"), looks := false }, kinds := [], alts := [], laidByText := true, laidKinds := [.data, .data, .data], laidTests := true, laidLooks := .later }
def PacksKnownCardSaid : Prop := Claim7.holds Tryz.pinned (.plain (OpenSpec.ofChange packsKnownSpec)) packsKnownCard

/-- THE SECOND FORM's CARD OF 'probecardlaw30.PacksTables'. -/
def packsTablesUptoCard : Claim7 := { stood := { row := packsTablesUptoRow, standIns := [], harness := (true, "76ee560b48fba16c9ab1c4a1ff2d03f0e553e10976b4242b7630d88ac66baa32"), looks := false }, kinds := [], alts := [], laidByText := true, laidKinds := [.data, .data, .data], laidTests := true, laidLooks := .later }
def PacksTablesUptoCardSaid : Prop := Claim7.holds Tryz.pinned (.plain (OpenSpec.upto packsTablesSpec)) packsTablesUptoCard

/-- THE SECOND FORM's CARD OF 'probecardlaw30.PacksErrors'. -/
def packsErrorsUptoCard : Claim7 := { stood := { row := packsErrorsUptoRow, standIns := [], harness := (true, "76ee560b48fba16c9ab1c4a1ff2d03f0e553e10976b4242b7630d88ac66baa32"), looks := false }, kinds := [], alts := [], laidByText := true, laidKinds := [.data, .data, .data], laidTests := true, laidLooks := .later }
def PacksErrorsUptoCardSaid : Prop := Claim7.holds Tryz.pinned (.plain (OpenSpec.upto packsErrorsSpec)) packsErrorsUptoCard

/-- THE SECOND FORM's CARD OF 'probecardlaw30.PacksKnown'. -/
def packsKnownUptoCard : Claim7 := { stood := { row := packsKnownUptoRow, standIns := [], harness := (true, "76ee560b48fba16c9ab1c4a1ff2d03f0e553e10976b4242b7630d88ac66baa32"), looks := false }, kinds := [], alts := [], laidByText := true, laidKinds := [.data, .data, .data], laidTests := true, laidLooks := .later }
def PacksKnownUptoCardSaid : Prop := Claim7.holds Tryz.pinned (.plain (OpenSpec.upto packsKnownSpec)) packsKnownUptoCard
end Rows
end Go.Proofs.YtbmkmaobejlkgaaGreatDoor
