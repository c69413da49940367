/-
  DERIVED. GIVEN WITH THE SEED: THE CARDS: each row of YtgmenpackpnmaaaGreatDoorRows.lean that lists a variable, with what it lists TIED to the program's text (the seventh form; the later family's looks); each row that meets fmt, with fmt's text TOLD by the authors' own Lean function (tested against real Go, not proved from fmt's source: count such statements apart). THE CARD IS WHAT COUNTS. Prove the row's statement (the work); the ties are given (YtgmenpackpnmaaaGreatDoorTie.lean); close each card by the builder's one call (the guide's Derived/Test/ToyasCard.lean, 'card_holds'). Laid BY PROGRAM, IN A SANDBOX (cutbox-door.mjs). By AI agents, Wed Nov 11 2026. No macro, syntax, notation, axiom, sorry.
-/
import Derived.Test.YtgmenpackpnmaaaGreatDoorRows
import GoSem.ClaimSeven
namespace Go.Proofs.YtgmenpackpnmaaaGreatDoor
namespace Rows

/-- THE TIED CARD OF 'probecardlaw21.LedgersUseful'. -/
def ledgersUsefulCard : Claim7 := { stood := { row := ledgersUsefulRow, standIns := [], harness := (true, "944f999c26a5c1aefce589298c6366ca99495dc91c2a392a525ccce402ab25a4"), looks := false }, kinds := [], alts := [], laidByText := true, laidKinds := [.data, .data], laidTests := true, laidLooks := .later }
def LedgersUsefulCardSaid : Prop := Claim7.holds Tryz.pinned (.plain (OpenSpec.ofChange ledgersUsefulSpec)) ledgersUsefulCard

/-- THE TIED CARD OF 'probecardlaw21.LedgersPrefix'. -/
def ledgersPrefixCard : Claim7 := { stood := { row := ledgersPrefixRow, standIns := [], harness := (true, "944f999c26a5c1aefce589298c6366ca99495dc91c2a392a525ccce402ab25a4"), looks := false }, kinds := [], alts := [], laidByText := true, laidKinds := [.data, .data], laidTests := true, laidLooks := .later }
def LedgersPrefixCardSaid : Prop := Claim7.holds Tryz.pinned (.plain (OpenSpec.ofChange ledgersPrefixSpec)) ledgersPrefixCard

/-- THE TIED CARD OF 'probecardlaw21.LedgersAny'. -/
def ledgersAnyCard : Claim7 := { stood := { row := ledgersAnyRow, standIns := [], harness := (true, "944f999c26a5c1aefce589298c6366ca99495dc91c2a392a525ccce402ab25a4"), looks := false }, kinds := [], alts := [], laidByText := true, laidKinds := [.data, .data], laidTests := true, laidLooks := .later }
def LedgersAnyCardSaid : Prop := Claim7.holds Tryz.pinned (.plain (OpenSpec.ofChange ledgersAnySpec)) ledgersAnyCard

/-- THE TIED CARD OF 'probecardlaw21.LedgersDrop'. -/
def ledgersDropCard : Claim7 := { stood := { row := ledgersDropRow, standIns := [], harness := (true, "944f999c26a5c1aefce589298c6366ca99495dc91c2a392a525ccce402ab25a4"), looks := false }, kinds := [], alts := [], laidByText := true, laidKinds := [.data, .data], laidTests := true, laidLooks := .later }
def LedgersDropCardSaid : Prop := Claim7.holds Tryz.pinned (.plain (OpenSpec.ofChange ledgersDropSpec)) ledgersDropCard

/-- THE TIED CARD OF 'probecardlaw21.LedgersOf'. -/
def ledgersOfCard : Claim7 := { stood := { row := ledgersOfRow, standIns := [], harness := (true, "944f999c26a5c1aefce589298c6366ca99495dc91c2a392a525ccce402ab25a4"), looks := false }, kinds := [], alts := [], laidByText := true, laidKinds := [.data, .data], laidTests := true, laidLooks := .later }
def LedgersOfCardSaid : Prop := Claim7.holds Tryz.pinned (.plain (OpenSpec.ofChange ledgersOfSpec)) ledgersOfCard

/-- THE SECOND FORM's CARD OF 'probecardlaw21.LedgersUseful'. -/
def ledgersUsefulUptoCard : Claim7 := { stood := { row := ledgersUsefulUptoRow, standIns := [], harness := (true, "944f999c26a5c1aefce589298c6366ca99495dc91c2a392a525ccce402ab25a4"), looks := false }, kinds := [], alts := [], laidByText := true, laidKinds := [.data, .data], laidTests := true, laidLooks := .later }
def LedgersUsefulUptoCardSaid : Prop := Claim7.holds Tryz.pinned (.plain (OpenSpec.upto ledgersUsefulSpec)) ledgersUsefulUptoCard

/-- THE SECOND FORM's CARD OF 'probecardlaw21.LedgersPrefix'. -/
def ledgersPrefixUptoCard : Claim7 := { stood := { row := ledgersPrefixUptoRow, standIns := [], harness := (true, "944f999c26a5c1aefce589298c6366ca99495dc91c2a392a525ccce402ab25a4"), looks := false }, kinds := [], alts := [], laidByText := true, laidKinds := [.data, .data], laidTests := true, laidLooks := .later }
def LedgersPrefixUptoCardSaid : Prop := Claim7.holds Tryz.pinned (.plain (OpenSpec.upto ledgersPrefixSpec)) ledgersPrefixUptoCard

/-- THE SECOND FORM's CARD OF 'probecardlaw21.LedgersAny'. -/
def ledgersAnyUptoCard : Claim7 := { stood := { row := ledgersAnyUptoRow, standIns := [], harness := (true, "944f999c26a5c1aefce589298c6366ca99495dc91c2a392a525ccce402ab25a4"), looks := false }, kinds := [], alts := [], laidByText := true, laidKinds := [.data, .data], laidTests := true, laidLooks := .later }
def LedgersAnyUptoCardSaid : Prop := Claim7.holds Tryz.pinned (.plain (OpenSpec.upto ledgersAnySpec)) ledgersAnyUptoCard

/-- THE SECOND FORM's CARD OF 'probecardlaw21.LedgersDrop'. -/
def ledgersDropUptoCard : Claim7 := { stood := { row := ledgersDropUptoRow, standIns := [], harness := (true, "944f999c26a5c1aefce589298c6366ca99495dc91c2a392a525ccce402ab25a4"), looks := false }, kinds := [], alts := [], laidByText := true, laidKinds := [.data, .data], laidTests := true, laidLooks := .later }
def LedgersDropUptoCardSaid : Prop := Claim7.holds Tryz.pinned (.plain (OpenSpec.upto ledgersDropSpec)) ledgersDropUptoCard

/-- THE SECOND FORM's CARD OF 'probecardlaw21.LedgersOf'. -/
def ledgersOfUptoCard : Claim7 := { stood := { row := ledgersOfUptoRow, standIns := [], harness := (true, "944f999c26a5c1aefce589298c6366ca99495dc91c2a392a525ccce402ab25a4"), looks := false }, kinds := [], alts := [], laidByText := true, laidKinds := [.data, .data], laidTests := true, laidLooks := .later }
def LedgersOfUptoCardSaid : Prop := Claim7.holds Tryz.pinned (.plain (OpenSpec.upto ledgersOfSpec)) ledgersOfUptoCard
end Rows
end Go.Proofs.YtgmenpackpnmaaaGreatDoor
