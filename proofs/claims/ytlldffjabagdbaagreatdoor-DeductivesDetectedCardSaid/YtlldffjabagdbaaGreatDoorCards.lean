/-
  DERIVED. GIVEN WITH THE SEED: THE CARDS: each row of YtlldffjabagdbaaGreatDoorRows.lean that lists a variable, with what it lists TIED to the program's text (the seventh form; the later family's looks); each row that meets fmt, with fmt's text TOLD by the authors' own Lean function (tested against real Go, not proved from fmt's source: count such statements apart). THE CARD IS WHAT COUNTS. Prove the row's statement (the work); the ties are given (YtlldffjabagdbaaGreatDoorTie.lean); close each card by the builder's one call (the guide's Derived/Test/ToyasCard.lean, 'card_holds'). Laid BY PROGRAM, IN A SANDBOX (cutbox-door.mjs). By AI agents, Wed Nov 11 2026. No macro, syntax, notation, axiom, sorry.
-/
import Derived.Test.YtlldffjabagdbaaGreatDoorRows
import GoSem.ClaimSeven
namespace Go.Proofs.YtlldffjabagdbaaGreatDoor
namespace Rows

/-- THE TIED CARD OF 'probecardlaw16.DeductivesOpposite'. -/
def deductivesOppositeCard : Claim7 := { stood := { row := deductivesOppositeRow, standIns := [], harness := (true, "bad73d37627c1c016778f8dc26ae95af22f6b80e46866002c869437e3cec5409"), looks := false }, kinds := [], alts := [], laidByText := true, laidKinds := [.data], laidTests := true, laidLooks := .later }
def DeductivesOppositeCardSaid : Prop := Claim7.holds Tryz.pinned (.plain (OpenSpec.ofChange deductivesOppositeSpec)) deductivesOppositeCard

/-- THE TIED CARD OF 'probecardlaw16.DeductivesOrder'. -/
def deductivesOrderCard : Claim7 := { stood := { row := deductivesOrderRow, standIns := [], harness := (true, "bad73d37627c1c016778f8dc26ae95af22f6b80e46866002c869437e3cec5409"), looks := false }, kinds := [], alts := [], laidByText := true, laidKinds := [.data], laidTests := true, laidLooks := .later }
def DeductivesOrderCardSaid : Prop := Claim7.holds Tryz.pinned (.plain (OpenSpec.ofChange deductivesOrderSpec)) deductivesOrderCard

/-- THE TIED CARD OF 'probecardlaw16.DeductivesLists'. -/
def deductivesListsCard : Claim7 := { stood := { row := deductivesListsRow, standIns := [], harness := (true, "bad73d37627c1c016778f8dc26ae95af22f6b80e46866002c869437e3cec5409"), looks := false }, kinds := [], alts := [], laidByText := true, laidKinds := [.data], laidTests := true, laidLooks := .later }
def DeductivesListsCardSaid : Prop := Claim7.holds Tryz.pinned (.plain (OpenSpec.ofChange deductivesListsSpec)) deductivesListsCard

/-- THE TIED CARD OF 'probecardlaw16.DeductivesDetected'. -/
def deductivesDetectedCard : Claim7 := { stood := { row := deductivesDetectedRow, standIns := [], harness := (true, "bad73d37627c1c016778f8dc26ae95af22f6b80e46866002c869437e3cec5409"), looks := false }, kinds := [], alts := [], laidByText := true, laidKinds := [.data, .data], laidTests := true, laidLooks := .later }
def DeductivesDetectedCardSaid : Prop := Claim7.holds Tryz.pinned (.plain (OpenSpec.ofChange deductivesDetectedSpec)) deductivesDetectedCard

/-- THE SECOND FORM's CARD OF 'probecardlaw16.DeductivesOpposite'. -/
def deductivesOppositeUptoCard : Claim7 := { stood := { row := deductivesOppositeUptoRow, standIns := [], harness := (true, "bad73d37627c1c016778f8dc26ae95af22f6b80e46866002c869437e3cec5409"), looks := false }, kinds := [], alts := [], laidByText := true, laidKinds := [.data], laidTests := true, laidLooks := .later }
def DeductivesOppositeUptoCardSaid : Prop := Claim7.holds Tryz.pinned (.plain (OpenSpec.upto deductivesOppositeSpec)) deductivesOppositeUptoCard

/-- THE SECOND FORM's CARD OF 'probecardlaw16.DeductivesOrder'. -/
def deductivesOrderUptoCard : Claim7 := { stood := { row := deductivesOrderUptoRow, standIns := [], harness := (true, "bad73d37627c1c016778f8dc26ae95af22f6b80e46866002c869437e3cec5409"), looks := false }, kinds := [], alts := [], laidByText := true, laidKinds := [.data], laidTests := true, laidLooks := .later }
def DeductivesOrderUptoCardSaid : Prop := Claim7.holds Tryz.pinned (.plain (OpenSpec.upto deductivesOrderSpec)) deductivesOrderUptoCard

/-- THE SECOND FORM's CARD OF 'probecardlaw16.DeductivesLists'. -/
def deductivesListsUptoCard : Claim7 := { stood := { row := deductivesListsUptoRow, standIns := [], harness := (true, "bad73d37627c1c016778f8dc26ae95af22f6b80e46866002c869437e3cec5409"), looks := false }, kinds := [], alts := [], laidByText := true, laidKinds := [.data], laidTests := true, laidLooks := .later }
def DeductivesListsUptoCardSaid : Prop := Claim7.holds Tryz.pinned (.plain (OpenSpec.upto deductivesListsSpec)) deductivesListsUptoCard

/-- THE SECOND FORM's CARD OF 'probecardlaw16.DeductivesDetected'. -/
def deductivesDetectedUptoCard : Claim7 := { stood := { row := deductivesDetectedUptoRow, standIns := [], harness := (true, "bad73d37627c1c016778f8dc26ae95af22f6b80e46866002c869437e3cec5409"), looks := false }, kinds := [], alts := [], laidByText := true, laidKinds := [.data, .data], laidTests := true, laidLooks := .later }
def DeductivesDetectedUptoCardSaid : Prop := Claim7.holds Tryz.pinned (.plain (OpenSpec.upto deductivesDetectedSpec)) deductivesDetectedUptoCard
end Rows
end Go.Proofs.YtlldffjabagdbaaGreatDoor
