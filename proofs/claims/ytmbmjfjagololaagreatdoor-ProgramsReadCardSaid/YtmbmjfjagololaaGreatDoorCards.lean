/-
  DERIVED. GIVEN WITH THE SEED: THE CARDS: each row of YtmbmjfjagololaaGreatDoorRows.lean that lists a variable, with what it lists TIED to the program's text (the seventh form; the later family's looks); each row that meets fmt, with fmt's text TOLD by the authors' own Lean function (tested against real Go, not proved from fmt's source: count such statements apart). THE CARD IS WHAT COUNTS. Prove the row's statement (the work); the ties are given (YtmbmjfjagololaaGreatDoorTie.lean); close each card by the builder's one call (the guide's Derived/Test/ToyasCard.lean, 'card_holds'). Laid BY PROGRAM, IN A SANDBOX (cutbox-door.mjs). By AI agents, Wed Nov 11 2026. No macro, syntax, notation, axiom, sorry.
-/
import Derived.Test.YtmbmjfjagololaaGreatDoorRows
import GoSem.ClaimSeven
namespace Go.Proofs.YtmbmjfjagololaaGreatDoor
namespace Rows

/-- THE TIED CARD OF 'probecardlaw40.ProgramsWave'. -/
def programsWaveCard : Claim7 := { stood := { row := programsWaveRow, standIns := [], harness := (true, "7cbd1f0b077cdfd7ef2c3f478086893259bcc007964fb0f9ffde7cfc55382413"), looks := true }, kinds := [], alts := [], laidByText := true, laidKinds := [.data, .data, .data, .data, .pinned], laidTests := true, laidLooks := .later }
def ProgramsWaveCardSaid : Prop := Claim7.holds Tryz.pinned (.plain (OpenSpec.ofChange programsWaveSpec)) programsWaveCard

/-- THE TIED CARD OF 'probecardlaw40.ProgramsBack'. -/
def programsBackCard : Claim7 := { stood := { row := programsBackRow, standIns := [], harness := (true, "7cbd1f0b077cdfd7ef2c3f478086893259bcc007964fb0f9ffde7cfc55382413"), looks := true }, kinds := [], alts := [], laidByText := true, laidKinds := [.data, .data, .data, .data, .pinned], laidTests := true, laidLooks := .later }
def ProgramsBackCardSaid : Prop := Claim7.holds Tryz.pinned (.plain (OpenSpec.ofChange programsBackSpec)) programsBackCard

/-- THE TIED CARD OF 'probecardlaw40.ProgramsRead'. -/
def programsReadCard : Claim7 := { stood := { row := programsReadRow, standIns := [], harness := (true, "7cbd1f0b077cdfd7ef2c3f478086893259bcc007964fb0f9ffde7cfc55382413"), looks := true }, kinds := [], alts := [], laidByText := true, laidKinds := [.data, .data, .data, .data, .pinned], laidTests := true, laidLooks := .later }
def ProgramsReadCardSaid : Prop := Claim7.holds Tryz.pinned (.plain (OpenSpec.ofChange programsReadSpec)) programsReadCard

/-- THE TIED CARD OF 'probecardlaw40.ProgramsCheck'. -/
def programsCheckCard : Claim7 := { stood := { row := programsCheckRow, standIns := [], harness := (true, "7cbd1f0b077cdfd7ef2c3f478086893259bcc007964fb0f9ffde7cfc55382413"), looks := true }, kinds := [], alts := [], laidByText := true, laidKinds := [.data, .data, .data, .data, .pinned], laidTests := true, laidLooks := .later }
def ProgramsCheckCardSaid : Prop := Claim7.holds Tryz.pinned (.plain (OpenSpec.ofChange programsCheckSpec)) programsCheckCard

/-- THE TIED CARD OF 'probecardlaw40.ProgramsPack'. -/
def programsPackCard : Claim7 := { stood := { row := programsPackRow, standIns := [], harness := (true, "7cbd1f0b077cdfd7ef2c3f478086893259bcc007964fb0f9ffde7cfc55382413"), looks := true }, kinds := [], alts := [], laidByText := true, laidKinds := [.data, .data, .data, .data, .pinned], laidTests := true, laidLooks := .later }
def ProgramsPackCardSaid : Prop := Claim7.holds Tryz.pinned (.plain (OpenSpec.ofChange programsPackSpec)) programsPackCard

/-- THE TIED CARD OF 'probecardlaw40.ProgramsLoose'. -/
def programsLooseCard : Claim7 := { stood := { row := programsLooseRow, standIns := [], harness := (true, "7cbd1f0b077cdfd7ef2c3f478086893259bcc007964fb0f9ffde7cfc55382413"), looks := true }, kinds := [], alts := [], laidByText := true, laidKinds := [.data, .data, .data, .data, .pinned], laidTests := true, laidLooks := .later }
def ProgramsLooseCardSaid : Prop := Claim7.holds Tryz.pinned (.plain (OpenSpec.ofChange programsLooseSpec)) programsLooseCard

/-- THE SECOND FORM's CARD OF 'probecardlaw40.ProgramsWave'. -/
def programsWaveUptoCard : Claim7 := { stood := { row := programsWaveUptoRow, standIns := [], harness := (true, "7cbd1f0b077cdfd7ef2c3f478086893259bcc007964fb0f9ffde7cfc55382413"), looks := true }, kinds := [], alts := [], laidByText := true, laidKinds := [.data, .data, .data, .data, .pinned], laidTests := true, laidLooks := .later }
def ProgramsWaveUptoCardSaid : Prop := Claim7.holds Tryz.pinned (.plain (OpenSpec.upto programsWaveSpec)) programsWaveUptoCard

/-- THE SECOND FORM's CARD OF 'probecardlaw40.ProgramsBack'. -/
def programsBackUptoCard : Claim7 := { stood := { row := programsBackUptoRow, standIns := [], harness := (true, "7cbd1f0b077cdfd7ef2c3f478086893259bcc007964fb0f9ffde7cfc55382413"), looks := true }, kinds := [], alts := [], laidByText := true, laidKinds := [.data, .data, .data, .data, .pinned], laidTests := true, laidLooks := .later }
def ProgramsBackUptoCardSaid : Prop := Claim7.holds Tryz.pinned (.plain (OpenSpec.upto programsBackSpec)) programsBackUptoCard

/-- THE SECOND FORM's CARD OF 'probecardlaw40.ProgramsRead'. -/
def programsReadUptoCard : Claim7 := { stood := { row := programsReadUptoRow, standIns := [], harness := (true, "7cbd1f0b077cdfd7ef2c3f478086893259bcc007964fb0f9ffde7cfc55382413"), looks := true }, kinds := [], alts := [], laidByText := true, laidKinds := [.data, .data, .data, .data, .pinned], laidTests := true, laidLooks := .later }
def ProgramsReadUptoCardSaid : Prop := Claim7.holds Tryz.pinned (.plain (OpenSpec.upto programsReadSpec)) programsReadUptoCard

/-- THE SECOND FORM's CARD OF 'probecardlaw40.ProgramsCheck'. -/
def programsCheckUptoCard : Claim7 := { stood := { row := programsCheckUptoRow, standIns := [], harness := (true, "7cbd1f0b077cdfd7ef2c3f478086893259bcc007964fb0f9ffde7cfc55382413"), looks := true }, kinds := [], alts := [], laidByText := true, laidKinds := [.data, .data, .data, .data, .pinned], laidTests := true, laidLooks := .later }
def ProgramsCheckUptoCardSaid : Prop := Claim7.holds Tryz.pinned (.plain (OpenSpec.upto programsCheckSpec)) programsCheckUptoCard

/-- THE SECOND FORM's CARD OF 'probecardlaw40.ProgramsPack'. -/
def programsPackUptoCard : Claim7 := { stood := { row := programsPackUptoRow, standIns := [], harness := (true, "7cbd1f0b077cdfd7ef2c3f478086893259bcc007964fb0f9ffde7cfc55382413"), looks := true }, kinds := [], alts := [], laidByText := true, laidKinds := [.data, .data, .data, .data, .pinned], laidTests := true, laidLooks := .later }
def ProgramsPackUptoCardSaid : Prop := Claim7.holds Tryz.pinned (.plain (OpenSpec.upto programsPackSpec)) programsPackUptoCard

/-- THE SECOND FORM's CARD OF 'probecardlaw40.ProgramsLoose'. -/
def programsLooseUptoCard : Claim7 := { stood := { row := programsLooseUptoRow, standIns := [], harness := (true, "7cbd1f0b077cdfd7ef2c3f478086893259bcc007964fb0f9ffde7cfc55382413"), looks := true }, kinds := [], alts := [], laidByText := true, laidKinds := [.data, .data, .data, .data, .pinned], laidTests := true, laidLooks := .later }
def ProgramsLooseUptoCardSaid : Prop := Claim7.holds Tryz.pinned (.plain (OpenSpec.upto programsLooseSpec)) programsLooseUptoCard
end Rows
end Go.Proofs.YtmbmjfjagololaaGreatDoor
