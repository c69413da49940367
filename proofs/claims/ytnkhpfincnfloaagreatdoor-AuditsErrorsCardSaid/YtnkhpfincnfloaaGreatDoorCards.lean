/-
  DERIVED. GIVEN WITH THE SEED: THE CARDS: each row of YtnkhpfincnfloaaGreatDoorRows.lean that lists a variable, with what it lists TIED to the program's text (the seventh form; the later family's looks); each row that meets fmt, with fmt's text TOLD by the authors' own Lean function (tested against real Go, not proved from fmt's source: count such statements apart). THE CARD IS WHAT COUNTS. Prove the row's statement (the work); the ties are given (YtnkhpfincnfloaaGreatDoorTie.lean); close each card by the builder's one call (the guide's Derived/Test/ToyasCard.lean, 'card_holds'). Laid BY PROGRAM, IN A SANDBOX (cutbox-door.mjs). By AI agents, Wed Nov 11 2026. No macro, syntax, notation, axiom, sorry.
-/
import Derived.Test.YtnkhpfincnfloaaGreatDoorRows
import GoSem.ClaimSeven
namespace Go.Proofs.YtnkhpfincnfloaaGreatDoor
namespace Rows

/-- THE TIED CARD OF 'probecardlaw42.FlowsAdd'. -/
def flowsAddCard : Claim7 := { stood := { row := flowsAddRow, standIns := [], harness := (true, "574576f662322e40fa7fe4af12cebb628369196def0a9515f97ad138f0a44b1f"), looks := true }, kinds := [], alts := [], laidByText := true, laidKinds := [.data, .data, .data, .data, .data, .data, .data], laidTests := true, laidLooks := .later }
def FlowsAddCardSaid : Prop := Claim7.holds Tryz.pinned (.plain (OpenSpec.ofChange flowsAddSpec)) flowsAddCard

/-- THE TIED CARD OF 'probecardlaw44.AuditsErrors'. -/
def auditsErrorsCard : Claim7 := { stood := { row := auditsErrorsRow, standIns := [], harness := (true, "574576f662322e40fa7fe4af12cebb628369196def0a9515f97ad138f0a44b1f"), looks := true }, kinds := [], alts := [], laidByText := true, laidKinds := [.data, .data, .data, .data, .data, .data, .data, .data], laidTests := true, laidLooks := .later }
def AuditsErrorsCardSaid : Prop := Claim7.holds Tryz.pinned (.plain (OpenSpec.ofChange auditsErrorsSpec)) auditsErrorsCard

/-- THE SECOND FORM's CARD OF 'probecardlaw42.FlowsAdd'. -/
def flowsAddUptoCard : Claim7 := { stood := { row := flowsAddUptoRow, standIns := [], harness := (true, "574576f662322e40fa7fe4af12cebb628369196def0a9515f97ad138f0a44b1f"), looks := true }, kinds := [], alts := [], laidByText := true, laidKinds := [.data, .data, .data, .data, .data, .data, .data], laidTests := true, laidLooks := .later }
def FlowsAddUptoCardSaid : Prop := Claim7.holds Tryz.pinned (.plain (OpenSpec.upto flowsAddSpec)) flowsAddUptoCard

/-- THE SECOND FORM's CARD OF 'probecardlaw44.AuditsErrors'. -/
def auditsErrorsUptoCard : Claim7 := { stood := { row := auditsErrorsUptoRow, standIns := [], harness := (true, "574576f662322e40fa7fe4af12cebb628369196def0a9515f97ad138f0a44b1f"), looks := true }, kinds := [], alts := [], laidByText := true, laidKinds := [.data, .data, .data, .data, .data, .data, .data, .data], laidTests := true, laidLooks := .later }
def AuditsErrorsUptoCardSaid : Prop := Claim7.holds Tryz.pinned (.plain (OpenSpec.upto auditsErrorsSpec)) auditsErrorsUptoCard
end Rows
end Go.Proofs.YtnkhpfincnfloaaGreatDoor
