/-
  DERIVED. GIVEN WITH THE SEED: THE CARDS: each row of YtllalbnibhofiaaDoorRows.lean that lists a variable, with what it lists TIED to the program's text (the seventh form; the later family's looks); each row that meets fmt, with fmt's text TOLD by the authors' own Lean function (tested against real Go, not proved from fmt's source: count such statements apart). THE CARD IS WHAT COUNTS. Prove the row's statement (the work); the ties are given (YtllalbnibhofiaaDoorTie.lean); close each card by the builder's one call (the guide's Derived/Test/ToyasCard.lean, 'card_holds'). Laid BY PROGRAM, IN A SANDBOX (cutbox-door.mjs). By AI agents, Wed Nov 11 2026. No macro, syntax, notation, axiom, sorry.
-/
import Derived.Test.YtllalbnibhofiaaDoorRows
import GoSem.ClaimSeven
namespace Go.Proofs.YtllalbnibhofiaaDoor
namespace Rows

/-- THE TIED CARD OF 'probecardlaw15.ParallelsAt'. -/
def parallelsAtCard : Claim7 := { stood := { row := parallelsAtRow, standIns := [], harness := (true, "992583def486f3239a708cad0f340af3fd2f8884faebe401b83c82e77e7ee5dd"), looks := false }, kinds := [], alts := [], laidByText := true, laidKinds := [.data, .data], laidTests := true, laidLooks := .later }
def ParallelsAtCardSaid : Prop := Claim7.holds Tryd.pinned (.plain (OpenSpec.ofChange parallelsAtSpec)) parallelsAtCard

/-- THE SECOND FORM's CARD OF 'probecardlaw15.ParallelsAt'. -/
def parallelsAtUptoCard : Claim7 := { stood := { row := parallelsAtUptoRow, standIns := [], harness := (true, "992583def486f3239a708cad0f340af3fd2f8884faebe401b83c82e77e7ee5dd"), looks := false }, kinds := [], alts := [], laidByText := true, laidKinds := [.data, .data], laidTests := true, laidLooks := .later }
def ParallelsAtUptoCardSaid : Prop := Claim7.holds Tryd.pinned (.plain (OpenSpec.upto parallelsAtSpec)) parallelsAtUptoCard
end Rows
end Go.Proofs.YtllalbnibhofiaaDoor
