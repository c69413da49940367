/-
  DERIVED. GIVEN WITH THE SEED: THE CARDS: each row of YtmiegcjnimlbmaaGreatDoorRows.lean that lists a variable, with what it lists TIED to the program's text (the seventh form; the later family's looks); each row that meets fmt, with fmt's text TOLD by the authors' own Lean function (tested against real Go, not proved from fmt's source: count such statements apart). THE CARD IS WHAT COUNTS. Prove the row's statement (the work); the ties are given (YtmiegcjnimlbmaaGreatDoorTie.lean); close each card by the builder's one call (the guide's Derived/Test/ToyasCard.lean, 'card_holds'). Laid BY PROGRAM, IN A SANDBOX (cutbox-door.mjs). By AI agents, Wed Nov 11 2026. No macro, syntax, notation, axiom, sorry.
-/
import Derived.Test.YtmiegcjnimlbmaaGreatDoorRows
import GoSem.ClaimSeven
namespace Go.Proofs.YtmiegcjnimlbmaaGreatDoor
namespace Rows

/-- THE TIED CARD OF 'probecardlaw41.TestersSignals'. -/
def testersSignalsCard : Claim7 := { stood := { row := testersSignalsRow, standIns := [], harness := (true, "db19475093c848ffa52dd56976fe5d22f9d5c135750944e9362eee846cc8eda0"), looks := true }, kinds := [], alts := [], laidByText := true, laidKinds := [.data, .data, .data, .data], laidTests := true, laidLooks := .later }
def TestersSignalsCardSaid : Prop := Claim7.holds Tryz.pinned (.plain (OpenSpec.ofChange testersSignalsSpec)) testersSignalsCard

/-- THE TIED CARD OF 'probecardlaw41.TestersCompile'. -/
def testersCompileCard : Claim7 := { stood := { row := testersCompileRow, standIns := [], harness := (true, "db19475093c848ffa52dd56976fe5d22f9d5c135750944e9362eee846cc8eda0"), looks := true }, kinds := [], alts := [], laidByText := true, laidKinds := [.data, .data, .data, .data], laidTests := true, laidLooks := .later }
def TestersCompileCardSaid : Prop := Claim7.holds Tryz.pinned (.plain (OpenSpec.ofChange testersCompileSpec)) testersCompileCard

/-- THE TIED CARD OF 'probecardlaw41.TestersSlow'. -/
def testersSlowCard : Claim7 := { stood := { row := testersSlowRow, standIns := [], harness := (true, "db19475093c848ffa52dd56976fe5d22f9d5c135750944e9362eee846cc8eda0"), looks := true }, kinds := [], alts := [], laidByText := true, laidKinds := [.data, .data, .data, .data], laidTests := true, laidLooks := .later }
def TestersSlowCardSaid : Prop := Claim7.holds Tryz.pinned (.plain (OpenSpec.ofChange testersSlowSpec)) testersSlowCard

/-- THE TIED CARD OF 'probecardlaw41.TestersGood'. -/
def testersGoodCard : Claim7 := { stood := { row := testersGoodRow, standIns := [], harness := (true, "db19475093c848ffa52dd56976fe5d22f9d5c135750944e9362eee846cc8eda0"), looks := true }, kinds := [], alts := [], laidByText := true, laidKinds := [.data, .data, .data, .data], laidTests := true, laidLooks := .later }
def TestersGoodCardSaid : Prop := Claim7.holds Tryz.pinned (.plain (OpenSpec.ofChange testersGoodSpec)) testersGoodCard

/-- THE TIED CARD OF 'probecardlaw41.TestersFault'. -/
def testersFaultCard : Claim7 := { stood := { row := testersFaultRow, standIns := [], harness := (true, "db19475093c848ffa52dd56976fe5d22f9d5c135750944e9362eee846cc8eda0"), looks := true }, kinds := [], alts := [], laidByText := true, laidKinds := [.data, .data, .data, .data], laidTests := true, laidLooks := .later }
def TestersFaultCardSaid : Prop := Claim7.holds Tryz.pinned (.plain (OpenSpec.ofChange testersFaultSpec)) testersFaultCard

/-- THE TIED CARD OF 'probecardlaw41.TestersErrors'. -/
def testersErrorsCard : Claim7 := { stood := { row := testersErrorsRow, standIns := [], harness := (true, "db19475093c848ffa52dd56976fe5d22f9d5c135750944e9362eee846cc8eda0"), looks := true }, kinds := [], alts := [], laidByText := true, laidKinds := [.data, .data, .data, .data], laidTests := true, laidLooks := .later }
def TestersErrorsCardSaid : Prop := Claim7.holds Tryz.pinned (.plain (OpenSpec.ofChange testersErrorsSpec)) testersErrorsCard

/-- THE TIED CARD OF 'probecardlaw41.TestersForms'. -/
def testersFormsCard : Claim7 := { stood := { row := testersFormsRow, standIns := [], harness := (true, "db19475093c848ffa52dd56976fe5d22f9d5c135750944e9362eee846cc8eda0"), looks := true }, kinds := [], alts := [], laidByText := true, laidKinds := [.data, .data, .data, .data, .data, .pinned], laidTests := true, laidLooks := .later }
def TestersFormsCardSaid : Prop := Claim7.holds Tryz.pinned (.plain (OpenSpec.ofChange testersFormsSpec)) testersFormsCard

/-- THE SECOND FORM's CARD OF 'probecardlaw41.TestersSignals'. -/
def testersSignalsUptoCard : Claim7 := { stood := { row := testersSignalsUptoRow, standIns := [], harness := (true, "db19475093c848ffa52dd56976fe5d22f9d5c135750944e9362eee846cc8eda0"), looks := true }, kinds := [], alts := [], laidByText := true, laidKinds := [.data, .data, .data, .data], laidTests := true, laidLooks := .later }
def TestersSignalsUptoCardSaid : Prop := Claim7.holds Tryz.pinned (.plain (OpenSpec.upto testersSignalsSpec)) testersSignalsUptoCard

/-- THE SECOND FORM's CARD OF 'probecardlaw41.TestersCompile'. -/
def testersCompileUptoCard : Claim7 := { stood := { row := testersCompileUptoRow, standIns := [], harness := (true, "db19475093c848ffa52dd56976fe5d22f9d5c135750944e9362eee846cc8eda0"), looks := true }, kinds := [], alts := [], laidByText := true, laidKinds := [.data, .data, .data, .data], laidTests := true, laidLooks := .later }
def TestersCompileUptoCardSaid : Prop := Claim7.holds Tryz.pinned (.plain (OpenSpec.upto testersCompileSpec)) testersCompileUptoCard

/-- THE SECOND FORM's CARD OF 'probecardlaw41.TestersSlow'. -/
def testersSlowUptoCard : Claim7 := { stood := { row := testersSlowUptoRow, standIns := [], harness := (true, "db19475093c848ffa52dd56976fe5d22f9d5c135750944e9362eee846cc8eda0"), looks := true }, kinds := [], alts := [], laidByText := true, laidKinds := [.data, .data, .data, .data], laidTests := true, laidLooks := .later }
def TestersSlowUptoCardSaid : Prop := Claim7.holds Tryz.pinned (.plain (OpenSpec.upto testersSlowSpec)) testersSlowUptoCard

/-- THE SECOND FORM's CARD OF 'probecardlaw41.TestersGood'. -/
def testersGoodUptoCard : Claim7 := { stood := { row := testersGoodUptoRow, standIns := [], harness := (true, "db19475093c848ffa52dd56976fe5d22f9d5c135750944e9362eee846cc8eda0"), looks := true }, kinds := [], alts := [], laidByText := true, laidKinds := [.data, .data, .data, .data], laidTests := true, laidLooks := .later }
def TestersGoodUptoCardSaid : Prop := Claim7.holds Tryz.pinned (.plain (OpenSpec.upto testersGoodSpec)) testersGoodUptoCard

/-- THE SECOND FORM's CARD OF 'probecardlaw41.TestersFault'. -/
def testersFaultUptoCard : Claim7 := { stood := { row := testersFaultUptoRow, standIns := [], harness := (true, "db19475093c848ffa52dd56976fe5d22f9d5c135750944e9362eee846cc8eda0"), looks := true }, kinds := [], alts := [], laidByText := true, laidKinds := [.data, .data, .data, .data], laidTests := true, laidLooks := .later }
def TestersFaultUptoCardSaid : Prop := Claim7.holds Tryz.pinned (.plain (OpenSpec.upto testersFaultSpec)) testersFaultUptoCard

/-- THE SECOND FORM's CARD OF 'probecardlaw41.TestersErrors'. -/
def testersErrorsUptoCard : Claim7 := { stood := { row := testersErrorsUptoRow, standIns := [], harness := (true, "db19475093c848ffa52dd56976fe5d22f9d5c135750944e9362eee846cc8eda0"), looks := true }, kinds := [], alts := [], laidByText := true, laidKinds := [.data, .data, .data, .data], laidTests := true, laidLooks := .later }
def TestersErrorsUptoCardSaid : Prop := Claim7.holds Tryz.pinned (.plain (OpenSpec.upto testersErrorsSpec)) testersErrorsUptoCard

/-- THE SECOND FORM's CARD OF 'probecardlaw41.TestersForms'. -/
def testersFormsUptoCard : Claim7 := { stood := { row := testersFormsUptoRow, standIns := [], harness := (true, "db19475093c848ffa52dd56976fe5d22f9d5c135750944e9362eee846cc8eda0"), looks := true }, kinds := [], alts := [], laidByText := true, laidKinds := [.data, .data, .data, .data, .data, .pinned], laidTests := true, laidLooks := .later }
def TestersFormsUptoCardSaid : Prop := Claim7.holds Tryz.pinned (.plain (OpenSpec.upto testersFormsSpec)) testersFormsUptoCard
end Rows
end Go.Proofs.YtmiegcjnimlbmaaGreatDoor
