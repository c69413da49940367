/-
  DERIVED. GIVEN WITH THE SEED: THE CARDS: each row of YtllalbnibhofiaaGreatDoorRows.lean that lists a variable, with what it lists TIED to the program's text (the seventh form; the later family's looks); each row that meets fmt, with fmt's text TOLD by the authors' own Lean function (tested against real Go, not proved from fmt's source: count such statements apart). THE CARD IS WHAT COUNTS. Prove the row's statement (the work); the ties are given (YtllalbnibhofiaaGreatDoorTie.lean); close each card by the builder's one call (the guide's Derived/Test/ToyasCard.lean, 'card_holds'). Laid BY PROGRAM, IN A SANDBOX (cutbox-door.mjs). By AI agents, Wed Nov 11 2026. No macro, syntax, notation, axiom, sorry.
-/
import Derived.Test.YtllalbnibhofiaaGreatDoorRows
import GoSem.ClaimSeven
namespace Go.Proofs.YtllalbnibhofiaaGreatDoor
namespace Rows

/-- THE TIED CARD OF 'probecardlaw15.ParallelsTable'. -/
def parallelsTableCard : Claim7 := { stood := { row := parallelsTableRow, standIns := [], harness := (true, "44442853a756cabdb1a29eb8fe6ce22a1697147435774ec72b901499578c5d86"), looks := false }, kinds := [], alts := [], laidByText := true, laidKinds := [.data, .data], laidTests := true, laidLooks := .later }
def ParallelsTableCardSaid : Prop := Claim7.holds Tryz.pinned (.plain (OpenSpec.ofChange parallelsTableSpec)) parallelsTableCard

/-- THE TIED CARD OF 'probecardlaw15.ParallelsLimits'. -/
def parallelsLimitsCard : Claim7 := { stood := { row := parallelsLimitsRow, standIns := [], harness := (true, "44442853a756cabdb1a29eb8fe6ce22a1697147435774ec72b901499578c5d86"), looks := false }, kinds := [], alts := [], laidByText := true, laidKinds := [.data, .data], laidTests := true, laidLooks := .later }
def ParallelsLimitsCardSaid : Prop := Claim7.holds Tryz.pinned (.plain (OpenSpec.ofChange parallelsLimitsSpec)) parallelsLimitsCard

/-- THE TIED CARD OF 'probecardlaw15.ParallelsFaults'. -/
def parallelsFaultsCard : Claim7 := { stood := { row := parallelsFaultsRow, standIns := [], harness := (true, "44442853a756cabdb1a29eb8fe6ce22a1697147435774ec72b901499578c5d86"), looks := false }, kinds := [], alts := [], laidByText := true, laidKinds := [.data, .data], laidTests := true, laidLooks := .later }
def ParallelsFaultsCardSaid : Prop := Claim7.holds Tryz.pinned (.plain (OpenSpec.ofChange parallelsFaultsSpec)) parallelsFaultsCard

/-- THE TIED CARD OF 'probecardlaw15.ParallelsPatterns'. -/
def parallelsPatternsCard : Claim7 := { stood := { row := parallelsPatternsRow, standIns := [], harness := (true, "44442853a756cabdb1a29eb8fe6ce22a1697147435774ec72b901499578c5d86"), looks := false }, kinds := [], alts := [], laidByText := true, laidKinds := [.data, .data], laidTests := true, laidLooks := .later }
def ParallelsPatternsCardSaid : Prop := Claim7.holds Tryz.pinned (.plain (OpenSpec.ofChange parallelsPatternsSpec)) parallelsPatternsCard

/-- THE SECOND FORM's CARD OF 'probecardlaw15.ParallelsTable'. -/
def parallelsTableUptoCard : Claim7 := { stood := { row := parallelsTableUptoRow, standIns := [], harness := (true, "44442853a756cabdb1a29eb8fe6ce22a1697147435774ec72b901499578c5d86"), looks := false }, kinds := [], alts := [], laidByText := true, laidKinds := [.data, .data], laidTests := true, laidLooks := .later }
def ParallelsTableUptoCardSaid : Prop := Claim7.holds Tryz.pinned (.plain (OpenSpec.upto parallelsTableSpec)) parallelsTableUptoCard

/-- THE SECOND FORM's CARD OF 'probecardlaw15.ParallelsLimits'. -/
def parallelsLimitsUptoCard : Claim7 := { stood := { row := parallelsLimitsUptoRow, standIns := [], harness := (true, "44442853a756cabdb1a29eb8fe6ce22a1697147435774ec72b901499578c5d86"), looks := false }, kinds := [], alts := [], laidByText := true, laidKinds := [.data, .data], laidTests := true, laidLooks := .later }
def ParallelsLimitsUptoCardSaid : Prop := Claim7.holds Tryz.pinned (.plain (OpenSpec.upto parallelsLimitsSpec)) parallelsLimitsUptoCard

/-- THE SECOND FORM's CARD OF 'probecardlaw15.ParallelsFaults'. -/
def parallelsFaultsUptoCard : Claim7 := { stood := { row := parallelsFaultsUptoRow, standIns := [], harness := (true, "44442853a756cabdb1a29eb8fe6ce22a1697147435774ec72b901499578c5d86"), looks := false }, kinds := [], alts := [], laidByText := true, laidKinds := [.data, .data], laidTests := true, laidLooks := .later }
def ParallelsFaultsUptoCardSaid : Prop := Claim7.holds Tryz.pinned (.plain (OpenSpec.upto parallelsFaultsSpec)) parallelsFaultsUptoCard

/-- THE SECOND FORM's CARD OF 'probecardlaw15.ParallelsPatterns'. -/
def parallelsPatternsUptoCard : Claim7 := { stood := { row := parallelsPatternsUptoRow, standIns := [], harness := (true, "44442853a756cabdb1a29eb8fe6ce22a1697147435774ec72b901499578c5d86"), looks := false }, kinds := [], alts := [], laidByText := true, laidKinds := [.data, .data], laidTests := true, laidLooks := .later }
def ParallelsPatternsUptoCardSaid : Prop := Claim7.holds Tryz.pinned (.plain (OpenSpec.upto parallelsPatternsSpec)) parallelsPatternsUptoCard
end Rows
end Go.Proofs.YtllalbnibhofiaaGreatDoor
