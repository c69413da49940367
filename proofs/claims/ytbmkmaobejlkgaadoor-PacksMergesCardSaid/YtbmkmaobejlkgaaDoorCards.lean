/-
  DERIVED. GIVEN WITH THE SEED: THE CARDS: each row of YtbmkmaobejlkgaaDoorRows.lean that lists a variable, with what it lists TIED to the program's text (the seventh form; the later family's looks); each row that meets fmt, with fmt's text TOLD by the authors' own Lean function (tested against real Go, not proved from fmt's source: count such statements apart). THE CARD IS WHAT COUNTS. Prove the row's statement (the work); the ties are given (YtbmkmaobejlkgaaDoorTie.lean); close each card by the builder's one call (the guide's Derived/Test/ToyasCard.lean, 'card_holds'). Laid BY PROGRAM, IN A SANDBOX (cutbox-door.mjs). By AI agents, Wed Nov 11 2026. No macro, syntax, notation, axiom, sorry.
-/
import Derived.Test.YtbmkmaobejlkgaaDoorRows
import GoSem.ClaimSeven
namespace Go.Proofs.YtbmkmaobejlkgaaDoor
namespace Rows

/-- THE TIED CARD OF 'probecardlaw30.PacksCovers'. -/
def packsCoversCard : Claim7 := { stood := { row := packsCoversRow, standIns := [], harness := (true, "346869f73eee6c7bee16a679dfb17d1cbe66a0a4cbdbc2e0f00b414d349dfdcc"), looks := false }, kinds := [], alts := [], laidByText := true, laidKinds := [.data, .data], laidTests := true, laidLooks := .later }
def PacksCoversCardSaid : Prop := Claim7.holds Tryd.pinned (.plain (OpenSpec.ofChange packsCoversSpec)) packsCoversCard

/-- THE TIED CARD OF 'probecardlaw30.PacksSelects'. -/
def packsSelectsCard : Claim7 := { stood := { row := packsSelectsRow, standIns := [], harness := (true, "346869f73eee6c7bee16a679dfb17d1cbe66a0a4cbdbc2e0f00b414d349dfdcc"), looks := false }, kinds := [], alts := [], laidByText := true, laidKinds := [.data, .data], laidTests := true, laidLooks := .later }
def PacksSelectsCardSaid : Prop := Claim7.holds Tryd.pinned (.plain (OpenSpec.ofChange packsSelectsSpec)) packsSelectsCard

/-- THE TIED CARD OF 'probecardlaw30.PacksMerges'. -/
def packsMergesCard : Claim7 := { stood := { row := packsMergesRow, standIns := [], harness := (true, "346869f73eee6c7bee16a679dfb17d1cbe66a0a4cbdbc2e0f00b414d349dfdcc"), looks := false }, kinds := [], alts := [], laidByText := true, laidKinds := [.data, .data], laidTests := true, laidLooks := .later }
def PacksMergesCardSaid : Prop := Claim7.holds Tryd.pinned (.plain (OpenSpec.ofChange packsMergesSpec)) packsMergesCard

/-- THE SECOND FORM's CARD OF 'probecardlaw30.PacksCovers'. -/
def packsCoversUptoCard : Claim7 := { stood := { row := packsCoversUptoRow, standIns := [], harness := (true, "346869f73eee6c7bee16a679dfb17d1cbe66a0a4cbdbc2e0f00b414d349dfdcc"), looks := false }, kinds := [], alts := [], laidByText := true, laidKinds := [.data, .data], laidTests := true, laidLooks := .later }
def PacksCoversUptoCardSaid : Prop := Claim7.holds Tryd.pinned (.plain (OpenSpec.upto packsCoversSpec)) packsCoversUptoCard

/-- THE SECOND FORM's CARD OF 'probecardlaw30.PacksSelects'. -/
def packsSelectsUptoCard : Claim7 := { stood := { row := packsSelectsUptoRow, standIns := [], harness := (true, "346869f73eee6c7bee16a679dfb17d1cbe66a0a4cbdbc2e0f00b414d349dfdcc"), looks := false }, kinds := [], alts := [], laidByText := true, laidKinds := [.data, .data], laidTests := true, laidLooks := .later }
def PacksSelectsUptoCardSaid : Prop := Claim7.holds Tryd.pinned (.plain (OpenSpec.upto packsSelectsSpec)) packsSelectsUptoCard

/-- THE SECOND FORM's CARD OF 'probecardlaw30.PacksMerges'. -/
def packsMergesUptoCard : Claim7 := { stood := { row := packsMergesUptoRow, standIns := [], harness := (true, "346869f73eee6c7bee16a679dfb17d1cbe66a0a4cbdbc2e0f00b414d349dfdcc"), looks := false }, kinds := [], alts := [], laidByText := true, laidKinds := [.data, .data], laidTests := true, laidLooks := .later }
def PacksMergesUptoCardSaid : Prop := Claim7.holds Tryd.pinned (.plain (OpenSpec.upto packsMergesSpec)) packsMergesUptoCard
end Rows
end Go.Proofs.YtbmkmaobejlkgaaDoor
