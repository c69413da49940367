/- The card's last closed fact of the law AuditsErrors. No condition. -/
import Derived.Test.YtnkhpfincnfloaaGreatDoorCards
import Derived.LaidByTextLater
import Derived.KernelRfl
set_option linter.unusedSimpArgs false
set_option linter.unusedVariables false
namespace Go.Proofs.YtnkhpfincnfloaaGreatDoor
open Go
theorem audGoes:false=Rows.auditsErrorsRow.goesBy Tryz.pinned.checked.prog:=by kernel_rfl
end Go.Proofs.YtnkhpfincnfloaaGreatDoor
