/- Closed facts of the row AuditsErrors: what the code reaches. No condition. -/
import Derived.Test.YtnkhpfincnfloaaGreatDoorRows
import Derived.JoinedCond
import Derived.KernelRfl
set_option linter.unusedSimpArgs false
set_option linter.unusedVariables false
namespace Go.Proofs.YtnkhpfincnfloaaGreatDoor
open Go
theorem aud9:((Rows.auditsErrorsRow.inPlace==Tryz.pinned.checked.prog.inPlace 4))=true:=by kernel_rfl
theorem aud10:((Rows.auditsErrorsRow.unfollowed==Tryz.pinned.checked.prog.unfollowed 4))=true:=by kernel_rfl
theorem aud11:((Rows.auditsErrorsRow.recurses==Tryz.pinned.checked.prog.recurses 4))=true:=by kernel_rfl
theorem aud12:((Rows.auditsErrorsRow.named==Tryz.pinned.checked.prog.varsNamed 4))=true:=by kernel_rfl
end Go.Proofs.YtnkhpfincnfloaaGreatDoor
