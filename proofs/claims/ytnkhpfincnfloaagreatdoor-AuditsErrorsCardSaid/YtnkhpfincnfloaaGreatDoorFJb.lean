/- Closed facts of the row AuditsErrors: the rest. No condition. -/
import Derived.Test.YtnkhpfincnfloaaGreatDoorRows
import Derived.JoinedCond
import Derived.KernelRfl
set_option linter.unusedSimpArgs false
set_option linter.unusedVariables false
namespace Go.Proofs.YtnkhpfincnfloaaGreatDoor
open Go
theorem aud0:(Rows.auditsErrorsRow.wf (OpenSpec.ofChange (OpenSpec.ofChange Rows.auditsErrorsSpec).bare))=true:=by kernel_rfl
theorem aud1:(laidOutB Tryz.pinned.checked.prog)=true:=by kernel_rfl
theorem aud2:(mapsRowed Tryz.pinned.checked.prog)=true:=by kernel_rfl
theorem aud3:(Tryz.f4.params.all (Tryz.pinned.checked.prog.readableRec ·))=true:=by kernel_rfl
theorem aud4:(namedTie Tryz.pinned.checked.prog Rows.auditsErrorsRow.named (OpenSpec.ofChange Rows.auditsErrorsSpec).bare.vars)=true:=by kernel_rfl
theorem aud5:((Rows.auditsErrorsRow.stops==[]))=true:=by kernel_rfl
theorem aud6:((Tryz.pinned.checked.prog.stops==[]))=true:=by kernel_rfl
theorem aud7:((Rows.auditsErrorsRow.knobs==[]))=true:=by kernel_rfl
theorem aud8:((Tryz.pinned.checked.prog.stopKnobs==[]))=true:=by kernel_rfl
theorem aud13:((Rows.auditsErrorsRow.maps==(Tryz.f4.params.toList++(OpenSpec.ofChange Rows.auditsErrorsSpec).bare.plain.varTypes Tryz.pinned.checked.prog).any (Tryz.pinned.checked.prog.mapsRec ·)))=true:=by kernel_rfl
theorem aud14:((Rows.auditsErrorsRow.ifaces==(Tryz.f4.params.toList++(OpenSpec.ofChange Rows.auditsErrorsSpec).bare.plain.varTypes Tryz.pinned.checked.prog).any (Tryz.pinned.checked.prog.ifacesRec ·)))=true:=by kernel_rfl
theorem aud15:((Rows.auditsErrorsRow.mapsOut==Tryz.pinned.checked.prog.mapsAmong Tryz.f4.resultTypes.toList))=true:=by kernel_rfl
theorem aud16:((Rows.auditsErrorsRow.loops==(Tryz.f4.params.toList++(OpenSpec.ofChange Rows.auditsErrorsSpec).bare.plain.varTypes Tryz.pinned.checked.prog).any (Tryz.pinned.checked.prog.loopsFrom ·)))=true:=by kernel_rfl
theorem aud17:((Rows.auditsErrorsRow.wideKeys==(Tryz.f4.params.toList++(OpenSpec.ofChange Rows.auditsErrorsSpec).bare.plain.varTypes Tryz.pinned.checked.prog++Tryz.f4.resultTypes.toList).any (Tryz.pinned.checked.prog.wideKeysFrom ·)))=true:=by kernel_rfl
theorem aud18:((OpenSpec.ofChange Rows.auditsErrorsSpec).bare.vars.all (Tryz.pinned.checked.prog.varReadable ·))=true:=by kernel_rfl
theorem aud19:(Tryz.f4.resultTypes.all (λt=>Tryz.pinned.checked.prog.readableRec t&&decide (t<Tryz.pinned.checked.prog.types.size)))=true:=by kernel_rfl
theorem aud20:((Rows.auditsErrorsRow.ifacesOut==Tryz.f4.resultTypes.toList.any (Tryz.pinned.checked.prog.ifacesRec ·)))=true:=by kernel_rfl
theorem aud21:((Rows.auditsErrorsRow.loopsOut==Tryz.f4.resultTypes.toList.any (Tryz.pinned.checked.prog.loopsFrom ·)))=true:=by kernel_rfl
theorem aud22:((Rows.auditsErrorsRow.plainKeys==Tryz.pinned.checked.prog.plainKeys))=true:=by kernel_rfl
theorem aud23:(Rows.auditsErrorsRow.shortTexts.isNone)=true:=by kernel_rfl
theorem aud24:(Tryz.pinned.checked.prog.stopsHeard)=true:=by kernel_rfl
theorem aud25:(Tryz.pinned.checked.prog.mayEnter)=true:=by kernel_rfl
theorem aud26:((Rows.auditsErrorsRow.lifted==Tryz.pinned.checked.prog.liftsFinal))=true:=by kernel_rfl
theorem aud27:((Tryz.pinned.checked.prog.make==some Rows.auditsErrorsRow.make))=true:=by kernel_rfl
theorem aud28:((Rows.auditsErrorsRow.kinds==(if Rows.auditsErrorsRow.domain.isEmpty then[]else Tryz.f4.params.toList.map λt=>match Tryz.pinned.checked.prog.underlying t with|some (.int k)=>some k|_=>none)))=true:=by kernel_rfl
theorem aud29:((Rows.auditsErrorsRow.pinned==Rows.auditsErrorsRow.pinnedBy))=true:=by kernel_rfl
theorem aud30:((Rows.auditsErrorsRow.veiled==(Tryz.f4.params.toList++(OpenSpec.ofChange Rows.auditsErrorsSpec).bare.plain.varTypes Tryz.pinned.checked.prog++Tryz.f4.resultTypes.toList).any (Tryz.pinned.checked.prog.veiledRec ·)))=true:=by kernel_rfl
theorem aud31:(Rows.auditsErrorsRow.veiledFits Tryz.pinned.checked.prog Tryz.f4.params.toList (Tryz.f4.params.toList++(OpenSpec.ofChange Rows.auditsErrorsSpec).bare.plain.varTypes Tryz.pinned.checked.prog++Tryz.f4.resultTypes.toList))=true:=by kernel_rfl
end Go.Proofs.YtnkhpfincnfloaaGreatDoor
