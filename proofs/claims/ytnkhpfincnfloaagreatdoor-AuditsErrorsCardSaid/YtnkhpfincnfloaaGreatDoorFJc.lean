/- The closed facts of the row AuditsErrors, together. No condition. -/
import Derived.Test.YtnkhpfincnfloaaGreatDoorFJa
import Derived.Test.YtnkhpfincnfloaaGreatDoorFJb
set_option linter.unusedSimpArgs false
set_option linter.unusedVariables false
namespace Go.Proofs.YtnkhpfincnfloaaGreatDoor
open Go
set_option maxRecDepth 100000
theorem aband{a b:Bool}(h:a=true)(k:b=true):(a&&b)=true:=by rw[h,k];rfl
theorem audClosed:joinedFacts Tryz.pinned.checked.prog 4 Tryz.f4 (OpenSpec.ofChange Rows.auditsErrorsSpec).bare Rows.auditsErrorsRow=true:=by unfold joinedFacts;exact(aband (aband (aband (aband (aband (aband (aband (aband (aband (aband (aband (aband (aband (aband (aband (aband (aband (aband (aband (aband (aband (aband (aband (aband (aband (aband (aband (aband (aband (aband (aband aud0 aud1) aud2) aud3) aud4) aud5) aud6) aud7) aud8) aud9) aud10) aud11) aud12) aud13) aud14) aud15) aud16) aud17) aud18) aud19) aud20) aud21) aud22) aud23) aud24) aud25) aud26) aud27) aud28) aud29) aud30) aud31)
end Go.Proofs.YtnkhpfincnfloaaGreatDoor
