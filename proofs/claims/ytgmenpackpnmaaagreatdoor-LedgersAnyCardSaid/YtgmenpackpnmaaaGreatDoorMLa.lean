/- Part of a proof. No condition. -/
import Derived.Test.YtgmenpackpnmaaaGreatDoorMBase
import Derived.Test.YtgmenpackpnmaaaGreatDoorAxE
import Derived.Test.YtgmenpackpnmaaaGreatDoorMPa
import Derived.Test.YtgmenpackpnmaaaGreatDoorPcB
import Derived.Test.YtgmenpackpnmaaaGreatDoorMPe
set_option linter.unusedSimpArgs false
set_option linter.unusedVariables false
namespace Go.MInst
open Go.Proofs Go.Ax
set_option maxRecDepth 100000
open Go.Proofs Go.Ax Go.Pc
def OneR (R:List (List AV)):Prop:=∀ r ∈ R,∃ x:Int,r = [AV.int .i64 x]
theorem OneR.flat {R:List (List AV)} (h:OneR R):FlatR R:=fun r hr=>by obtain ⟨x,rfl⟩:=h r hr;rfl
theorem OneR.app {A B:List (List AV)} (h:OneR A) (k:OneR B):OneR (A ++ B):=fun r hr=>(List.mem_append.1 hr).elim (h r) (k r)
theorem OneR.get {R:List (List AV)} (h:OneR R) {i:Nat} (hi:i < R.length):∃ x:Int,R[i]? = some [AV.int .i64 x]:=by
 obtain ⟨x,hx⟩:=h _ (List.getElem_mem hi)
 exact ⟨x,by rw [z9e hi,hx]⟩
theorem OneR.set {R:List (List AV)} (h:OneR R) (i:Nat) (x:Int):OneR (R.set i [.int .i64 x]):=fun r hr=>by
 rcases List.mem_or_eq_of_mem_set hr with h'|h'
 ·exact h r h'
 ·exact ⟨x,h'⟩
theorem OneR.drop {R:List (List AV)} (h:OneR R) (i:Nat):OneR (R.drop i):=fun r hr=>h r (List.mem_of_mem_drop hr)
theorem OneR.rep (n:Nat) (x:Int):OneR (List.replicate n [.int .i64 x]):=fun r hr=>⟨x,List.eq_of_mem_replicate hr⟩
section
variable {most:Int} {D:Nat → Nat → Bool} {n:Nat} {g:Nat → Nat}
end
end Go.MInst
