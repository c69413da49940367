/- Part of a proof. No condition. -/
import Derived.Test.YtmbmjfjagololaaGreatDoorRRn
import Derived.Test.YtmbmjfjagololaaGreatDoorRPh
import Derived.Test.YtmbmjfjagololaaGreatDoorRRj
set_option linter.unusedSectionVars false
set_option linter.unusedSimpArgs false
set_option linter.unusedVariables false
namespace Go.RInst
open Go.Proofs Go.Ax Go.Pc
variable [PR]
set_option maxRecDepth 100000
/-! ### loose texts -/
theorem c64(w:List UInt8)(l:List (List UInt8)):a2i (w::l)=if w=[]then a2i l else w::a2i l:=by unfold a2i;rw[List.filter_cons];by_cases h:w=[]<;>simp[h]
/-! lines, one put in -/
theorem b58(c:UInt8):∀(s:List UInt8),∀x∈a00 c s,∀b∈x,b≠c
 | [],x,hx,b,hb=>by simp[a00]at hx;subst hx;cases hb
 |a::s,x,hx,b,hb=>by
  have ih:=b58 c s;rw[a00]at hx;split at hx
  ·rcases e3b.1 hx with rfl|hx
   ·cases hb
   ·exact ih x hx b hb
  ·rename_i iD;split at hx
   ·rename_i p ps hp;rcases e3b.1 hx with rfl|hx
    ·rcases e3b.1 hb with rfl|hb
     ·exact iD
     ·exact ih p (by rw[hp];simp) b hb
    ·exact ih x (by rw[hp];simp[hx]) b hb
   ·rename_i hp;exact absurd hp (b2v c s)
theorem c06(c:UInt8)(L:List (List UInt8))(aK:L≠[])(h:∀x∈L,∀b∈x,b≠c):a00 c (Lib.join L [c])=L:=by
 cases L with
 |nil=>exact absurd rfl aK
 |cons w ws=>exact b0l c w ws h
/-! the texts of the law -/
theorem d18(r:Rd):a2a r (a00 10 soT)=none:=by
 have e:a00 10 soT=[soT]:=by rfl
 have e2:a2i (a00 32 soT)=[sigK0,[97],[111,110]]:=by rfl
 have hl:a2v r soT=none:=by
  unfold a2v;rw[e3g (by decide),e2,a6t,e2i (by decide),e3g rfl];unfold rdS;exact e2i λh=>by
   rcases h.1 with h|h
   ·exact absurd h (by decide)
   ·exact absurd h (by decide)
 rw[e,a8g,hl]
section
variable {S:List Sg}{T:List Tm}{V:List Vc}(h:Valid S T V)
include h
omit h in
theorem c0k{α:Type}(A:List α):A=[]∨∃B u,A=B++[u]:=by
 rcases List.eq_nil_or_concat A with h|⟨B,u,h⟩
 ·exact .inl h
 ·exact .inr ⟨B,u,by rw[h,List.concat_eq_append]⟩
end
end Go.RInst
namespace Go.RInst
open Go.Proofs Go.Ax Go.Pc
variable [PR]
set_option maxRecDepth 100000
/-! ### spaces doubled: strings.ReplaceAll; joins of parts -/
end Go.RInst
