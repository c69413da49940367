/- Part of a proof. No condition. -/
import Derived.Test.YtmbmjfjagololaaGreatDoorRPh
import Derived.Test.YtmbmjfjagololaaGreatDoorRPg
import Derived.Test.YtmbmjfjagololaaGreatDoorRPe
import Derived.Test.YtmbmjfjagololaaGreatDoorRRd
set_option linter.unusedSectionVars false
set_option linter.unusedSimpArgs false
set_option linter.unusedVariables false
namespace Go.RInst
set_option maxHeartbeats 200000000
open Go.Proofs Go.Ax Go.Pc
variable [PR]
set_option maxRecDepth 100000
theorem c50(S:List Sg)(T:List Tm)(V:List Vc)(hS:S.length≤100)(hV:V.length≤100)(h:b76 S T V=0):Valid S T V:=by
 unfold b76 at h;split at h
 ·cases h
 rename_i h1;split at h
 ·cases h
 rename_i h2;split at h
 ·cases h
 rename_i h3;split at h
 ·cases h
 rename_i h4;have h2:(S.all a8k&&T.all a4r&&V.all λv=>a39 v S T.length)=true:=by
  cases hb:(S.all a8k&&T.all a4r&&V.all λv=>a39 v S T.length)
  ·exact absurd hb h2
  ·rfl
 simp only[Bool.and_eq_true,List.all_eq_true]at h2;simp only[Bool.or_eq_true,Bool.not_eq_true',decide_eq_false_iff_not,not_or,Classical.not_not]at h3;exact⟨hS,by omega,hV,h2.1.1,h2.1.2,h2.2,h3.1,h3.2,by omega⟩
section
variable (rs rt rv:Option (Option Nat))(S:List Sg)(T:List Tm)(V:List Vc)(hS:S.length≤100)(hT:T.length≤100)(hV:V.length≤100)
include hS hT hV
theorem d1a{d:Bool}(H:a09):a0n L.env d (sem L.env Mf) (.func (.func 21) [] []) [.agg [sl rs (S.map Sg.enc),sl rt (T.map Tm.enc),sl rv (V.map Vc.enc)]] H=some (.int .i64 (b76 S T V),H,[]):=a0h (by kernel_rfl) (by kernel_rfl) rfl (by simp+decide only[go_sem]<;>rfl) (c51 rs rt rv S T V hS hT hV) rfl
variable (he:b76 S T V≠0)
include he
theorem c2n:sem L.env Mf 18 [.agg [sl rs (S.map Sg.enc),sl rt (T.map Tm.enc),sl rv (V.map Vc.enc)]] []=some (.tuple [.str [],.int .i64 (b76 S T V)],[]):=by
 have hck:=λd H=>d1a rs rt rv S T V hS hT hV (d:=d) H;generalize b76 S T V=e at hck he⊢;have c0:¬e=0:=he
 (refine sv Tryz.f18 ?_;simp only[Tryz.f18,gS])
 (repeat first|simp only[ww]|(apply xa;simp+decide only[go_sem,hck,c0];rfl;kernel_rfl))
 (apply fqb;simp+decide only[go_sem]<;>rfl)
end
def ofS(N:List (List UInt8)):Nat→List Sg
 |0=>[]
 |j+1=>match N[j]? with
  |some s=>ofS N j++[⟨s,j%2⟩]
  |none=>ofS N j
theorem d4s{N:List (List UInt8)}{j:Nat}{s:List UInt8}(h:N[j]?=some s):ofS N (j+1)=ofS N j++[⟨s,j%2⟩]:=by simp only[ofS,h]
theorem b6c(N:List (List UInt8)):∀j,j≤N.length→(ofS N j).length=j
 |0,_=>rfl
 |j+1,h=>by
  obtain⟨t,ht⟩:∃t,N[j]?=some t:=⟨_,z9e (by omega)⟩
  rw[d4s ht,List.length_append,b6c N j (by omega)];rfl
theorem c6o(r0 r1 r2:Option (Option Nat))(N:List (List UInt8))(X:List Tm)(Y:List Vc)(hN:N.length≤20):sem L.env Mf 17 [.agg [sl r0 (N.map stR),sl r1 (X.map Tm.enc),sl r2 (Y.map Vc.enc)]] []=some (.agg [sl none ((ofS N N.length).map Sg.enc),sl r1 (X.map Tm.enc),sl r2 (Y.map Vc.enc)],[]):=by
 have b29:Nat.beq 29 82=false:=by decide
 (refine sv Tryz.f17 ?_;simp only[Tryz.f17,gS])
 (repeat first|simp only[ww]|(apply xa;simp+decide only[go_sem,b29];rfl;kernel_rfl))
 refine a0i (σ:=Nat) kp17_0 (λi=>[(1,.ptr 0 0 0),(2,.ptr 1 0 0),(3,.ptr 2 0 0),(4,.int .i64 (i:Nat))]) (λi=>some (.row 3 [[sl r0 (N.map stR),sl r1 (X.map Tm.enc),sl r2 (Y.map Vc.enc)]])::some (.row 3 [[.nilslice,.nilslice,.nilslice]])::some (.row 3 [[grV 3 ((ofS N i).map Sg.enc),sl r1 (X.map Tm.enc),sl r2 (Y.map Vc.enc)]])::grH 2 ((ofS N i).map Sg.enc)) (λi=>N.length-i) (λi=>i≤N.length) 0 ?_ (Nat.zero_le _) ?_
 ·have e0:ofS N 0=[]:=rfl
  (simp+decide only[go_sem,a08,a03,e0,List.map_nil,a0a,a0b,b29]<;>rfl)
 ·intro i hi;by_cases hlt:i<N.length
  ·have l1:(i:Int)<N.length:=by omega
   obtain⟨s,hs⟩:∃s,N[i]?=some s:=⟨_,z9e hlt⟩
   have hsm:(N.map stR)[i]?=some (stR s):=by rw[List.getElem?_map,hs];rfl
   have hsm':stR s=[.str s]:=rfl;have hw:IntKind.i64.wrap ((i:Int)+1)=((i+1:Nat):Int):=by rw[w64 (by omega) (by omega)];omega
   have hmod:(i:Int).tmod 2=((i%2:Nat):Int):=by rw[Int.tmod_eq_emod_of_nonneg (by omega)];omega
   have hu:=e0i i;have hsr:(ofS N (i+1)).map Sg.enc=(ofS N i).map Sg.enc++[[.str s,.int .u8 (i%2:Nat)]]:=by rw[d4s hs,List.map_append];rfl
   have h5:=a01 (a0t (ofS N (i+1)));have h6:=λπ=>a02 π (a0t (ofS N (i+1)));have hlen:((ofS N i).map Sg.enc).length=i:=by rw[List.length_map,b6c N i hi]
   have hrm:i+1≤1000000000:=by omega
   rw[hsm']at hsm;by_cases hk:i=0
   ·subst hk;have e1:(ofS N 0).map Sg.enc=[]:=rfl;rw[e1]at hsr⊢;simp only[List.nil_append]at hsr
    (repeat first|simp only[ww]|(apply xa;simp+decide only[go_sem,l1,hlt,hsm,hw,hmod,hu,List.length_map,a0a,a0b];rfl;kernel_rfl))
    refine a1s (0+1) ?_ (by omega) (by omega)
    (simp+decide only[go_sem,a08,a03,hsr,a1l,a1i,List.length_nil]<;>rfl)
   ·have hne:(ofS N i).map Sg.enc≠[]:=by intro e;rw[e]at hlen;simp at hlen;omega
    rw[a0e 3 hne,a0j 2 hne,hlen];rw[hsr]at h5 h6;generalize(ofS N i).map Sg.enc=R at hsr hlen h5 h6 hne⊢
    (repeat first|simp only[ww]|(apply xa;simp+decide only[go_sem,l1,hlt,hsm,hw,hlen,hrm,hmod,hu,List.length_map];rfl;kernel_rfl))
    refine a1s (i+1) ?_ (by omega) (by omega)
    (simp+decide only[go_sem,a08,a03,hsr,a23,a24,hlen,h5,h6]<;>rfl)
  ·obtain rfl:i=N.length:=by omega
   have l1:¬(N.length:Int)<N.length:=by omega
   by_cases hk:N=[]
   ·have e1:(ofS N N.length).map Sg.enc=[]:=by rw[hk];rfl
    rw[e1];simp only[a0a,a0b]
    (repeat first|simp only[ww]|(apply xa;simp+decide only[go_sem,l1,List.length_map];rfl;kernel_rfl))
    (apply fqb;simp+decide only[go_sem,a0v]<;>rfl)
   ·have hlen:((ofS N N.length).map Sg.enc).length=N.length:=by rw[List.length_map,b6c N _ (Nat.le_refl _)]
    have hne:(ofS N N.length).map Sg.enc≠[]:=by intro e;rw[e]at hlen;simp at hlen;exact hk (List.eq_nil_of_length_eq_zero hlen.symm)
    have e9:=λq d=>a13 q d (a0t (ofS N N.length));rw[a1n hne,a0e 3 hne,a0j 2 hne,hlen];generalize(ofS N N.length).map Sg.enc=R at hlen e9 hne⊢;have e11:R.take N.length=R:=List.take_of_length_le (by omega)
    (repeat first|simp only[ww]|(apply xa;simp+decide only[go_sem,l1,List.length_map];rfl;kernel_rfl))
    (apply fqb;simp+decide only[go_sem,e9,hlen,e11]<;>rfl)
end Go.RInst
