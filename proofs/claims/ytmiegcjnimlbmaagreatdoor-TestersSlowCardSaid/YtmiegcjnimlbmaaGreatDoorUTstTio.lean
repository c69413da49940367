/- Part of a proof. No condition. -/
import Derived.Test.YtmiegcjnimlbmaaGreatDoorUTa
set_option linter.unusedSimpArgs false
set_option linter.unusedVariables false
namespace Go.UInst
open Go.Proofs Go.Ax Go.Pc
theorem c9b(x:CX){i:Nat}(h:i<x.k):a0x x.nodes i=0:=by unfold a0x CX.nodes;rw[List.append_assoc,List.getElem?_append_left (by simpa using h),List.getElem?_replicate,if_pos h];rfl
theorem c9c(x:CX){i:Nat}(h:x.k≤i)(hn:i<x.n):a0x x.nodes i≠0:=by
 have hl:=CX.nodes_len x;obtain⟨nd,hnd⟩:∃nd,x.nodes[i]?=some nd:=⟨_,z9e (by omega)⟩
 rw[a1e hnd];have hnd':=hnd;unfold CX.nodes at hnd';rw[List.append_assoc,List.getElem?_append_right (by simpa using h),List.length_replicate]at hnd';have hmem:=List.mem_of_getElem? hnd';rw[List.mem_append]at hmem;rcases hmem with hm|hm
 ·unfold CX.dn at hm;obtain⟨v,_,rfl⟩:=List.mem_map.1 hm;show(14:Nat)≠0;omega
 ·obtain⟨q,hq⟩:=List.getElem?_of_mem hm;obtain⟨g,hg⟩:=d03 _ _ _ _ _ hq;have hgp:=c05 x.bus g (x.base++((Go.Pc.gN x.bus x.base x.gs).take q).map Nd.kind) (by
   rw[List.length_append,x.base_len];have:0<x.k:=by unfold CX.k;omega
   omega)
  rw[←hg]at hgp;have:=hgp.k1;omega
theorem d3j(x:CX):kinds x.nodes 0=List.range x.k:=by
 unfold kinds a3g;have hl:=CX.nodes_len x;have hk:x.n=x.k+(x.n-x.k):=by unfold CX.n;omega
 rw[hl,hk,List.range_add,List.filter_append];have h1:(List.range x.k).filter (λi=>decide (a0x x.nodes i=0))=List.range x.k:=by rw[List.filter_eq_self];intro i hi;simp[c9b x (List.mem_range.1 hi)]
 have h2:((List.range (x.n-x.k)).map (x.k + ·)).filter (λi=>decide (a0x x.nodes i=0))=[]:=by rw[List.filter_eq_nil_iff];intro i hi;obtain⟨j,hj,rfl⟩:=List.mem_map.1 hi;have:=List.mem_range.1 hj;simp[c9c x (i:=x.k+j) (by omega) (by omega)]
 rw[h1,h2,List.append_nil]
theorem e27(x:CX):Tio (a8s x).cir (a8s x).k (a8s x).outN.length:=by
 have h1:(a8s x).k=x.inn%4+1:=rfl;have h2:(a8s x).outN.length=(x.outs.take 3).length+1:=by show(CX.outN _).length=_;unfold CX.outN;simp[a8s]
 have h3:(x.outs.take 3).length≤3:=List.length_take_le _ _;exact⟨d3j _,by omega,by omega,rfl,by omega,by omega⟩
end Go.UInst
