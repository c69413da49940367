/- Part of a proof. No condition. -/
import Derived.Test.YtnkhpfincnfloaaGreatDoorFAa
set_option linter.unusedSimpArgs false
set_option linter.unusedVariables false
namespace Go.FInst
open Go.Proofs Go.Ax Go.Pc
set_option maxRecDepth 100000
theorem at_ok(f:Nat)(Fs P:List Nat)(n o:Nat)(hn:Fs[n]?=some o)(ho:o<100000)(p:Int)(h1:-1≤p)(h2:p≤100)(v:Nat)(hv:v≤1)(hl:P.length<1000000)(hf:f=Fs.length) :
 sem L.env Mf 180 [.ptr 0 0 0,.int .i64 n,.int .i64 p,.int .u8 v] (foH f Fs P)=some (.int .i64 (o+2*(p+1)+v),foH f Fs P):=by
 have w1:IntKind.i64.wrap (p+1)=p+1:=w64 (by omega) (by omega);have w2:IntKind.i64.wrap (2*(p+1))=2*(p+1):=w64 (by omega) (by omega);have w3:IntKind.i64.wrap ((o:Int)+2*(p+1))=(o:Int)+2*(p+1):=w64 (by omega) (by omega);have w4:IntKind.i64.wrap ((o:Int)+2*(p+1)+(v:Int))=(o:Int)+2*(p+1)+v:=w64 (by omega) (by omega);have w5:IntKind.i64.wrap (v:Int)=v:=w64 (by omega) (by omega);have hlt:=(List.getElem?_eq_some_iff.1 hn).1;subst hf;unfold foH
 (refine sv Tryz.f180 ?_;simp only[Tryz.f180,gS])
 (repeat first|simp only[ww]|(apply xa;simp+decide only[go_sem,hn,hlt,w1,w2,w3,w4,w5,List.length_map];rfl;kernel_rfl))
 (apply fqb;simp+decide only[go_sem,ren_i]<;>rfl)
/- rules of equivalence -/
def ruR(r:Nat×Nat):List AV:=[.int .u8 r.1,.int .u8 r.2]
def ruV(l:List (Nat×Nat)):AV:=match l with
 | []=>.nilslice
 |a::r=>.islice ((a::r).map ruR) (some (r.length+1))
def ruS:Nat→Option (Nat×Nat)
 |5=>some (0,0)
 |6=>some (0,1)
 |7=>some (1,1)
 |8=>some (1,0)
 |_=>none
theorem cases15{P:Nat→Prop}(h0:P 0)(h1:P 1)(h2:P 2)(h3:P 3)(h4:P 4)(h5:P 5)(h6:P 6)(h7:P 7)(h8:P 8)(h9:P 9)(h10:P 10)(h11:P 11)(h12:P 12)(h13:P 13)(h14:P 14):∀k,k≤14→P k:=by
 intro k hk;have:k=0∨k=1∨k=2∨k=3∨k=4∨k=5∨k=6∨k=7∨k=8∨k=9∨k=10∨k=11∨k=12∨k=13∨k=14:=by omega
 rcases this with rfl|rfl|rfl|rfl|rfl|rfl|rfl|rfl|rfl|rfl|rfl|rfl|rfl|rfl|rfl<;>assumption
theorem steer_ok:∀k:Nat,k≤14→sem L.env Mf 302 [.int .u8 k] []=some (.tuple [.agg (match ruS k with|some r=>ruR r|none=>[.int .u8 0,.int .u8 0]),.bool (ruS k).isSome],[]):=by
 refine cases15 ?_ ?_ ?_ ?_ ?_ ?_ ?_ ?_ ?_ ?_ ?_ ?_ ?_ ?_ ?_
 all_goals
  simp only[ruS,ruR,Option.isSome]
  (refine sv Tryz.f302 ?_;simp only[Tryz.f302,gS])
  (repeat first|simp only[ww]|(apply xa;simp+decide only[go_sem];rfl;kernel_rfl))
  (apply fqb;simp+decide only[go_sem]<;>rfl)
theorem steer_call{d:Bool}(H:Heap)(k:Nat)(hk:k≤14):callV L.env d (sem L.env Mf) (.func (.func 302) [] []) [.int .u8 k] H=some (.tuple [.agg (match ruS k with|some r=>ruR r|none=>[.int .u8 0,.int .u8 0]),.bool (ruS k).isSome],H,[]):=callV_flat (by kernel_rfl) (by kernel_rfl) rfl rfl (steer_ok k hk) (by cases ruS k<;>rfl)
def eqRu(k n:Nat):List (Nat×Nat):=match k with
 |3=>[(0,0),(1,1)]
 |4=>[(0,1),(1,0)]
 |13=>if n=1 then[(0,0),(1,1)]else[]
 |k=>match ruS k with
  |some r=>[r]
  |none=>[]
theorem eqRu_ok:∀k,k≤14→∀n,(eqRu k n).length≤2∧∀r∈eqRu k n,r.1≤1∧r.2≤1:=by
 refine cases15 ?_ ?_ ?_ ?_ ?_ ?_ ?_ ?_ ?_ ?_ ?_ ?_ ?_ ?_ ?_<;>intro n
 case refine_14=>
  by_cases hn:n=1
  ·subst hn;decide
  ·simp only[eqRu,if_neg hn];simp
 all_goals simp[eqRu,ruS]
theorem equal_ok(c:Rep)(ins:List Nat)(mem bit:Nat):∀k:Nat,k≤14→sem L.env Mf 238 [.agg (Nd.enc ⟨k,c,ins,mem,bit⟩)] []=some (ruV (eqRu k ins.length),[]):=by
 have hst:=λH k hk=>steer_call (d:=false) H k hk;refine cases15 ?_ ?_ ?_ ?_ ?_ ?_ ?_ ?_ ?_ ?_ ?_ ?_ ?_ ?_ ?_
 case refine_14=>
  simp only[Nd.enc];by_cases hn:ins.length=1
  ·have c1:(ins.length:Int)=1:=by omega
   simp only[eqRu,if_pos hn,ruV,ruR,List.map_cons,List.map_nil,List.length_cons,List.length_nil]
   (refine sv Tryz.f238 ?_;simp only[Tryz.f238,gS])
   (repeat first|simp only[ww]|(apply xa;simp+decide only[go_sem,c1,List.length_map];rfl;kernel_rfl))
   (apply fqb;simp+decide only[go_sem]<;>rfl)
  ·have c1:¬(ins.length:Int)=1:=by omega
   have h13:=λH=>hst H 13 (by omega);simp only[ruS,ruR,Option.isSome]at h13;simp only[eqRu,if_neg hn,ruV]
   (refine sv Tryz.f238 ?_;simp only[Tryz.f238,gS])
   (repeat first|simp only[ww]|(apply xa;simp+decide only[go_sem,c1,h13,List.length_map];rfl;kernel_rfl))
   (apply fqb;simp+decide only[go_sem]<;>rfl)
 all_goals
  simp only[Nd.enc];have h0:=λH=>hst H 0 (by omega);have h1:=λH=>hst H 1 (by omega);have h2:=λH=>hst H 2 (by omega);have h5:=λH=>hst H 5 (by omega);have h6:=λH=>hst H 6 (by omega);have h7:=λH=>hst H 7 (by omega);have h8:=λH=>hst H 8 (by omega);have h9:=λH=>hst H 9 (by omega);have h10:=λH=>hst H 10 (by omega);have h11:=λH=>hst H 11 (by omega);have h12:=λH=>hst H 12 (by omega);have h14:=λH=>hst H 14 (by omega);simp only[ruS,ruR,Option.isSome]at h0 h1 h2 h5 h6 h7 h8 h9 h10 h11 h12 h14;simp only[eqRu,ruV,ruR,ruS,List.map_cons,List.map_nil,List.length_cons,List.length_nil]
  (refine sv Tryz.f238 ?_;simp only[Tryz.f238,gS])
  (repeat first|simp only[ww]|(apply xa;simp+decide only[go_sem,h0,h1,h2,h5,h6,h7,h8,h9,h10,h11,h12,h14,List.length_map];rfl;kernel_rfl))
  (apply fqb;simp+decide only[go_sem]<;>rfl)
end Go.FInst
