/- Part of a proof. No condition. -/
import Derived.Test.YtbmkmaobejlkgaaGreatDoorQGa
import Derived.Test.YtbmkmaobejlkgaaGreatDoorQPk
import Derived.Test.YtbmkmaobejlkgaaGreatDoorAxD
import Derived.Test.YtbmkmaobejlkgaaGreatDoorQMg
set_option linter.unusedSimpArgs false
set_option linter.unusedVariables false
namespace Go.QInst
open Go.Proofs Go.Ax
set_option maxRecDepth 100000
theorem d1b{E:Env}{M M':List Fact}(hs:∀x∈M,x∈M')(hg:∀y∈M',∃x∈M,x.g=y.g)(hf:∀x∈M',∀y∈M',y.g=x.g→y.args=x.args→y.v=x.v){g:FuncId}{args:List AV}{H:a04}{r:AV×a04}(h:Der E M g args H r):Der E M' g args H r:=by
 induction h with
 |run g args H r c lf hc hno h ih=>exact .run g args H r c lf ih (λy hy e=>by obtain⟨x,hx,he⟩:=hg y hy;exact hno x hx (he.trans e)) h
 |fact x hx hfirst=>exact .fact x (hs x hx) (hf x (hs x hx))
namespace Kn
def Mf:List Fact:=⟨174,[.str [97]],.bool true⟩::Go.QInst.Mf
theorem factsT:∀y∈Mf,y.v = .bool true:=by
 intro y hy;rcases List.mem_cons.1 hy with rfl|hy
 ·rfl
 ·exact Go.QInst.factsT y hy
theorem up{g:FuncId}{args:List AV}{H:a04}{r:AV×a04}(h:sem L.env Go.QInst.Mf g args H=some r):sem L.env Mf g args H=some r:=
 a6r.2 (d1b (λx hx=>List.mem_cons_of_mem _ hx) (λy hy=>by
  rcases List.mem_cons.1 hy with rfl|hy
  ·exact⟨⟨174,[.str [110,48,48]],.bool true⟩,by simp[Go.QInst.Mf],rfl⟩
  ·exact⟨y,hy,rfl⟩) (λx hx y hy _ _=>(factsT y hy).trans (factsT x hx).symm) (a6r.1 h))
end Kn
end Go.QInst
namespace Go.QInst.Kn
open Go.Proofs Go.Ax Go.Pc
set_option maxRecDepth 100000
theorem c2a{g:FuncId}{args:List AV}{v:AV}:∀{M:List Fact},c5y M g args=some v→∃x∈M,x.g=g∧x.args=args∧x.v=v
 | [],h=>by simp[c5y]at h
 |x::r,h=>by
  simp only[c5y,cond_eq_ite]at h;split at h
  ·rename_i hc;simp only[Bool.and_eq_true,Nat.beq_eq]at hc;cases h;exact⟨x,by simp,hc.1,b3k _ _ hc.2,rfl⟩
  ·obtain⟨y,hy,h1⟩:=c2a h;exact⟨y,List.mem_cons_of_mem _ hy,h1⟩
theorem c5x{g:FuncId}{args:List AV}{v:AV}(h:c5y Mf g args=some v):sem L.env Mf g args []=some (v,[]):=by obtain⟨x,hx,rfl,rfl,rfl⟩:=c2a h;rw[factsT x hx];exact b8a factsT hx
noncomputable def cN:Nat→CallF
 |0=>λ_ _ _=>none
 |n+1=>λg args H=>bif Mf.any (λx=>Nat.beq x.g g)then(match H with|[]=>(match c5y Mf g args with|some v=>some (v,[])|none=>none)|_::_=>none)else a5b L.env (cN n) (n+1) g args H
theorem e6n{g:FuncId}(h:Mf.any (λx=>Nat.beq x.g g)=false):∀x∈Mf,x.g≠g:=by intro x hx e;rw[List.any_eq_false]at h;exact h x hx (by rw[e];exact Nat.beq_refl g)
theorem e2p:∀n,∀g args H r,cN n g args H=some r→sem L.env Mf g args H=some r
 |0,_,_,_,_,h=>by cases h
 |n+1,g,args,H,r,h=>by
  simp only[cN]at h;cases hm:Mf.any (λx=>Nat.beq x.g g)with
  |true=>
   rw[hm]at h;simp only[cond_true]at h;cases H with
   |cons _ _=>cases h
   |nil=>
    cases hs:c5y Mf g args with
    |none=>simp only[hs]at h;cases h
    |some v=>simp only[hs]at h;cases h;exact c5x hs
  |false=>rw[hm]at h;exact a8h (e2p n) (e6n hm) _ h
theorem b4p{g:FuncId}{args:List AV}{H:a04}{r:AV×a04}(h:cN 60 g args H=some r):sem L.env Mf g args H=some r:=e2p 60 g args H r h
theorem c5k(R:List (List AV))(hR:FlatR R)(hl:R.length=65537):sem L.env Mf 52 [.slice 0 0 65537 (some 65537),.int .i64 3] [some (.row 1 R)]=some (.int .i64 3,[some (.row 1 R)]):=by
 have h1:=a05 hR;have h2:=λπ=>a02 π hR
 (refine sv Tryz.f52 ?_;simp only[Tryz.f52,gS])
 (repeat first|simp only[ww]|(apply xa;simp+decide only[go_sem,hl];rfl;kernel_rfl))
 (apply fqb;simp+decide only[go_sem,h1,h2]<;>rfl)
theorem c0i{d:Bool}{H:a04}{b:Nat}(R:List (List AV))(hR:FlatR R)(hl:R.length=65537)(hb:a01 H b=some (.row 1 R)):a0d L.env d (sem L.env Mf) (.func (.func 52) [] []) [.slice b 0 65537 (some 65537),.int .i64 3] H=some (.int .i64 3,H,[b]):=a1b (b:=b) (by kernel_rfl) (by kernel_rfl) rfl hb (a0m hR) (FlatO.row hR) rfl (args':=[.slice 0 0 65537 (some 65537),.int .i64 3]) (by simp only[List.nil_append,List.append_nil,List.map_cons,List.map_nil,a27]<;>rfl) (c5k R hR hl) rfl
theorem c0x(R:List (List AV))(hR:FlatR R)(hl:R.length=65537):sem L.env Mf 22 [.slice 0 0 65537 (some 65537),.int .i64 3] [some (.row 1 R)]=some (.tuple [.nilslice,.int .i64 3],[some (.row 1 R)]):=by
 have h1:=a05 hR;have h2:=λπ=>a02 π hR;have hv:=λ(d:Bool)=>c0i (d:=d) (H:=[some (.row 1 R)]) (b:=0) R hR hl rfl
 (refine sv Tryz.f22 ?_;simp only[Tryz.f22,gS])
 (repeat first|simp only[ww]|(apply xa;simp+decide only[go_sem,hl,hv];rfl;kernel_rfl))
 (apply fqb;simp+decide only[go_sem,h1,h2]<;>rfl)
theorem b6f{d:Bool}{H:a04}{b:Nat}(R:List (List AV))(hR:FlatR R)(hl:R.length=65537)(hb:a01 H b=some (.row 1 R)):a0d L.env d (sem L.env Mf) (.func (.func 22) [] []) [.slice b 0 65537 (some 65537),.int .i64 3] H=some (.tuple [.nilslice,.int .i64 3],H,[b]):=a1b (b:=b) (by kernel_rfl) (by kernel_rfl) rfl hb (a0m hR) (FlatO.row hR) rfl (args':=[.slice 0 0 65537 (some 65537),.int .i64 3]) (by simp only[List.nil_append,List.append_nil,List.map_cons,List.map_nil,a27]<;>rfl) (c0x R hR hl) rfl
theorem c4o:sem L.env Mf 23 [.nilslice,.int .i64 4097] []=some (.tuple [.nilslice,.int .i64 3],[]):=b4p (by kernel_rfl)
theorem c78:sem L.env Mf 24 [.nilslice,.int .i64 17] []=some (.tuple [.nilslice,.int .i64 3],[]):=b4p (by kernel_rfl)
theorem b98{d:Bool}(H:a04):a0d L.env d (sem L.env Mf) (.func (.func 23) [] []) [.nilslice,.int .i64 4097] H=some (.tuple [.nilslice,.int .i64 3],H,[]):=a07 (by kernel_rfl) (by kernel_rfl) rfl rfl c4o rfl
theorem c19{d:Bool}(H:a04):a0d L.env d (sem L.env Mf) (.func (.func 24) [] []) [.nilslice,.int .i64 17] H=some (.tuple [.nilslice,.int .i64 3],H,[]):=a07 (by kernel_rfl) (by kernel_rfl) rfl rfl c78 rfl
theorem c6t(R:List (List AV))(hR:FlatR R)(hl:R.length=4097):sem L.env Mf 11 [.slice 0 0 4097 (some 4097)] [some (.row 2 R)]=some (.tuple [.nilslice,.nilslice,.int .i64 3],[some (.row 2 R)]):=by
 have h1:=a05 hR;have h2:=λπ=>a02 π hR
 (refine sv Tryz.f11 ?_;simp only[Tryz.f11,gS])
 (repeat first|simp only[ww]|(apply xa;simp+decide only[go_sem,hl];rfl;kernel_rfl))
 (apply fqb;simp+decide only[go_sem,h1,h2]<;>rfl)
theorem c14{d:Bool}{H:a04}{b:Nat}(R:List (List AV))(hR:FlatR R)(hl:R.length=4097)(hb:a01 H b=some (.row 2 R)):a0d L.env d (sem L.env Mf) (.func (.func 11) [] []) [.slice b 0 4097 (some 4097)] H=some (.tuple [.nilslice,.nilslice,.int .i64 3],H,[b]):=a1b (b:=b) (by kernel_rfl) (by kernel_rfl) rfl hb (a0m hR) (FlatO.row hR) rfl (args':=[.slice 0 0 4097 (some 4097)]) (by simp only[List.nil_append,List.append_nil,List.map_cons,List.map_nil,a27]<;>rfl) (c6t R hR hl) rfl
theorem c6u:sem L.env Mf 11 [.slice 0 0 1 (some 1)] [some (.row 2 [[.slice 1 0 1 (some 1),.nilslice]]),some (.row 1 [[.int .u8 3]])]=some (.tuple [.nilslice,.nilslice,.int .i64 1],[some (.row 2 [[.slice 1 0 1 (some 1),.nilslice]]),some (.row 1 [[.int .u8 3]])]):=b4p (by kernel_rfl)
theorem c47{H:a04}{a b:Nat}(hab:a≠b)(ha:a0k (a01 H a)=[b])(hb:a0k (a01 H b)=[]):a1t H 1000000 [a] []=[a,b]:=by
 have e:a1t H (999996+4) [a] []=[a,b]:=by
  unfold a1t;simp only[a0v,cond_false,ha,List.nil_append,List.cons_append];unfold a1t;have h1:a0v [a] b=false:=by
   cases hc:a0v [a] b with
   |false=>rfl
   |true=>exact absurd (by simpa using a1x.1 hc) (Ne.symm hab)
  simp only[h1,cond_false,hb,List.nil_append];unfold a1t;rfl
 exact e
theorem b0e{E:Env}{draw:Bool}{call:CallF}{g:FuncId}{fs cs ar args:List AV}{H:a04}{v:AV}{a b:Nat}{o1 o2 p1 p2:AObj}(hx:E.ext g=false)(hf:(E.fn g).isSome=true)(he:fs++ar++cs=args)
 (hab:a≠b)(ha:a01 H a=some o1)(hb:a01 H b=some o2)(hr1:a0k (some o1)=[b])(hr2:a0k (some o2)=[])(hargs:a0a args=[a])
 {args':List AV}(hra:args.map (ren (a3w [a,b]))=args')(hs1:a0e (a3w [a,b]) o1=p1)(hs2:a0e (a3w [a,b]) o2=p2)(hr:call g args' [some p1,some p2]=some (v,[some p1,some p2]))
 (hb1:a0e (a0s [a,b] H.length) p1=o1)(hb2:a0e (a0s [a,b] H.length) p2=o2)(hv:refs v=[]) :
 a0d E draw call (.func (.func g) fs cs) ar H=some (v,H,[a,b]):=by
 have l1:=a0l ha;have l2:=a0l hb;have hn:a3x [a,b]=true:=a6z (by simp[hab]);have hc:=a18 (call g) args H (σ:=[a,b]) (by rw[hargs];exact c47 hab (by rw[ha];exact hr1) (by rw[hb];exact hr2)) hn (by simp[l1,l2]) hra (H0:=[some p1,some p2])
  (by simp only[a19,List.map_cons,List.map_nil,ha,hb,Option.map_some,hs1,hs2]) hr
 have hpb:a0u [a,b] H.length [some p1,some p2] 0 H=H:=by
  apply List.ext_getElem?;intro i;rw[a4e,Nat.zero_add];by_cases hia:a=i
  ·subst hia;have e:([a,b]:List Nat).idxOf? a=some 0:=by simp[List.idxOf?_cons]
   have ha':H[a]?=some (some o1):=by unfold a01 at ha;rw[z9e l1]at ha⊢;exact congrArg some ha
   rw[ha'];simp only[Option.map_some,e]
   congr 1
   show some (a0e _ p1)=_;rw[hb1]
  ·by_cases hib:b=i
   ·subst hib;have e:([a,b]:List Nat).idxOf? b=some 1:=by simp[List.idxOf?_cons,hab]
    have hb':H[b]?=some (some o2):=by unfold a01 at hb;rw[z9e l2]at hb⊢;exact congrArg some hb
    rw[hb'];simp only[Option.map_some,e]
    congr 1
    show some (a0e _ p2)=_;rw[hb2]
   ·have e:([a,b]:List Nat).idxOf? i=none:=by simp[List.idxOf?_cons,hia,hib]
    cases H[i]? with
    |none=>rfl
    |some o=>simp only[Option.map_some,e]
 rw[a0f _ v hv,hpb]at hc;simp only[List.drop_succ_cons,List.drop_zero,List.map_nil,List.append_nil,List.length_cons,List.length_nil]at hc;exact a96 hx hf he hc (by simp)
theorem c15{d:Bool}{H:a04}{a b:Nat}(hab:a≠b)(ha:a01 H a=some (.row 2 [[.slice b 0 1 (some 1),.nilslice]]))(hb:a01 H b=some (.row 1 [[.int .u8 3]])):a0d L.env d (sem L.env Mf) (.func (.func 11) [] []) [.slice a 0 1 (some 1)] H=some (.tuple [.nilslice,.nilslice,.int .i64 1],H,[a,b]):=by
 have e0:([a,b]:List Nat).idxOf? a=some 0:=by simp[List.idxOf?_cons]
 have e1:([a,b]:List Nat).idxOf? b=some 1:=by simp[List.idxOf?_cons,hab]
 refine b0e (by kernel_rfl) (by kernel_rfl) rfl hab ha hb rfl rfl rfl (args':=[.slice 0 0 1 (some 1)]) ?_ (p1:=.row 2 [[.slice 1 0 1 (some 1),.nilslice]]) (p2:=.row 1 [[.int .u8 3]]) ?_ rfl c6u rfl rfl rfl
 ·simp[ren,a3w,e0]
 ·simp[a0e,ren,a3w,e1]
set_option maxHeartbeats 200000000
theorem e0z:sem L.env Mf 17 [.agg [.slice 0 0 1 (some 1),.slice 1 0 1 (some 1),.nilslice,.slice 2 0 1 (some 1)]] [some (.row 4 [[.int .u8 0,.nilslice,.int .i64 0,.int .i64 0]]),some (.row 1 [[.str [97]]]),some (.row 1 [[.int .i64 0]])]=some (.int .i64 0,[some (.row 4 [[.int .u8 0,.nilslice,.int .i64 0,.int .i64 0]]),some (.row 1 [[.str [97]]]),some (.row 1 [[.int .i64 0]])]):=b4p (by kernel_rfl)
theorem foN:FlatO (some (.row 4 [[.int .u8 0,.nilslice,.int .i64 0,.int .i64 0]])):=by intro π;rfl
theorem foM:FlatO (some (.row 1 [[.str [97]]])):=by intro π;rfl
theorem foO:FlatO (some (.row 1 [[.int .i64 0]])):=by intro π;rfl
theorem c2p{d:Bool}(K:a04):a0d L.env d (sem L.env Mf) (.func (.func 17) [] []) [.agg [.slice 0 0 1 (some 1),.slice 1 0 1 (some 1),.nilslice,.slice 2 0 1 (some 1)]] (some (.row 4 [[.int .u8 0,.nilslice,.int .i64 0,.int .i64 0]])::some (.row 1 [[.str [97]]])::some (.row 1 [[.int .i64 0]])::K)=some (.int .i64 0,some (.row 4 [[.int .u8 0,.nilslice,.int .i64 0,.int .i64 0]])::some (.row 1 [[.str [97]]])::some (.row 1 [[.int .i64 0]])::K,[0,1,2]):=
 a3f [0,1,2] (by kernel_rfl) (by kernel_rfl) rfl (by simp+decide only[go_sem]) rfl rfl (by
  intro b hb;simp only[List.mem_cons,List.not_mem_nil,or_false]at hb;rcases hb with rfl|rfl|rfl
  ·exact foN
  ·exact foM
  ·exact foO) (by simp+decide only[go_sem]) rfl e0z rfl
theorem foZ{k:Nat}{Z:List (List AV)}(hZ:FlatR Z):FlatO (some (.row k Z)):=FlatO.row hZ
theorem d3q:sem L.env Mf 18 [.agg [.slice 0 0 1 (some 1),.slice 1 0 1 (some 1),.nilslice,.slice 2 0 1 (some 1)],.slice 3 0 1 (some 1)] [some (.row 4 [[.int .u8 0,.nilslice,.int .i64 0,.int .i64 0]]),some (.row 1 [[.str [97]]]),some (.row 1 [[.int .i64 0]]),some (.row 1 [[.int .u8 15]])]=some (.nilslice,[some (.row 4 [[.int .u8 0,.nilslice,.int .i64 0,.int .i64 0]]),some (.row 1 [[.str [97]]]),some (.row 1 [[.int .i64 0]]),some (.row 1 [[.int .u8 15]])]):=b4p (by kernel_rfl)
theorem d09{d:Bool}(X Y:Option AObj)(K:a04):a0d L.env d (sem L.env Mf) (.func (.func 18) [] []) [.agg [.slice 0 0 1 (some 1),.slice 1 0 1 (some 1),.nilslice,.slice 2 0 1 (some 1)],.slice 5 0 1 (some 1)] (some (.row 4 [[.int .u8 0,.nilslice,.int .i64 0,.int .i64 0]])::some (.row 1 [[.str [97]]])::some (.row 1 [[.int .i64 0]])::X::Y::some (.row 1 [[.int .u8 15]])::K)=some (.nilslice,some (.row 4 [[.int .u8 0,.nilslice,.int .i64 0,.int .i64 0]])::some (.row 1 [[.str [97]]])::some (.row 1 [[.int .i64 0]])::X::Y::some (.row 1 [[.int .u8 15]])::K,[0,1,2,5]):=
 a3f [0,1,2,5] (by kernel_rfl) (by kernel_rfl) rfl (by simp+decide only[go_sem]) rfl rfl (by
  intro b hb;simp only[List.mem_cons,List.not_mem_nil,or_false]at hb;rcases hb with rfl|rfl|rfl|rfl
  ·exact foN
  ·exact foM
  ·exact foO
  ·exact FlatO.row (FlatR.cons rfl FlatR.nil)) (by simp+decide only[go_sem]) rfl d3q rfl
theorem c6j{d:Bool}(X Y W:Option AObj)(K:a04):a0d L.env d (sem L.env Mf) (.func (.func 18) [] []) [.agg [.slice 0 0 1 (some 1),.slice 1 0 1 (some 1),.nilslice,.slice 2 0 1 (some 1)],.slice 6 0 1 (some 1)] (some (.row 4 [[.int .u8 0,.nilslice,.int .i64 0,.int .i64 0]])::some (.row 1 [[.str [97]]])::some (.row 1 [[.int .i64 0]])::X::Y::W::some (.row 1 [[.int .u8 15]])::K)=some (.nilslice,some (.row 4 [[.int .u8 0,.nilslice,.int .i64 0,.int .i64 0]])::some (.row 1 [[.str [97]]])::some (.row 1 [[.int .i64 0]])::X::Y::W::some (.row 1 [[.int .u8 15]])::K,[0,1,2,6]):=
 a3f [0,1,2,6] (by kernel_rfl) (by kernel_rfl) rfl (by simp+decide only[go_sem]) rfl rfl (by
  intro b hb;simp only[List.mem_cons,List.not_mem_nil,or_false]at hb;rcases hb with rfl|rfl|rfl|rfl
  ·exact foN
  ·exact foM
  ·exact foO
  ·exact FlatO.row (FlatR.cons rfl FlatR.nil)) (by simp+decide only[go_sem]) rfl d3q rfl
theorem e2i(Z:List (List AV))(hZ:FlatR Z)(hl:Z.length=65537):sem L.env Mf 34 [.agg [.slice 0 0 1 (some 1),.slice 1 0 1 (some 1),.nilslice,.slice 2 0 1 (some 1)],.slice 3 0 65537 (some 65537),.nilslice] [some (.row 4 [[.int .u8 0,.nilslice,.int .i64 0,.int .i64 0]]),some (.row 1 [[.str [97]]]),some (.row 1 [[.int .i64 0]]),some (.row 5 Z)]=some (.int .i64 3,[some (.row 4 [[.int .u8 0,.nilslice,.int .i64 0,.int .i64 0]]),some (.row 1 [[.str [97]]]),some (.row 1 [[.int .i64 0]]),some (.row 5 Z)]):=by
 have h1:=a05 hZ;have h2:=λπ=>a02 π hZ;have hnc:=λ(d:Bool) (K:a04)=>c2p (d:=d) K;have hof:=λ(d:Bool) (X Y:Option AObj) (K:a04)=>d09 (d:=d) X Y K
 (refine sv Tryz.f34 ?_;simp only[Tryz.f34,gS])
 (repeat first|simp only[ww]|(apply xa;simp+decide only[go_sem,hnc,hof,hl];rfl;kernel_rfl))
 (apply fqb;simp+decide only[go_sem,h1,h2]<;>rfl)
theorem e2h(F Z:List (List AV))(hF:FlatR F)(hZ:FlatR Z)(hl:Z.length=4097):sem L.env Mf 34 [.agg [.slice 0 0 1 (some 1),.slice 1 0 1 (some 1),.nilslice,.slice 2 0 1 (some 1)],.slice 3 0 1 (some 1),.slice 4 0 4097 (some 4097)] [some (.row 4 [[.int .u8 0,.nilslice,.int .i64 0,.int .i64 0]]),some (.row 1 [[.str [97]]]),some (.row 1 [[.int .i64 0]]),some (.row 5 F),some (.row 2 Z)]=some (.int .i64 3,[some (.row 4 [[.int .u8 0,.nilslice,.int .i64 0,.int .i64 0]]),some (.row 1 [[.str [97]]]),some (.row 1 [[.int .i64 0]]),some (.row 5 F),some (.row 2 Z)]):=by
 have h1:=a05 hZ;have h2:=λπ=>a02 π hZ;have h3:=a05 hF;have h4:=λπ=>a02 π hF;have hnc:=λ(d:Bool) (K:a04)=>c2p (d:=d) K;have hof:=λ(d:Bool) (X Y W:Option AObj) (K:a04)=>c6j (d:=d) X Y W K
 (refine sv Tryz.f34 ?_;simp only[Tryz.f34,gS])
 (repeat first|simp only[ww]|(apply xa;simp+decide only[go_sem,hnc,hof,hl];rfl;kernel_rfl))
 (apply fqb;simp+decide only[go_sem,h1,h2,h3,h4]<;>rfl)
theorem d1z{d:Bool}(Z:List (List AV))(hZ:FlatR Z)(hl:Z.length=65537)(K:a04):a0d L.env d (sem L.env Mf) (.func (.func 34) [] []) [.agg [.slice 0 0 1 (some 1),.slice 1 0 1 (some 1),.nilslice,.slice 2 0 1 (some 1)],.slice 3 0 65537 (some 65537),.nilslice] (some (.row 4 [[.int .u8 0,.nilslice,.int .i64 0,.int .i64 0]])::some (.row 1 [[.str [97]]])::some (.row 1 [[.int .i64 0]])::some (.row 5 Z)::K)=some (.int .i64 3,some (.row 4 [[.int .u8 0,.nilslice,.int .i64 0,.int .i64 0]])::some (.row 1 [[.str [97]]])::some (.row 1 [[.int .i64 0]])::some (.row 5 Z)::K,[0,1,2,3]):=
 a3f [0,1,2,3] (by kernel_rfl) (by kernel_rfl) rfl (by simp+decide only[go_sem,a05 hZ]) rfl rfl (by
  intro b hb;simp only[List.mem_cons,List.not_mem_nil,or_false]at hb;rcases hb with rfl|rfl|rfl|rfl
  ·exact foN
  ·exact foM
  ·exact foO
  ·exact foZ hZ) (by simp+decide only[go_sem]) rfl (e2i Z hZ hl) rfl
theorem d1y{d:Bool}(F Z:List (List AV))(hF:FlatR F)(hZ:FlatR Z)(hl:Z.length=4097)(K:a04):a0d L.env d (sem L.env Mf) (.func (.func 34) [] []) [.agg [.slice 0 0 1 (some 1),.slice 1 0 1 (some 1),.nilslice,.slice 2 0 1 (some 1)],.slice 3 0 1 (some 1),.slice 4 0 4097 (some 4097)] (some (.row 4 [[.int .u8 0,.nilslice,.int .i64 0,.int .i64 0]])::some (.row 1 [[.str [97]]])::some (.row 1 [[.int .i64 0]])::some (.row 5 F)::some (.row 2 Z)::K)=some (.int .i64 3,some (.row 4 [[.int .u8 0,.nilslice,.int .i64 0,.int .i64 0]])::some (.row 1 [[.str [97]]])::some (.row 1 [[.int .i64 0]])::some (.row 5 F)::some (.row 2 Z)::K,[0,1,2,3,4]):=
 a3f [0,1,2,3,4] (by kernel_rfl) (by kernel_rfl) rfl (by simp+decide only[go_sem,a05 hZ,a05 hF]) rfl rfl (by
  intro b hb;simp only[List.mem_cons,List.not_mem_nil,or_false]at hb;rcases hb with rfl|rfl|rfl|rfl|rfl
  ·exact foN
  ·exact foM
  ·exact foO
  ·exact foZ hF
  ·exact foZ hZ) (by simp+decide only[go_sem]) rfl (e2h F Z hF hZ hl) rfl
theorem d9v(Z:List (List AV))(hZ:FlatR Z)(hl:Z.length=65537):sem L.env Mf 10 [.agg [.slice 0 0 1 (some 1),.slice 1 0 1 (some 1),.nilslice,.slice 2 0 1 (some 1)],.slice 3 0 65537 (some 65537),.nilslice] [some (.row 4 [[.int .u8 0,.nilslice,.int .i64 0,.int .i64 0]]),some (.row 1 [[.str [97]]]),some (.row 1 [[.int .i64 0]]),some (.row 5 Z)]=some (.tuple [.nilslice,.int .i64 3],[some (.row 4 [[.int .u8 0,.nilslice,.int .i64 0,.int .i64 0]]),some (.row 1 [[.str [97]]]),some (.row 1 [[.int .i64 0]]),some (.row 5 Z)]):=by
 have h1:=a05 hZ;have h2:=λπ=>a02 π hZ;have hc:=λ(d:Bool) (K:a04)=>d1z (d:=d) Z hZ hl K
 (refine sv Tryz.f10 ?_;simp only[Tryz.f10,gS])
 (repeat first|simp only[ww]|(apply xa;simp+decide only[go_sem,hc,hl];rfl;kernel_rfl))
 (apply fqb;simp+decide only[go_sem,h1,h2]<;>rfl)
theorem d9u(F Z:List (List AV))(hF:FlatR F)(hZ:FlatR Z)(hl:Z.length=4097):sem L.env Mf 10 [.agg [.slice 0 0 1 (some 1),.slice 1 0 1 (some 1),.nilslice,.slice 2 0 1 (some 1)],.slice 3 0 1 (some 1),.slice 4 0 4097 (some 4097)] [some (.row 4 [[.int .u8 0,.nilslice,.int .i64 0,.int .i64 0]]),some (.row 1 [[.str [97]]]),some (.row 1 [[.int .i64 0]]),some (.row 5 F),some (.row 2 Z)]=some (.tuple [.nilslice,.int .i64 3],[some (.row 4 [[.int .u8 0,.nilslice,.int .i64 0,.int .i64 0]]),some (.row 1 [[.str [97]]]),some (.row 1 [[.int .i64 0]]),some (.row 5 F),some (.row 2 Z)]):=by
 have h1:=a05 hZ;have h2:=λπ=>a02 π hZ;have h3:=a05 hF;have h4:=λπ=>a02 π hF;have hc:=λ(d:Bool) (K:a04)=>d1y (d:=d) F Z hF hZ hl K
 (refine sv Tryz.f10 ?_;simp only[Tryz.f10,gS])
 (repeat first|simp only[ww]|(apply xa;simp+decide only[go_sem,hc,hl];rfl;kernel_rfl))
 (apply fqb;simp+decide only[go_sem,h1,h2,h3,h4]<;>rfl)
theorem c9w{d:Bool}(Z:List (List AV))(hZ:FlatR Z)(hl:Z.length=65537)(a b c e f g h:Option AObj)(K:a04):a0d L.env d (sem L.env Mf) (.func (.func 10) [] []) [.agg [.slice 6 0 1 (some 1),.slice 7 0 1 (some 1),.nilslice,.slice 8 0 1 (some 1)],.slice 10 0 65537 (some 65537),.nilslice] (a::b::c::e::f::g::some (.row 4 [[.int .u8 0,.nilslice,.int .i64 0,.int .i64 0]])::some (.row 1 [[.str [97]]])::some (.row 1 [[.int .i64 0]])::h::some (.row 5 Z)::K)=some (.tuple [.nilslice,.int .i64 3],a::b::c::e::f::g::some (.row 4 [[.int .u8 0,.nilslice,.int .i64 0,.int .i64 0]])::some (.row 1 [[.str [97]]])::some (.row 1 [[.int .i64 0]])::h::some (.row 5 Z)::K,[6,7,8,10]):=
 a3f [6,7,8,10] (by kernel_rfl) (by kernel_rfl) rfl (by simp+decide only[go_sem,a05 hZ]) rfl rfl (by
  intro b hb;simp only[List.mem_cons,List.not_mem_nil,or_false]at hb;rcases hb with rfl|rfl|rfl|rfl
  ·exact foN
  ·exact foM
  ·exact foO
  ·exact foZ hZ) (by simp+decide only[go_sem]) rfl (d9v Z hZ hl) rfl
theorem c9v{d:Bool}(F Z:List (List AV))(hF:FlatR F)(hZ:FlatR Z)(hl:Z.length=4097)(a b c e f g h i:Option AObj)(K:a04):a0d L.env d (sem L.env Mf) (.func (.func 10) [] []) [.agg [.slice 6 0 1 (some 1),.slice 7 0 1 (some 1),.nilslice,.slice 8 0 1 (some 1)],.slice 11 0 1 (some 1),.slice 12 0 4097 (some 4097)] (a::b::c::e::f::g::some (.row 4 [[.int .u8 0,.nilslice,.int .i64 0,.int .i64 0]])::some (.row 1 [[.str [97]]])::some (.row 1 [[.int .i64 0]])::h::i::some (.row 5 F)::some (.row 2 Z)::K)=some (.tuple [.nilslice,.int .i64 3],a::b::c::e::f::g::some (.row 4 [[.int .u8 0,.nilslice,.int .i64 0,.int .i64 0]])::some (.row 1 [[.str [97]]])::some (.row 1 [[.int .i64 0]])::h::i::some (.row 5 F)::some (.row 2 Z)::K,[6,7,8,11,12]):=
 a3f [6,7,8,11,12] (by kernel_rfl) (by kernel_rfl) rfl (by simp+decide only[go_sem,a05 hZ,a05 hF]) rfl rfl (by
  intro b hb;simp only[List.mem_cons,List.not_mem_nil,or_false]at hb;rcases hb with rfl|rfl|rfl|rfl|rfl
  ·exact foN
  ·exact foM
  ·exact foO
  ·exact foZ hF
  ·exact foZ hZ) (by simp+decide only[go_sem]) rfl (d9u F Z hF hZ hl) rfl
def oS(x:BitVec 64):BitVec 64:=
 let a:=(x>>>1&&&BitVec.ofInt 64 6148914691236517205)+(x&&&BitVec.ofInt 64 6148914691236517205)
 let b:=(a>>>2&&&BitVec.ofInt 64 3689348814741910323)+(a&&&BitVec.ofInt 64 3689348814741910323)
 let c:=(b>>>4+b)&&&BitVec.ofInt 64 1085102592571150095
 let d:=c+c>>>8
 let e:=d+d>>>16
 e+e>>>32
def ocI(x:BitVec 64):Int:=e1n .i64 (IntKind.i64.wrap ((oS x).toNat:Int)) 127
theorem e6j(x:BitVec 64):sem L.env Mf 104 [u64 x] []=some (.int .i64 (ocI x),[]):=by
 suffices h:∃r:AV×a04,r=(.int .i64 (ocI x),[])∧sem L.env Mf 104 [u64 x] []=some r by obtain⟨r,rfl,h⟩:=h;exact h
 (refine svE Tryz.f104 ?_;simp only[Tryz.f104,gS])
 (repeat first|simp only[ww]|(apply xa;simp+decide only[go_sem];rfl;kernel_rfl))
 refine a3q (vs:=[.int .i64 (ocI x)]) (r:=(.int .i64 (ocI x),[])) rfl ?_ rfl;rfl
theorem ocA:ocI (BitVec.ofNat 64 32768)=1:=by decide+kernel
theorem ocB:ocI (BitVec.ofNat 64 65535)=16:=by decide+kernel
def d9f(f:Nat→Bool):Nat→Nat→Bool
 |0,b=>f b
 |d+1,b=>d9f f d b&&d9f f d (b+2^d)
theorem b7h{f:Nat→Bool}:∀{d b:Nat},d9f f d b=true→∀n,b≤n→n<b+2^d→f n=true
 |0,b,h,n,h1,h2=>by
  have:n=b:=by simp at h2;omega
  rw[this];exact h
 |d+1,b,h,n,h1,h2=>by
  simp only[d9f,Bool.and_eq_true]at h;by_cases hn:n<b+2^d
  ·exact b7h h.1 n h1 hn
  ·exact b7h h.2 n (by omega) (by rw[Nat.pow_succ]at h2;omega)
theorem f0u:d9f (λn=>decide (n=32768)||decide (2≤ocI (BitVec.ofNat 64 n))) 15 32768=true:=by decide+kernel
theorem ocC{n:Nat}(h1:32768<n)(h2:n<65536):2≤ocI (BitVec.ofNat 64 n):=by
 have h:=b7h f0u n (by omega) (by omega);simp only[Bool.or_eq_true,decide_eq_true_eq]at h;rcases h with h|h
 ·omega
 ·exact h
theorem d5p{d:Bool}(H:a04)(x:BitVec 64):a0d L.env d (sem L.env Mf) (.func (.func 104) [] []) [u64 x] H=some (.int .i64 (ocI x),H,[]):=a07 (by kernel_rfl) (by kernel_rfl) rfl rfl (e6j x) rfl
theorem e6e(x:BitVec 64):sem L.env Mf 62 [u64 x] []=some (.int .i64 (ocI x),[]):=by
 have h:=λ(d:Bool) (H:a04)=>d5p (d:=d) H x;generalize ocI x=n at h
 (refine sv Tryz.f62 ?_;simp only[Tryz.f62,gS])
 (repeat first|simp only[ww]|(apply xa;simp+decide only[go_sem,h];rfl;kernel_rfl))
 (apply fqb;simp+decide only[go_sem]<;>rfl)
theorem b6m{d:Bool}(H:a04)(x:BitVec 64):a0d L.env d (sem L.env Mf) (.func (.func 62) [] []) [u64 x] H=some (.int .i64 (ocI x),H,[]):=a07 (by kernel_rfl) (by kernel_rfl) rfl rfl (e6e x) rfl
theorem e6p(x y:BitVec 64)(h:ocI x<ocI y):sem L.env Mf 61 [u64 x,u64 y] []=some (.bool true,[]):=by
 have h1:=λ(d:Bool) (H:a04)=>b6m (d:=d) H x;have h2:=λ(d:Bool) (H:a04)=>b6m (d:=d) H y;generalize ocI x=a at h h1;generalize ocI y=b at h h2
 (refine sv Tryz.f61 ?_;simp only[Tryz.f61,gS])
 (repeat first|simp only[ww]|(apply xa;simp+decide only[go_sem,h1,h2,h];rfl;kernel_rfl))
 (apply fqb;simp+decide only[go_sem]<;>rfl)
theorem e75(x y:BitVec 64)(h:ocI y<ocI x):sem L.env Mf 61 [u64 x,u64 y] []=some (.bool false,[]):=by
 have h1:=λ(d:Bool) (H:a04)=>b6m (d:=d) H x;have h2:=λ(d:Bool) (H:a04)=>b6m (d:=d) H y;generalize ocI x=a at h h1;generalize ocI y=b at h h2;have c1:¬a<b:=by omega
 have c2:¬a=b:=by omega
 (refine sv Tryz.f61 ?_;simp only[Tryz.f61,gS])
 (repeat first|simp only[ww]|(apply xa;simp+decide only[go_sem,h1,h2,c1,c2];rfl;kernel_rfl))
 (apply fqb;simp+decide only[go_sem]<;>rfl)
theorem d60{d:Bool}(H:a04)(x y:BitVec 64)(h:ocI x<ocI y):a0d L.env d (sem L.env Mf) (.func (.func 61) [] []) [u64 x,u64 y] H=some (.bool true,H,[]):=a07 (by kernel_rfl) (by kernel_rfl) rfl rfl (e6p x y h) rfl
theorem d6e{d:Bool}(H:a04)(x y:BitVec 64)(h:ocI y<ocI x):a0d L.env d (sem L.env Mf) (.func (.func 61) [] []) [u64 x,u64 y] H=some (.bool false,H,[]):=a07 (by kernel_rfl) (by kernel_rfl) rfl rfl (e75 x y h) rfl
theorem d0s{d:Bool}(H:a04)(x:Nat):a0d L.env d (sem L.env Mf) (.func (.func 58) [] [.iptr [.islice ([32768].map bR) (some 1)]]) [u64 (BitVec.ofNat 64 x)] H=some (.bool (!([32768].any (c7h x))),H,[]):=a07 (by kernel_rfl) (by kernel_rfl) rfl (by rfl) (up (e1a [32768] (some 1) x (by simp) (by simp))) rfl
theorem d9n:sem L.env Mf 52 [.slice 0 0 1 (some 1),.int .i64 16] [some (.row 1 [[.slice 1 0 1 (some 1)]]),some (.row 1 [[.int .i64 15]])]=some (.int .i64 0,[some (.row 1 [[.slice 1 0 1 (some 1)]]),some (.row 1 [[.int .i64 15]])]):=b4p (by kernel_rfl)
theorem c9q{d:Bool}(K:a04):a0d L.env d (sem L.env Mf) (.func (.func 52) [] []) [.slice 0 0 1 (some 1),.int .i64 16] (some (.row 1 [[.slice 1 0 1 (some 1)]])::some (.row 1 [[.int .i64 15]])::K)=some (.int .i64 0,some (.row 1 [[.slice 1 0 1 (some 1)]])::some (.row 1 [[.int .i64 15]])::K,[0,1]):=b0e (a:=0) (b:=1) (by kernel_rfl) (by kernel_rfl) rfl (by decide) rfl rfl rfl rfl rfl rfl rfl rfl d9n rfl rfl rfl
def kM:Nat→a04
 |0=>[some (.row 1 [[.slice 1 0 1 (some 1)]]),some (.row 1 [[.int .i64 15]]),some (.row 1 [[.slice 3 0 0 (some 1)]]),some (.row 1 [[u64 (BitVec.ofInt 64 0)]])]
 |_+1=>[some (.row 1 [[.slice 1 0 1 (some 1)]]),some (.row 1 [[.int .i64 15]]),some (.row 1 [[.slice 3 0 1 (some 1)]]),some (.row 1 [[u64 (BitVec.ofNat 64 32768)]])]
theorem e74:d9f (λn=>decide (32768&&&n=0)==decide (n<32768)) 16 0=true:=by decide+kernel
theorem f1u{k:Nat}(h:k<65536):(!([32768].any (c7h k)))=decide (32768≤k):=by
 have h1:=b7h e74 k (by omega) (by omega);simp only[List.any_cons,List.any_nil,Bool.or_false,c7h];rw[beq_iff_eq]at h1;rw[h1];by_cases hk:k<32768
 ·rw[decide_eq_true hk,decide_eq_false (by omega)];rfl
 ·rw[decide_eq_false hk,decide_eq_true (by omega)];rfl
theorem c88{d:Bool}(H:a04):a0d L.env d (sem L.env Mf) (.func (.func 57) [] []) [.slice 3 0 0 (some 1),u64 (BitVec.ofNat 64 32768)] (some (.row 1 [[.slice 1 0 1 (some 1)]])::some (.row 1 [[.int .i64 15]])::some (.row 1 [[.slice 3 0 0 (some 1)]])::some (.row 1 [[u64 (BitVec.ofNat 64 0)]])::H)=some (.bool false,some (.row 1 [[.slice 1 0 1 (some 1)]])::some (.row 1 [[.int .i64 15]])::some (.row 1 [[.slice 3 0 0 (some 1)]])::some (.row 1 [[u64 (BitVec.ofNat 64 0)]])::H,[3]):=a1b (fs:=[]) (cs:=[]) (args:=[.slice 3 0 0 (some 1),u64 (BitVec.ofNat 64 32768)]) (b:=3) (by kernel_rfl) (by kernel_rfl) rfl rfl rfl (FlatO.row (FlatR.cons rfl FlatR.nil)) rfl (args':=[.slice 0 0 0 (some 1),u64 (BitVec.ofNat 64 32768)]) rfl (up (d45 [] (some 1) [[u64 (BitVec.ofNat 64 0)]] (FlatR.cons rfl FlatR.nil) 32768 (by omega) (by simp) (by simp))) rfl
theorem d1x{d:Bool}:a0d L.env d (sem L.env Mf) (.func (.func 35) [] []) [.slice 2 0 1 none] [some (.row 1 [[.slice 1 0 1 (some 1)]]),some (.row 1 [[.int .i64 15]]),some (.row 1 [[.int .i64 15]])]=some (.slice 2 0 1 (some 1),[some (.row 1 [[.slice 1 0 1 (some 1)]]),some (.row 1 [[.int .i64 15]]),some (.row 1 [[.int .i64 15]])],[2]):=a2z (fs:=[]) (cs:=[]) (b:=2) (H:=[some (.row 1 [[.slice 1 0 1 (some 1)]]),some (.row 1 [[.int .i64 15]]),some (.row 1 [[.int .i64 15]])]) (by kernel_rfl) (by kernel_rfl) rfl rfl rfl (FlatO.row (FlatR.cons rfl FlatR.nil)) rfl (args':=[AV.slice 0 0 1 none]) rfl (up (c2v 1 [[.int .i64 15]] (FlatR.cons rfl FlatR.nil))) (FlatO.row (FlatR.cons rfl FlatR.nil)) rfl
def bst(k:Nat):Nat:=if k≤32768 then 65535 else 32768
theorem f0f:∀t,t<15→32768/2^t%2=0:=by decide
theorem c79:sem L.env Mf 24 [.slice 0 0 1 (some 1),.int .i64 16] [some (.row 1 [[.slice 1 0 1 (some 1)]]),some (.row 1 [[.int .i64 15]])]=some (.tuple [.islice [[.int .i64 15]] (some 1),.int .i64 0],[some (.row 1 [[.slice 1 0 1 (some 1)]]),some (.row 1 [[.int .i64 15]])]):=by
 have hva:=λ(d:Bool) (K:a04)=>c9q (d:=d) K
 suffices hs:∃r:AV×a04,(r=(.tuple [.islice [[.int .i64 15]] (some 1),.int .i64 0],[some (.row 1 [[.slice 1 0 1 (some 1)]]),some (.row 1 [[.int .i64 15]])]))∧sem L.env Mf 24 [.slice 0 0 1 (some 1),.int .i64 16] [some (.row 1 [[.slice 1 0 1 (some 1)]]),some (.row 1 [[.int .i64 15]])]=some r by obtain⟨r,rfl,h3⟩:=hs;exact h3
 have hmk:c4e L.env 122 0 1=true:=by kernel_rfl
 (refine svE Tryz.f24 ?_;simp only[Tryz.f24,gS])
 (repeat first|simp only[ww]|(apply xa;simp+decide only[go_sem,hva,hmk];rfl;kernel_rfl))
 refine b7u kp24_0 rfl 0 rfl (σ:=Nat) (λi=>[(1,.int .i64 16),(7,.ptr 2 0 0),(30,.slice 0 0 1 (some 1)),(31,.int .i64 1),(32,.int .i64 i),(1000000,.junk)]) kM (λi=>1-i) (λi=>i≤1) 0 ?_ (Nat.zero_le _) ?_
 ·simp only[kM]
  (simp+decide only[go_sem,a03,a00]<;>rfl)<;>rfl
 ·intro i hi;have h01:i=0∨i=1:=by omega
  rcases h01 with rfl|rfl
  ·simp only[kM]
   (repeat first|simp only[ww]|(apply xa;simp+decide only[go_sem];rfl;kernel_rfl))
   refine a3i (σ:=Nat) kp24_2 (λj=>[(1,.int .i64 16),(7,.ptr 2 0 0),(10,u64 (BitVec.ofNat 64 (if j=0 then 0 else 32768))),(30,.slice 0 0 1 (some 1)),(31,.int .i64 1),(32,.int .i64 0),(36,.slice 1 0 1 (some 1)),(37,.int .i64 1),(38,.int .i64 j)])
    (λ_=>[some (.row 1 [[.slice 1 0 1 (some 1)]]),some (.row 1 [[.int .i64 15]]),some (.row 1 [[.slice 3 0 0 (some 1)]]),some (.row 1 [[u64 (BitVec.ofNat 64 0)]])]) (λj=>1-j) (λj=>j≤1) 0 ?_ (Nat.zero_le _) ?_
   ·(simp+decide only[go_sem,a03,a00,bi0]<;>rfl)<;>rfl
   ·intro j hj;have h01:j=0∨j=1:=by omega
    rcases h01 with rfl|rfl
    ·have hsh:1#64<<<15=BitVec.ofNat 64 32768:=by rfl
     have hor:=f04 (a:=0) (b:=32768);rw[Nat.zero_or]at hor
     (repeat first|simp only[ww]|(apply xa;simp+decide only[go_sem,bi1,bi0,hsh,hor];rfl;kernel_rfl))
     refine b0s 1 ?_ (by omega) (by omega)
     (simp+decide only[go_sem,a03,a00]<;>rfl)<;>rfl
    ·have hgt:∀t c,a4h L.env .gtr t (u64 (BitVec.ofNat 64 32768)) (u64 (BitVec.ofNat 64 0)) c=some (.bool true):=λt c=>(e2x (by omega) (by omega)).trans rfl;have hco:=λ(d:Bool) H=>c88 (d:=d) H;simp only[Nat.one_ne_zero,if_false]
     (repeat first|simp only[ww]|(apply xa;simp+decide only[go_sem,hgt,hco,bi0];rfl;kernel_rfl))
     refine b0s 1 ?_ (by omega) (by omega);simp only[kM]
     (simp+decide only[go_sem,a03,a00]<;>rfl)<;>rfl
  ·simp only[kM]
   (repeat first|simp only[ww]|(apply xa;simp+decide only[go_sem];rfl;kernel_rfl))
   rw[c4p];simp+decide only[go_sem];have hb1:1#64<<<16=BitVec.ofNat 64 65536:=by rfl
   have hb2:BitVec.ofNat 64 65536-1#64=BitVec.ofNat 64 65535:=by rfl
   have hl1:=λ(d:Bool) (H:a04) (x:Nat)=>d0s (d:=d) H x;have hbr:([32768].map bR:List (List AV))=[[u64 (BitVec.ofNat 64 32768)]]:=rfl;rw[hbr]at hl1;generalize hCF:AV.func (.func 58) [] [.iptr [.islice [[u64 (BitVec.ofNat 64 32768)]] (some 1)]]=CF at hl1;have hCFr:refs CF=[]:=by rw[←hCF];rfl
   have hCFn:∀π,ren π CF=CF:=λπ=>a0f π CF hCFr
   (repeat first|simp only[ww]|(apply xa;simp+decide only[go_sem,bi1,bi0,hb1,hb2,hCF];rfl;kernel_rfl))
   refine a3i (σ:=Nat) kp24_4 (λk=>[(1,.int .i64 16),(13,CF),(14,.func (.func 61) [] []),(15,u64 (BitVec.ofNat 64 (bst k))),(65,u64 (BitVec.ofNat 64 65536)),(66,u64 (BitVec.ofNat 64 k))])
    (λ_=>[some (.row 1 [[.slice 1 0 1 (some 1)]]),some (.row 1 [[.int .i64 15]])]) (λk=>65536-k) (λk=>k≤65536) 0 ?_ (Nat.zero_le _) ?_
   ·(simp+decide only[go_sem,a03,a00,hCF,hCFr,hCFn,bst]<;>rfl)<;>rfl
   ·intro k hk;have hls:∀t c,a4h L.env .lss t (u64 (BitVec.ofNat 64 k)) (u64 (BitVec.ofNat 64 65536)) c=some (.bool (decide (k<65536))):=λt c=>e2w (by omega) (by omega);have hb3:=d46 (a:=k);by_cases hlt:k<65536
    ·rw[decide_eq_true hlt]at hls;have hl1:=λ(d:Bool) (H:a04)=>hl1 d H k;rw[f1u hlt]at hl1;by_cases e1:32768≤k
     ·rw[decide_eq_true e1]at hl1;by_cases e2:k=32768
      ·subst e2;have hbs:bst 32768=65535:=rfl;have hl2:=λ(d:Bool) (H:a04)=>d60 (d:=d) H (BitVec.ofNat 64 32768) (BitVec.ofNat 64 65535) (by rw[ocA,ocB];decide);rw[hbs]
       (repeat first|simp only[ww]|(apply xa;simp+decide only[go_sem,hls,hl1,hl2,bi1,hb3];rfl;kernel_rfl))
       refine b0s (32768+1) ?_ (by omega) (by omega);have hb4:bst (32768+1)=32768:=rfl;rw[hb4]
       (simp+decide only[go_sem,a03,a00,hCFr,hCFn]<;>rfl)<;>rfl
      ·have hbs:bst k=32768:=if_neg (by omega);have hb4:bst (k+1)=32768:=if_neg (by omega);have hoc:=ocC (n:=k) (by omega) hlt;have hl2:=λ(d:Bool) (H:a04)=>d6e (d:=d) H (BitVec.ofNat 64 k) (BitVec.ofNat 64 32768) (by rw[ocA];omega);rw[hbs]
       (repeat first|simp only[ww]|(apply xa;simp+decide only[go_sem,hls,hl1,hl2,bi1,hb3];rfl;kernel_rfl))
       refine b0s (k+1) ?_ (by omega) (by omega);rw[hb4]
       (simp+decide only[go_sem,a03,a00,hCFr,hCFn]<;>rfl)<;>rfl
     ·rw[decide_eq_false e1]at hl1;have hbs:bst k=65535:=if_pos (by omega);have hb4:bst (k+1)=65535:=if_pos (by omega);rw[hbs]
      (repeat first|simp only[ww]|(apply xa;simp+decide only[go_sem,hls,hl1,bi1,hb3];rfl;kernel_rfl))
      refine b0s (k+1) ?_ (by omega) (by omega);rw[hb4]
      (simp+decide only[go_sem,a03,a00,hCFr,hCFn]<;>rfl)<;>rfl
    ·obtain rfl:k=65536:=by omega
     have hbs:bst 65536=32768:=rfl;rw[decide_eq_false hlt]at hls;rw[hbs]
     (repeat first|simp only[ww]|(apply xa;simp+decide only[go_sem,hls];rfl;kernel_rfl))
     refine a3i (σ:=Nat) kp24_6 (λt=>[(15,u64 (BitVec.ofNat 64 32768)),(17,if t≤15 then .nilslice else .slice 2 0 1 none),(80,.int .i64 16),(81,.int .i64 t)])
      (λt=>if t≤15 then[some (.row 1 [[.slice 1 0 1 (some 1)]]),some (.row 1 [[.int .i64 15]])]else[some (.row 1 [[.slice 1 0 1 (some 1)]]),some (.row 1 [[.int .i64 15]]),some (.row 1 [[.int .i64 15]])]) (λt=>16-t) (λt=>t≤16) 0 ?_ (Nat.zero_le _) ?_
     ·(simp+decide only[go_sem,a03,a00]<;>rfl)<;>rfl
     ·intro t ht;by_cases htl:t<16
      ·have h15:t≤15:=by omega
       have c3:(t:Int)<16:=by omega
       have hw3:=wI1 (n:=t) (by omega);have ht0:((t:Int)<0)=False:=eq_false (by omega);have e2:=d7e (a:=32768) (b:=t) (by omega);have e3:=d7f (a:=32768/2^t);have e4:=c54 (a:=32768/2^t%2) (b:=1) (by omega) (by omega);rw[if_pos h15,if_pos h15];by_cases h5:t=15
       ·subst h5;have hsh:BitVec.ofNat 64 32768>>>15&&&1#64=1#64:=by rfl
        (repeat first|simp only[ww]|(apply xa;simp+decide only[go_sem,bi1,hsh];rfl;kernel_rfl))
        refine b0s 16 ?_ (by omega) (by omega)
        (simp+decide only[go_sem,a03,a00]<;>rfl)<;>rfl
       ·have hb:32768/2^t%2=0:=f0f t (by omega);have h16:t+1≤15:=by omega
        rw[hb]at e3 e4
        (repeat first|simp only[ww]|(apply xa;simp+decide only[go_sem,c3,ht0,Int.toNat_natCast,e2,bi1,e3,e4,hw3];rfl;kernel_rfl))
        refine b0s (t+1) ?_ (by omega) (by omega);rw[if_pos h16,if_pos h16]
        (simp+decide only[go_sem,a03,a00]<;>rfl)<;>rfl
      ·obtain rfl:t=16:=by omega
       have hcl:=λ(d:Bool)=>d1x (d:=d);rw[if_neg (by omega),if_neg (by omega)]
       (repeat first|simp only[ww]|(apply xa;simp+decide only[go_sem,hcl];rfl;kernel_rfl))
       refine a32 (vs:=[.slice 2 0 1 (some 1),.int .i64 0]) (r:=(_,_)) (by simp+decide only[go_sem]) ?_ rfl;simp+decide only[go_sem,a0j]<;>rfl
theorem c1a{d:Bool}(R:List (List AV))(K:a04):a0d L.env d (sem L.env Mf) (.func (.func 24) [] []) [.slice 2 0 1 (some 1),.int .i64 16] (some (.row 1 R)::some (.row 1 [[.int .i64 15]])::some (.row 1 [[.slice 1 0 1 (some 1)]])::K)=some (.tuple [.islice [[.int .i64 15]] (some 1),.int .i64 0],some (.row 1 R)::some (.row 1 [[.int .i64 15]])::some (.row 1 [[.slice 1 0 1 (some 1)]])::K,[2,1]):=b0e (a:=2) (b:=1) (by kernel_rfl) (by kernel_rfl) rfl (by decide) rfl rfl rfl rfl rfl rfl rfl rfl c79 rfl rfl rfl
theorem a5q{d:Bool}(H:a04):a0d L.env d (sem L.env Mf) (.func (.func 6) [] []) [] H=some (.bool true,H,[]):=a07 (by kernel_rfl) (by kernel_rfl) rfl rfl (up b8u) rfl
theorem b9n{d:Bool}(H:a04)(xs:List Nat)(c:Option (Option Nat))(hx:∀x∈xs,x<256)(m:Nat)(hm:m<256):a0d L.env d (sem L.env Mf) (.func (.func 26) [] []) [sl c (xs.map u8R),.int .u8 m] H=some (.bool true,H,[]):=a07 (by kernel_rfl) (by kernel_rfl) rfl (by simp only[List.nil_append,List.append_nil,a3b,a64,b2e];rfl) (up (c4u xs c hx m hm)) rfl
theorem b66{d:Bool}(H:a04)(xs:List Nat)(c:Option (Option Nat))(hx:∀x∈xs,x<256)(m:Nat)(hm:m<256):a0d L.env d (sem L.env Mf) (.func (.func 27) [] []) [sl c (xs.map u8R),.int .u8 m] H=some (.bool true,H,[]):=a07 (by kernel_rfl) (by kernel_rfl) rfl (by simp only[List.nil_append,List.append_nil,a3b,a64,b2e];rfl) (up (c3y xs c hx m hm)) rfl
theorem b8n{d:Bool}(H:a04)(c:Option (Option Nat))(ls:List Bl)(hb:∀r∈ls,∀x∈r.l,x<256)(m:Nat)(hm:m<256):a0d L.env d (sem L.env Mf) (.func (.func 28) [] []) [sl c (ls.map Bl.enc),.int .u8 m] H=some (.bool true,H,[]):=a07 (by kernel_rfl) (by kernel_rfl) rfl (by simp only[List.nil_append,List.append_nil,a3b,a64,b2e];rfl) (up (c6s c ls hb m hm)) rfl
def kn(k:Nat):Nat→Nat|0=>k|t+1=>(kn k t*31+7*t+11)%100003
theorem d67{k:Nat}(hk:k<100003):∀t,kn k t<100003|0=>hk|t+1=>Nat.mod_lt _ (by decide)
theorem u8w(n:Nat):IntKind.u8.wrap (n:Int)=((n%256:Nat):Int):=by simp[IntKind.wrap,IntKind.bits,IntKind.signed]
def rbK(k:Nat):Nat:=(BitVec.ofInt 8 (IntKind.u8.wrap (k:Int))&&&BitVec.ofInt 8 (IntKind.u8.wrap ((k/300:Nat):Int))).toNat
theorem c6a(k:Nat):rbK k<256:=(BitVec.isLt _)
theorem e0q{k:Nat}:e1n .u8 (IntKind.u8.wrap (k:Int)) (IntKind.u8.wrap ((k/300:Nat):Int))=((rbK k:Nat):Int):=wB (c6a k)
def fvK(k:Nat):List Nat:=[k%7,k%5,k/11%256,k%3,2]
theorem e1w(k:Nat):∀x∈fvK k,x<256:=by intro x hx;simp only[fvK,List.mem_cons,List.not_mem_nil,or_false]at hx;omega
def knR(k i:Nat):List (List AV):=(List.range i).map λt=>u8R (rbK (kn k t))
def knL(i:Nat):List (List AV):=(List.range i).map λt=>[AV.slice (2+t) 0 5 (some 5)]
def knB(k i:Nat):a04:=(List.range i).map λt=>some (.row 1 ((fvK (kn k t)).map u8R))
def knH(k:Nat):Nat→a04|0=>[]|i+1=>some (.row 1 (knR k (i+1)))::some (.row 1 (knL (i+1)))::knB k (i+1)
def knS(b:Nat):Nat→AV|0=>.nilslice|i+1=>.slice b 0 (i+1) none
theorem e6v{k:Nat}(hk:k<100003)(i:Nat)(hi:i≤11):(IntKind.i64.wrap (IntKind.i64.wrap (IntKind.i64.wrap ((kn k i:Nat)*31:Int)+IntKind.i64.wrap (7*((i:Nat):Int)))+11)).tmod 100003=((kn k (i+1):Nat):Int):=by
 have h:=d67 hk i;show _=(((kn k i*31+7*i+11)%100003:Nat):Int)
 rw[w64 (n:=(kn k i:Int)*31) (by omega) (by omega),w64 (n:=7*(i:Int)) (by omega) (by omega),w64 (n:=(kn k i:Int)*31+7*i) (by omega) (by omega),w64 (by omega) (by omega),Int.tmod_eq_emod_of_nonneg (by omega)];omega
theorem b6g(r:List AV)(h:a0a r=[])(n:Nat):FlatR (List.replicate n r):=λx hx=>by rw[(List.mem_replicate.1 hx).2];exact h
theorem lawKnown_ok:sem L.env Mf 5 [] []=some (.bool true,[]):=by
 have hlv:=λ(d:Bool) (H:a04)=>a5q (d:=d) H
 suffices hss:∃r:AV×a04,(r=(.bool true,[]))∧sem L.env Mf 5 [] []=some r by obtain⟨r,rfl,h3⟩:=hss;exact h3
 (refine svE Tryz.f5 ?_;simp only[Tryz.f5,gS])
 (repeat first|simp only[ww]|(apply xa;simp+decide only[go_sem];rfl;kernel_rfl))
 refine a0t kp5_0 (λN F H=>∃n k:Nat,N=30-n∧n≤30∧k<100003∧F=[(1,.int .i64 k),(2,.int .i64 n)]∧H=[]) 30 ?_ ?_
 ·refine⟨_,_,?_,0,1,rfl,by omega,by omega,rfl,rfl⟩
  (simp+decide only[go_sem,a03,a00]<;>rfl)<;>rfl
 ·rintro N F H ⟨n,k,rfl,hn,hk,rfl,rfl⟩
  by_cases hlt:n<30
  ·have c1:(n:Int)<30:=by omega
   (repeat first|simp only[ww]|(apply xa;simp+decide only[go_sem,c1];rfl;kernel_rfl))
   have q12:(n:Int).tmod 12=((n%12:Nat):Int):=by rw[Int.tmod_eq_emod_of_nonneg (by omega)];omega
   have hc12:n%12<12:=Nat.mod_lt _ (by decide);generalize hc:n%12=c at q12 hc12;refine b7u kp5_2 rfl 0 rfl (σ:=Nat) (λq=>[(1,.int .i64 (kn k q)),(2,.int .i64 n),(3,knS 0 q),(4,knS 1 q),(5,.int .i64 q),(1000000,.junk)]) (knH k) (λq=>c-q) (λq=>q≤c) 0 ?_ (Nat.zero_le _) ?_
   ·simp only[knS,knH]
    (simp+decide only[go_sem,a03,a00]<;>rfl)<;>rfl
   ·intro q hq;by_cases hqc:q<c
    ·have hkt:=d67 hk q;have hks:=e6v hk q (by omega);have c2:((q:Nat):Int)<c:=by omega
     have e7:((kn k q:Nat):Int).tmod 7=((kn k q%7:Nat):Int):=by rw[Int.tmod_eq_emod_of_nonneg (by omega)];omega
     have e5:((kn k q:Nat):Int).tmod 5=((kn k q%5:Nat):Int):=by rw[Int.tmod_eq_emod_of_nonneg (by omega)];omega
     have e3:((kn k q:Nat):Int).tmod 3=((kn k q%3:Nat):Int):=by rw[Int.tmod_eq_emod_of_nonneg (by omega)];omega
     have e11:((kn k q:Nat):Int).tdiv 11=((kn k q/11:Nat):Int):=by rw[Int.tdiv_eq_ediv_of_nonneg (by omega)];omega
     have e300:((kn k q:Nat):Int).tdiv 300=((kn k q/300:Nat):Int):=by rw[Int.tdiv_eq_ediv_of_nonneg (by omega)];omega
     have i11:=wI (n:=kn k q/11) (by omega);have i300:=wI (n:=kn k q/300) (by omega);have w7:=wB (n:=kn k q%7) (by omega);have w5:=wB (n:=kn k q%5) (by omega);have w3:=wB (n:=kn k q%3) (by omega);have w11:=u8w (kn k q/11);have wr:=e0q (k:=kn k q);have hur:∀v,u8R v=[.int .u8 v]:=λ_=>rfl;have hq11:q=0∨q=1∨q=2∨q=3∨q=4∨q=5∨q=6∨q=7∨q=8∨q=9∨q=10:=by omega
     rcases hq11 with rfl|rfl|rfl|rfl|rfl|rfl|rfl|rfl|rfl|rfl|rfl
     ·simp only[knS,knH]
      (repeat first|simp only[ww]|(apply xa;simp+decide only[go_sem,c2,q12,e7,e5,e3,e11,e300,i11,i300,w7,w5,w3,w11,wr,hks];rfl;kernel_rfl))
      refine b0s (0+1) ?_ (by omega) (by omega);simp only[knS,knH,knR,knL,knB,fvK,List.range,List.range.loop,List.map_cons,List.map_nil,hur]
      (simp+decide only[go_sem,a03,a00]<;>rfl)<;>rfl
     ·simp only[knS,knH,knR,knL,knB,fvK,List.range,List.range.loop,List.map_cons,List.map_nil,hur]
      (repeat first|simp only[ww]|(apply xa;simp+decide only[go_sem,c2,q12,e7,e5,e3,e11,e300,i11,i300,w7,w5,w3,w11,wr,hks];rfl;kernel_rfl))
      refine b0s (1+1) ?_ (by omega) (by omega);simp only[knS,knH,knR,knL,knB,fvK,List.range,List.range.loop,List.map_cons,List.map_nil,hur]
      (simp+decide only[go_sem,a03,a00]<;>rfl)<;>rfl
     ·simp only[knS,knH,knR,knL,knB,fvK,List.range,List.range.loop,List.map_cons,List.map_nil,hur]
      (repeat first|simp only[ww]|(apply xa;simp+decide only[go_sem,c2,q12,e7,e5,e3,e11,e300,i11,i300,w7,w5,w3,w11,wr,hks];rfl;kernel_rfl))
      refine b0s (2+1) ?_ (by omega) (by omega);simp only[knS,knH,knR,knL,knB,fvK,List.range,List.range.loop,List.map_cons,List.map_nil,hur]
      (simp+decide only[go_sem,a03,a00]<;>rfl)<;>rfl
     ·simp only[knS,knH,knR,knL,knB,fvK,List.range,List.range.loop,List.map_cons,List.map_nil,hur]
      (repeat first|simp only[ww]|(apply xa;simp+decide only[go_sem,c2,q12,e7,e5,e3,e11,e300,i11,i300,w7,w5,w3,w11,wr,hks];rfl;kernel_rfl))
      refine b0s (3+1) ?_ (by omega) (by omega);simp only[knS,knH,knR,knL,knB,fvK,List.range,List.range.loop,List.map_cons,List.map_nil,hur]
      (simp+decide only[go_sem,a03,a00]<;>rfl)<;>rfl
     ·simp only[knS,knH,knR,knL,knB,fvK,List.range,List.range.loop,List.map_cons,List.map_nil,hur]
      (repeat first|simp only[ww]|(apply xa;simp+decide only[go_sem,c2,q12,e7,e5,e3,e11,e300,i11,i300,w7,w5,w3,w11,wr,hks];rfl;kernel_rfl))
      refine b0s (4+1) ?_ (by omega) (by omega);simp only[knS,knH,knR,knL,knB,fvK,List.range,List.range.loop,List.map_cons,List.map_nil,hur]
      (simp+decide only[go_sem,a03,a00]<;>rfl)<;>rfl
     ·simp only[knS,knH,knR,knL,knB,fvK,List.range,List.range.loop,List.map_cons,List.map_nil,hur]
      (repeat first|simp only[ww]|(apply xa;simp+decide only[go_sem,c2,q12,e7,e5,e3,e11,e300,i11,i300,w7,w5,w3,w11,wr,hks];rfl;kernel_rfl))
      refine b0s (5+1) ?_ (by omega) (by omega);simp only[knS,knH,knR,knL,knB,fvK,List.range,List.range.loop,List.map_cons,List.map_nil,hur]
      (simp+decide only[go_sem,a03,a00]<;>rfl)<;>rfl
     ·simp only[knS,knH,knR,knL,knB,fvK,List.range,List.range.loop,List.map_cons,List.map_nil,hur]
      (repeat first|simp only[ww]|(apply xa;simp+decide only[go_sem,c2,q12,e7,e5,e3,e11,e300,i11,i300,w7,w5,w3,w11,wr,hks];rfl;kernel_rfl))
      refine b0s (6+1) ?_ (by omega) (by omega);simp only[knS,knH,knR,knL,knB,fvK,List.range,List.range.loop,List.map_cons,List.map_nil,hur]
      (simp+decide only[go_sem,a03,a00]<;>rfl)<;>rfl
     ·simp only[knS,knH,knR,knL,knB,fvK,List.range,List.range.loop,List.map_cons,List.map_nil,hur]
      (repeat first|simp only[ww]|(apply xa;simp+decide only[go_sem,c2,q12,e7,e5,e3,e11,e300,i11,i300,w7,w5,w3,w11,wr,hks];rfl;kernel_rfl))
      refine b0s (7+1) ?_ (by omega) (by omega);simp only[knS,knH,knR,knL,knB,fvK,List.range,List.range.loop,List.map_cons,List.map_nil,hur]
      (simp+decide only[go_sem,a03,a00]<;>rfl)<;>rfl
     ·simp only[knS,knH,knR,knL,knB,fvK,List.range,List.range.loop,List.map_cons,List.map_nil,hur]
      (repeat first|simp only[ww]|(apply xa;simp+decide only[go_sem,c2,q12,e7,e5,e3,e11,e300,i11,i300,w7,w5,w3,w11,wr,hks];rfl;kernel_rfl))
      refine b0s (8+1) ?_ (by omega) (by omega);simp only[knS,knH,knR,knL,knB,fvK,List.range,List.range.loop,List.map_cons,List.map_nil,hur]
      (simp+decide only[go_sem,a03,a00]<;>rfl)<;>rfl
     ·simp only[knS,knH,knR,knL,knB,fvK,List.range,List.range.loop,List.map_cons,List.map_nil,hur]
      (repeat first|simp only[ww]|(apply xa;simp+decide only[go_sem,c2,q12,e7,e5,e3,e11,e300,i11,i300,w7,w5,w3,w11,wr,hks];rfl;kernel_rfl))
      refine b0s (9+1) ?_ (by omega) (by omega);simp only[knS,knH,knR,knL,knB,fvK,List.range,List.range.loop,List.map_cons,List.map_nil,hur]
      (simp+decide only[go_sem,a03,a00]<;>rfl)<;>rfl
     ·simp only[knS,knH,knR,knL,knB,fvK,List.range,List.range.loop,List.map_cons,List.map_nil,hur]
      (repeat first|simp only[ww]|(apply xa;simp+decide only[go_sem,c2,q12,e7,e5,e3,e11,e300,i11,i300,w7,w5,w3,w11,wr,hks];rfl;kernel_rfl))
      refine b0s (10+1) ?_ (by omega) (by omega);simp only[knS,knH,knR,knL,knB,fvK,List.range,List.range.loop,List.map_cons,List.map_nil,hur]
      (simp+decide only[go_sem,a03,a00]<;>rfl)<;>rfl
    ·have hqe:q=c:=by omega
     subst hqe;have c2:¬((q:Nat):Int)<q:=by omega
     have hur:∀v,u8R v=[.int .u8 v]:=λ_=>rfl;have hbe:∀(c:Option (Option Nat)) (l:List Nat),Bl.enc ⟨c,l⟩=[sl c (l.map u8R)]:=λ_ _=>rfl;have wn:=wB (n:=n) (by omega);have wn1:=wI1 (n:=n) (by omega);obtain⟨K,hK⟩:∃K,kn k q=K:=⟨_,rfl⟩
     have hKl:K<100003:=by rw[←hK];exact d67 hk q
     have hcv:=λ(d:Bool) (H:a04)=>b9n (d:=d) H ((List.range q).map λt=>rbK (kn k t)) none (λx hx=>by obtain⟨t,_,rfl⟩:=List.mem_map.1 hx;exact c6a _) n (by omega);have hsv:=λ(d:Bool) (H:a04)=>b66 (d:=d) H ((List.range q).map λt=>rbK (kn k t)) none (λx hx=>by obtain⟨t,_,rfl⟩:=List.mem_map.1 hx;exact c6a _) n (by omega);have hmv:=λ(d:Bool) (H:a04)=>b8n (d:=d) H none ((List.range q).map λt=>(⟨some (some 5),fvK (kn k t)⟩:Bl)) (λr hr=>by obtain⟨t,_,rfl⟩:=List.mem_map.1 hr;exact e1w _) n (by omega);have hF:∀H:a04,b9b 0 H=[]:=λH=>by unfold b9b;rw[List.take_zero];rfl
     have hq11:q=0∨q=1∨q=2∨q=3∨q=4∨q=5∨q=6∨q=7∨q=8∨q=9∨q=10∨q=11:=by omega
     rcases hq11 with rfl|rfl|rfl|rfl|rfl|rfl|rfl|rfl|rfl|rfl|rfl|rfl
     all_goals
      simp only[fvK,List.range,List.range.loop,List.map_cons,List.map_nil,hur,hbe,b85,c0p,c0o]at hcv hsv hmv;simp only[knS,knH,knR,knL,knB,fvK,List.range,List.range.loop,List.map_cons,List.map_nil,hur];rw[hK]
      (repeat first|simp only[ww]|(apply xa;simp+decide only[go_sem,c2,q12];rfl;kernel_rfl))
      rw[c4p];simp only[List.length_nil,Nat.zero_add,hF];simp+decide only[go_sem]
      (repeat first|simp only[ww]|(apply xa;simp+decide only[go_sem,hcv,hsv,hmv,wn,wn1];rfl;kernel_rfl))
      refine a0b (30-(n+1)) (by omega) ⟨_,_,?_,n+1,K,rfl,by omega,hKl,rfl,rfl⟩
      (simp+decide only[go_sem,a03,a00]<;>rfl)<;>rfl
  ·have c1:¬(n:Int)<30:=by omega
   obtain⟨N1,hN1⟩:∃n:Nat,n=65537:=⟨_,rfl⟩
   obtain⟨R,hR⟩:∃R,List.replicate 65537 [AV.nilslice]=R:=⟨_,rfl⟩
   have hRl:R.length=65537:=by rw[←hR];exact List.length_replicate
   have hRf:FlatR R:=by rw[←hR];exact b6g _ rfl _
   have hre:=λ(d:Bool) (K:a04)=>b6f (d:=d) (H:=some (.row 1 R)::K) (b:=0) R hRf hRl rfl;have hgr:=λ(d:Bool) (H:a04)=>b98 (d:=d) H;have hle:=λ(d:Bool) (H:a04)=>c19 (d:=d) H;have hm1:c4e L.env 34 65537 65537=true:=by kernel_rfl
   have hm2:c4e L.env 51 4097 4097=true:=by kernel_rfl
   have hm3:c4e L.env 44 65537 65537=true:=by kernel_rfl
   have ht1:Int.toNat 65537=65537:=rfl;have ht2:Int.toNat 4097=4097:=rfl;obtain⟨P,hP⟩:∃P,List.replicate 4097 [AV.nilslice,AV.nilslice]=P:=⟨_,rfl⟩
   obtain⟨Z,hZ⟩:∃Z,List.replicate 65537 [AV.int .u8 (0:Int),.int .i64 (0:Int),.int .i64 (0:Int),.int .u8 (0:Int),.int .i64 (0:Int)]=Z:=⟨_,rfl⟩
   have hZl:Z.length=65537:=by rw[←hZ];exact List.length_replicate
   have hZf:FlatR Z:=by rw[←hZ];exact b6g _ rfl _
   have hPl:P.length=4097:=by rw[←hP];exact List.length_replicate
   have hPf:FlatR P:=by rw[←hP];exact b6g _ rfl _
   have hln:∀(d:Bool) (K:a04),a0d L.env d (sem L.env Mf) (.func (.func 24) [] []) [.slice 2 0 1 (some 1),.int .i64 16] (some (.row 1 R)::some (.row 1 [[.int .i64 15]])::some (.row 1 [[.slice 1 0 1 (some 1)]])::K)=some (.tuple [.islice [[.int .i64 15]] (some 1),.int .i64 0],some (.row 1 R)::some (.row 1 [[.int .i64 15]])::some (.row 1 [[.slice 1 0 1 (some 1)]])::K,[2,1]):=λd K=>c1a R K;have hml:=λ(d:Bool) (A B C:Option AObj) (K:a04)=>c14 (d:=d) (H:=A::B::C::some (.row 2 P)::K) (b:=3) P hPf hPl rfl;have hmb:=λ(d:Bool) (A B C D:Option AObj) (K:a04)=>c15 (d:=d) (H:=A::B::C::D::some (.row 1 [[.int .u8 3]])::some (.row 2 [[.slice 4 0 1 (some 1),.nilslice]])::K) (a:=5) (b:=4) (by decide) rfl rfl;have hra:Ax.rowAt [[AV.int .i64 (15:Int)]] 0=some [AV.int .i64 (15:Int)]:=rfl;have htf:=λ(d:Bool) (a b c e f g h:Option AObj) (K:a04)=>c9w (d:=d) Z hZf hZl a b c e f g h K;have hF1:FlatR [[AV.int .u8 (0:Int),.int .i64 (5:Int),.int .i64 (0:Int),.int .u8 (0:Int),.int .i64 (0:Int)]]:=FlatR.cons rfl FlatR.nil;have htt:=λ(d:Bool) (a b c e f g h i:Option AObj) (K:a04)=>c9v (d:=d) _ P hF1 hPf hPl a b c e f g h i K
   (repeat first|simp only[ww]|(apply xa;simp+decide only[go_sem,-List.reduceReplicate,c1,hR,hP,hZ,hre,hgr,hle,hm1,hm2,hm3,ht1,ht2,hln,hml,hmb,htf,htt,hlv,hra];rfl;kernel_rfl))
   refine a3q (vs:=[.bool true]) (r:=(_,_)) (by simp+decide only[go_sem,-List.reduceReplicate]) ?_ rfl
   (simp+decide only[go_sem,-List.reduceReplicate,a0j]<;>rfl)
end Go.QInst.Kn
