/- Part of a proof. No condition. -/
import Derived.Test.YtnkhpfincnfloaaGreatDoorFNe
import Derived.Test.YtnkhpfincnfloaaGreatDoorPcB
import Derived.Test.YtnkhpfincnfloaaGreatDoorFNm
import Derived.Test.YtnkhpfincnfloaaGreatDoorAxD
set_option linter.unusedSimpArgs false
set_option linter.unusedVariables false
namespace Go.FInst
open Go.Proofs Go.Ax Go.Pc
set_option maxRecDepth 100000
theorem fvalid_ok(c:Cir)(h:c.wf):sem L.env Mf 95 [.agg c.enc] []=some (.int .i64 0,[]):=by
 have hc:=λH=>ncheck_call (d:=false) H c h;simp only[Cir.enc]at hc⊢
 (refine sv Tryz.f95 ?_;simp only[Tryz.f95,gS])
 (repeat first|simp only[ww]|(apply xa;simp+decide only[go_sem,hc];rfl;kernel_rfl))
 (apply fqb;simp+decide only[go_sem]<;>rfl)
theorem fvalid_call{d:Bool}(H:Heap)(c:Cir)(h:c.wf):callV L.env d (sem L.env Mf) (.func (.func 95) [] []) [.agg c.enc] H=some (.int .i64 0,H,[]):=callV_flat (by kernel_rfl) (by kernel_rfl) rfl (refs_cirA c) (fvalid_ok c h) rfl
/- dependence, by the statements -/
/- the lines of a circuit -/
def lnRow(x:Nat×Nat):List AV:=[.int .i64 x.1,.int .i64 ((x.2:Int)-1)]
def lnTo(nodes:List Nd)(i:Nat):List (Nat×Nat):=(List.range i).flatMap λj=>(List.range ((insAt nodes j).length+1)).map λk=>(j,k)
theorem lnTo_succ(nodes:List Nd)(i:Nat):lnTo nodes (i+1)=lnTo nodes i++(List.range ((insAt nodes i).length+1)).map λk=>(i,k):=by simp[lnTo,List.range_succ,List.flatMap_append]
theorem flat_ln(l:List (Nat×Nat)):(l.map lnRow).flatMap refsL=[]:=refs_flatR (FlatR.map λ_=>rfl)
theorem ren_ln(π:Nat→Option Nat)(l:List (Nat×Nat)):(l.map lnRow).map (λr=>r.map (ren π))=l.map lnRow:=renR_flat π (FlatR.map λ_=>rfl)
theorem frz_ln{m:Nat}{d:AV→Option AV}(l:List (Nat×Nat)):frzR m d (l.map lnRow)=some (l.map lnRow):=frzR_flat m d (FlatR.map λ_=>rfl)
theorem fani16:∀k,k≤14→faninHi k≤16:=by decide
theorem ins16{c:Cir}(h:c.wf){i:Nat}:(insAt c.nodes i).length≤16:=by
 cases hx:c.nodes[i]? with
 |none=>unfold insAt;rw[hx];simp
 |some x=>rw[insAt_get hx];exact Nat.le_trans (h.hi x (List.mem_of_getElem? hx)) (fani16 x.kind (h.kind x (List.mem_of_getElem? hx)))
theorem lnTo_len{c:Cir}(h:c.wf):∀i,(lnTo c.nodes i).length≤17*i
 |0=>by simp[lnTo]
 |i+1=>by have:=lnTo_len h i;have h2:=ins16 h (i:=i);rw[lnTo_succ,List.length_append,List.length_map,List.length_range];omega
def lnAll(c:Cir):List (Nat×Nat):=lnTo c.nodes c.nodes.length
theorem lnAll_ne{c:Cir}(h:c.wf):lnAll c≠[]:=by
 have:=h.pos;unfold lnAll;obtain⟨n,hn⟩:∃n,c.nodes.length=n+1:=⟨c.nodes.length-1,by omega⟩
 rw[hn,lnTo_succ];simp
def lnV(c:Cir):AV:=.islice ((lnAll c).map lnRow) (some (lnAll c).length)
theorem lines_ok(c:Cir)(h:c.wf):sem L.env Mf 51 [.agg c.enc] []=some (.tuple [lnV c,.int .i64 0],[]):=by
 have hl:=h.len;have hv:=λH=>fvalid_call (d:=false) H c h;simp only[Cir.enc]at hv⊢
 (refine sv Tryz.f51 ?_;simp only[Tryz.f51,gS])
 (repeat first|simp only[ww]|(apply xa;simp+decide only[go_sem,hv];rfl;kernel_rfl))
 refine xp_loop3 (σ:=Nat) kp51_0 (λi=>[(5,grV 0 ((lnTo c.nodes i).map lnRow)),(15,sl c.nc (c.nodes.map Nd.enc)),(16,.int .i64 c.nodes.length),(17,.int .i64 i)])
  (λi=>grH 2 ((lnTo c.nodes i).map lnRow)) (λi=>c.nodes.length-i) (λi=>i≤c.nodes.length) 0 ?_ (Nat.zero_le _) ?_
 ·have e:lnTo c.nodes 0=[]:=rfl
  (simp+decide only[go_sem,gcD_eq,gcIds_eq,e,List.map_nil,grV_nil,grH_nil]<;>rfl)
 ·intro i hi;by_cases hlt:i<c.nodes.length
  ·obtain⟨x,hx⟩:∃x,c.nodes[i]?=some x:=⟨_,List.getElem?_eq_getElem hlt⟩
   have c1:(i:Int)<c.nodes.length:=by omega
   have hw:=wI1 (n:=i) (by omega);have hL:=lnTo_len h i;have hs:=lnTo_succ c.nodes i;have h16:=ins16 h (i:=i);rw[insAt_get hx]at hs h16;have hwx:=wI1 (n:=x.ins.length) (by omega);have hlo:∀L:List (Nat×Nat),L.length≤17*i→lnTo c.nodes (i+1)=L++(List.range (x.ins.length+1)).map (λk=>(i,k))→∀k,k≤x.ins.length+1→(L++(List.range k).map λk=>(i,k)).length+1≤1000000000:=by intro L h1 _ k hk;rw[List.length_append,List.length_map,List.length_range];omega
   generalize lnTo c.nodes i=L at hL hs;cases L with
   |nil=>
    (repeat first|simp only[ww]|(apply xa;simp+decide only[go_sem,c1,hlt,hx,hwx,List.map_nil,grV_nil,grH_nil];rfl;kernel_rfl))
    refine xp_loop3 (σ:=Nat) kp51_2 (λk=>[(5,grV 0 (([]++(List.range k).map λk=>(i,k)).map lnRow)),(6,.int .i64 i),(15,sl c.nc (c.nodes.map Nd.enc)),(16,.int .i64 c.nodes.length),(17,.int .i64 i),(25,.int .i64 (x.ins.length+1:Nat)),(26,.int .i64 k)])
     (λk=>grH 2 (([]++(List.range k).map λk=>(i,k)).map lnRow)) (λk=>x.ins.length+1-k) (λk=>k≤x.ins.length+1) 0 ?_ (Nat.zero_le _) ?_
    ·(simp+decide only[go_sem,gcD_eq,gcIds_eq,List.range_zero,List.map_nil,List.append_nil,grV_nil,grH_nil]<;>rfl)
    ·intro k hk;have hrm:=hlo _ hL hs k hk;by_cases hk2:k<x.ins.length+1
     ·have c2:(k:Int)<(x.ins.length+1:Nat):=by omega
      have hw2:=wI1 (n:=k) (by omega);have hw3:IntKind.i64.wrap ((k:Int)-1)=(k:Int)-1:=w64 (by omega) (by omega);have e1:([]++(List.range (k+1)).map λk=>(i,k))=([]++(List.range k).map λk=>(i,k))++[(i,k)]:=by simp[List.range_succ]
      generalize([]++(List.range k).map λk=>(i,k))=l at e1 hrm;cases l with
      |nil=>
       (repeat first|simp only[ww]|(apply xa;simp+decide only[go_sem,c2,hw2,hw3,List.map_nil,grV_nil,grH_nil];rfl;kernel_rfl))
       refine lp_n (k+1) ?_ (by omega) (by omega);rw[e1]
       (simp+decide only[go_sem,gcD_eq,gcIds_eq,lnRow,List.map_nil,List.nil_append,List.map_cons,grV_cons,grH_cons,List.length_nil]<;>rfl)
      |cons a r=>
       simp only[List.length_cons]at hrm
       (repeat first|simp only[ww]|(apply xa;simp+decide only[go_sem,c2,hw2,hw3,List.map_cons,grV_cons,grH_cons,hrm,List.length_cons];rfl;kernel_rfl))
       refine lp_n (k+1) ?_ (by omega) (by omega);rw[e1]
       (simp+decide only[go_sem,gcD_eq,gcIds_eq,lnRow,List.cons_append,List.map_cons,grV_cons,grH_cons,flat_ln,ren_ln,List.length_cons]<;>rfl)
     ·obtain rfl:k=x.ins.length+1:=by omega
      have c2:¬((x.ins.length+1:Nat):Int)<(x.ins.length+1:Nat):=by omega
      rw[←hs];obtain⟨l,hl2⟩:∃l,lnTo c.nodes (i+1)=l:=⟨_,rfl⟩
      rw[hl2];cases l with
      |nil=>
       (repeat first|simp only[ww]|(apply xa;simp+decide only[go_sem,c2,hw,List.map_nil,grV_nil,grH_nil];rfl;kernel_rfl))
       refine lp_n (i+1) ?_ (by omega) (by omega);rw[hl2]
       (simp+decide only[go_sem,gcD_eq,gcIds_eq,List.map_nil,grV_nil,grH_nil]<;>rfl)
      |cons a r=>
       (repeat first|simp only[ww]|(apply xa;simp+decide only[go_sem,c2,hw,List.map_cons,grV_cons,grH_cons];rfl;kernel_rfl))
       refine lp_n (i+1) ?_ (by omega) (by omega);rw[hl2]
       (simp+decide only[go_sem,gcD_eq,gcIds_eq,lnRow,List.map_cons,grV_cons,grH_cons,flat_ln,ren_ln]<;>rfl)
   |cons a0 r0=>
    (repeat first|simp only[ww]|(apply xa;simp+decide only[go_sem,c1,hlt,hx,hwx,List.map_cons,grV_cons,grH_cons];rfl;kernel_rfl))
    refine xp_loop3 (σ:=Nat) kp51_2 (λk=>[(5,grV 0 (((a0::r0)++(List.range k).map λk=>(i,k)).map lnRow)),(6,.int .i64 i),(15,sl c.nc (c.nodes.map Nd.enc)),(16,.int .i64 c.nodes.length),(17,.int .i64 i),(25,.int .i64 (x.ins.length+1:Nat)),(26,.int .i64 k)])
     (λk=>grH 2 (((a0::r0)++(List.range k).map λk=>(i,k)).map lnRow)) (λk=>x.ins.length+1-k) (λk=>k≤x.ins.length+1) 0 ?_ (Nat.zero_le _) ?_
    ·(simp+decide only[go_sem,gcD_eq,gcIds_eq,lnRow,List.range_zero,List.map_nil,List.append_nil,List.map_cons,grV_cons,grH_cons,flat_ln,ren_ln]<;>rfl)
    ·intro k hk;have hrm:=hlo _ hL hs k hk;by_cases hk2:k<x.ins.length+1
     ·have c2:(k:Int)<(x.ins.length+1:Nat):=by omega
      have hw2:=wI1 (n:=k) (by omega);have hw3:IntKind.i64.wrap ((k:Int)-1)=(k:Int)-1:=w64 (by omega) (by omega);have e1:((a0::r0)++(List.range (k+1)).map λk=>(i,k))=((a0::r0)++(List.range k).map λk=>(i,k))++[(i,k)]:=by simp[List.range_succ]
      generalize((a0::r0)++(List.range k).map λk=>(i,k))=l at e1 hrm;cases l with
      |nil=>
       (repeat first|simp only[ww]|(apply xa;simp+decide only[go_sem,c2,hw2,hw3,List.map_nil,grV_nil,grH_nil];rfl;kernel_rfl))
       refine lp_n (k+1) ?_ (by omega) (by omega);rw[e1]
       (simp+decide only[go_sem,gcD_eq,gcIds_eq,lnRow,List.map_nil,List.nil_append,List.map_cons,grV_cons,grH_cons,List.length_nil]<;>rfl)
      |cons a r=>
       simp only[List.length_cons]at hrm
       (repeat first|simp only[ww]|(apply xa;simp+decide only[go_sem,c2,hw2,hw3,List.map_cons,grV_cons,grH_cons,hrm,List.length_cons];rfl;kernel_rfl))
       refine lp_n (k+1) ?_ (by omega) (by omega);rw[e1]
       (simp+decide only[go_sem,gcD_eq,gcIds_eq,lnRow,List.cons_append,List.map_cons,grV_cons,grH_cons,flat_ln,ren_ln,List.length_cons]<;>rfl)
     ·obtain rfl:k=x.ins.length+1:=by omega
      have c2:¬((x.ins.length+1:Nat):Int)<(x.ins.length+1:Nat):=by omega
      rw[←hs];obtain⟨l,hl2⟩:∃l,lnTo c.nodes (i+1)=l:=⟨_,rfl⟩
      rw[hl2];cases l with
      |nil=>
       (repeat first|simp only[ww]|(apply xa;simp+decide only[go_sem,c2,hw,List.map_nil,grV_nil,grH_nil];rfl;kernel_rfl))
       refine lp_n (i+1) ?_ (by omega) (by omega);rw[hl2]
       (simp+decide only[go_sem,gcD_eq,gcIds_eq,List.map_nil,grV_nil,grH_nil]<;>rfl)
      |cons a r=>
       (repeat first|simp only[ww]|(apply xa;simp+decide only[go_sem,c2,hw,List.map_cons,grV_cons,grH_cons];rfl;kernel_rfl))
       refine lp_n (i+1) ?_ (by omega) (by omega);rw[hl2]
       (simp+decide only[go_sem,gcD_eq,gcIds_eq,lnRow,List.map_cons,grV_cons,grH_cons,flat_ln,ren_ln]<;>rfl)
  ·obtain rfl:i=c.nodes.length:=by omega
   have c1:¬(c.nodes.length:Int)<c.nodes.length:=by omega
   have hne:=lnAll_ne h;unfold lnV;unfold lnAll at hne⊢;generalize lnTo c.nodes c.nodes.length=l at hne;cases l with
   |nil=>exact absurd rfl hne
   |cons a r=>
    have hcl:=clipL_call (d:=false) (H:=[some (.row 2 ((a::r).map lnRow))]) (b:=0) (n:=r.length+1) (FlatR.map λ_=>rfl) rfl;simp only[List.map_cons,go_sem]at hcl
    (repeat first|simp only[ww]|(apply xa;simp+decide only[go_sem,c1,List.map_cons,grV_cons,grH_cons,List.length_map,hcl];rfl;kernel_rfl))
    (apply fqb;simp+decide only[go_sem,List.map_cons,frz_ln,List.length_cons]<;>rfl)
theorem refs_lnV(c:Cir):refs (lnV c)=[]:=by unfold lnV;simp only[go_sem,flat_ln]
theorem lines_call{d:Bool}(H:Heap)(c:Cir)(h:c.wf):callV L.env d (sem L.env Mf) (.func (.func 51) [] []) [.agg c.enc] H=some (.tuple [lnV c,.int .i64 0],H,[]):=callV_flat (by kernel_rfl) (by kernel_rfl) rfl (refs_cirA c) (lines_ok c h) (by simp only[go_sem,refs_lnV])
/- with a memory -/
theorem refs_encMA(c:Cir)(mm:Mm):refsL [.agg (encM c mm)]=[]:=by simp only[go_sem,encM,memV]
theorem fvalidM_ok(c:Cir)(mm:Mm)(h:wfM c mm):sem L.env Mf 95 [.agg (encM c mm)] []=some (.int .i64 7,[]):=by
 have hc:=λH=>ncheck_callM (d:=false) H c mm h;simp only[encM,memV]at hc⊢
 (refine sv Tryz.f95 ?_;simp only[Tryz.f95,gS])
 (repeat first|simp only[ww]|(apply xa;simp+decide only[go_sem,hc];rfl;kernel_rfl))
 (apply fqb;simp+decide only[go_sem]<;>rfl)
theorem yno:∀x∈Mf,x.g≠yId:=by decide
theorem yfn0:L.env.fn yId=none:=by kernel_rfl
/- the stuck faults of a circuit -/
def fltA(x:Nat×Nat)(v:Int):List AV:=[.int .u8 0,.int .i64 x.1,.int .i64 ((x.2:Int)-1),.int .u8 v,.int .i64 0]
theorem sites_ok(c:Cir):sem L.env Mf 52 [.agg c.enc,.int .u8 0,lnV c] []=some (.func (.func 97) [] [.iptr [.int .u8 0],.iptr [lnV c],.iptr c.enc],[]):=by
 unfold lnV;simp only[Cir.enc]
 (refine sv Tryz.f52 ?_;simp only[Tryz.f52,gS])
 (repeat first|simp only[ww]|(apply xa;simp+decide only[go_sem];rfl;kernel_rfl))
 (apply fqb;simp+decide only[go_sem,finish,frz_ln]<;>rfl)
/-- A round, from no fault. -/
theorem rndN(x:Nat×Nat)(v:Int):sem L.env Mf yId [.yfn 0,.agg (fltA x v)] [some (.yloop 1600001 [(4,.ptr 1 0 0),(5,.ptr 2 0 0),(8,.ptr 3 0 0),(4600001,.junk)] .ready),some (.row 1 [[.nilslice]]),some (.row 1 [[.int .i64 0]]),some (.row 1 [[.nilslice]])]=some (.bool true,[some (.yloop 1600001 [(4,.ptr 1 0 0),(5,.ptr 2 0 0),(8,.ptr 3 0 0),(4600001,.junk)] .ready),some (.row 1 [[.nilslice]]),some (.row 1 [[.int .i64 0]]),some (.row 1 [[.slice 6 0 1 none]]),some (.row 5 [fltA x v]),some (.row 5 [fltA x v]),some (.row 5 [fltA x v])]):=by
 have hri:L.env.G.rnd 1600001=lookRF 1 (rfs 36 16 0 (Tryz.f16.body.getD .skip)):=by kernel_rfl
 simp only[Tryz.f16,gS,rfs,lookRF,List.append_nil,List.nil_append,List.cons_append,beqN,decide_true,cond_true,cond_false,reduceCtorEq,Nat.reduceEqDiff,decide_false]at hri;simp only[fltA];refine sem_round yno yfn0 rfl hri rfl rfl ?_;simp only[setsF_cons,setsF_nil]
 (repeat first|simp only[ww]|(apply xa;simp+decide only[go_sem];rfl;kernel_rfl))
 refine ryA_i rfl ?_
 (repeat first|simp only[ww]|(apply xa;simp+decide only[go_sem];rfl;kernel_rfl))
 exact ryE_i rfl rfl
theorem rndS(x:Nat×Nat)(v:Int)(a:List AV)(r:List (List AV))(hlim:r.length+1<65536):sem L.env Mf yId [.yfn 0,.agg (fltA x v)] [some (.yloop 1600001 [(4,.ptr 1 0 0),(5,.ptr 2 0 0),(8,.ptr 3 0 0),(4600001,.junk)] .ready),some (.row 1 [[.nilslice]]),some (.row 1 [[.int .i64 0]]),some (.row 1 [[.slice 4 0 (r.length+1) none]]),some (.row 5 (a::r))] =
 some (.bool true,[some (.yloop 1600001 [(4,.ptr 1 0 0),(5,.ptr 2 0 0),(8,.ptr 3 0 0),(4600001,.junk)] .ready),some (.row 1 [[.nilslice]]),some (.row 1 [[.int .i64 0]]),some (.row 1 [[.slice 7 0 (r.length+1+1) none]]),none,some (.row 5 [fltA x v]),some (.row 5 [fltA x v]),some (.row 5 (a::(r++[fltA x v])))]):=by
 have hri:L.env.G.rnd 1600001=lookRF 1 (rfs 36 16 0 (Tryz.f16.body.getD .skip)):=by kernel_rfl
 simp only[Tryz.f16,gS,rfs,lookRF,List.append_nil,List.nil_append,List.cons_append,beqN,decide_true,cond_true,cond_false,reduceCtorEq,Nat.reduceEqDiff,decide_false]at hri;have c1:¬((r.length:Int)+1=65536):=by omega
 have c2:¬(((r.length+1:Nat):Int)=65536):=by omega
 have hrm:r.length+1+1≤1000000000:=by omega
 simp only[fltA];refine sem_round yno yfn0 rfl hri rfl rfl ?_;simp only[setsF_cons,setsF_nil]
 (repeat first|simp only[ww]|(apply xa;simp+decide only[go_sem];rfl;kernel_rfl))
 refine ryA_i rfl ?_
 (repeat first|simp only[ww]|(apply xa;simp+decide only[go_sem,c1,c2,hrm,List.length_cons];rfl;kernel_rfl))
 exact ryE_i rfl rfl
theorem flat_flA(x:Nat×Nat)(v:Int):refsL (fltA x v)=[]:=rfl
theorem ren_flA(π:Nat→Option Nat)(x:Nat×Nat)(v:Int):(fltA x v).map (ren π)=fltA x v:=rfl
theorem yfn_f{b:Nat}{args:List AV}{H H':Heap}{v:AV}{σ:List Nat}(h:callLoc (sem L.env Mf yId) (.yfn b::args) H=some (v,H',σ)):callV L.env false (sem L.env Mf) (.yfn b) args H=some (v,H',σ):=by unfold callV;dsimp only;rw[h];rfl
theorem yN_call(x:Nat×Nat)(v:Int)(X4 X5:Option AObj):callV L.env false (sem L.env Mf) (.yfn 0) [.agg (fltA x v)] [some (.yloop 1600001 [(4,.ptr 1 0 0),(5,.ptr 2 0 0),(8,.ptr 3 0 0),(4600001,.junk)] .ready),some (.row 1 [[.nilslice]]),some (.row 1 [[.int .i64 0]]),some (.row 1 [[.nilslice]]),X4,X5] =
 some (.bool true,[some (.yloop 1600001 [(4,.ptr 1 0 0),(5,.ptr 2 0 0),(8,.ptr 3 0 0),(4600001,.junk)] .ready),some (.row 1 [[.nilslice]]),some (.row 1 [[.int .i64 0]]),some (.row 1 [[.slice 8 0 1 none]]),X4,X5,some (.row 5 [fltA x v]),some (.row 5 [fltA x v]),some (.row 5 [fltA x v])],[0,1,2,3]):=by
 have hr:=rndN x v;have hc:=(callLoc_eq (sem L.env Mf yId) [.yfn 0,.agg (fltA x v)] [some (.yloop 1600001 [(4,.ptr 1 0 0),(5,.ptr 2 0 0),(8,.ptr 3 0 0),(4600001,.junk)] .ready),some (.row 1 [[.nilslice]]),some (.row 1 [[.int .i64 0]]),some (.row 1 [[.nilslice]]),X4,X5] (σ:=[0,1,2,3]) (by simp+decide only[go_sem,flat_flA]) rfl rfl (args':=[.yfn 0,.agg (fltA x v)]) rfl (H0:=[some (.yloop 1600001 [(4,.ptr 1 0 0),(5,.ptr 2 0 0),(8,.ptr 3 0 0),(4600001,.junk)] .ready),some (.row 1 [[.nilslice]]),some (.row 1 [[.int .i64 0]]),some (.row 1 [[.nilslice]])]) rfl hr)
 refine yfn_f (hc.trans ?_);rfl
section
variable (x:Nat×Nat)(v:Int){a:List AV}{r:List (List AV)}(h1:refsL a=[])(h2:r.flatMap refsL=[])(h3:∀π:Nat→Option Nat,a.map (ren π)=a)(h4:∀π:Nat→Option Nat,r.map (λy=>y.map (ren π))=r)(hlim:r.length+1<65536)
include h1 h2 h3 h4 hlim
theorem yNb_call(hr0:r=[])(X4 X5 X6 X7:Option AObj):callV L.env false (sem L.env Mf) (.yfn 0) [.agg (fltA x v)] [some (.yloop 1600001 [(4,.ptr 1 0 0),(5,.ptr 2 0 0),(8,.ptr 3 0 0),(4600001,.junk)] .ready),some (.row 1 [[.nilslice]]),some (.row 1 [[.int .i64 0]]),some (.row 1 [[.slice 8 0 1 none]]),X4,X5,X6,X7,some (.row 5 [a])] =
 some (.bool true,[some (.yloop 1600001 [(4,.ptr 1 0 0),(5,.ptr 2 0 0),(8,.ptr 3 0 0),(4600001,.junk)] .ready),some (.row 1 [[.nilslice]]),some (.row 1 [[.int .i64 0]]),some (.row 1 [[.slice 11 0 2 none]]),X4,X5,X6,X7,none,some (.row 5 [fltA x v]),some (.row 5 [fltA x v]),some (.row 5 [a,fltA x v])],[0,1,2,3,8]):=by
 subst hr0;have hr:=rndS x v a [] hlim;have hc:=(callLoc_eq (sem L.env Mf yId) [.yfn 0,.agg (fltA x v)] [some (.yloop 1600001 [(4,.ptr 1 0 0),(5,.ptr 2 0 0),(8,.ptr 3 0 0),(4600001,.junk)] .ready),some (.row 1 [[.nilslice]]),some (.row 1 [[.int .i64 0]]),some (.row 1 [[.slice 8 0 1 none]]),X4,X5,X6,X7,some (.row 5 [a])] (σ:=[0,1,2,3,8]) (by simp+decide only[go_sem,flat_flA,h1,h2]) rfl rfl (args':=[.yfn 0,.agg (fltA x v)]) rfl (H0:=[some (.yloop 1600001 [(4,.ptr 1 0 0),(5,.ptr 2 0 0),(8,.ptr 3 0 0),(4600001,.junk)] .ready),some (.row 1 [[.nilslice]]),some (.row 1 [[.int .i64 0]]),some (.row 1 [[.slice 4 0 1 none]]),some (.row 5 [a])]) (by simp+decide only[go_sem,h3,h4]<;>rfl) hr)
 refine yfn_f (hc.trans ?_);simp+decide only[go_sem,h3,h4,flat_flA,ren_flA]<;>rfl
theorem ySa_call(X5 X6:Option AObj):callV L.env false (sem L.env Mf) (.yfn 0) [.agg (fltA x v)] [some (.yloop 1600001 [(4,.ptr 1 0 0),(5,.ptr 2 0 0),(8,.ptr 3 0 0),(4600001,.junk)] .ready),some (.row 1 [[.nilslice]]),some (.row 1 [[.int .i64 0]]),some (.row 1 [[.slice 4 0 (r.length+1) none]]),some (.row 5 (a::r)),X5,X6] =
 some (.bool true,[some (.yloop 1600001 [(4,.ptr 1 0 0),(5,.ptr 2 0 0),(8,.ptr 3 0 0),(4600001,.junk)] .ready),some (.row 1 [[.nilslice]]),some (.row 1 [[.int .i64 0]]),some (.row 1 [[.slice 9 0 (r.length+1+1) none]]),none,X5,X6,some (.row 5 [fltA x v]),some (.row 5 [fltA x v]),some (.row 5 (a::(r++[fltA x v])))],[0,1,2,3,4]):=by
 have hr:=rndS x v a r hlim;have hc:=(callLoc_eq (sem L.env Mf yId) [.yfn 0,.agg (fltA x v)] [some (.yloop 1600001 [(4,.ptr 1 0 0),(5,.ptr 2 0 0),(8,.ptr 3 0 0),(4600001,.junk)] .ready),some (.row 1 [[.nilslice]]),some (.row 1 [[.int .i64 0]]),some (.row 1 [[.slice 4 0 (r.length+1) none]]),some (.row 5 (a::r)),X5,X6] (σ:=[0,1,2,3,4]) (by simp+decide only[go_sem,flat_flA,h1,h2]) rfl rfl (args':=[.yfn 0,.agg (fltA x v)]) rfl (H0:=[some (.yloop 1600001 [(4,.ptr 1 0 0),(5,.ptr 2 0 0),(8,.ptr 3 0 0),(4600001,.junk)] .ready),some (.row 1 [[.nilslice]]),some (.row 1 [[.int .i64 0]]),some (.row 1 [[.slice 4 0 (r.length+1) none]]),some (.row 5 (a::r))]) (by simp+decide only[go_sem,h3,h4]<;>rfl) hr)
 refine yfn_f (hc.trans ?_);simp+decide only[go_sem,h3,h4,flat_flA,ren_flA,List.map_append]<;>rfl
theorem ySb_call(X4 X5 X6 X7 X8:Option AObj):callV L.env false (sem L.env Mf) (.yfn 0) [.agg (fltA x v)] [some (.yloop 1600001 [(4,.ptr 1 0 0),(5,.ptr 2 0 0),(8,.ptr 3 0 0),(4600001,.junk)] .ready),some (.row 1 [[.nilslice]]),some (.row 1 [[.int .i64 0]]),some (.row 1 [[.slice 9 0 (r.length+1) none]]),X4,X5,X6,X7,X8,some (.row 5 (a::r))] =
 some (.bool true,[some (.yloop 1600001 [(4,.ptr 1 0 0),(5,.ptr 2 0 0),(8,.ptr 3 0 0),(4600001,.junk)] .ready),some (.row 1 [[.nilslice]]),some (.row 1 [[.int .i64 0]]),some (.row 1 [[.slice 12 0 (r.length+1+1) none]]),X4,X5,X6,X7,X8,none,some (.row 5 [fltA x v]),some (.row 5 [fltA x v]),some (.row 5 (a::(r++[fltA x v])))],[0,1,2,3,9]):=by
 have hr:=rndS x v a r hlim;have hc:=(callLoc_eq (sem L.env Mf yId) [.yfn 0,.agg (fltA x v)] [some (.yloop 1600001 [(4,.ptr 1 0 0),(5,.ptr 2 0 0),(8,.ptr 3 0 0),(4600001,.junk)] .ready),some (.row 1 [[.nilslice]]),some (.row 1 [[.int .i64 0]]),some (.row 1 [[.slice 9 0 (r.length+1) none]]),X4,X5,X6,X7,X8,some (.row 5 (a::r))] (σ:=[0,1,2,3,9]) (by simp+decide only[go_sem,flat_flA,h1,h2]) rfl rfl (args':=[.yfn 0,.agg (fltA x v)]) rfl (H0:=[some (.yloop 1600001 [(4,.ptr 1 0 0),(5,.ptr 2 0 0),(8,.ptr 3 0 0),(4600001,.junk)] .ready),some (.row 1 [[.nilslice]]),some (.row 1 [[.int .i64 0]]),some (.row 1 [[.slice 4 0 (r.length+1) none]]),some (.row 5 (a::r))]) (by simp+decide only[go_sem,h3,h4]<;>rfl) hr)
 refine yfn_f (hc.trans ?_);simp+decide only[go_sem,h3,h4,flat_flA,ren_flA,List.map_append]<;>rfl
end
/-- The faults of these lines. -/
def flR(l:List (Nat×Nat)):List (List AV):=l.flatMap λx=>[fltA x 0,fltA x 1]
theorem flR_snoc(l:List (Nat×Nat))(x:Nat×Nat):flR (l++[x])=flR l++[fltA x 0,fltA x 1]:=by simp[flR]
theorem flR_len:∀l:List (Nat×Nat),(flR l).length=2*l.length
 | []=>rfl
 |x::l=>by have:=flR_len l;simp only[flR,List.flatMap_cons,List.length_append,List.length_cons,List.length_nil]at this⊢;omega
theorem flR_flat:∀l:List (Nat×Nat),FlatR (flR l)
 | []=>FlatR.nil
 |x::l=>FlatR.cons rfl (FlatR.cons rfl (flR_flat l))
/-- The memory of a loop over sites: the caller's list, and the yield function's cell. -/
def stH:List (List AV)→Heap
 | []=>[some (.yloop 1600001 [(4,.ptr 1 0 0),(5,.ptr 2 0 0),(8,.ptr 3 0 0),(4600001,.junk)] .ready),some (.row 1 [[.nilslice]]),some (.row 1 [[.int .i64 0]]),some (.row 1 [[.nilslice]]),some (.row 1 [[.yfn 0]])]
 |a::r=>[some (.yloop 1600001 [(4,.ptr 1 0 0),(5,.ptr 2 0 0),(8,.ptr 3 0 0),(4600001,.junk)] .ready),some (.row 1 [[.nilslice]]),some (.row 1 [[.int .i64 0]]),some (.row 1 [[.slice 4 0 (r.length+1) none]]),some (.row 5 (a::r)),some (.row 1 [[.yfn 0]])]
def stP:List (List AV)→AV
 | []=>.ptr 4 0 0
 |_::_=>.ptr 5 0 0
theorem stH_nil:stH []=[some (.yloop 1600001 [(4,.ptr 1 0 0),(5,.ptr 2 0 0),(8,.ptr 3 0 0),(4600001,.junk)] .ready),some (.row 1 [[.nilslice]]),some (.row 1 [[.int .i64 0]]),some (.row 1 [[.nilslice]]),some (.row 1 [[.yfn 0]])]:=rfl
theorem stH_cons(a:List AV)(r:List (List AV)):stH (a::r)=[some (.yloop 1600001 [(4,.ptr 1 0 0),(5,.ptr 2 0 0),(8,.ptr 3 0 0),(4600001,.junk)] .ready),some (.row 1 [[.nilslice]]),some (.row 1 [[.int .i64 0]]),some (.row 1 [[.slice 4 0 (r.length+1) none]]),some (.row 5 (a::r)),some (.row 1 [[.yfn 0]])]:=rfl
theorem stP_nil:stP [] = .ptr 4 0 0:=rfl
theorem stP_cons(a:List AV)(r:List (List AV)):stP (a::r) = .ptr 5 0 0:=rfl
theorem lnAll_len{c:Cir}(h:c.wf):(lnAll c).length≤238:=by have:=lnTo_len h c.nodes.length;have:=h.len;unfold lnAll;omega
theorem s1_ok(c:Cir)(h:c.wf):sem L.env Mf 97 [.yfn 0,.iptr [.int .u8 0],.iptr [lnV c],.iptr c.enc] [some (.yloop 1600001 [(4,.ptr 1 0 0),(5,.ptr 2 0 0),(8,.ptr 3 0 0),(4600001,.junk)] .ready),some (.row 1 [[.nilslice]]),some (.row 1 [[.int .i64 0]]),some (.row 1 [[.nilslice]])]=some (.tuple [],stH (flR (lnAll c))):=by
 have hone:oneOf [] = .tuple []:=rfl;have hl:=lnAll_len h
 suffices hs:∃r:AV×Heap,(r=(.tuple [],stH (flR (lnAll c))))∧sem L.env Mf 97 [.yfn 0,.iptr [.int .u8 0],.iptr [lnV c],.iptr c.enc] [some (.yloop 1600001 [(4,.ptr 1 0 0),(5,.ptr 2 0 0),(8,.ptr 3 0 0),(4600001,.junk)] .ready),some (.row 1 [[.nilslice]]),some (.row 1 [[.int .i64 0]]),some (.row 1 [[.nilslice]])]=some r by obtain⟨r,rfl,h3⟩:=hs;exact h3
 unfold lnV;simp only[Cir.enc];generalize lnAll c=ls at hl
 (refine svE Tryz.f97 ?_;simp only[Tryz.f97,gS])
 (repeat first|simp only[ww]|(apply xa;simp+decide only[go_sem,List.length_map];rfl;kernel_rfl))
 refine xp_loop3 (σ:=Nat) kp97_0 (λk=>[(1,.iptr [.int .u8 0]),(4,stP (flR (ls.take k))),(12,.islice (ls.map lnRow) (some ls.length)),(13,.int .i64 ls.length),(14,.int .i64 k)])
  (λk=>stH (flR (ls.take k))) (λk=>ls.length-k) (λk=>k≤ls.length) 0 ?_ (Nat.zero_le _) ?_
 ·have e:flR (ls.take 0)=[]:=rfl
  (simp+decide only[go_sem,gcD_eq,gcIds_eq,e,stH_nil,stP_nil]<;>rfl)
 ·intro k hk;by_cases hlt:k<ls.length
  ·obtain⟨x,hx⟩:∃x,ls[k]?=some x:=⟨_,List.getElem?_eq_getElem hlt⟩
   have c1:(k:Int)<ls.length:=by omega
   have hw:=wI1 (n:=k) (by omega);have hs:flR (ls.take (k+1))=flR (ls.take k)++[fltA x 0,fltA x 1]:=by rw[List.take_add_one,hx,Option.toList_some,flR_snoc]
   have hln:=flR_len (ls.take k);have hlk:(ls.take k).length≤238:=by rw[List.length_take];omega
   have hfl:=flR_flat (ls.take k);generalize flR (ls.take k)=l at hs hln hfl;cases l with
   |nil=>
    have y1:=λX4 X5=>yN_call x 0 X4 X5;have y2:=λX4 X5 X6 X7=>yNb_call x 1 (a:=fltA x 0) (r:=[]) rfl rfl (λ_=>rfl) (λ_=>rfl) (by simp) rfl X4 X5 X6 X7;simp only[fltA]at y1 y2
    (repeat first|simp only[ww]|(apply xa;simp+decide only[go_sem,c1,hlt,hx,hw,y1,y2,stH_nil,stP_nil,lnRow,List.length_map];rfl;kernel_rfl))
    refine lp_n (k+1) ?_ (by omega) (by omega);rw[hs]
    (simp+decide only[go_sem,gcD_eq,gcIds_eq,List.nil_append,stH_cons,stP_cons,fltA,List.length_cons,List.length_nil]<;>rfl)
   |cons a r=>
    have h1:refsL a=[]:=hfl a (List.mem_cons_self ..);have hfr:FlatR r:=λy hy=>hfl y (List.mem_cons_of_mem _ hy);have h2:r.flatMap refsL=[]:=refs_flatR hfr;have h3:∀π:Nat→Option Nat,a.map (ren π)=a:=λπ=>by have:=renR_flat π hfl;simp only[List.map_cons,List.cons.injEq]at this;exact this.1
    have h4:∀π:Nat→Option Nat,r.map (λy=>y.map (ren π))=r:=λπ=>renR_flat π hfr;simp only[List.length_cons]at hln;have y1:=λX5 X6=>ySa_call x 0 h1 h2 h3 h4 (by omega) X5 X6;have h5:(r++[fltA x 0]).flatMap refsL=[]:=by simp[h2,fltA,refsL,refs]
    have h6:∀π:Nat→Option Nat,(r++[fltA x 0]).map (λy=>y.map (ren π))=r++[fltA x 0]:=λπ=>by rw[List.map_append,h4];rfl
    have y2:=λX4 X5 X6 X7 X8=>ySb_call x 1 h1 h5 h3 h6 (by rw[List.length_append,List.length_singleton];omega) X4 X5 X6 X7 X8;rw[List.length_append,List.length_singleton]at y2;simp only[fltA]at y1 y2
    (repeat first|simp only[ww]|(apply xa;simp+decide only[go_sem,c1,hlt,hx,hw,y1,y2,stH_cons,stP_cons,lnRow,List.length_map];rfl;kernel_rfl))
    refine lp_n (k+1) ?_ (by omega) (by omega);rw[hs]
    (simp+decide only[go_sem,gcD_eq,gcIds_eq,List.cons_append,stH_cons,stP_cons,fltA,List.length_cons,List.length_append,List.length_nil,List.append_assoc,h1,h2,h3,h4,List.flatMap_append,List.map_append,List.flatMap_cons,List.flatMap_nil,List.map_cons,List.map_nil,List.nil_append]<;>rfl)
  ·obtain rfl:k=ls.length:=by omega
   have c1:¬(ls.length:Int)<ls.length:=by omega
   rw[List.take_length];generalize flR ls=l;cases l with
   |nil=>
    (repeat first|simp only[ww]|(apply xa;simp+decide only[go_sem,c1,stH_nil,stP_nil];rfl;kernel_rfl))
    refine fqE_r (vs:=[]) (r:=(_,_)) (by simp+decide only[go_sem]) ?_ rfl;simp+decide only[go_sem,finish,stH_nil]<;>rfl
   |cons a r=>
    (repeat first|simp only[ww]|(apply xa;simp+decide only[go_sem,c1,stH_cons,stP_cons];rfl;kernel_rfl))
    refine fqE_r (vs:=[]) (r:=(_,_)) (by simp+decide only[go_sem]) ?_ rfl;simp+decide only[go_sem,finish,stH_cons]<;>rfl
theorem clipF_ok(n:Nat)(rows:List (List AV))(hf:FlatR rows):sem L.env Mf 53 [.slice 0 0 n none] [some (.row 5 rows)]=some (.slice 0 0 n (some n),[some (.row 5 rows)]):=by
 have h1:=λπ=>renR_flat π hf
 (refine sv Tryz.f53 ?_;simp only[Tryz.f53,gS])
 (repeat first|simp only[ww]|(apply xa;simp+decide only[go_sem];rfl;kernel_rfl))
 (apply fqb;simp+decide only[go_sem,h1]<;>rfl)
theorem clipF_call{d:Bool}{H:Heap}{b n:Nat}{rows:List (List AV)}(hf:FlatR rows)(hb:HeapF H b=some (.row 5 rows)):callV L.env d (sem L.env Mf) (.func (.func 53) [] []) [.slice b 0 n none] H=some (.slice b 0 n (some n),H,[b]):=by have h:=callV_one' (E:=L.env) (draw:=d) (call:=sem L.env Mf) (g:=53) (fs:=[]) (cs:=[]) (ar:=[.slice b 0 n none]) (H:=H) (b:=b) (by kernel_rfl) (by kernel_rfl) rfl hb (refsO_flat hf) (FlatO.row hf) rfl (args':=[AV.slice 0 0 n none]) (by simp only[List.nil_append,List.append_nil,List.map_cons,List.map_nil,ren_slice1]) (clipF_ok n rows hf) (FlatO.row hf) (back_slice1 b 0 _ n _);rw[set_same hb]at h;exact h
theorem refs_lnA(c:Cir):refsL [.agg c.enc,.int .u8 0,lnV c]=[]:=by have h1:=refs_cirA c;simp only[refsL_cons,refsL_nil,List.append_nil]at h1⊢;rw[h1,refs_lnV];rfl
theorem sites_call{d:Bool}(H:Heap)(c:Cir):callV L.env d (sem L.env Mf) (.func (.func 52) [] []) [.agg c.enc,.int .u8 0,lnV c] H=some (.func (.func 97) [] [.iptr [.int .u8 0],.iptr [lnV c],.iptr c.enc],H,[]):=callV_flat (by kernel_rfl) (by kernel_rfl) rfl (refs_lnA c) (sites_ok c) (by simp only[go_sem,refs_lnV,Cir.enc])
def flV(c:Cir):AV:=.islice (flR (lnAll c)) (some (flR (lnAll c)).length)
theorem all_ok(c:Cir)(h:c.wf):sem L.env Mf 16 [.agg c.enc,.int .u8 0] []=some (.tuple [flV c,.int .i64 0],[]):=by
 have hli:=λH=>lines_call (d:=false) H c h;have hst:=λH=>sites_call (d:=false) H c;have hs1:=s1_ok c h;have hne:=lnAll_ne h;obtain⟨a,r,hR⟩:∃a r,flR (lnAll c)=a::r:=by
  cases hl:lnAll c with
  |nil=>exact absurd hl hne
  |cons x l=>exact⟨_,_,rfl⟩
 have hfl:=flR_flat (lnAll c);have hrv:=refs_lnV c;have hrn:∀π,ren π (lnV c)=lnV c:=λπ=>ren_flat π _ hrv;unfold flV;rw[hR]at hs1 hfl⊢;rw[stH_cons]at hs1;have h1:refsL a=[]:=hfl a (List.mem_cons_self ..);have hfr:FlatR r:=λy hy=>hfl y (List.mem_cons_of_mem _ hy);have h2:r.flatMap refsL=[]:=refs_flatR hfr;have h3:∀π:Nat→Option Nat,a.map (ren π)=a:=λπ=>by have:=renR_flat π hfl;simp only[List.map_cons,List.cons.injEq]at this;exact this.1
 have h4:∀π:Nat→Option Nat,r.map (λy=>y.map (ren π))=r:=λπ=>renR_flat π hfr
 suffices hs:∃q:AV×Heap,(q=(.tuple [.islice (a::r) (some (a::r).length),.int .i64 0],[]))∧sem L.env Mf 16 [.agg c.enc,.int .u8 0] []=some q by obtain⟨q,rfl,h3⟩:=hs;exact h3
 have hcl:∀X0,callLoc (sem L.env Mf 97) [.yfn 4,.iptr [.int .u8 0],.iptr [lnV c],.iptr c.enc] [X0,some (.row 1 [[.nilslice]]),some (.row 1 [[.int .i64 0]]),some (.row 1 [[.nilslice]]),some (.yloop 1600001 [(4,.ptr 1 0 0),(5,.ptr 2 0 0),(8,.ptr 3 0 0),(4600001,.junk)] .ready)]=some (.tuple [],[X0,some (.row 1 [[.nilslice]]),some (.row 1 [[.int .i64 0]]),some (.row 1 [[.slice 5 0 (r.length+1) none]]),some (.yloop 1600001 [(4,.ptr 1 0 0),(5,.ptr 2 0 0),(8,.ptr 3 0 0),(4600001,.junk)] .ready),some (.row 5 (a::r)),some (.row 1 [[.yfn 4]])],[4,1,2,3]):=by intro X0;refine(callLoc_eq (sem L.env Mf 97) [.yfn 4,.iptr [.int .u8 0],.iptr [lnV c],.iptr c.enc] _ (σ:=[4,1,2,3]) (by simp+decide only[go_sem,hrv,Cir.enc]) rfl rfl (args':=[.yfn 0,.iptr [.int .u8 0],.iptr [lnV c],.iptr c.enc]) (by simp+decide only[go_sem,hrn,Cir.enc]<;>rfl) (H0:=[some (.yloop 1600001 [(4,.ptr 1 0 0),(5,.ptr 2 0 0),(8,.ptr 3 0 0),(4600001,.junk)] .ready),some (.row 1 [[.nilslice]]),some (.row 1 [[.int .i64 0]]),some (.row 1 [[.nilslice]])]) rfl hs1).trans ?_;simp+decide only[go_sem,h3,h4]<;>rfl
 have hcf:=λX0 X1 X2 X3 X4 X6=>clipF_call (d:=false) (H:=[X0,X1,X2,X3,X4,some (.row 5 (a::r)),X6]) (b:=5) (n:=r.length+1) hfl rfl;simp only[Cir.enc]at hli hst hcl⊢
 (refine svE Tryz.f16 ?_;simp only[Tryz.f16,gS])
 (repeat first|simp only[ww]|(apply xa;simp+decide only[go_sem,hli,hst];rfl;kernel_rfl))
 refine xp_rf kp16_1 (by simp+decide only[go_sem]<;>rfl) rfl (by kernel_rfl) (hcl _) ?_;show bk 1 _ .normal _ [_,_,_,_,none,_,_]
 (repeat first|simp only[ww]|(apply xa;simp+decide only[go_sem,hcf];rfl;kernel_rfl))
 refine fqE_r (vs:=[.slice 5 0 (r.length+1) (some (r.length+1)),.int .i64 0]) (r:=(_,_)) (by simp+decide only[go_sem]) ?_ rfl;have hz:=λ(m:Nat) (d:AV→Option AV)=>frzR_flat m d hfl;simp+decide only[go_sem,finish,hz,List.length_cons]<;>rfl
theorem refs_flV(c:Cir):refs (flV c)=[]:=by unfold flV;simp only[go_sem,refs_flatR (flR_flat (lnAll c))]
theorem all_call{d:Bool}(H:Heap)(c:Cir)(h:c.wf):callV L.env d (sem L.env Mf) (.func (.func 16) [] []) [.agg c.enc,.int .u8 0] H=some (.tuple [flV c,.int .i64 0],H,[]):=callV_flat (by kernel_rfl) (by kernel_rfl) rfl (by simp only[refsL_cons,refs_agg,Cir.enc,go_sem]) (all_ok c h) (by simp only[go_sem,refs_flV])
theorem kinds15{c:Cir}(h:c.wf):kinds c.nodes 15=[]:=by
 have hk:∀i,kindTo c.nodes 15 i=[]:=by
  intro i
  induction i with
  |zero=>rfl
  |succ i ih=>
   rw[kindTo_succ,ih,if_neg];intro e;cases hx:c.nodes[i]? with
   |none=>unfold kindAt at e;rw[hx]at e;simp at e
   |some x=>rw[kindAt_get hx]at e;have:=h.kind x (List.mem_of_getElem? hx);omega
 exact hk _
theorem plain_ok(c:Cir)(h:c.wf):sem L.env Mf 24 [.agg c.enc] []=some (.int .i64 0,[]):=by
 have hc:=λH=>ncheck_call (d:=false) H c h;have hn:=λX=>nof_call (d:=false) (H:=[X,some (.row 1 [[.int .u8 15]])]) (b:=1) c (k:=15) rfl (by have:=h.len;omega) rfl;rw[kinds15 h]at hn;simp only[idxV_nil]at hn;simp only[Cir.enc]at hc hn⊢
 (refine sv Tryz.f24 ?_;simp only[Tryz.f24,gS])
 (repeat first|simp only[ww]|(apply xa;simp+decide only[go_sem,hc,hn];rfl;kernel_rfl))
 (apply fqb;simp+decide only[go_sem]<;>rfl)
theorem plain_call{d:Bool}(H:Heap)(c:Cir)(h:c.wf):callV L.env d (sem L.env Mf) (.func (.func 24) [] []) [.agg c.enc] H=some (.int .i64 0,H,[]):=callV_flat (by kernel_rfl) (by kernel_rfl) rfl (refs_cirA c) (plain_ok c h) rfl
theorem plainM_ok(c:Cir)(mm:Mm)(h:wfM c mm):sem L.env Mf 24 [.agg (encM c mm)] []=some (.int .i64 7,[]):=by
 have hc:=λH=>ncheck_callM (d:=false) H c mm h;simp only[encM,memV]at hc⊢
 (refine sv Tryz.f24 ?_;simp only[Tryz.f24,gS])
 (repeat first|simp only[ww]|(apply xa;simp+decide only[go_sem,hc];rfl;kernel_rfl))
 (apply fqb;simp+decide only[go_sem]<;>rfl)
theorem plainM_call{d:Bool}(H:Heap)(c:Cir)(mm:Mm)(h:wfM c mm):callV L.env d (sem L.env Mf) (.func (.func 24) [] []) [.agg (encM c mm)] H=some (.int .i64 7,H,[]):=callV_flat (by kernel_rfl) (by kernel_rfl) rfl (refs_encMA c mm) (plainM_ok c mm h) rfl
/- chains of none -/
theorem scheck_ok(c:Cir)(h:c.wf):∃e:Int,sem L.env Mf 30 [.agg c.enc,.nilslice] []=some (.int .i64 e,[]):=by
 have hc:=λH=>plain_call (d:=false) H c h;have hs:=λH=>states_call (d:=false) H c (by have:=h.len;omega);generalize kinds c.nodes 14=l at hs;simp only[Cir.enc]at hc hs⊢;cases l with
 |nil=>
  refine⟨0,?_⟩;rw[idxV_nil]at hs
  (refine sv Tryz.f30 ?_;simp only[Tryz.f30,gS])
  (repeat first|simp only[ww]|(apply xa;simp+decide only[go_sem,hc];rfl;kernel_rfl))
  refine xp_loop3 (σ:=Nat) kp30_0 (λi=>[(2,.ptr 0 0 0),(6,.map 1),(20,.nilslice),(21,.int .i64 0),(22,.int .i64 0)])
   (λ_=>[some (.row 4 [[sl c.nc (c.nodes.map Nd.enc),sl c.mc (c.names.map strR),.nilslice,sl c.oc (c.outs.map intR)]]),some (.uset [])]) (λi=>0) (λi=>True) 0 ?_ trivial ?_
  ·(simp+decide only[go_sem,gcD_eq,gcIds_eq]<;>rfl)
  ·intro i _
   (repeat first|simp only[ww]|(apply xa;simp+decide only[go_sem,hs];rfl;kernel_rfl))
   (apply fqb;simp+decide only[go_sem]<;>rfl)
 |cons a r=>
  refine⟨8,?_⟩;rw[idxV_cons]at hs;have c1:¬((r.length:Int)+1=0):=by omega
  have c2:¬(0=(r.length:Int)+1):=by omega
  have c3:¬(0=((r.length+1:Nat):Int)):=by omega
  have c4:¬(((0:Nat):Int)=((r.length+1:Nat):Int)):=by omega
  (refine sv Tryz.f30 ?_;simp only[Tryz.f30,gS])
  (repeat first|simp only[ww]|(apply xa;simp+decide only[go_sem,hc];rfl;kernel_rfl))
  refine xp_loop3 (σ:=Nat) kp30_0 (λi=>[(2,.ptr 0 0 0),(6,.map 1),(20,.nilslice),(21,.int .i64 0),(22,.int .i64 0)])
   (λ_=>[some (.row 4 [[sl c.nc (c.nodes.map Nd.enc),sl c.mc (c.names.map strR),.nilslice,sl c.oc (c.outs.map intR)]]),some (.uset [])]) (λi=>0) (λi=>True) 0 ?_ trivial ?_
  ·(simp+decide only[go_sem,gcD_eq,gcIds_eq]<;>rfl)
  ·intro i _
   (repeat first|simp only[ww]|(apply xa;simp+decide only[go_sem,hs,c1,c2,c3,c4,List.length_cons,List.length_map];rfl;kernel_rfl))
   (apply fqb;simp+decide only[go_sem]<;>rfl)
theorem scheck_call(c:Cir)(h:c.wf):∃e:Int,∀(d:Bool) (H:Heap),callV L.env d (sem L.env Mf) (.func (.func 30) [] []) [.agg c.enc,.nilslice] H=some (.int .i64 e,H,[]):=by obtain⟨e,he⟩:=scheck_ok c h;exact⟨e,λd H=>callV_flat (by kernel_rfl) (by kernel_rfl) rfl (by simp only[List.nil_append,List.append_nil,refsL_cons,refs_agg,Cir.enc,go_sem]) he rfl⟩
/- lists copied -/
theorem all1(l:List Nat):(l.map intR).all (λr=>decide (r.length=1))=true:=by rw[List.all_eq_true];intro r hr;obtain⟨x,_,rfl⟩:=List.mem_map.1 hr;rfl
theorem cloneI_ok(l:List Nat)(cap:Option Nat)(h0:0<l.length)(h1:l.length≤1000):sem L.env Mf 26 [.islice (l.map intR) cap] []=some (.islice (l.map intR) none,[]):=by
 have hz:=λ(m:Nat) (d:AV→Option AV)=>frz_i (m:=m) (d:=d) l;have hall:=all1 l;have hb:L.env.bytes 3=8:=by kernel_rfl
 have hrm:roomOk L.env 3 l.length=true:=room_ok (by omega) (by rw[hb];decide);have d1:¬l.length≤0:=by omega
 have ht:(l.map intR).take l.length=l.map intR:=List.take_of_length_le (by rw[List.length_map];omega)
 (refine sv Tryz.f26 ?_;simp only[Tryz.f26,gS])
 (repeat first|simp only[ww]|(apply xa;simp+decide only[go_sem,hall,d1,hrm,ht,Nat.zero_add,List.length_map];rfl;kernel_rfl))
 (apply fqb;simp+decide only[go_sem,hz]<;>rfl)
theorem clipI_ok(l:List Nat)(cap:Option Nat):sem L.env Mf 25 [.islice (l.map intR) cap] []=some (.islice (l.map intR) (some l.length),[]):=by
 have hall:=all1 l;have ht:(l.map intR).take l.length=l.map intR:=List.take_of_length_le (by rw[List.length_map];omega);have i1:inB (l.length:Int) l.length=true:=by unfold inB;simp
 have i2:inB (l.length:Int) (l.length:Int).toNat=true:=by unfold inB;simp
 have i3:(l.length:Int).toNat=l.length:=by omega
 (refine sv Tryz.f25 ?_;simp only[Tryz.f25,gS])
 (repeat first|simp only[ww]|(apply xa;simp+decide only[go_sem,hall,ht,i1,i2,i3,List.length_map];rfl;kernel_rfl))
 (apply fqb;simp+decide only[go_sem]<;>rfl)
theorem clone_call{d:Bool}(H:Heap)(l:List Nat)(cap:Option Nat)(h0:0<l.length)(h1:l.length≤1000):callV L.env d (sem L.env Mf) (.func (.func 26) [] []) [.islice (l.map intR) cap] H=some (.islice (l.map intR) none,H,[]):=callV_flat (by kernel_rfl) (by kernel_rfl) rfl (by simp only[go_sem,flat_i]) (cloneI_ok l cap h0 h1) (by simp only[go_sem,flat_i])
theorem clipI_call{d:Bool}(H:Heap)(l:List Nat)(cap:Option Nat):callV L.env d (sem L.env Mf) (.func (.func 25) [] []) [.islice (l.map intR) cap] H=some (.islice (l.map intR) (some l.length),H,[]):=callV_flat (by kernel_rfl) (by kernel_rfl) rfl (by simp only[go_sem,flat_i]) (clipI_ok l cap) (by simp only[go_sem,flat_i])
theorem clipS_nil:sem L.env Mf 27 [.nilslice] []=some (.nilslice,[]):=by
 (refine sv Tryz.f27 ?_;simp only[Tryz.f27,gS])
 (repeat first|simp only[ww]|(apply xa;simp+decide only[go_sem];rfl;kernel_rfl))
 (apply fqb;simp+decide only[go_sem]<;>rfl)
theorem clipS_ok(n:Nat)(rows:List (List AV))(hf:FlatR rows):sem L.env Mf 27 [.slice 0 0 n none] [some (.row 1 rows)]=some (.slice 0 0 n (some n),[some (.row 1 rows)]):=by
 have h1:=λπ=>renR_flat π hf
 (refine sv Tryz.f27 ?_;simp only[Tryz.f27,gS])
 (repeat first|simp only[ww]|(apply xa;simp+decide only[go_sem];rfl;kernel_rfl))
 (apply fqb;simp+decide only[go_sem,h1]<;>rfl)
theorem clipS_callN{d:Bool}(H:Heap):callV L.env d (sem L.env Mf) (.func (.func 27) [] []) [.nilslice] H=some (.nilslice,H,[]):=callV_flat (by kernel_rfl) (by kernel_rfl) rfl rfl clipS_nil rfl
theorem clipS_call{d:Bool}{H:Heap}{b n:Nat}{rows:List (List AV)}(hf:FlatR rows)(hb:HeapF H b=some (.row 1 rows)):callV L.env d (sem L.env Mf) (.func (.func 27) [] []) [.slice b 0 n none] H=some (.slice b 0 n (some n),H,[b]):=by have h:=callV_one' (E:=L.env) (draw:=d) (call:=sem L.env Mf) (g:=27) (fs:=[]) (cs:=[]) (ar:=[.slice b 0 n none]) (H:=H) (b:=b) (by kernel_rfl) (by kernel_rfl) rfl hb (refsO_flat hf) (FlatO.row hf) rfl (args':=[AV.slice 0 0 n none]) (by simp only[List.nil_append,List.append_nil,List.map_cons,List.map_nil,ren_slice1]) (clipS_ok n rows hf) (FlatO.row hf) (back_slice1 b 0 _ n _);rw[set_same hb]at h;exact h
/-- A share of what is left: not none, and enough stays. -/
theorem share{R d:Nat}(hd:1≤d)(hR:d≤R):1≤R/d∧R/d≤R∧(0<R%d→R/d+1≤R)∧(R%d=0→d-1≤R-R/d)∧(0<R%d→d-1≤R-(R/d+1)):=by
 have h1:1≤R/d:=(Nat.one_le_div_iff (by omega)).2 hR;have h2:=Nat.div_add_mod R d;obtain⟨e,rfl⟩:∃e,d=e+1:=⟨d-1,by omega⟩
 have h3:e≤e*(R/(e+1)):=Nat.le_mul_of_pos_right e (by omega);have h4:(e+1)*(R/(e+1))=e*(R/(e+1))+R/(e+1):=by rw[Nat.add_mul,Nat.one_mul]
 rw[h4]at h2;generalize R/(e+1)=q at *;generalize e*q=z at *;refine⟨h1,by omega,λ_=>by omega,λ_=>by omega,λ_=>by omega⟩
/-- What Balance answers, beside its error: no chain, or a list. -/
def IsL(v:AV):Prop:=v = .nilslice∨∃rows cap,v = .islice rows cap∧FlatR rows
theorem bal_ok(c:Cir)(h:c.wf)(n:Int)(h1:1≤n)(h2:n≤64):∃q:AV×Heap,(∃v,q=(.tuple [v,.int .i64 0],[])∧IsL v)∧sem L.env Mf 6 [.agg c.enc,.int .i64 n] []=some q:=by
 have hp:=λH=>plain_call (d:=false) H c h;have hs:=λH=>states_call (d:=false) H c (by have:=h.len;omega);have hkl:(kinds c.nodes 14).length≤14:=by have:=h.len;have:=List.length_filter_le (λj=>decide (kindAt c.nodes j=14)) (List.range c.nodes.length);rw[List.length_range]at this;unfold kinds kindTo;omega
 generalize kinds c.nodes 14=l at hs hkl;have c1:¬n<1:=by omega
 have c2:¬64<n:=by omega
 simp only[Cir.enc]at hp hs⊢;cases l with
 |nil=>
  rw[idxV_nil]at hs;have c3:¬n<0:=by omega
  have c4:0<n:=by omega
  (refine svE Tryz.f6 ?_;simp only[Tryz.f6,gS])
  (repeat first|simp only[ww]|(apply xa;simp+decide only[go_sem,hp,hs,c1,c2,c3,c4];rfl;kernel_rfl))
  refine xp_loop3 (σ:=Nat) kp6_1 (λ_=>[(1,.int .i64 0),(7,.nilslice),(8,.nilslice),(29,.int .i64 0),(30,.int .i64 0)]) (λ_=>[]) (λ_=>0) (λ_=>True) 0 ?_ trivial ?_
  ·(simp+decide only[go_sem,gcD_eq,gcIds_eq]<;>rfl)
  ·intro i _;have hcl:=λH=>clipS_callN (d:=false) H
   (repeat first|simp only[ww]|(apply xa;simp+decide only[go_sem,hcl];rfl;kernel_rfl))
   refine fqE_r (vs:=[.nilslice,.int .i64 0]) (r:=(_,_)) (by simp+decide only[go_sem]) (by simp+decide only[go_sem,finish]<;>rfl) ⟨_,rfl,.inl rfl⟩
 |cons a r=>
  rw[idxV_cons]at hs;obtain⟨m,hm,hm1,hm2⟩:∃m:Nat,(if((r.length+1:Nat):Int)<n then((r.length+1:Nat):Int)else n)=m∧m≤64∧m≤r.length+1:=by
   simp only[List.length_cons]at hkl;split
   ·exact⟨r.length+1,rfl,by omega,by omega⟩
   ·exact⟨n.toNat,by omega,by omega,by omega⟩
  (refine svE Tryz.f6 ?_;simp only[Tryz.f6,gS])
  (repeat first|simp only[ww]|(apply xa;simp+decide only[go_sem,hp,hs,c1,c2,hm,List.length_cons,List.length_map];rfl;kernel_rfl))
  refine xp_loop3 (σ:=Nat×List Nat×List (List AV)) kp6_1 (λs=>[(1,.int .i64 m),(7,.islice (s.2.1.map intR) (some s.2.1.length)),(8,grV 0 s.2.2),(29,.int .i64 m),(30,.int .i64 s.1)])
   (λs=>grH 1 s.2.2) (λs=>m-s.1) (λs=>s.1≤m∧m-s.1≤s.2.1.length∧s.2.1.length≤14∧FlatR s.2.2∧s.2.2.length=s.1) (0,a::r,[]) ?_ ⟨Nat.zero_le _,by simp only[List.length_cons];omega,hkl,FlatR.nil,rfl⟩ ?_
  ·(simp+decide only[go_sem,gcD_eq,gcIds_eq,grV_nil,grH_nil,List.map_cons,List.length_cons,List.length_map]<;>rfl)
  ·rintro⟨i,R,O⟩ ⟨hi,hR,hR14,hO,hOl⟩
   dsimp only at hi hR hR14 hO hOl⊢;by_cases hlt:i<m
   ·have c5:(i:Int)<m:=by omega
    have hw:=wI1 (n:=i) (by omega);have hwd:IntKind.i64.wrap ((m:Int)-(i:Int))=((m-i:Nat):Int):=by rw[w64 (by omega) (by omega)];omega
    obtain⟨s1,s2,s3,s4,s5⟩:=share (R:=R.length) (d:=m-i) (by omega) hR;have hd0:¬(((m-i:Nat):Int)=0):=by omega
    have hq:IntKind.i64.wrap ((R.length:Int).tdiv ((m-i:Nat):Int))=((R.length/(m-i):Nat):Int):=by rw[show(R.length:Int).tdiv ((m-i:Nat):Int)=((R.length/(m-i):Nat):Int)from rfl];exact w64 (by omega) (by omega)
    by_cases hrem:0<R.length%(m-i)
    ·have c6:(0:Int)<((R.length%(m-i):Nat):Int):=by omega
     have hwq:=wI1 (n:=R.length/(m-i)) (by omega);have s6:=s3 hrem;have s7:=s5 hrem;generalize hkk:R.length/(m-i)+1=k at *;have i1:inB (k:Int) R.length=true:=by unfold inB;simp;omega
     have i2:inB (R.length:Int) R.length=true:=by unfold inB;simp
     have hall:=all1 R;have hcl:=λH=>clone_call (d:=false) H (R.take k) (some R.length) (by rw[List.length_take];omega) (by rw[List.length_take];omega);have hcp:=λH=>clipI_call (d:=false) H (R.take k) none;rw[List.map_take]at hcl hcp;have hrmO:O.length+1≤1000000000:=by omega
     have hnf:refsL [AV.islice ((R.take k).map intR) (some (R.take k).length)]=[]:=by simp only[go_sem,flat_i]
     have hdl:(R.drop k).length=R.length-k:=List.length_drop;cases O with
     |nil=>
      (repeat first|simp only[ww]|(apply xa;simp+decide only[go_sem,c5,c6,hw,hwd,hd0,hq,hwq,i1,i2,hall,hcl,hcp,grV_nil,grH_nil,List.length_map];rfl;kernel_rfl))
      refine lp_n (i+1,R.drop k,[[.islice ((R.take k).map intR) (some (R.take k).length)]]) ?_ (by dsimp only;omega) ⟨hlt,by dsimp only;omega,by dsimp only;omega,FlatR.cons hnf FlatR.nil,by simp at hOl⊢;omega⟩
      (simp+decide only[go_sem,gcD_eq,gcIds_eq,List.map_take,List.map_drop,List.length_drop,grV_cons,grH_cons,flat_i,ren_i]<;>rfl)
     |cons a0 r0=>
      have q1:refsL a0=[]:=hO a0 (List.mem_cons_self ..);have hfr:FlatR r0:=λy hy=>hO y (List.mem_cons_of_mem _ hy);have q2:r0.flatMap refsL=[]:=refs_flatR hfr;have q3:∀π:Nat→Option Nat,a0.map (ren π)=a0:=λπ=>by have:=renR_flat π hO;simp only[List.map_cons,List.cons.injEq]at this;exact this.1
      have q4:∀π:Nat→Option Nat,r0.map (λy=>y.map (ren π))=r0:=λπ=>renR_flat π hfr;simp only[List.length_cons]at hrmO hOl
      (repeat first|simp only[ww]|(apply xa;simp+decide only[go_sem,c5,c6,hw,hwd,hd0,hq,hwq,i1,i2,hall,hcl,hcp,grV_cons,grH_cons,hrmO,List.length_map,List.length_cons];rfl;kernel_rfl))
      refine lp_n (i+1,R.drop k,a0::(r0++[[AV.islice ((R.take k).map intR) (some (R.take k).length)]])) ?_ (by dsimp only;omega) ⟨hlt,by dsimp only;omega,by dsimp only;omega,hO.append (FlatR.cons hnf FlatR.nil),by simp only[List.length_cons,List.length_append,List.length_nil];omega⟩;have q5:∀π:Nat→Option Nat,((R.map intR).take k).map (λr=>r.map (ren π))=(R.map intR).take k:=λπ=>by rw[←List.map_take];exact ren_i π _
      have q6:((R.map intR).take k).flatMap refsL=[]:=by rw[←List.map_take];exact flat_i _
      (simp+decide only[go_sem,gcD_eq,gcIds_eq,q1,q2,q3,q4,q5,q6,List.map_take,List.map_drop,List.length_drop,grV_cons,grH_cons,flat_i,ren_i,List.length_append,List.length_cons,List.length_nil,List.flatMap_append,List.map_append]<;>rfl)
    ·have c6:¬(0:Int)<((R.length%(m-i):Nat):Int):=by omega
     have s6:=s2;have s7:=s4 (by omega);generalize hkk:R.length/(m-i)=k at *;have i1:inB (k:Int) R.length=true:=by unfold inB;simp;omega
     have i2:inB (R.length:Int) R.length=true:=by unfold inB;simp
     have hall:=all1 R;have hcl:=λH=>clone_call (d:=false) H (R.take k) (some R.length) (by rw[List.length_take];omega) (by rw[List.length_take];omega);have hcp:=λH=>clipI_call (d:=false) H (R.take k) none;rw[List.map_take]at hcl hcp;have hrmO:O.length+1≤1000000000:=by omega
     have hnf:refsL [AV.islice ((R.take k).map intR) (some (R.take k).length)]=[]:=by simp only[go_sem,flat_i]
     have hdl:(R.drop k).length=R.length-k:=List.length_drop;cases O with
     |nil=>
      (repeat first|simp only[ww]|(apply xa;simp+decide only[go_sem,c5,c6,hw,hwd,hd0,hq,i1,i2,hall,hcl,hcp,grV_nil,grH_nil,List.length_map];rfl;kernel_rfl))
      refine lp_n (i+1,R.drop k,[[.islice ((R.take k).map intR) (some (R.take k).length)]]) ?_ (by dsimp only;omega) ⟨hlt,by dsimp only;omega,by dsimp only;omega,FlatR.cons hnf FlatR.nil,by simp at hOl⊢;omega⟩
      (simp+decide only[go_sem,gcD_eq,gcIds_eq,List.map_take,List.map_drop,List.length_drop,grV_cons,grH_cons,flat_i,ren_i]<;>rfl)
     |cons a0 r0=>
      have q1:refsL a0=[]:=hO a0 (List.mem_cons_self ..);have hfr:FlatR r0:=λy hy=>hO y (List.mem_cons_of_mem _ hy);have q2:r0.flatMap refsL=[]:=refs_flatR hfr;have q3:∀π:Nat→Option Nat,a0.map (ren π)=a0:=λπ=>by have:=renR_flat π hO;simp only[List.map_cons,List.cons.injEq]at this;exact this.1
      have q4:∀π:Nat→Option Nat,r0.map (λy=>y.map (ren π))=r0:=λπ=>renR_flat π hfr;simp only[List.length_cons]at hrmO hOl
      (repeat first|simp only[ww]|(apply xa;simp+decide only[go_sem,c5,c6,hw,hwd,hd0,hq,i1,i2,hall,hcl,hcp,grV_cons,grH_cons,hrmO,List.length_map,List.length_cons];rfl;kernel_rfl))
      refine lp_n (i+1,R.drop k,a0::(r0++[[AV.islice ((R.take k).map intR) (some (R.take k).length)]])) ?_ (by dsimp only;omega) ⟨hlt,by dsimp only;omega,by dsimp only;omega,hO.append (FlatR.cons hnf FlatR.nil),by simp only[List.length_cons,List.length_append,List.length_nil];omega⟩;have q5:∀π:Nat→Option Nat,((R.map intR).take k).map (λr=>r.map (ren π))=(R.map intR).take k:=λπ=>by rw[←List.map_take];exact ren_i π _
      have q6:((R.map intR).take k).flatMap refsL=[]:=by rw[←List.map_take];exact flat_i _
      (simp+decide only[go_sem,gcD_eq,gcIds_eq,q1,q2,q3,q4,q5,q6,List.map_take,List.map_drop,List.length_drop,grV_cons,grH_cons,flat_i,ren_i,List.length_append,List.length_cons,List.length_nil,List.flatMap_append,List.map_append]<;>rfl)
   ·obtain rfl:i=m:=by omega
    have c5:¬((i:Int)<i):=by omega
    cases O with
    |nil=>
     have hcl:=λH=>clipS_callN (d:=false) H
     (repeat first|simp only[ww]|(apply xa;simp+decide only[go_sem,c5,hcl,grV_nil,grH_nil];rfl;kernel_rfl))
     refine fqE_r (vs:=[.nilslice,.int .i64 0]) (r:=(_,_)) (by simp+decide only[go_sem]) (by simp+decide only[go_sem,finish]<;>rfl) ⟨_,rfl,.inl rfl⟩
    |cons a0 r0=>
     have hcl:=clipS_call (d:=false) (H:=[some (.row 1 (a0::r0))]) (b:=0) (n:=r0.length+1) hO rfl;have hz:=λ(m:Nat) (d:AV→Option AV)=>frzR_flat m d hO
     (repeat first|simp only[ww]|(apply xa;simp+decide only[go_sem,c5,hcl,grV_cons,grH_cons];rfl;kernel_rfl))
     refine fqE_r (vs:=[.slice 0 0 (r0.length+1) (some (r0.length+1)),.int .i64 0]) (r:=(_,_)) (by simp+decide only[go_sem]) (by simp+decide only[go_sem,finish,hz]<;>rfl) ⟨_,rfl,.inr ⟨_,_,rfl,hO⟩⟩
theorem bal_lo(c:Cir)(h:c.wf)(n:Int)(h1:n<1):sem L.env Mf 6 [.agg c.enc,.int .i64 n] []=some (.tuple [.nilslice,.int .i64 1],[]):=by
 have hp:=λH=>plain_call (d:=false) H c h;simp only[Cir.enc]at hp⊢
 (refine sv Tryz.f6 ?_;simp only[Tryz.f6,gS])
 (repeat first|simp only[ww]|(apply xa;simp+decide only[go_sem,hp,h1];rfl;kernel_rfl))
 (apply fqb;simp+decide only[go_sem]<;>rfl)
theorem bal_hi(c:Cir)(h:c.wf)(n:Int)(h1:64<n):sem L.env Mf 6 [.agg c.enc,.int .i64 n] []=some (.tuple [.nilslice,.int .i64 3],[]):=by
 have hp:=λH=>plain_call (d:=false) H c h;have c1:¬n<1:=by omega
 simp only[Cir.enc]at hp⊢
 (refine sv Tryz.f6 ?_;simp only[Tryz.f6,gS])
 (repeat first|simp only[ww]|(apply xa;simp+decide only[go_sem,hp,h1,c1];rfl;kernel_rfl))
 (apply fqb;simp+decide only[go_sem]<;>rfl)
theorem balM_ok(c:Cir)(mm:Mm)(h:wfM c mm)(n:Int):sem L.env Mf 6 [.agg (encM c mm),.int .i64 n] []=some (.tuple [.nilslice,.int .i64 7],[]):=by
 have hp:=λH=>plainM_call (d:=false) H c mm h;simp only[encM,memV]at hp⊢
 (refine sv Tryz.f6 ?_;simp only[Tryz.f6,gS])
 (repeat first|simp only[ww]|(apply xa;simp+decide only[go_sem,hp];rfl;kernel_rfl))
 (apply fqb;simp+decide only[go_sem]<;>rfl)
theorem IsL.refs{v:AV}(h:IsL v):refs v=[]:=by
 rcases h with rfl|⟨rows,cap,rfl,hf⟩
 ·rfl
 ·simp only[go_sem,refs_flatR hf]
/-- Balance of any circuit without a memory: a list and an error; the list is none where there is an error. -/
theorem bal_call(c:Cir)(h:c.wf)(n:Int):∃(v:AV) (e:Int),IsL v∧∀(d:Bool) (H:Heap),callV L.env d (sem L.env Mf) (.func (.func 6) [] []) [.agg c.enc,.int .i64 n] H=some (.tuple [v,.int .i64 e],H,[]):=by
 have fin:∀(v:AV) (e:Int),IsL v→sem L.env Mf 6 [.agg c.enc,.int .i64 n] []=some (.tuple [v,.int .i64 e],[])→∃(v:AV) (e:Int),IsL v∧∀(d:Bool) (H:Heap),callV L.env d (sem L.env Mf) (.func (.func 6) [] []) [.agg c.enc,.int .i64 n] H=some (.tuple [v,.int .i64 e],H,[]):=by intro v e hv hs;exact⟨v,e,hv,λd H=>callV_flat (by kernel_rfl) (by kernel_rfl) rfl (by simp only[List.nil_append,List.append_nil,refsL_cons,refs_agg,Cir.enc,go_sem]) hs (by simp only[go_sem,hv.refs])⟩
 by_cases h1:n<1
 ·exact fin _ _ (.inl rfl) (bal_lo c h n h1)
 ·by_cases h2:64<n
  ·exact fin _ _ (.inl rfl) (bal_hi c h n h2)
  ·obtain⟨q,⟨v,rfl,hv⟩,hs⟩:=bal_ok c h n (by omega) (by omega);exact fin v 0 hv hs
theorem balM_call{d:Bool}(H:Heap)(c:Cir)(mm:Mm)(h:wfM c mm)(n:Int):callV L.env d (sem L.env Mf) (.func (.func 6) [] []) [.agg (encM c mm),.int .i64 n] H=some (.tuple [.nilslice,.int .i64 7],H,[]):=callV_flat (by kernel_rfl) (by kernel_rfl) rfl (by simp only[go_sem,encM,memV]) (balM_ok c mm h n) rfl
/-- A forest's memory: its record, the first number of each node, the parents. -/
def foH(f:Nat)(Fs P:List Nat):Heap:=[some (.row 2 [[.slice 1 0 f none,.slice 2 0 P.length (some P.length)]]),some (.row 1 (Fs.map intR)),some (.row 1 (P.map intR))]
theorem root_ok(f:Nat)(Fs P:List Nat)(d:Nat→Nat)(hP:Par d P)(hl:P.length<1000000)(i:Nat)(hi:i<P.length) :
 ∃q:AV×Heap,(∃(r:Nat) (P':List Nat),q=(.int .i64 r,foH f Fs P')∧r<P.length∧Kept d P P'∧P'[r]?=some r)∧sem L.env Mf 179 [.ptr 0 0 0,.int .i64 i] (foH f Fs P)=some q:=by
 unfold foH
 (refine svE Tryz.f179 ?_;simp only[Tryz.f179,gS])
 (repeat first|simp only[ww]|(apply xa;simp+decide only[go_sem];rfl;kernel_rfl))
 refine xp_lp kp179_0 (λn F H1=>∃(k:Nat) (Q:List Nat),n=d k∧k<P.length∧Kept d P Q∧F=[(0,.ptr 0 0 0),(1,.int .i64 k)]∧H1=foH f Fs Q) (d i) ?_ ?_
 ·exact⟨_,_,by(simp+decide only[go_sem,gcD_eq,gcIds_eq,flat_i,ren_i]<;>rfl),i,P,rfl,hi,Kept.rfl hP,rfl,rfl⟩
 ·rintro n F H1 ⟨k,Q,rfl,hk,hQ,rfl,rfl⟩
  unfold foH;have hQl:=hQ.len;obtain⟨p,hp,hpl,hpd⟩:=hQ.par.get (i:=k) (by omega);obtain⟨q,hq,hql,hqd⟩:=hQ.par.get (i:=p) (by omega);have hk2:k<Q.length:=by omega
  by_cases hne:p=k
  ·subst hne
   (repeat first|simp only[ww]|(apply xa;simp+decide only[go_sem,hp,hk2,List.length_map];rfl;kernel_rfl))
   refine fqE_r (vs:=[.int .i64 p]) (r:=(_,_)) (by simp+decide only[go_sem]) (by simp+decide only[go_sem,finish,ren_i]<;>rfl) ⟨p,Q,rfl,hk,hQ,hp⟩
  ·have c1:¬(p:Int)=k:=by omega
   obtain⟨g1,g2,g3⟩:=hQ.par.halve hp hne hq;have hset:(Q.map intR).set k [.int .i64 q]=(Q.set k q).map intR:=by rw[List.map_set];rfl
   have hg:(Q.set k q)[k]?=some q:=by rw[List.getElem?_set_self hk2]
   have hk3:k<(Q.set k q).length:=by rw[List.length_set];exact hk2
   (repeat first|simp only[ww]|(apply xa;simp+decide only[go_sem,hp,hq,hk2,hk3,hpl,c1,hset,hg,List.length_map];rfl;kernel_rfl))
   exact lpJ_n (d q) g3 ⟨_,_,by(simp+decide only[go_sem,gcD_eq,gcIds_eq,flat_i,ren_i]<;>rfl),q,Q.set k q,rfl,by omega,hQ.trans g1,rfl,by simp only[foH,List.length_set]⟩
theorem root_call{f:Nat}{Fs P:List Nat}{d:Nat→Nat}(hP:Par d P)(hl:P.length<1000000){i:Nat}(hi:i<P.length):∃(r:Nat) (P':List Nat),r<P.length∧Kept d P P'∧P'[r]?=some r∧
 ∀(dr:Bool),callV L.env dr (sem L.env Mf) (.func (.func 179) [] []) [.ptr 0 0 0,.int .i64 i] (foH f Fs P)=some (.int .i64 r,foH f Fs P',[0,1,2]):=by
 obtain⟨q,⟨r,P',rfl,h1,h2,h3⟩,hs⟩:=root_ok f Fs P d hP hl i hi;refine⟨r,P',h1,h2,h3,λdr=>?_⟩;unfold foH at hs⊢;refine callV_eq (by kernel_rfl) (by kernel_rfl) rfl ((callLoc_eq (sem L.env Mf 179) [.ptr 0 0 0,.int .i64 i] _ (σ:=[0,1,2]) (by simp+decide only[go_sem,flat_i]) rfl rfl (args':=[.ptr 0 0 0,.int .i64 i]) rfl (H0:=_) (by simp+decide only[go_sem,ren_i]<;>rfl) hs).trans ?_) rfl;simp+decide only[go_sem,ren_i]<;>rfl
theorem join_ok(f:Nat)(Fs P:List Nat)(d:Nat→Nat)(hP:Par d P)(hl:P.length<1000000)(a b:Nat)(ha:a<P.length)(hb:b<P.length) :
 ∃q:AV×Heap,(∃(d':Nat→Nat) (P':List Nat),q=(.tuple [],foH f Fs P')∧P'.length=P.length∧Par d' P')∧sem L.env Mf 239 [.ptr 0 0 0,.int .i64 a,.int .i64 b] (foH f Fs P)=some q:=by
 obtain⟨ra,P1,a1,a2,a3,a4⟩:=root_call (f:=f) (Fs:=Fs) hP hl ha;obtain⟨rb,P2,b1,b2,b3,b4⟩:=root_call (f:=f) (Fs:=Fs) a2.par (by rw[a2.len];exact hl) (i:=b) (by rw[a2.len];exact hb);obtain⟨d',h'⟩:=b2.par.link (b2.roots _ a3) b3;have a4:=a4 true;have b4:=b4 true;have e1:=a2.len;have e2:=b2.len;have hone:oneOf [] = .tuple []:=rfl;unfold foH at a4 b4⊢;rw[e2,e1]at b4;rw[e1]at a4;have hra:ra<P2.length:=by omega
 have hra':ra<P.length:=by omega
 have hset:(P2.map intR).set ra [.int .i64 rb]=(P2.set ra rb).map intR:=by rw[List.map_set];rfl
 have hg:=b2.roots _ a3;have hres:∃(d':Nat→Nat) (P':List Nat),((.tuple [],[some (.row 2 [[.slice 1 0 f none,.slice 2 0 P.length (some P.length)]]),some (.row 1 (Fs.map intR)),some (.row 1 ((P2.set ra rb).map intR))]):AV×Heap)=(.tuple [],[some (.row 2 [[.slice 1 0 f none,.slice 2 0 P'.length (some P'.length)]]),some (.row 1 (Fs.map intR)),some (.row 1 (P'.map intR))])∧P'.length=P.length∧Par d' P':=⟨d',P2.set ra rb,by rw[List.length_set,e2,e1],by rw[List.length_set];omega,h'⟩
 cases hs1:sameO (some (AObj.row 1 (P.map intR))) (some (AObj.row 1 (P1.map intR)))<;>cases hs2:sameO (some (AObj.row 1 (P1.map intR))) (some (AObj.row 1 (P2.map intR)))
 all_goals
  (refine svE Tryz.f239 ?_;simp only[Tryz.f239,gS])
  (repeat first|simp only[ww]|(apply xa;simp+decide only[go_sem,a4,b4,hra,hra',hs1,hs2,hset,hg,List.length_map];rfl;kernel_rfl))
  refine fqE_n (vs:=[]) (r:=(_,_)) (by simp+decide only[go_sem]) (by simp+decide only[go_sem,finish,ren_i]<;>rfl) hres
theorem join_call{f:Nat}{Fs P:List Nat}{d:Nat→Nat}(hP:Par d P)(hl:P.length<1000000){a b:Nat}(ha:a<P.length)(hb:b<P.length):∃(d':Nat→Nat) (P':List Nat),P'.length=P.length∧Par d' P'∧sem L.env Mf 239 [.ptr 0 0 0,.int .i64 a,.int .i64 b] (foH f Fs P)=some (.tuple [],foH f Fs P'):=by obtain⟨q,⟨d',P',rfl,h1,h2⟩,hs⟩:=join_ok f Fs P d hP hl a b ha hb;exact⟨d',P',h1,h2,hs⟩
end Go.FInst
