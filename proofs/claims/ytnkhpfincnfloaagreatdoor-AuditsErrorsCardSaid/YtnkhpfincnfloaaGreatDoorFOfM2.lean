/- Part of a proof. No condition. -/
import Derived.Test.YtnkhpfincnfloaaGreatDoorFGa
import Derived.Test.YtnkhpfincnfloaaGreatDoorFOfHM
set_option linter.unusedSimpArgs false
set_option linter.unusedVariables false
namespace Go.FInst
open Go.Proofs Go.Ax Go.Pc
set_option maxRecDepth 100000
set_option maxHeartbeats 8000000 in
theorem ofM_ok2(x:CX)(hx:x.ok)(hp0:x.p0<256)(hp1:x.p1<256)(hp2:x.p2<256)(hp3:x.p3<256)(hm:x.mem=true)(hd:x.d=2) :
 sem L.env Mf 15 [.agg x.enc] []=some (.agg (encM x.cirM x.memA),[]):=by
 obtain⟨x1,x2,x3,x4,x5,x6⟩:=hx;have hk1:x.inn%4+1=x.k:=rfl;have hd':x.dffs%3=2:=hd;have kk:x.k≤4:=by unfold CX.k;omega
 have kp:0<x.k:=by unfold CX.k;omega
 have gl:x.gs.length≤8:=by unfold CX.gs;rw[List.length_take];omega
 have w4:=wI (n:=x.inn%4) (by omega);have w3:=wI (n:=x.dffs%3) (by omega);obtain⟨k',hk'⟩:∃k',x.k=k'+1:=⟨x.k-1,by omega⟩
 (refine sv Tryz.f15 ?_;simp only[Tryz.f15,gS])
 (repeat first|simp only[ww]|(apply xa;simp+decide only[go_sem];rfl;kernel_rfl))
 -- the inputs
 refine xp_loop (σ:=Nat) kp15_0 (λi=>[(1,.ptr 0 0 0),(2,.ptr 1 0 0),(3,.ptr 2 0 0),(4,.int .i64 i)])
  (λi=>[xh x,rh,some (.row 4 [[nV i,.nilslice,.nilslice,.nilslice]])]++nH i) (λi=>x.k-i) (λi=>i≤x.k) 0 ?_ (Nat.zero_le _) ?_ ?_
 ·(simp+decide only[go_sem,gcD_eq,gcIds_eq,nV0,nH0]<;>rfl)
 ·intro i _;cases i with
  |zero=>((simp+decide only[go_sem,gcD_eq,gcIds_eq,nV0,nH0]<;>rfl))
  |succ i=>((simp+decide only[go_sem,gcD_eq,gcIds_eq,nVs,nHs]<;>rfl))
 ·intro i hi;by_cases hlt:i<x.k
  ·have c1:(i:Int)≤((x.inn%4:Nat):Int):=by omega
   have hw:=wI1 (n:=i) (by omega);cases i with
   |zero=>
    (repeat first|simp only[ww]|(apply xa;simp+decide only[go_sem,w4,c1,hw,nV0,nH0];rfl;kernel_rfl))
    refine lp_n 1 ?_ (by omega) (by omega)
    ((simp+decide only[go_sem,gcD_eq,gcIds_eq,nVs,nHs]<;>rfl))
   |succ i=>
    have hrm:i+1+1≤1000000000:=by omega
    (repeat first|simp only[ww]|(apply xa;simp+decide only[go_sem,w4,c1,hw,nVs,nHs,hrm,rep_snoc];rfl;kernel_rfl))
    refine lp_n (i+1+1) ?_ (by omega) (by omega)
    ((simp+decide only[go_sem,gcD_eq,gcIds_eq,nVs,nHs,rep_snoc]<;>rfl))
  have hik:i=x.k:=by omega
  subst hik;have c1:¬((x.k:Nat):Int)≤((x.inn%4:Nat):Int):=by omega
  have nVk:nV x.k = .slice 3 0 x.k none:=by rw[hk'];rfl
  have nHk:nH x.k=[some (.row 4 (List.replicate x.k inR0))]:=by rw[hk'];rfl
  rw[nVk,nHk]
  (repeat first|simp only[ww]|(apply xa;simp+decide only[go_sem,w4,w3,c1,hd'];rfl;kernel_rfl))
  -- the flip-flops
  refine xp_loop (σ:=Nat) kp15_2 (λi=>[(1,.ptr 0 0 0),(2,.ptr 1 0 0),(3,.ptr 2 0 0),(5,.int .i64 x.k),(6,.int .i64 2),(7,.int .i64 i)])
   (λi=>match i with|0=>[xh x,rh,some (.row 4 [[.slice 3 0 (x.k+0) none,.nilslice,.nilslice,.nilslice]]),some (.row 4 (List.replicate x.k inR0++[]))]++[]|1=>[xh x,rh,some (.row 4 [[.slice 3 0 (x.k+1) none,.nilslice,.nilslice,.nilslice]]),some (.row 4 (List.replicate x.k inR0++[dR 4]))]++[one 0]|_=>[xh x,rh,some (.row 4 [[.slice 3 0 (x.k+2) none,.nilslice,.nilslice,.nilslice]]),some (.row 4 (List.replicate x.k inR0++[dR 4,dR 5]))]++[one 0,one 0]) (λi=>2-i) (λi=>i≤2) 0 ?_ (Nat.zero_le _) ?_ ?_
  ·(simp+decide only[go_sem,gcD_eq,gcIds_eq]<;>rfl)
  ·intro i hi;by_cases hj0:i=0
   ·subst hj0
    ((simp+decide only[go_sem,gcD_eq,gcIds_eq]<;>rfl))
   by_cases hj1:i=1
   ·subst hj1
    ((simp+decide only[go_sem,gcD_eq,gcIds_eq]<;>rfl))
   obtain rfl:i=2:=by omega
   ((simp+decide only[go_sem,gcD_eq,gcIds_eq]<;>rfl))
  ·intro i hi;by_cases hj0:i=0
   ·subst hj0;have hrm:x.k+0+1≤1000000000:=by omega
    have hw:=wI1 (n:=0) (by omega)
    (repeat first|simp only[ww]|(apply xa;simp+decide only[go_sem,hrm,rep_snoc,hw];rfl;kernel_rfl))
    refine lp_n 1 ?_ (by omega) (by omega)
    ((simp+decide only[go_sem,gcD_eq,gcIds_eq,List.append_assoc]<;>rfl))
   by_cases hj1:i=1
   ·subst hj1;have hrm:x.k+1+1≤1000000000:=by omega
    have hw:=wI1 (n:=1) (by omega)
    (repeat first|simp only[ww]|(apply xa;simp+decide only[go_sem,hrm,rep_snoc,hw];rfl;kernel_rfl))
    refine lp_n 2 ?_ (by omega) (by omega)
    ((simp+decide only[go_sem,gcD_eq,gcIds_eq,List.append_assoc]<;>rfl))
   obtain rfl:i=2:=by omega
   have hrm9:x.k+2+1+1≤1000000000:=by omega
   have hrm8:x.k+2+2≤1000000000:=by omega
   (repeat first|simp only[ww]|(apply xa;simp+decide only[go_sem,hm,hrm8,hrm9];rfl;kernel_rfl))
   -- the gates
   refine xp_loop (σ:=Nat) kp15_4 (λi=>[(1,.ptr 0 0 0),(2,.ptr 1 0 0),(3,.ptr 2 0 0),(5,.int .i64 x.k),(6,.int .i64 2),(8,.int .i64 i)])
    (λi=>[xh x,rh,some (.row 4 [[.slice 3 0 (x.k+4+i) none,.nilslice,.nilslice,.nilslice]]),some (.row 4 (List.replicate x.k inR0++[dR 4,dR 5,mR0,mR1]++(gN x.bus x.baseM (x.gates.take i)).map Nd.enc))]++[one 0,one 0]) (λi=>x.gs.length-i) (λi=>i≤x.gs.length) 0 ?_ (Nat.zero_le _) ?_ ?_
   ·(simp+decide only[go_sem,gcD_eq,gcIds_eq,hm,List.take_zero,gN_nil,List.append_assoc]<;>rfl)
   ·intro i _
    (simp+decide only[go_sem,gcD_eq,gcIds_eq,hm,flat_nd,ren_nd,List.append_assoc]<;>rfl)
   ·intro i hi;have hgl:x.gs.length=min 8 x.gates.length:=by unfold CX.gs;rw[List.length_take]
    by_cases hlt:i<x.gs.length
    ·obtain⟨g,hg⟩:∃g,x.gates[i]?=some g:=⟨_,List.getElem?_eq_getElem (by omega)⟩
     have c1:(i:Int)<x.gates.length:=by omega
     have c1':i<x.gates.length:=by omega
     have c2:(i:Int)<8:=by omega
     have hw:=wI1 (n:=i) (by omega);have hgok:g.ok:=x5 g (List.mem_of_getElem? hg);have hgn:(gN x.bus x.baseM (x.gates.take i)).length=i:=by rw[gN_length,List.length_take];omega
     have hs:=gN_snoc x.bus g (x.gates.take i) x.baseM;rw[←take_snoc hg]at hs;have hcall:=gate_call2 (d:=true) x g hgok (mN++gN x.bus x.baseM (x.gates.take i)) x.k (x.k+4+i) kp (by rw[List.length_append,hgn];show _=_+(2+i);omega) (by omega) (xh x) rh (some (.row 4 [[.slice 3 0 (x.k+4+i) none,.nilslice,.nilslice,.nilslice]]));rw[show List.replicate x.k 0++List.replicate 2 14++(mN++gN x.bus x.baseM (x.gates.take i)).map Nd.kind=x.baseM++(gN x.bus x.baseM (x.gates.take i)).map Nd.kind by show _=x.base++[15,15]++_;unfold CX.base;rw[hd];simp[mN,mNd]]at hcall;generalize gateNd x.bus g (x.baseM++(gN x.bus x.baseM (x.gates.take i)).map Nd.kind)=nd at hcall hs;simp+decide only[go_sem,hm,List.append_assoc,mN_map]at hcall;have hrm:x.k+4+i+1≤1000000000:=by omega
     have hlen:decide (x.k+4+i=x.k+(i+1+1+1+1))=true:=decide_eq_true (by omega)
     (repeat first|simp only[ww]|(apply xa;simp+decide only[go_sem,hm,c1,c1',c2,hw,hg,hcall,hrm,hlen,List.append_assoc,hgn];rfl;kernel_rfl))
     refine lp_n (i+1) ?_ (by omega) (by omega);rw[hs]
     (simp+decide only[go_sem,gcD_eq,gcIds_eq,hm,flat_nd,ren_nd,List.append_assoc]<;>rfl)
    have hie:i=x.gs.length:=by omega
    subst hie;rw[x.gs_take];have hgn:(gN x.bus x.baseM x.gs).length=x.gs.length:=gN_length _ _ _;have hnn:x.nM=x.k+4+x.gs.length:=by unfold CX.nM;omega
    rw[←hnn];generalize hG:gN x.bus x.baseM x.gs=gg at hgn;have hnp:0<x.nM:=by omega
    have hnl:x.nM≤16:=by omega
    have hn0:¬(x.nM:Int)=0:=by omega
    have hstop:¬((x.gs.length:Int)<x.gates.length∧(x.gs.length:Int)<8):=by omega
    -- the guard of the loop's end is decided in either case
    have hfin:∀F,F=[(1,AV.ptr 0 0 0),(2,.ptr 1 0 0),(3,.ptr 2 0 0),(5,.int .i64 x.k),(6,.int .i64 2),(8,.int .i64 x.gs.length)]→True:=λ_ _=>trivial;rcases Nat.lt_or_ge x.gs.length x.gates.length with g1|g1
    all_goals first
    |(have c1:(x.gs.length:Int)<x.gates.length:=(by omega);have c2:¬(x.gs.length:Int)<8:=(by omega);(repeat first|simp only[ww]|(apply xa;simp+decide only[go_sem,c1,c2,hm];rfl;kernel_rfl)))
    |(have c1:¬(x.gs.length:Int)<x.gates.length:=(by omega);(repeat first|simp only[ww]|(apply xa;simp+decide only[go_sem,c1,hm];rfl;kernel_rfl)))
    all_goals
     -- the flip-flops' data
     refine xp_loop (σ:=Nat) kp15_6 (λi=>[(1,.ptr 0 0 0),(2,.ptr 1 0 0),(3,.ptr 2 0 0),(5,.int .i64 x.k),(6,.int .i64 2),(9,.int .i64 x.nM),(10,.int .i64 i)])
      (λi=>match i with|0=>[xh x,rh,some (.row 4 [[.slice 3 0 x.nM none,.nilslice,.nilslice,.nilslice]]),some (.row 4 (List.replicate x.k inR0++[dR 4,dR 5,mR0,mR1]++gg.map Nd.enc))]++[one 0,one 0]|1=>[xh x,rh,some (.row 4 [[.slice 3 0 x.nM none,.nilslice,.nilslice,.nilslice]]),some (.row 4 (List.replicate x.k inR0++[dR 4,dR 5,mR0,mR1]++gg.map Nd.enc))]++[one (x.d0%x.nM),one 0]|_=>[xh x,rh,some (.row 4 [[.slice 3 0 x.nM none,.nilslice,.nilslice,.nilslice]]),some (.row 4 (List.replicate x.k inR0++[dR 4,dR 5,mR0,mR1]++gg.map Nd.enc))]++[one (x.d0%x.nM),one (x.d1%x.nM)]) (λi=>2-i) (λi=>i≤2) 0 ?_ (Nat.zero_le _) ?_ ?_
     ·(simp+decide only[go_sem,gcD_eq,gcIds_eq,hm,flat_nd,ren_nd,List.append_assoc]<;>rfl)
     ·intro i hi;by_cases hj0:i=0
      ·subst hj0
       (simp+decide only[go_sem,gcD_eq,gcIds_eq,hm,flat_nd,ren_nd,List.append_assoc]<;>rfl)
      by_cases hj1:i=1
      ·subst hj1
       (simp+decide only[go_sem,gcD_eq,gcIds_eq,hm,flat_nd,ren_nd,List.append_assoc]<;>rfl)
      obtain rfl:i=2:=by omega
      (simp+decide only[go_sem,gcD_eq,gcIds_eq,hm,flat_nd,ren_nd,List.append_assoc]<;>rfl)
     ·intro i hi;by_cases hj0:i=0
      ·subst hj0;have hw:=wI1 (n:=0) (by omega);have hwa:IntKind.i64.wrap ((x.k:Int)+(((0:Nat)):Int))=((x.k+0:Nat):Int):=by rw[w64 (by omega) (by omega)];omega
       have hwa':IntKind.i64.wrap ((x.k:Int)+0)=((x.k+0:Nat):Int):=by rw[w64 (by omega) (by omega)];omega
       have wd:=wI (n:=x.d0) (by omega);have hin:x.k+0<x.nM:=by omega
       have hin':x.k<x.nM:=by omega
       (repeat first|simp only[ww]|(apply xa;simp+decide only[go_sem,hm,hw,hwa,hwa',wd,hn0,hin,hin',get_rep,get_rep0,set_rep,set_rep0,List.append_assoc];rfl;kernel_rfl))
       refine lp_n 1 ?_ (by omega) (by omega)
       (simp+decide only[go_sem,gcD_eq,gcIds_eq,hm,flat_nd,ren_nd,List.append_assoc]<;>rfl)
      by_cases hj1:i=1
      ·subst hj1;have hw:=wI1 (n:=1) (by omega);have hwa:IntKind.i64.wrap ((x.k:Int)+(((1:Nat)):Int))=((x.k+1:Nat):Int):=by rw[w64 (by omega) (by omega)];omega
       have hwa':IntKind.i64.wrap ((x.k:Int)+1)=((x.k+1:Nat):Int):=by rw[w64 (by omega) (by omega)];omega
       have wd:=wI (n:=x.d1) (by omega);have hin:x.k+1<x.nM:=by omega
       have hin':x.k<x.nM:=by omega
       (repeat first|simp only[ww]|(apply xa;simp+decide only[go_sem,hm,hw,hwa,hwa',wd,hn0,hin,hin',get_rep,get_rep0,set_rep,set_rep0,List.append_assoc];rfl;kernel_rfl))
       refine lp_n 2 ?_ (by omega) (by omega)
       (simp+decide only[go_sem,gcD_eq,gcIds_eq,hm,flat_nd,ren_nd,List.append_assoc]<;>rfl)
      obtain rfl:i=2:=by omega
      have wp0:=wI (n:=x.p0) (by omega);have wp1:=wI (n:=x.p1) (by omega);have wp2:=wI (n:=x.p2) (by omega);have wp3:=wI (n:=x.p3) (by omega)
      (repeat first|simp only[ww]|(apply xa;simp+decide only[go_sem,hm,hn0,wp0,wp1,wp2,wp3];rfl;kernel_rfl))
      -- the names
      refine xp_loop (σ:=Nat) kp15_8 (λi=>[(1,.ptr 0 0 0),(2,.ptr 1 0 0),(3,.ptr 2 0 0),(9,.int .i64 x.nM),(11,.int .i64 i)])
       (λi=>[xh x,rh,some (.row 4 [[.slice 3 0 x.nM none,slN 6 i,mVn 6 i,.nilslice]]),some (.row 4 (List.replicate x.k inR0++[dR 4,dR 5,mR0,mR1]++gg.map Nd.enc))]++[one (x.d0%x.nM),one (x.d1%x.nM)]++nmH i++mHn x 6 i) (λi=>x.nM-i) (λi=>i≤x.nM) 0 ?_ (Nat.zero_le _) ?_ ?_
      ·(simp+decide only[go_sem,gcD_eq,gcIds_eq,hm,slN0,nmH0,mVn0,mHn0,flat_nd,ren_nd,List.append_assoc]<;>rfl)
      ·intro i _;cases i with
       |zero=>(simp+decide only[go_sem,gcD_eq,gcIds_eq,hm,slN0,nmH0,mVn0,mHn0,flat_nd,ren_nd,List.append_assoc]<;>rfl)
       |succ i=>(simp+decide only[go_sem,gcD_eq,gcIds_eq,hm,slNs,nmHs,mVns,mHns,flat_nd,ren_nd,flat_nm,ren_nm,List.append_assoc]<;>rfl)
      ·intro i hi;by_cases hlt:i<x.nM
       ·have c1:(i:Int)<x.nM:=by omega
        have hw:=wI1 (n:=i) (by omega);have hcall:=λH=>name_call (d:=true) H i (by omega);have hrm:i+1≤1000000000:=by omega
        cases i with
        |zero=>
         (repeat first|simp only[ww]|(apply xa;simp+decide only[go_sem,hm,c1,hw,hcall,slN0,nmH0,mVn0,mHn0];rfl;kernel_rfl))
         refine lp_n 1 ?_ (by omega) (by omega)
         (simp+decide only[go_sem,gcD_eq,gcIds_eq,hm,slNs,nmHs,mVns,mHns,flat_nd,ren_nd,nm1,List.append_assoc]<;>rfl)
        |succ i=>
         have hrm:i+1+1≤1000000000:=by omega
         (repeat first|simp only[ww]|(apply xa;simp+decide only[go_sem,hm,c1,hw,hcall,slNs,nmHs,mVns,mHns,hrm,List.length_range];rfl;kernel_rfl))
         refine lp_n (i+1+1) ?_ (by omega) (by omega)
         (simp+decide only[go_sem,gcD_eq,gcIds_eq,hm,slNs,nmHs,mVns,mHns,flat_nd,ren_nd,flat_nm,ren_nm,nm_snoc,List.append_assoc]<;>rfl)
       have hie:i=x.nM:=by omega
       subst hie;have c1:¬(x.nM:Int)<x.nM:=by omega
       obtain⟨n',hn'⟩:∃n',x.nM=n'+1:=⟨x.nM-1,by omega⟩
       have e1:slN 6 x.nM = .slice 6 0 x.nM none:=by rw[hn'];rfl
       have e2:nmH x.nM=[some (.row 1 ((List.range x.nM).map nmR))]:=by rw[hn'];rfl
       have e3:mVn 6 x.nM = .slice 7 0 1 (some 1):=by rw[hn'];rfl
       have e4:mHn x 6 x.nM=mH x 7:=by rw[hn'];rfl
       rw[e1,e2,e3,e4]
       (repeat first|simp only[ww]|(apply xa;simp+decide only[go_sem,hm,c1,mH];rfl;kernel_rfl))
       -- the outputs
       refine xp_loop (σ:=Nat) kp15_10 (λi=>[(1,.ptr 0 0 0),(2,.ptr 1 0 0),(3,.ptr 2 0 0),(9,.int .i64 x.nM),(12,.int .i64 i)])
        (λi=>[xh x,rh,some (.row 4 [[.slice 3 0 x.nM none,.slice 6 0 x.nM none,.slice 7 0 1 (some 1),slN 10 i]]),some (.row 4 (List.replicate x.k inR0++[dR 4,dR 5,mR0,mR1]++gg.map Nd.enc))]++[one (x.d0%x.nM),one (x.d1%x.nM)]++[some (.row 1 ((List.range x.nM).map nmR))]++mH x 7++otHM x i) (λi=>3-i) (λi=>i≤3∧i≤x.outs.length) 0 ?_ ⟨by omega,by omega⟩ ?_ ?_
       ·(simp+decide only[go_sem,gcD_eq,gcIds_eq,hm,slN0,otHM0,mH,flat_nd,ren_nd,flat_nm,ren_nm,List.append_assoc]<;>rfl)
       ·intro i _;cases i with
        |zero=>(simp+decide only[go_sem,gcD_eq,gcIds_eq,hm,slN0,otHM0,mH,flat_nd,ren_nd,flat_nm,ren_nm,List.append_assoc]<;>rfl)
        |succ i=>(simp+decide only[go_sem,gcD_eq,gcIds_eq,hm,slNs,otHMs,mH,flat_nd,ren_nd,flat_nm,ren_nm,flat_ot,ren_ot,List.append_assoc]<;>rfl)
       ·intro i hi;by_cases hlt:i<3∧i<x.outs.length
        ·obtain⟨o,ho⟩:∃o,x.outs[i]?=some o:=⟨_,List.getElem?_eq_getElem hlt.2⟩
         have hol:=x6 o (List.mem_of_getElem? ho);have wo:=wI (n:=o) (by omega);have c1:(i:Int)<x.outs.length:=by omega
         have c1':i<x.outs.length:=by omega
         have c2:(i:Int)<3:=by omega
         have hw:=wI1 (n:=i) (by omega);have ht:=take_snoc ho;have htl:(x.outs.take i).length=i:=by rw[List.length_take];omega
         cases i with
         |zero=>
          (repeat first|simp only[ww]|(apply xa;simp+decide only[go_sem,hm,c1,c1',c2,hw,ho,wo,hn0,slN0,otHM0,mH];rfl;kernel_rfl))
          refine lp_n 1 ?_ (by omega) ⟨by omega,by omega⟩
          (simp+decide only[go_sem,gcD_eq,gcIds_eq,hm,slNs,otHMs,mH,flat_nd,ren_nd,flat_nm,ren_nm,ht,List.take_zero,List.append_assoc]<;>rfl)
         |succ i=>
          have hrm:i+1+1≤1000000000:=by omega
          (repeat first|simp only[ww]|(apply xa;simp+decide only[go_sem,hm,c1,c1',c2,hw,ho,wo,hn0,slNs,otHMs,mH,hrm,htl];rfl;kernel_rfl))
          refine lp_n (i+1+1) ?_ (by omega) ⟨by omega,by omega⟩
          (simp+decide only[go_sem,gcD_eq,gcIds_eq,hm,slNs,otHMs,mH,flat_nd,ren_nd,flat_nm,ren_nm,flat_ot,ren_ot,ht,List.append_assoc]<;>rfl)
        have hio:x.outs.take i=x.outs.take 3:=by
         by_cases h3:i=3
         ·rw[h3]
         ·rw[List.take_of_length_le (by omega),List.take_of_length_le (by omega)]
        have hil:(x.outs.take i).length=i:=by rw[List.length_take];omega
        have hwn:IntKind.i64.wrap ((x.nM:Int)-1)=((x.nM-1:Nat):Int):=by rw[w64 (by omega) (by omega)];omega
        have hres:x.cirM=⟨some none,List.replicate x.k inNd++[dffNd (x.d0%x.nM),dffNd (x.d1%x.nM),mNd 0,mNd 1]++gg,some none,(List.range x.nM).map nameS,some none,(x.outs.take i).map (·% x.nM)++[x.nM-1]⟩:=by rw[hio,←hG];simp[CX.cirM,CX.nodesM,CX.dnM,CX.outNM,mN,hd]
        rw[hres];have hle1:x.nM≤x.k+4+gg.length:=by omega
        have hle2:x.k+4+gg.length≤x.nM:=by omega
        cases i with
        |zero=>
         have c1:¬((0:Nat):Int)<x.outs.length:=by omega
         (repeat first|simp only[ww]|(apply xa;simp+decide only[go_sem,hm,c1,slN0,otHM0,mH,hwn,hil];rfl;kernel_rfl))
         (apply fqb;simp+decide only[go_sem,hm,frz_rep,frz_nd,frz_nm,frz_ot,frzR_append,List.map_map,hil,inNd,dffNd,mNd,nm_str,encM,memV,take_all,hle1,hle2,List.length_range,Nat.le_refl,ot_int,List.take_zero]<;>rfl)
        |succ i=>
         have hrm:i+1+1≤1000000000:=by omega
         rcases Nat.lt_or_ge (i+1) x.outs.length with g1|g1
         all_goals first
         |(have c1:((i+1:Nat):Int)<x.outs.length:=(by omega);have c2:¬((i+1:Nat):Int)<3:=(by omega);(repeat first|simp only[ww]|(apply xa;simp+decide only[go_sem,hm,c1,c2,slNs,otHMs,mH,hrm,hwn,hil];rfl;kernel_rfl)))
         |(have c1:¬((i+1:Nat):Int)<x.outs.length:=(by omega);(repeat first|simp only[ww]|(apply xa;simp+decide only[go_sem,hm,c1,slNs,otHMs,mH,hrm,hwn,hil];rfl;kernel_rfl)))
         all_goals (apply fqb;simp+decide only[go_sem,hm,frz_rep,frz_nd,frz_nm,frz_ot,frzR_append,List.map_map,hil,inNd,dffNd,mNd,nm_str,encM,memV,take_all,hle1,hle2,List.length_range,Nat.le_refl,ot_int]<;>rfl)
end Go.FInst
