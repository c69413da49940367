/- Part of a proof. No condition. -/
import Derived.Test.YtnkhpfincnfloaaGreatDoorFIn
import Derived.Test.YtnkhpfincnfloaaGreatDoorPcP
set_option linter.unusedSimpArgs false
set_option linter.unusedVariables false
namespace Go.FInst
open Go.Proofs Go.Ax Go.Pc
set_option maxRecDepth 100000
def inR0:List AV:=[.int .u8 0,.nilslice,.int .i64 0,.int .i64 0]
def dR(b:Nat):List AV:=[.int .u8 14,.slice b 0 1 (some 1),.int .i64 0,.int .i64 0]
def one(v:Nat):Option AObj:=some (.row 1 [[.int .i64 v]])
def xh(x:CX):Option AObj:=some (.row 12 [x.enc])
def rh:Option AObj:=some (.row 4 [[.nilslice,.nilslice,.nilslice,.nilslice]])
def nV:Nat→AV|0=>.nilslice|i+1=>.slice 3 0 (i+1) none
def nH:Nat→Heap|0=>[]|i+1=>[some (.row 4 (List.replicate (i+1) inR0))]
theorem nV0:nV 0 = .nilslice:=by rfl
theorem nVs(i:Nat):nV (i+1) = .slice 3 0 (i+1) none:=by rfl
theorem nH0:nH 0=[]:=by rfl
theorem nHs(i:Nat):nH (i+1)=[some (.row 4 (List.replicate (i+1) inR0))]:=by rfl
theorem rep_snoc{α:Type}(r:α)(n:Nat):List.replicate n r++[r]=List.replicate (n+1) r:=by rw[List.replicate_succ']
theorem flat_nd(l:List Nd):(l.map Nd.enc).flatMap refsL=[]:=refs_flatR (FlatR.map λx=>by simp only[Nd.enc,refsL,refs_sl,refs];rfl)
theorem ren_nd(π:Nat→Option Nat)(l:List Nd):(l.map Nd.enc).map (λr=>r.map (ren π))=l.map Nd.enc:=renR_flat π (FlatR.map λx=>by simp only[Nd.enc,refsL,refs_sl,refs];rfl)
theorem gN_nil(b:Bool)(ks:List Nat):gN b ks []=[]:=by rfl
/-- A grown slice over block b. -/
def slN(b:Nat):Nat→AV|0=>.nilslice|i+1=>.slice b 0 (i+1) none
theorem slN0(b:Nat):slN b 0 = .nilslice:=by rfl
theorem slNs(b i:Nat):slN b (i+1) = .slice b 0 (i+1) none:=by rfl
def nmR(j:Nat):List AV:=[.str (nameS j)]
def nmH:Nat→Heap|0=>[]|i+1=>[some (.row 1 ((List.range (i+1)).map nmR))]
theorem nmH0:nmH 0=[]:=by rfl
theorem nmHs(i:Nat):nmH (i+1)=[some (.row 1 ((List.range (i+1)).map nmR))]:=by rfl
theorem flat_nm(l:List Nat):(l.map nmR).flatMap refsL=[]:=refs_flatR (FlatR.map λ_=>rfl)
theorem ren_nm(π:Nat→Option Nat)(l:List Nat):(l.map nmR).map (λr=>r.map (ren π))=l.map nmR:=renR_flat π (FlatR.map λ_=>rfl)
theorem nm1:(List.range 1).map nmR=[[.str (nameS 0)]]:=by rfl
theorem nm_snoc(i:Nat):(List.range (i+1+1)).map nmR=(List.range (i+1)).map nmR++[[.str (nameS (i+1))]]:=by rw[List.range_succ,List.map_append];rfl
def otR(n o:Nat):List AV:=[.int .i64 (o%n:Nat)]
def otH(x:CX):Nat→Heap|0=>[]|i+1=>[some (.row 1 ((x.outs.take (i+1)).map (otR x.n)))]
theorem otH0(x:CX):otH x 0=[]:=by rfl
theorem otHs(x:CX)(i:Nat):otH x (i+1)=[some (.row 1 ((x.outs.take (i+1)).map (otR x.n)))]:=by rfl
theorem flat_ot(n:Nat)(l:List Nat):(l.map (otR n)).flatMap refsL=[]:=refs_flatR (FlatR.map λ_=>rfl)
theorem ren_ot(n:Nat)(π:Nat→Option Nat)(l:List Nat):(l.map (otR n)).map (λr=>r.map (ren π))=l.map (otR n):=renR_flat π (FlatR.map λ_=>rfl)
theorem frz_rep{m:Nat}{d:AV→Option AV}{n:Nat}{r:List AV}(h:refsL r=[]):frzR m d (List.replicate n r)=some (List.replicate n r):=frzR_flat m d (FlatR.replicate h)
theorem frz_nd{m:Nat}{d:AV→Option AV}(l:List Nd):frzR m d (l.map Nd.enc)=some (l.map Nd.enc):=frzR_flat m d (flatNd l)
theorem frz_nm{m:Nat}{d:AV→Option AV}(l:List Nat):frzR m d (l.map nmR)=some (l.map nmR):=frzR_flat m d (FlatR.map λ_=>rfl)
theorem frz_ot{m:Nat}{d:AV→Option AV}(n:Nat)(l:List Nat):frzR m d (l.map (otR n))=some (l.map (otR n)):=frzR_flat m d (FlatR.map λ_=>rfl)
theorem take_all{α:Type}{l:List α}{n:Nat}(h:(l.length≤n)=True):l.take n=l:=List.take_of_length_le (of_eq_true h)
theorem ot_int(n:Nat)(l:List Nat):l.map (intR∘λo=>o%n)=l.map (otR n):=by rfl
theorem nm_str(l:List Nat):l.map (strR∘nameS)=l.map nmR:=by rfl
attribute [go_sem] inR0 dR one xh rh nmR otR List.range_zero
theorem name_ok(i:Nat)(hi:i<100):sem L.env Mf 50 [.int .i64 i] []=some (.str (nameS i),[]):=by
 have a1:IntKind.i64.wrap ((i/10:Nat):Int)=((i/10:Nat):Int):=wI (by omega);have a2:IntKind.i64.wrap (48+((i/10:Nat):Int))=((48+i/10:Nat):Int):=by rw[w64 (by omega) (by omega)];omega
 have a3:IntKind.i64.wrap (48+((i%10:Nat):Int))=((48+i%10:Nat):Int):=by rw[w64 (by omega) (by omega)];omega
 have a4:IntKind.u8.wrap ((48+i/10:Nat):Int)=((48+i/10:Nat):Int):=wB (by omega);have a5:IntKind.u8.wrap ((48+i%10:Nat):Int)=((48+i%10:Nat):Int):=wB (by omega)
 (refine sv Tryz.f50 ?_;simp only[Tryz.f50,gS])
 (repeat first|simp only[ww]|(apply xa;simp+decide only[go_sem,a1,a2,a3,a4,a5];rfl;kernel_rfl))
 (apply fqb;simp+decide only[go_sem]<;>rfl)
theorem name_call{d:Bool}(H:Heap)(i:Nat)(hi:i<100):callV L.env d (sem L.env Mf) (.func (.func 50) [] []) [.int .i64 i] H=some (.str (nameS i),H,[]):=callV_flat (by kernel_rfl) (by kernel_rfl) rfl rfl (name_ok i hi) rfl
def trV(b:Nat)(l:List Nat):AV:=match l with|[]=>.nilslice|_::l=>.slice b 0 (l.length+1) none
def trH(l:List Nat):Heap:=match l with|[]=>[]|y::l=>[some (.row 1 (intR y::l.map intR))]
theorem trV_nil(b:Nat):trV b [] = .nilslice:=by rfl
theorem trV_cons(b y:Nat)(l:List Nat):trV b (y::l) = .slice b 0 (l.length+1) none:=by rfl
theorem trH_nil:trH []=[]:=by rfl
theorem trH_cons(y:Nat)(l:List Nat):trH (y::l)=[some (.row 1 (intR y::l.map intR))]:=by rfl
theorem flat_ints(l:List Nat):(l.map intR).flatMap refsL=[]:=refs_flatR (FlatR.map λ_=>rfl)
theorem ren_ints(π:Nat→Option Nat)(l:List Nat):(l.map intR).map (λr=>r.map (ren π))=l.map intR:=renR_flat π (FlatR.map λ_=>rfl)
attribute [go_sem] trV_nil trV_cons trH_nil trH_cons flat_ints ren_ints
theorem row_get(t:Nat)(l:List Nat)(j:Nat)(h:j<l.length+1):([AV.int .i64 (t:Int)]::List.map intR l)[j]?=some [.int .i64 (((t::l).getD j 0:Nat):Int)]:=by have e:([AV.int .i64 (t:Int)]::List.map intR l)=(t::l).map intR:=rfl;rw[e,List.getElem?_map,List.getElem?_eq_getElem (by simpa using h)];simp[intR,List.getD,List.getElem?_eq_getElem (show j<(t::l).length by simpa using h)]
set_option maxHeartbeats 80000000 in
theorem gate_okG(m m1 m2 m3:Nat)(B:List Nat)(X:Heap)(hX:(m=1∧m1=2∧m2=3∧m3=4∧B=[]∧X=[])∨(m=2∧m1=3∧m2=4∧m3=5∧B=[1]∧X=[some (.row 1 [[.int .i64 0]])])∨(m=3∧m1=4∧m2=5∧m3=6∧B=[1,2]∧X=[some (.row 1 [[.int .i64 0]]),some (.row 1 [[.int .i64 0]])]))(x:CX)(g:GX)(hg:g.ok)(R:List (List AV))(ks:List Nat)(cap:Option Nat)(hk:KindRows R ks)(h0:0<ks.length)(hl:ks.length<1000)(hR:R.flatMap refsL=B)(hI:FixR m R) :
 sem L.env Mf 49 [.agg x.enc,.agg g.enc,.slice 0 0 ks.length cap] (some (.row 4 R)::X)=some (.agg (gateNd x.bus g ks).enc,(some (.row 4 R)::X)):=by
 rcases hX with ⟨hm,hm1,hm2,hm3,hB,hX⟩|⟨hm,hm1,hm2,hm3,hB,hX⟩|⟨hm,hm1,hm2,hm3,hB,hX⟩
 all_goals
  obtain⟨hg1,hg2,hg3,hg4⟩:=hg;have w0:=wI (n:=g.i0) (by omega);have w1:=wI (n:=g.i1) (by omega);have w2:=wI (n:=g.i2) (by omega);have hn:¬(ks.length:Int)=0:=by omega
  have hI':∀σ,R.map (λr=>r.map (ren (gcPi m σ)))=R:=λσ=>hI _ (λb hb=>by rw[gcPi_ap,decide_eq_true hb];rfl);have hI2:R.map (λr=>r.map (ren (piBelow m)))=R:=hI _ (λb hb=>by rw[piBelow_ap,decide_eq_true hb];rfl);have w9:=wI (n:=g.kind%9) (by omega);have w13:=wI (n:=g.kind%13) (by omega);rw[hX]
  (refine sv Tryz.f49 ?_;simp only[Tryz.f49,gS])
  (repeat first|simp only[ww]|(apply xa;simp+decide only[go_sem,w0,w1,w2,hn];rfl;kernel_rfl))
  refine xp_loop (σ:=Nat) kp49_0
   (λi=>[(2,.slice 0 0 ks.length cap),(3,.ptr m 0 0),(4,.ptr m1 0 0),(6,.ptr m2 0 0),(7,.int .i64 ks.length),(8,.int .i64 (g.i0%ks.length:Nat)),(9,.int .i64 (g.i1%ks.length:Nat)),(10,.int .i64 (g.i2%ks.length:Nat)),(11,trV m3 (trisTo ks i)),(12,.int .i64 i)])
   (λi=>(some (.row 4 R)::X)++[some (.row 12 [x.enc]),some (.row 4 [g.enc]),some (.row 4 [[.int .u8 0,.nilslice,.int .i64 0,.int .i64 0]])]++trH (trisTo ks i)) (λi=>ks.length-i) (λi=>i≤ks.length) 0 ?_ (Nat.zero_le _) ?_ ?_
  ·subst hm hm1 hm2 hm3 hB hX
   (simp+decide only[go_sem,gcD_eq,gcIds_eq,hR,hI']<;>rfl)
  ·subst hm hm1 hm2 hm3 hB hX;intro i _;cases htr:trisTo ks i with
   |nil=>((simp+decide only[go_sem,gcD_eq,gcIds_eq,hR,hI']<;>rfl))
   |cons a l=>((simp+decide only[go_sem,gcD_eq,gcIds_eq,hR,hI',htr]<;>rfl))
  ·subst hm hm1 hm2 hm3 hB hX;intro i hi;by_cases hlt:i<ks.length
   ·obtain⟨k,hki⟩:∃k,ks[i]?=some k:=⟨_,List.getElem?_eq_getElem hlt⟩
    obtain⟨v,y,z,hr⟩:=hk.2 i k hki;have hd:(i:Int)<ks.length:=by omega
    have hw:=wI1 (n:=i) (by omega);have ht:=trisTo_succ hki;have htl:=trisTo_le ks i;by_cases hk12:k=12
    ·subst hk12;rw[if_pos rfl]at ht;cases htr:trisTo ks i with
     |nil=>
      rw[htr]at ht
      (repeat first|simp only[ww]|(apply xa;simp+decide only[go_sem,hd,hlt,hr,hw];rfl;kernel_rfl))
      refine lp_n (i+1) ?_ (by omega) (by omega)
      ((simp+decide only[go_sem,gcD_eq,gcIds_eq,hR,hI',ht]<;>rfl))
     |cons a l=>
      rw[htr]at ht;rw[htr]at htl;simp only[List.length_cons]at htl;have hrm:l.length+1+1≤1000000000:=by omega
      (repeat first|simp only[ww]|(apply xa;simp+decide only[go_sem,hd,hlt,hr,hw,hrm];rfl;kernel_rfl))
      refine lp_n (i+1) ?_ (by omega) (by omega)
      ((simp+decide only[go_sem,gcD_eq,gcIds_eq,hR,hI',ht,List.map_append,List.flatMap_append]<;>rfl))
    ·rw[if_neg hk12]at ht;have hk':¬(k:Int)=12:=by omega
     (repeat first|simp only[ww]|(apply xa;simp+decide only[go_sem,hd,hlt,hr,hw,hk'];rfl;kernel_rfl))
     refine lp_n (i+1) ?_ (by omega) (by omega);cases htr:trisTo ks i with
     |nil=>
      rw[htr]at ht
      ((simp+decide only[go_sem,gcD_eq,gcIds_eq,hR,hI',ht]<;>rfl))
     |cons a l=>
      rw[htr]at ht
      ((simp+decide only[go_sem,gcD_eq,gcIds_eq,hR,hI',ht]<;>rfl))
   ·have hie:i=ks.length:=by omega
    subst hie;have hd:¬(ks.length:Int)<ks.length:=by omega
    rw[show trisTo ks ks.length=trisOf ks from rfl];have htl:(trisOf ks).length≤ks.length:=trisTo_le ks ks.length
    (repeat first|simp only[ww]|(apply xa;simp+decide only[go_sem,hd,w9,w13];rfl;kernel_rfl))
    rcases htr:trisOf ks with _|⟨t,l⟩
    ·cases hb:x.bus with
     |true=>
      (repeat first|simp only[ww]|(apply xa;simp+decide only[go_sem,hb,w13];rfl;kernel_rfl))
      have wk:IntKind.u8.wrap (((g.kind%13):Nat):Int)=((g.kind%13):Nat):=wB (by omega);have wk5:(g.kind%13)<6→IntKind.u8.wrap (5+(((g.kind%13):Nat):Int))=((5+(g.kind%13):Nat):Int):=λh=>by rw[IntWalk.u8_in _ ⟨by omega,by omega⟩];omega
      by_cases h6:(g.kind%13)<6
      ·have c6:(((g.kind%13):Nat):Int)<6:=by omega
       have wk5:=wk5 h6;by_cases h128:128≤g.kind
       ·have c128:(128:Int)≤g.kind:=by omega
        have e:gateNd true g ks=⟨5+(g.kind%13),some none,[g.i0%ks.length,g.i1%ks.length,g.i2%ks.length],0,0⟩:=by simp[gateNd,h6,h128]
        rw[e]
        (repeat first|simp only[ww]|(apply xa;simp+decide only[go_sem,c6,wk,wk5,c128];rfl;kernel_rfl))
        (apply fqb;simp+decide only[go_sem,hI2,hR]<;>rfl)
       ·have c128:¬(128:Int)≤g.kind:=by omega
        have e:gateNd true g ks=⟨5+(g.kind%13),some (some 2),[g.i0%ks.length,g.i1%ks.length],0,0⟩:=by simp[gateNd,h6,h128]
        rw[e]
        (repeat first|simp only[ww]|(apply xa;simp+decide only[go_sem,c6,wk,wk5,c128];rfl;kernel_rfl))
        (apply fqb;simp+decide only[go_sem,hI2,hR]<;>rfl)
      have c6:¬(((g.kind%13):Nat):Int)<6:=by omega
      by_cases h7:(g.kind%13)=6
      ·have c7:(((g.kind%13):Nat):Int)=6:=by omega
       have e:gateNd true g ks=⟨4,some (some 1),[g.i0%ks.length],0,0⟩:=by simp[gateNd,h7]
       rw[e]
       (repeat first|simp only[ww]|(apply xa;simp+decide only[go_sem,c6,c7];rfl;kernel_rfl))
       (apply fqb;simp+decide only[go_sem,hI2,hR]<;>rfl)
      have c7:¬(((g.kind%13):Nat):Int)=6:=by omega
      by_cases h8:(g.kind%13)=7
      ·have c8:(((g.kind%13):Nat):Int)=7:=by omega
       have e:gateNd true g ks=⟨11,some (some 3),[g.i0%ks.length,g.i1%ks.length,g.i2%ks.length],0,0⟩:=by simp[gateNd,h8]
       rw[e]
       (repeat first|simp only[ww]|(apply xa;simp+decide only[go_sem,c6,c7,c8];rfl;kernel_rfl))
       (apply fqb;simp+decide only[go_sem,hI2,hR]<;>rfl)
      have c8:¬(((g.kind%13):Nat):Int)=7:=by omega
      by_cases h9:(g.kind%13)=9
      ·have c9:(((g.kind%13):Nat):Int)=9:=by omega
       have e:gateNd true g ks=⟨12,some (some 2),[g.i0%ks.length,g.i1%ks.length],0,0⟩:=by simp[gateNd,h9]
       rw[e]
       (repeat first|simp only[ww]|(apply xa;simp+decide only[go_sem,c6,c7,c8,c9];rfl;kernel_rfl))
       (apply fqb;simp+decide only[go_sem,hI2,hR]<;>rfl)
      by_cases h10:(g.kind%13)=10
      ·have c9:¬(((g.kind%13):Nat):Int)=9:=by omega
       have c10:(((g.kind%13):Nat):Int)=10:=by omega
       have e:gateNd true g ks=⟨12,some (some 2),[g.i0%ks.length,g.i1%ks.length],0,0⟩:=by simp[gateNd,h10]
       rw[e]
       (repeat first|simp only[ww]|(apply xa;simp+decide only[go_sem,c6,c7,c8,c9,c10];rfl;kernel_rfl))
       (apply fqb;simp+decide only[go_sem,hI2,hR]<;>rfl)
      have c9:¬(((g.kind%13):Nat):Int)=9:=by omega
      have c10:¬(((g.kind%13):Nat):Int)=10:=by omega
      by_cases h11:10<(g.kind%13)
      ·have c11:(10:Int)<(((g.kind%13):Nat):Int):=by omega
       by_cases h240:240<g.kind
       ·have c240:(240:Int)<g.kind:=by omega
        have u1:IntKind.u8.wrap (1+((g.i0%2:Nat):Int))=((1+g.i0%2:Nat):Int):=by rw[IntWalk.u8_in _ ⟨by omega,by omega⟩];omega
        have e:gateNd true g ks=⟨1+g.i0%2,none,[],0,0⟩:=by simp[gateNd,h6,h7,h8,h9,h10,h240,htr]
        rw[e]
        (repeat first|simp only[ww]|(apply xa;simp+decide only[go_sem,c6,c7,c8,c9,c10,c240,u1,c11];rfl;kernel_rfl))
        (apply fqb;simp+decide only[go_sem,hI2,hR]<;>rfl)
       ·have c240:¬(240:Int)<g.kind:=by omega
        have e:gateNd true g ks=⟨3,some (some 1),[g.i0%ks.length],0,0⟩:=by simp[gateNd,h6,h7,h8,h9,h10,h240,htr]
        rw[e]
        (repeat first|simp only[ww]|(apply xa;simp+decide only[go_sem,c6,c7,c8,c9,c10,c240,c11];rfl;kernel_rfl))
        (apply fqb;simp+decide only[go_sem,hI2,hR]<;>rfl)
      ·have c11:¬(10:Int)<(((g.kind%13):Nat):Int):=by omega
       by_cases h240:240<g.kind
       ·have c240:(240:Int)<g.kind:=by omega
        have u1:IntKind.u8.wrap (1+((g.i0%2:Nat):Int))=((1+g.i0%2:Nat):Int):=by rw[IntWalk.u8_in _ ⟨by omega,by omega⟩];omega
        have e:gateNd true g ks=⟨1+g.i0%2,none,[],0,0⟩:=by simp[gateNd,h6,h7,h8,h9,h10,h240,h11]
        rw[e]
        (repeat first|simp only[ww]|(apply xa;simp+decide only[go_sem,c6,c7,c8,c9,c10,c240,u1,c11];rfl;kernel_rfl))
        (apply fqb;simp+decide only[go_sem,hI2,hR]<;>rfl)
       ·have c240:¬(240:Int)<g.kind:=by omega
        have e:gateNd true g ks=⟨3,some (some 1),[g.i0%ks.length],0,0⟩:=by simp[gateNd,h6,h7,h8,h9,h10,h240,h11]
        rw[e]
        (repeat first|simp only[ww]|(apply xa;simp+decide only[go_sem,c6,c7,c8,c9,c10,c240,c11];rfl;kernel_rfl))
        (apply fqb;simp+decide only[go_sem,hI2,hR]<;>rfl)
     |false=>
      (repeat first|simp only[ww]|(apply xa;simp+decide only[go_sem,hb,w9];rfl;kernel_rfl))
      have wk:IntKind.u8.wrap (((g.kind%9):Nat):Int)=((g.kind%9):Nat):=wB (by omega);have wk5:(g.kind%9)<6→IntKind.u8.wrap (5+(((g.kind%9):Nat):Int))=((5+(g.kind%9):Nat):Int):=λh=>by rw[IntWalk.u8_in _ ⟨by omega,by omega⟩];omega
      by_cases h6:(g.kind%9)<6
      ·have c6:(((g.kind%9):Nat):Int)<6:=by omega
       have wk5:=wk5 h6;by_cases h128:128≤g.kind
       ·have c128:(128:Int)≤g.kind:=by omega
        have e:gateNd false g ks=⟨5+(g.kind%9),some none,[g.i0%ks.length,g.i1%ks.length,g.i2%ks.length],0,0⟩:=by simp[gateNd,h6,h128]
        rw[e]
        (repeat first|simp only[ww]|(apply xa;simp+decide only[go_sem,c6,wk,wk5,c128];rfl;kernel_rfl))
        (apply fqb;simp+decide only[go_sem,hI2,hR]<;>rfl)
       ·have c128:¬(128:Int)≤g.kind:=by omega
        have e:gateNd false g ks=⟨5+(g.kind%9),some (some 2),[g.i0%ks.length,g.i1%ks.length],0,0⟩:=by simp[gateNd,h6,h128]
        rw[e]
        (repeat first|simp only[ww]|(apply xa;simp+decide only[go_sem,c6,wk,wk5,c128];rfl;kernel_rfl))
        (apply fqb;simp+decide only[go_sem,hI2,hR]<;>rfl)
      have c6:¬(((g.kind%9):Nat):Int)<6:=by omega
      by_cases h7:(g.kind%9)=6
      ·have c7:(((g.kind%9):Nat):Int)=6:=by omega
       have e:gateNd false g ks=⟨4,some (some 1),[g.i0%ks.length],0,0⟩:=by simp[gateNd,h7]
       rw[e]
       (repeat first|simp only[ww]|(apply xa;simp+decide only[go_sem,c6,c7];rfl;kernel_rfl))
       (apply fqb;simp+decide only[go_sem,hI2,hR]<;>rfl)
      have c7:¬(((g.kind%9):Nat):Int)=6:=by omega
      by_cases h8:(g.kind%9)=7
      ·have c8:(((g.kind%9):Nat):Int)=7:=by omega
       have e:gateNd false g ks=⟨11,some (some 3),[g.i0%ks.length,g.i1%ks.length,g.i2%ks.length],0,0⟩:=by simp[gateNd,h8]
       rw[e]
       (repeat first|simp only[ww]|(apply xa;simp+decide only[go_sem,c6,c7,c8];rfl;kernel_rfl))
       (apply fqb;simp+decide only[go_sem,hI2,hR]<;>rfl)
      have c8:¬(((g.kind%9):Nat):Int)=7:=by omega
      have c9:¬(((g.kind%9):Nat):Int)=9:=by omega
      have c10:¬(((g.kind%9):Nat):Int)=10:=by omega
      have n9:¬(g.kind%9)=9:=by omega
      have n10:¬(g.kind%9)=10:=by omega
      have c11:¬(10:Int)<(((g.kind%9):Nat):Int):=by omega
      have n11:¬10<(g.kind%9):=by omega
      by_cases h240:240<g.kind
      ·have c240:(240:Int)<g.kind:=by omega
       have u1:IntKind.u8.wrap (1+((g.i0%2:Nat):Int))=((1+g.i0%2:Nat):Int):=by rw[IntWalk.u8_in _ ⟨by omega,by omega⟩];omega
       have e:gateNd false g ks=⟨1+g.i0%2,none,[],0,0⟩:=by simp[gateNd,h6,h7,h8,n9,n10,h240,n11]
       rw[e]
       (repeat first|simp only[ww]|(apply xa;simp+decide only[go_sem,c6,c7,c8,c9,c10,c240,u1,c11];rfl;kernel_rfl))
       (apply fqb;simp+decide only[go_sem,hI2,hR]<;>rfl)
      ·have c240:¬(240:Int)<g.kind:=by omega
       have e:gateNd false g ks=⟨3,some (some 1),[g.i0%ks.length],0,0⟩:=by simp[gateNd,h6,h7,h8,n9,n10,h240,n11]
       rw[e]
       (repeat first|simp only[ww]|(apply xa;simp+decide only[go_sem,c6,c7,c8,c9,c10,c240,c11];rfl;kernel_rfl))
       (apply fqb;simp+decide only[go_sem,hI2,hR]<;>rfl)
    ·cases hb:x.bus with
     |true=>
      (repeat first|simp only[ww]|(apply xa;simp+decide only[go_sem,hb,w13];rfl;kernel_rfl))
      have wk:IntKind.u8.wrap (((g.kind%13):Nat):Int)=((g.kind%13):Nat):=wB (by omega);have wk5:(g.kind%13)<6→IntKind.u8.wrap (5+(((g.kind%13):Nat):Int))=((5+(g.kind%13):Nat):Int):=λh=>by rw[IntWalk.u8_in _ ⟨by omega,by omega⟩];omega
      by_cases h6:(g.kind%13)<6
      ·have c6:(((g.kind%13):Nat):Int)<6:=by omega
       have wk5:=wk5 h6;by_cases h128:128≤g.kind
       ·have c128:(128:Int)≤g.kind:=by omega
        have e:gateNd true g ks=⟨5+(g.kind%13),some none,[g.i0%ks.length,g.i1%ks.length,g.i2%ks.length],0,0⟩:=by simp[gateNd,h6,h128]
        rw[e]
        (repeat first|simp only[ww]|(apply xa;simp+decide only[go_sem,c6,wk,wk5,c128];rfl;kernel_rfl))
        (apply fqb;simp+decide only[go_sem,hI2,hR]<;>rfl)
       ·have c128:¬(128:Int)≤g.kind:=by omega
        have e:gateNd true g ks=⟨5+(g.kind%13),some (some 2),[g.i0%ks.length,g.i1%ks.length],0,0⟩:=by simp[gateNd,h6,h128]
        rw[e]
        (repeat first|simp only[ww]|(apply xa;simp+decide only[go_sem,c6,wk,wk5,c128];rfl;kernel_rfl))
        (apply fqb;simp+decide only[go_sem,hI2,hR]<;>rfl)
      have c6:¬(((g.kind%13):Nat):Int)<6:=by omega
      by_cases h7:(g.kind%13)=6
      ·have c7:(((g.kind%13):Nat):Int)=6:=by omega
       have e:gateNd true g ks=⟨4,some (some 1),[g.i0%ks.length],0,0⟩:=by simp[gateNd,h7]
       rw[e]
       (repeat first|simp only[ww]|(apply xa;simp+decide only[go_sem,c6,c7];rfl;kernel_rfl))
       (apply fqb;simp+decide only[go_sem,hI2,hR]<;>rfl)
      have c7:¬(((g.kind%13):Nat):Int)=6:=by omega
      by_cases h8:(g.kind%13)=7
      ·have c8:(((g.kind%13):Nat):Int)=7:=by omega
       have e:gateNd true g ks=⟨11,some (some 3),[g.i0%ks.length,g.i1%ks.length,g.i2%ks.length],0,0⟩:=by simp[gateNd,h8]
       rw[e]
       (repeat first|simp only[ww]|(apply xa;simp+decide only[go_sem,c6,c7,c8];rfl;kernel_rfl))
       (apply fqb;simp+decide only[go_sem,hI2,hR]<;>rfl)
      have c8:¬(((g.kind%13):Nat):Int)=7:=by omega
      by_cases h9:(g.kind%13)=9
      ·have c9:(((g.kind%13):Nat):Int)=9:=by omega
       have e:gateNd true g ks=⟨12,some (some 2),[g.i0%ks.length,g.i1%ks.length],0,0⟩:=by simp[gateNd,h9]
       rw[e]
       (repeat first|simp only[ww]|(apply xa;simp+decide only[go_sem,c6,c7,c8,c9];rfl;kernel_rfl))
       (apply fqb;simp+decide only[go_sem,hI2,hR]<;>rfl)
      by_cases h10:(g.kind%13)=10
      ·have c9:¬(((g.kind%13):Nat):Int)=9:=by omega
       have c10:(((g.kind%13):Nat):Int)=10:=by omega
       have e:gateNd true g ks=⟨12,some (some 2),[g.i0%ks.length,g.i1%ks.length],0,0⟩:=by simp[gateNd,h10]
       rw[e]
       (repeat first|simp only[ww]|(apply xa;simp+decide only[go_sem,c6,c7,c8,c9,c10];rfl;kernel_rfl))
       (apply fqb;simp+decide only[go_sem,hI2,hR]<;>rfl)
      have c9:¬(((g.kind%13):Nat):Int)=9:=by omega
      have c10:¬(((g.kind%13):Nat):Int)=10:=by omega
      by_cases h11:10<(g.kind%13)
      ·have c11:(10:Int)<(((g.kind%13):Nat):Int):=by omega
       simp only[htr,List.length_cons]at htl;have cp:(0:Int)<((l.length+1:Nat):Int):=by omega
       have nl:¬((l.length+1:Nat):Int)=0:=by omega
       have jl:g.i0%(l.length+1)<l.length+1:=Nat.mod_lt _ (by omega);have hj:([AV.int .i64 (t:Int)]::List.map intR l)[g.i0%(l.length+1)]?=some [.int .i64 (((t::l).getD (g.i0%(l.length+1)) 0:Nat):Int)]:=row_get t l _ jl;by_cases h1:1<l.length+1
       ·have c1:(1:Int)<((l.length+1:Nat):Int):=by omega
        have kl:(g.i0%(l.length+1)+1)%(l.length+1)<l.length+1:=Nat.mod_lt _ (by omega);have hk2:([AV.int .i64 (t:Int)]::List.map intR l)[(g.i0%(l.length+1)+1)%(l.length+1)]?=some [.int .i64 (((t::l).getD ((g.i0%(l.length+1)+1)%(l.length+1)) 0:Nat):Int)]:=row_get t l _ kl;have wj:=wI1 (n:=g.i0%(l.length+1)) (by omega);have e:gateNd true g ks=⟨13,some none,[(t::l).getD (g.i0%(l.length+1)) 0,(t::l).getD ((g.i0%(l.length+1)+1)%(l.length+1)) 0],0,0⟩:=by simp[gateNd,h6,h7,h8,h9,h10,h11,htr,h1]
        rw[e]
        (repeat first|simp only[ww]|(apply xa;simp+decide only[go_sem,c6,c7,c8,c9,c10,c11,cp,nl,w0,jl,hj,c1,kl,hk2,wj];rfl;kernel_rfl))
        (apply fqb;simp+decide only[go_sem,hI2,hR]<;>rfl)
       ·have c1:¬(1:Int)<((l.length+1:Nat):Int):=by omega
        have e:gateNd true g ks=⟨13,some (some 1),[(t::l).getD (g.i0%(l.length+1)) 0],0,0⟩:=by simp[gateNd,h6,h7,h8,h9,h10,h11,htr,h1]
        rw[e]
        (repeat first|simp only[ww]|(apply xa;simp+decide only[go_sem,c6,c7,c8,c9,c10,c11,cp,nl,w0,jl,hj,c1];rfl;kernel_rfl))
        (apply fqb;simp+decide only[go_sem,hI2,hR]<;>rfl)
      ·have c11:¬(10:Int)<(((g.kind%13):Nat):Int):=by omega
       by_cases h240:240<g.kind
       ·have c240:(240:Int)<g.kind:=by omega
        have u1:IntKind.u8.wrap (1+((g.i0%2:Nat):Int))=((1+g.i0%2:Nat):Int):=by rw[IntWalk.u8_in _ ⟨by omega,by omega⟩];omega
        have e:gateNd true g ks=⟨1+g.i0%2,none,[],0,0⟩:=by simp[gateNd,h6,h7,h8,h9,h10,h240,h11]
        rw[e]
        (repeat first|simp only[ww]|(apply xa;simp+decide only[go_sem,c6,c7,c8,c9,c10,c240,u1,c11];rfl;kernel_rfl))
        (apply fqb;simp+decide only[go_sem,hI2,hR]<;>rfl)
       ·have c240:¬(240:Int)<g.kind:=by omega
        have e:gateNd true g ks=⟨3,some (some 1),[g.i0%ks.length],0,0⟩:=by simp[gateNd,h6,h7,h8,h9,h10,h240,h11]
        rw[e]
        (repeat first|simp only[ww]|(apply xa;simp+decide only[go_sem,c6,c7,c8,c9,c10,c240,c11];rfl;kernel_rfl))
        (apply fqb;simp+decide only[go_sem,hI2,hR]<;>rfl)
     |false=>
      (repeat first|simp only[ww]|(apply xa;simp+decide only[go_sem,hb,w9];rfl;kernel_rfl))
      have wk:IntKind.u8.wrap (((g.kind%9):Nat):Int)=((g.kind%9):Nat):=wB (by omega);have wk5:(g.kind%9)<6→IntKind.u8.wrap (5+(((g.kind%9):Nat):Int))=((5+(g.kind%9):Nat):Int):=λh=>by rw[IntWalk.u8_in _ ⟨by omega,by omega⟩];omega
      by_cases h6:(g.kind%9)<6
      ·have c6:(((g.kind%9):Nat):Int)<6:=by omega
       have wk5:=wk5 h6;by_cases h128:128≤g.kind
       ·have c128:(128:Int)≤g.kind:=by omega
        have e:gateNd false g ks=⟨5+(g.kind%9),some none,[g.i0%ks.length,g.i1%ks.length,g.i2%ks.length],0,0⟩:=by simp[gateNd,h6,h128]
        rw[e]
        (repeat first|simp only[ww]|(apply xa;simp+decide only[go_sem,c6,wk,wk5,c128];rfl;kernel_rfl))
        (apply fqb;simp+decide only[go_sem,hI2,hR]<;>rfl)
       ·have c128:¬(128:Int)≤g.kind:=by omega
        have e:gateNd false g ks=⟨5+(g.kind%9),some (some 2),[g.i0%ks.length,g.i1%ks.length],0,0⟩:=by simp[gateNd,h6,h128]
        rw[e]
        (repeat first|simp only[ww]|(apply xa;simp+decide only[go_sem,c6,wk,wk5,c128];rfl;kernel_rfl))
        (apply fqb;simp+decide only[go_sem,hI2,hR]<;>rfl)
      have c6:¬(((g.kind%9):Nat):Int)<6:=by omega
      by_cases h7:(g.kind%9)=6
      ·have c7:(((g.kind%9):Nat):Int)=6:=by omega
       have e:gateNd false g ks=⟨4,some (some 1),[g.i0%ks.length],0,0⟩:=by simp[gateNd,h7]
       rw[e]
       (repeat first|simp only[ww]|(apply xa;simp+decide only[go_sem,c6,c7];rfl;kernel_rfl))
       (apply fqb;simp+decide only[go_sem,hI2,hR]<;>rfl)
      have c7:¬(((g.kind%9):Nat):Int)=6:=by omega
      by_cases h8:(g.kind%9)=7
      ·have c8:(((g.kind%9):Nat):Int)=7:=by omega
       have e:gateNd false g ks=⟨11,some (some 3),[g.i0%ks.length,g.i1%ks.length,g.i2%ks.length],0,0⟩:=by simp[gateNd,h8]
       rw[e]
       (repeat first|simp only[ww]|(apply xa;simp+decide only[go_sem,c6,c7,c8];rfl;kernel_rfl))
       (apply fqb;simp+decide only[go_sem,hI2,hR]<;>rfl)
      have c8:¬(((g.kind%9):Nat):Int)=7:=by omega
      have c9:¬(((g.kind%9):Nat):Int)=9:=by omega
      have c10:¬(((g.kind%9):Nat):Int)=10:=by omega
      have n9:¬(g.kind%9)=9:=by omega
      have n10:¬(g.kind%9)=10:=by omega
      have c11:¬(10:Int)<(((g.kind%9):Nat):Int):=by omega
      have n11:¬10<(g.kind%9):=by omega
      by_cases h240:240<g.kind
      ·have c240:(240:Int)<g.kind:=by omega
       have u1:IntKind.u8.wrap (1+((g.i0%2:Nat):Int))=((1+g.i0%2:Nat):Int):=by rw[IntWalk.u8_in _ ⟨by omega,by omega⟩];omega
       have e:gateNd false g ks=⟨1+g.i0%2,none,[],0,0⟩:=by simp[gateNd,h6,h7,h8,n9,n10,h240,n11]
       rw[e]
       (repeat first|simp only[ww]|(apply xa;simp+decide only[go_sem,c6,c7,c8,c9,c10,c240,u1,c11];rfl;kernel_rfl))
       (apply fqb;simp+decide only[go_sem,hI2,hR]<;>rfl)
      ·have c240:¬(240:Int)<g.kind:=by omega
       have e:gateNd false g ks=⟨3,some (some 1),[g.i0%ks.length],0,0⟩:=by simp[gateNd,h6,h7,h8,n9,n10,h240,n11]
       rw[e]
       (repeat first|simp only[ww]|(apply xa;simp+decide only[go_sem,c6,c7,c8,c9,c10,c240,c11];rfl;kernel_rfl))
       (apply fqb;simp+decide only[go_sem,hI2,hR]<;>rfl)
theorem gate_ok1(x:CX)(g:GX)(hg:g.ok)(R:List (List AV))(ks:List Nat)(cap:Option Nat)(hk:KindRows R ks)(h0:0<ks.length)(hl:ks.length<1000)(hR:R.flatMap refsL=[])(hI:FixR 1 R) :
 sem L.env Mf 49 [.agg x.enc,.agg g.enc,.slice 0 0 ks.length cap] [some (.row 4 R)]=some (.agg (gateNd x.bus g ks).enc,[some (.row 4 R)]):=gate_okG 1 2 3 4 _ _ (.inl ⟨rfl,rfl,rfl,rfl,rfl,rfl⟩) x g hg R ks cap hk h0 hl hR hI
theorem gate_ok2(x:CX)(g:GX)(hg:g.ok)(R:List (List AV))(ks:List Nat)(cap:Option Nat)(hk:KindRows R ks)(h0:0<ks.length)(hl:ks.length<1000)(hR:R.flatMap refsL=[1])(hI:FixR 2 R) :
 sem L.env Mf 49 [.agg x.enc,.agg g.enc,.slice 0 0 ks.length cap] [some (.row 4 R),some (.row 1 [[.int .i64 0]])]=some (.agg (gateNd x.bus g ks).enc,[some (.row 4 R),some (.row 1 [[.int .i64 0]])]):=gate_okG 2 3 4 5 _ _ (.inr (.inl ⟨rfl,rfl,rfl,rfl,rfl,rfl⟩)) x g hg R ks cap hk h0 hl hR hI
theorem gate_ok3(x:CX)(g:GX)(hg:g.ok)(R:List (List AV))(ks:List Nat)(cap:Option Nat)(hk:KindRows R ks)(h0:0<ks.length)(hl:ks.length<1000)(hR:R.flatMap refsL=[1,2])(hI:FixR 3 R) :
 sem L.env Mf 49 [.agg x.enc,.agg g.enc,.slice 0 0 ks.length cap] [some (.row 4 R),some (.row 1 [[.int .i64 0]]),some (.row 1 [[.int .i64 0]])]=some (.agg (gateNd x.bus g ks).enc,[some (.row 4 R),some (.row 1 [[.int .i64 0]]),some (.row 1 [[.int .i64 0]])]):=gate_okG 3 4 5 6 _ _ (.inr (.inr ⟨rfl,rfl,rfl,rfl,rfl,rfl⟩)) x g hg R ks cap hk h0 hl hR hI
theorem gate_call0{d:Bool}(x:CX)(g:GX)(hg:g.ok)(gs:List Nd)(k n:Nat)(hk:0<k)(hn:n=k+0+gs.length)(hl:n<1000)(X0 X1 X2:Option AObj) :
 callV L.env d (sem L.env Mf) (.func (.func 49) [] []) [.agg x.enc,.agg g.enc,.slice 3 0 n none] [X0,X1,X2,some (.row 4 (List.replicate k inR0++[]++gs.map Nd.enc))]=some (.agg (gateNd x.bus g (List.replicate k 0++List.replicate 0 14++gs.map Nd.kind)).enc,[X0,X1,X2,some (.row 4 (List.replicate k inR0++[]++gs.map Nd.enc))],[3]):=by
 have hkr:KindRows (List.replicate k inR0++[]++gs.map Nd.enc) (List.replicate k 0++List.replicate 0 14++gs.map Nd.kind):=(((KindRows.rep k 0 _ _ _).append KindRows.nil).append (KindRows.nds gs))
 have hlen:(List.replicate k 0++List.replicate 0 14++gs.map Nd.kind).length=n:=by simp;omega
 have hr:=gate_ok1 x g hg (List.replicate k inR0++[]++gs.map Nd.enc) (List.replicate k 0++List.replicate 0 14++gs.map Nd.kind) none hkr (by rw[hlen];omega) (by rw[hlen];exact hl) (by simp+decide only[go_sem,flat_nd]) ?_
 ·rw[hlen]at hr;have hc:=callLoc_eq (sem L.env Mf 49) [.agg x.enc,.agg g.enc,.slice 3 0 n none] [X0,X1,X2,some (.row 4 (List.replicate k inR0++[]++gs.map Nd.enc))] (σ:=[3]) (by simp+decide only[go_sem,flat_nd]) (by decide) (by simp+decide only[go_sem]) (args':=[.agg x.enc,.agg g.enc,.slice 0 0 n none]) (by simp+decide only[go_sem]) (H0:=[some (.row 4 (List.replicate k inR0++[]++gs.map Nd.enc))]) (by simp+decide only[go_sem,flat_nd,ren_nd]) hr;refine callV_eq (by kernel_rfl) (by kernel_rfl) rfl (hc.trans ?_) rfl;simp+decide only[go_sem,flat_nd,ren_nd]<;>rfl
 ·refine FixR.append (FixR.append (FixR.flat (FlatR.replicate rfl)) ?_) (FixR.flat (flatNd gs));intro π hπ;simp+decide only[go_sem]
theorem gate_call1{d:Bool}(x:CX)(g:GX)(hg:g.ok)(gs:List Nd)(k n:Nat)(hk:0<k)(hn:n=k+1+gs.length)(hl:n<1000)(X0 X1 X2:Option AObj) :
 callV L.env d (sem L.env Mf) (.func (.func 49) [] []) [.agg x.enc,.agg g.enc,.slice 3 0 n none] [X0,X1,X2,some (.row 4 (List.replicate k inR0++[dR 4]++gs.map Nd.enc)),one 0]=some (.agg (gateNd x.bus g (List.replicate k 0++List.replicate 1 14++gs.map Nd.kind)).enc,[X0,X1,X2,some (.row 4 (List.replicate k inR0++[dR 4]++gs.map Nd.enc)),one 0],[3,4]):=by
 have hkr:KindRows (List.replicate k inR0++[dR 1]++gs.map Nd.enc) (List.replicate k 0++List.replicate 1 14++gs.map Nd.kind):=(((KindRows.rep k 0 _ _ _).append (KindRows.nil).cons).append (KindRows.nds gs))
 have hlen:(List.replicate k 0++List.replicate 1 14++gs.map Nd.kind).length=n:=by simp;omega
 have hr:=gate_ok2 x g hg (List.replicate k inR0++[dR 1]++gs.map Nd.enc) (List.replicate k 0++List.replicate 1 14++gs.map Nd.kind) none hkr (by rw[hlen];omega) (by rw[hlen];exact hl) (by simp+decide only[go_sem,flat_nd]) ?_
 ·rw[hlen]at hr;have hc:=callLoc_eq (sem L.env Mf 49) [.agg x.enc,.agg g.enc,.slice 3 0 n none] [X0,X1,X2,some (.row 4 (List.replicate k inR0++[dR 4]++gs.map Nd.enc)),one 0] (σ:=[3,4]) (by simp+decide only[go_sem,flat_nd]) (by decide) (by simp+decide only[go_sem]) (args':=[.agg x.enc,.agg g.enc,.slice 0 0 n none]) (by simp+decide only[go_sem]) (H0:=[some (.row 4 (List.replicate k inR0++[dR 1]++gs.map Nd.enc)),one 0]) (by simp+decide only[go_sem,flat_nd,ren_nd]) hr;refine callV_eq (by kernel_rfl) (by kernel_rfl) rfl (hc.trans ?_) rfl;simp+decide only[go_sem,flat_nd,ren_nd]<;>rfl
 ·refine FixR.append (FixR.append (FixR.flat (FlatR.replicate rfl)) ?_) (FixR.flat (flatNd gs));intro π hπ;simp+decide only[go_sem,hπ 1 (by omega)]
theorem gate_call2{d:Bool}(x:CX)(g:GX)(hg:g.ok)(gs:List Nd)(k n:Nat)(hk:0<k)(hn:n=k+2+gs.length)(hl:n<1000)(X0 X1 X2:Option AObj) :
 callV L.env d (sem L.env Mf) (.func (.func 49) [] []) [.agg x.enc,.agg g.enc,.slice 3 0 n none] [X0,X1,X2,some (.row 4 (List.replicate k inR0++[dR 4,dR 5]++gs.map Nd.enc)),one 0,one 0]=some (.agg (gateNd x.bus g (List.replicate k 0++List.replicate 2 14++gs.map Nd.kind)).enc,[X0,X1,X2,some (.row 4 (List.replicate k inR0++[dR 4,dR 5]++gs.map Nd.enc)),one 0,one 0],[3,4,5]):=by
 have hkr:KindRows (List.replicate k inR0++[dR 1,dR 2]++gs.map Nd.enc) (List.replicate k 0++List.replicate 2 14++gs.map Nd.kind):=(((KindRows.rep k 0 _ _ _).append ((KindRows.nil).cons).cons).append (KindRows.nds gs))
 have hlen:(List.replicate k 0++List.replicate 2 14++gs.map Nd.kind).length=n:=by simp;omega
 have hr:=gate_ok3 x g hg (List.replicate k inR0++[dR 1,dR 2]++gs.map Nd.enc) (List.replicate k 0++List.replicate 2 14++gs.map Nd.kind) none hkr (by rw[hlen];omega) (by rw[hlen];exact hl) (by simp+decide only[go_sem,flat_nd]) ?_
 ·rw[hlen]at hr;have hc:=callLoc_eq (sem L.env Mf 49) [.agg x.enc,.agg g.enc,.slice 3 0 n none] [X0,X1,X2,some (.row 4 (List.replicate k inR0++[dR 4,dR 5]++gs.map Nd.enc)),one 0,one 0] (σ:=[3,4,5]) (by simp+decide only[go_sem,flat_nd]) (by decide) (by simp+decide only[go_sem]) (args':=[.agg x.enc,.agg g.enc,.slice 0 0 n none]) (by simp+decide only[go_sem]) (H0:=[some (.row 4 (List.replicate k inR0++[dR 1,dR 2]++gs.map Nd.enc)),one 0,one 0]) (by simp+decide only[go_sem,flat_nd,ren_nd]) hr;refine callV_eq (by kernel_rfl) (by kernel_rfl) rfl (hc.trans ?_) rfl;simp+decide only[go_sem,flat_nd,ren_nd]<;>rfl
 ·refine FixR.append (FixR.append (FixR.flat (FlatR.replicate rfl)) ?_) (FixR.flat (flatNd gs));intro π hπ;simp+decide only[go_sem,hπ 1 (by omega),hπ 2 (by omega)]
end Go.FInst
