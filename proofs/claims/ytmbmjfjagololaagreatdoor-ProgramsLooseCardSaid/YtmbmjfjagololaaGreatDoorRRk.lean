/- Part of a proof. No condition. -/
import Derived.Test.YtmbmjfjagololaaGreatDoorRRj
set_option linter.unusedSectionVars false
set_option linter.unusedSimpArgs false
set_option linter.unusedVariables false
namespace Go.RInst
set_option maxHeartbeats 200000000
open Go.Proofs Go.Ax Go.Pc
variable [PR]
set_option maxRecDepth 100000
theorem c1d(H:a08)(c:Nat)(n:List UInt8)(hc:a04 H c=some (.row 1 [[.str n]])):a0j L.env false (sem L.env Mf) (.func (.func 100) [] []) [.nilslice,.func (.func 101) [] [.ptr c 0 0]] H=some (.int .i64 (-1),H,[c]):=by
 have hlt:=a0t hc;refine a6h [c] (by kernel_rfl) (by kernel_rfl) rfl ?_ rfl (by simpa using hlt) ?_ (args':=[.nilslice,.func (.func 101) [] [.ptr 0 0 0]]) ?_ (H0:=[some (.row 1 [[.str n]])]) (by simp[hc]) (d1i n) rfl
 ·show a0h H 1000000 [c] []=_;exact a7n (by rw[hc];rfl)
 ·intro b hb;simp only[List.mem_singleton]at hb;subst hb;rw[hc];intro π;rfl
 ·simp[ren,b9b,a4d,a36,List.idxOf?_cons]
theorem b25(H:a08)(a c:Nat)(n:List UInt8)(l:List Tm)(hl:l.length≤100000)(ha:a04 H a=some (.row 6 (l.map Tm.enc)))(hc:a04 H c=some (.row 1 [[.str n]]))(hac:a≠c):a0j L.env false (sem L.env Mf) (.func (.func 100) [] []) [.slice a 0 l.length none,.func (.func 101) [] [.ptr c 0 0]] H=some (.int .i64 (fnd n (l.map Tm.name)),H,[a,c]):=by
 have h1:=a0t ha;have h2:=a0t hc;refine a6h [a,c] (by kernel_rfl) (by kernel_rfl) rfl ?_ (by simp[a11,a19,a03,a06,hac.symm]) (by simp[h1,h2]) ?_ (args':=[.slice 0 0 l.length none,.func (.func 101) [] [.ptr 1 0 0]]) ?_ (H0:=[some (.row 6 (l.map Tm.enc)),some (.row 1 [[.str n]])]) (by simp[ha,hc]) (d1j n l hl) rfl
 ·show a0h H 1000000 [a,c] []=_;exact b7u hac (by rw[ha];exact a01 (a0g l)) (by rw[hc];rfl)
 ·intro b hb;simp only[List.mem_cons,List.not_mem_nil,or_false]at hb;rcases hb with rfl|rfl
  ·rw[ha];exact FlatO.row (a0g l)
  ·rw[hc];intro π;rfl
 ·simp[ren,b9b,a4d,a36,List.idxOf?_cons,hac]
theorem c2q(sum:Int)(nm:List UInt8):sem L.env Mf 85 [.ptr 0 0 0,.str nm] [some (.row 4 [[.nilslice,.nilslice,.nilslice,.int .i64 sum]])]=some (.int .i64 (-1),[some (.row 4 [[.nilslice,.nilslice,.nilslice,.int .i64 sum]])]):=by
 have hcf:=c1d [some (.row 4 [[.nilslice,.nilslice,.nilslice,.int .i64 sum]]),some (.row 1 [[.str nm]])] 1 nm rfl
 (refine sv Tryz.f85 ?_;simp only[Tryz.f85,gS])
 (repeat first|simp only[ww]|(apply xa;simp+decide only[go_sem,hcf];rfl;kernel_rfl))
 (apply fqb;simp+decide only[go_sem]<;>rfl)
theorem b11(sum:Int)(nm:List UInt8)(T:List Tm)(hTl:T.length≤100000):sem L.env Mf 85 [.ptr 0 0 0,.str nm] [some (.row 4 [[.nilslice,.slice 1 0 T.length none,.nilslice,.int .i64 sum]]),some (.row 6 (T.map Tm.enc))]=some (.int .i64 (fnd nm (T.map Tm.name)),[some (.row 4 [[.nilslice,.slice 1 0 T.length none,.nilslice,.int .i64 sum]]),some (.row 6 (T.map Tm.enc))]):=by
 have hT1:=λπ=>a02 π (a0g T);have hT2:=a01 (a0g T);have hTn:(T.map Tm.enc).length=T.length:=List.length_map ..;have hcf:=b25 [some (.row 4 [[.nilslice,.slice 1 0 T.length none,.nilslice,.int .i64 sum]]),some (.row 6 (T.map Tm.enc)),some (.row 1 [[.str nm]])] 1 2 nm T hTl rfl rfl (by decide)
 (refine sv Tryz.f85 ?_;simp only[Tryz.f85,gS])
 (repeat first|simp only[ww]|(apply xa;simp+decide only[go_sem,hcf];rfl;kernel_rfl))
 (apply fqb;simp+decide only[go_sem,hT1,hT2]<;>rfl)
theorem b5q(sum:Int)(nm:List UInt8)(T:List Tm)(hTl:T.length≤100000)(V:List Vc):sem L.env Mf 85 [.ptr 0 0 0,.str nm] [some (.row 4 [[.nilslice,.slice 1 0 T.length none,.slice 2 0 V.length none,.int .i64 sum]]),some (.row 6 (T.map Tm.enc)),some (.row 3 (V.map Vc.enc))]=some (.int .i64 (fnd nm (T.map Tm.name)),[some (.row 4 [[.nilslice,.slice 1 0 T.length none,.slice 2 0 V.length none,.int .i64 sum]]),some (.row 6 (T.map Tm.enc)),some (.row 3 (V.map Vc.enc))]):=by
 have hT1:=λπ=>a02 π (a0g T);have hT2:=a01 (a0g T);have hTn:(T.map Tm.enc).length=T.length:=List.length_map ..;have hV1:=λπ=>a02 π (a0b V);have hV2:=a01 (a0b V);have hcf:=b25 [some (.row 4 [[.nilslice,.slice 1 0 T.length none,.slice 2 0 V.length none,.int .i64 sum]]),some (.row 6 (T.map Tm.enc)),some (.row 3 (V.map Vc.enc)),some (.row 1 [[.str nm]])] 1 3 nm T hTl rfl rfl (by decide)
 (refine sv Tryz.f85 ?_;simp only[Tryz.f85,gS])
 (repeat first|simp only[ww]|(apply xa;simp+decide only[go_sem,hcf];rfl;kernel_rfl))
 (apply fqb;simp+decide only[go_sem,hT1,hT2,hV1,hV2]<;>rfl)
theorem c2p(sum:Int)(nm:List UInt8)(S:List Sg):sem L.env Mf 85 [.ptr 0 0 0,.str nm] [some (.row 4 [[.slice 1 0 S.length none,.nilslice,.nilslice,.int .i64 sum]]),some (.row 2 (S.map Sg.enc))]=some (.int .i64 (-1),[some (.row 4 [[.slice 1 0 S.length none,.nilslice,.nilslice,.int .i64 sum]]),some (.row 2 (S.map Sg.enc))]):=by
 have hS1:=λπ=>a02 π (a0z S);have hS2:=a01 (a0z S);have hcf:=c1d [some (.row 4 [[.slice 1 0 S.length none,.nilslice,.nilslice,.int .i64 sum]]),some (.row 2 (S.map Sg.enc)),some (.row 1 [[.str nm]])] 2 nm rfl
 (refine sv Tryz.f85 ?_;simp only[Tryz.f85,gS])
 (repeat first|simp only[ww]|(apply xa;simp+decide only[go_sem,hcf];rfl;kernel_rfl))
 (apply fqb;simp+decide only[go_sem,hS1,hS2]<;>rfl)
theorem b10(sum:Int)(nm:List UInt8)(S:List Sg)(T:List Tm)(hTl:T.length≤100000):sem L.env Mf 85 [.ptr 0 0 0,.str nm] [some (.row 4 [[.slice 1 0 S.length none,.slice 2 0 T.length none,.nilslice,.int .i64 sum]]),some (.row 2 (S.map Sg.enc)),some (.row 6 (T.map Tm.enc))]=some (.int .i64 (fnd nm (T.map Tm.name)),[some (.row 4 [[.slice 1 0 S.length none,.slice 2 0 T.length none,.nilslice,.int .i64 sum]]),some (.row 2 (S.map Sg.enc)),some (.row 6 (T.map Tm.enc))]):=by
 have hS1:=λπ=>a02 π (a0z S);have hS2:=a01 (a0z S);have hT1:=λπ=>a02 π (a0g T);have hT2:=a01 (a0g T);have hTn:(T.map Tm.enc).length=T.length:=List.length_map ..;have hcf:=b25 [some (.row 4 [[.slice 1 0 S.length none,.slice 2 0 T.length none,.nilslice,.int .i64 sum]]),some (.row 2 (S.map Sg.enc)),some (.row 6 (T.map Tm.enc)),some (.row 1 [[.str nm]])] 2 3 nm T hTl rfl rfl (by decide)
 (refine sv Tryz.f85 ?_;simp only[Tryz.f85,gS])
 (repeat first|simp only[ww]|(apply xa;simp+decide only[go_sem,hcf];rfl;kernel_rfl))
 (apply fqb;simp+decide only[go_sem,hS1,hS2,hT1,hT2]<;>rfl)
theorem b5p(sum:Int)(nm:List UInt8)(S:List Sg)(T:List Tm)(hTl:T.length≤100000)(V:List Vc):sem L.env Mf 85 [.ptr 0 0 0,.str nm] [some (.row 4 [[.slice 1 0 S.length none,.slice 2 0 T.length none,.slice 3 0 V.length none,.int .i64 sum]]),some (.row 2 (S.map Sg.enc)),some (.row 6 (T.map Tm.enc)),some (.row 3 (V.map Vc.enc))]=some (.int .i64 (fnd nm (T.map Tm.name)),[some (.row 4 [[.slice 1 0 S.length none,.slice 2 0 T.length none,.slice 3 0 V.length none,.int .i64 sum]]),some (.row 2 (S.map Sg.enc)),some (.row 6 (T.map Tm.enc)),some (.row 3 (V.map Vc.enc))]):=by
 have hS1:=λπ=>a02 π (a0z S);have hS2:=a01 (a0z S);have hT1:=λπ=>a02 π (a0g T);have hT2:=a01 (a0g T);have hTn:(T.map Tm.enc).length=T.length:=List.length_map ..;have hV1:=λπ=>a02 π (a0b V);have hV2:=a01 (a0b V);have hcf:=b25 [some (.row 4 [[.slice 1 0 S.length none,.slice 2 0 T.length none,.slice 3 0 V.length none,.int .i64 sum]]),some (.row 2 (S.map Sg.enc)),some (.row 6 (T.map Tm.enc)),some (.row 3 (V.map Vc.enc)),some (.row 1 [[.str nm]])] 2 4 nm T hTl rfl rfl (by decide)
 (refine sv Tryz.f85 ?_;simp only[Tryz.f85,gS])
 (repeat first|simp only[ww]|(apply xa;simp+decide only[go_sem,hcf];rfl;kernel_rfl))
 (apply fqb;simp+decide only[go_sem,hS1,hS2,hT1,hT2,hV1,hV2]<;>rfl)
theorem c7d(sum:Int)(n:Nat)(R:List (List AV))(nm w0 w1 w2 w3 w4:List UInt8)(hRl:R.length=n)(hn7:7≤n)(hRf:FlatR R)(hR1:R[1]?=some [.str nm])(hR2:∀j w,[w0,w1,w2,w3,w4][j]?=some w→R[2+j]?=some [.str w])(hnum:∀w∈[w0,w1,w2,w3,w4],NumOk w)(htm:a5j ⟨nm,a0d w0,a0d w1,a0d w2,a0d w3,a0d w4⟩=true) :
 ∃r:AV×a08,(∃c H1,r=(.tuple [],H1)∧a04 H1 0=some (.row 4 [[.nilslice,.slice c 0 (([]:List Tm).length+1) none,.nilslice,.int .i64 sum]])∧a04 H1 c=some (.row 6 ((([]:List Tm)++[⟨nm,a0d w0,a0d w1,a0d w2,a0d w3,a0d w4⟩]:List Tm).map Tm.enc)))∧sem L.env Mf 66 [.ptr 0 0 0,.slice 1 0 7 (some n)] [some (.row 4 [[.nilslice,.nilslice,.nilslice,.int .i64 sum]]),some (.row 1 R)]=some r:=by
 have hmt:=λd H e=>a1b (d:=d) H e;have hn1:=λd H w hw=>a5p (d:=d) H w hw;have r1:=λπ=>a02 π hRf;have r2:=a01 hRf;have q1:1<n:=by omega
 have q2:(7:Nat)-2=5:=rfl;have q7:7≤n:=hn7;have b41:Nat.beq 41 82=false:=by decide
 have hws:[w0,w1,w2,w3,w4].length=5:=rfl;obtain⟨ws,hwe⟩:∃ws,ws=[w0,w1,w2,w3,w4]:=⟨_,rfl⟩
 have hN5:Nat→ws.length=5:=λ_=>by rw[hwe];rfl
 rw[←hwe]at hR2 hnum
 (refine svE Tryz.f66 ?_;simp only[Tryz.f66,gS])
 (repeat first|simp only[ww]|(apply xa;simp+decide only[go_sem,hmt,hRl,q1,q7];rfl;kernel_rfl))
 refine a0p (σ:=Nat) kp66_0 (λi=>[(0,.ptr 0 0 0),(1,.slice 1 0 7 (some n)),(4,grV 2 ((ws.take i).map λw=>[AV.int .i64 (a0d w:Nat)])),(13,.slice 1 2 5 (some (n-2))),(14,.int .i64 5),(15,.int .i64 (i:Nat))]) (λi=>[some (.row 4 [[.nilslice,.nilslice,.nilslice,.int .i64 sum]]),some (.row 1 R)]++grH 1 ((ws.take i).map λw=>[AV.int .i64 (a0d w:Nat)])) (λi=>5-i) (λi=>i≤5) 0 ?_ (Nat.zero_le _) ?_
 ·(simp+decide only[go_sem,a09,a05,r1,r2,List.take_zero,List.map_nil,a0a,a0c,List.append_nil]<;>rfl)
 ·intro i hi;have hNf:∀i,FlatR ((ws.take i).map λw=>[AV.int .i64 (a0d w:Nat)]):=λi=>FlatR.map λ_=>rfl;have hNl:((ws.take i).map λw=>[AV.int .i64 (a0d w:Nat)]).length=i:=by rw[List.length_map,List.length_take,hN5 0];omega
  by_cases hlt:i<5
  ·have l1:(i:Int)<5:=by omega
   obtain⟨w,hw⟩:∃w,ws[i]?=some w:=⟨_,z9e (by rw[hN5 0];exact hlt)⟩
   have hg:=hR2 i w hw;have hnw:=λd H=>hn1 d H w (hnum w (List.mem_of_getElem? hw));have hwi:IntKind.i64.wrap ((i:Int)+1)=((i+1:Nat):Int):=by rw[w64 (by omega) (by omega)];omega
   have hsr:((ws.take (i+1)).map λw=>[AV.int .i64 (a0d w:Nat)])=((ws.take i).map λw=>[AV.int .i64 (a0d w:Nat)])++[[.int .i64 (a0d w:Nat)]]:=by rw[a59 hw,List.map_append];rfl
   have n5:=a01 (hNf (i+1));have n6:=λπ=>a02 π (hNf (i+1));have m5:=a01 (hNf i);have m6:=λπ=>a02 π (hNf i);have q3:2+i<n:=by omega
   have hrm:i+1≤1000000000:=by omega
   by_cases hk:i=0
   ·subst hk;have e0:((ws.take 0).map λw=>[AV.int .i64 (a0d w:Nat)])=[]:=rfl;rw[e0]at hsr⊢;simp only[List.nil_append]at hsr;simp only[a0a,a0c,List.append_nil]
    (repeat first|simp only[ww]|(apply xa;simp+decide only[go_sem,l1,hlt,hg,hnw,hwi,hRl,q3,Nat.add_zero];rfl;kernel_rfl))
    refine a22 (0+1) ?_ (by omega) (by omega)
    (simp+decide only[go_sem,a09,a05,hsr,a1q,a1k,List.length_nil,r1,r2]<;>rfl)
   ·have hne':((ws.take i).map λw=>[AV.int .i64 (a0d w:Nat)])≠[]:=by intro e;rw[e]at hNl;simp at hNl;omega
    rw[a0k 2 hne',a0n 1 hne',hNl];rw[hsr]at n5 n6;generalize((ws.take i).map λw=>[AV.int .i64 (a0d w:Nat)])=NRR at *;simp only[List.cons_append,List.nil_append]
    (repeat first|simp only[ww]|(apply xa;simp+decide only[go_sem,l1,hlt,hg,hnw,hwi,hRl,q3,hNl,hrm];rfl;kernel_rfl))
    refine a22 (i+1) ?_ (by omega) (by omega)
    (simp+decide only[go_sem,a09,a05,hsr,a2h,a2i,hNl,n5,n6,r1,r2,List.cons_append,List.nil_append]<;>rfl)
  ·obtain rfl:i=5:=by omega
   have l1:¬((5:Nat):Int)<5:=by omega
   have e5:((ws.take 5).map λw=>[AV.int .i64 (a0d w:Nat)])=[[.int .i64 (a0d w0:Nat)],[.int .i64 (a0d w1:Nat)],[.int .i64 (a0d w2:Nat)],[.int .i64 (a0d w3:Nat)],[.int .i64 (a0d w4:Nat)]]:=by rw[hwe];rfl
   rw[e5];simp only[a1q,a1k,List.cons_append,List.nil_append,List.length_cons,List.length_nil];have hvl:=λd H=>a0l (E:=L.env) (draw:=d) (call:=sem L.env Mf) (g:=49) (fs:=[]) (cs:=[]) (ar:=[.agg [.str nm,.int .i64 (a0d w0:Nat),.int .i64 (a0d w1:Nat),.int .i64 (a0d w2:Nat),.int .i64 (a0d w3:Nat),.int .i64 (a0d w4:Nat)]]) (H:=H) (by kernel_rfl) (by kernel_rfl) rfl (by rfl) ((b7l ⟨nm,a0d w0,a0d w1,a0d w2,a0d w3,a0d w4⟩).trans (by rw[htm])) rfl;have hfd0:=c2q sum nm
   skip
   skip
   have hfd:a0j L.env false (sem L.env Mf) (.func (.func 85) [] []) [.ptr 0 0 0,.str nm] [some (.row 4 [[.nilslice,.nilslice,.nilslice,.int .i64 sum]]),some (.row 1 R),some (.row 1 [[.int .i64 (a0d w0:Nat)],[.int .i64 (a0d w1:Nat)],[.int .i64 (a0d w2:Nat)],[.int .i64 (a0d w3:Nat)],[.int .i64 (a0d w4:Nat)]]),some (.row 6 [[.str nm,.int .i64 (a0d w0:Nat),.int .i64 (a0d w1:Nat),.int .i64 (a0d w2:Nat),.int .i64 (a0d w3:Nat),.int .i64 (a0d w4:Nat)]])]=some (.int .i64 (-1),[some (.row 4 [[.nilslice,.nilslice,.nilslice,.int .i64 sum]]),some (.row 1 R),some (.row 1 [[.int .i64 (a0d w0:Nat)],[.int .i64 (a0d w1:Nat)],[.int .i64 (a0d w2:Nat)],[.int .i64 (a0d w3:Nat)],[.int .i64 (a0d w4:Nat)]]),some (.row 6 [[.str nm,.int .i64 (a0d w0:Nat),.int .i64 (a0d w1:Nat),.int .i64 (a0d w2:Nat),.int .i64 (a0d w3:Nat),.int .i64 (a0d w4:Nat)]])],[0]):=by have hc:=a0o (sem L.env Mf 85) [.ptr 0 0 0,.str nm] [some (.row 4 [[.nilslice,.nilslice,.nilslice,.int .i64 sum]]),some (.row 1 R),some (.row 1 [[.int .i64 (a0d w0:Nat)],[.int .i64 (a0d w1:Nat)],[.int .i64 (a0d w2:Nat)],[.int .i64 (a0d w3:Nat)],[.int .i64 (a0d w4:Nat)]]),some (.row 6 [[.str nm,.int .i64 (a0d w0:Nat),.int .i64 (a0d w1:Nat),.int .i64 (a0d w2:Nat),.int .i64 (a0d w3:Nat),.int .i64 (a0d w4:Nat)]])] (σ:=[0]) (by simp+decide only[go_sem]<;>rfl) rfl rfl (args':=[.ptr 0 0 0,.str nm]) rfl (H0:=[some (.row 4 [[.nilslice,.nilslice,.nilslice,.int .i64 sum]])]) (by simp+decide only[go_sem,a0u]) hfd0;refine a1x (by kernel_rfl) (by kernel_rfl) rfl (hc.trans ?_);simp+decide only[go_sem,a0s]<;>rfl
   skip
   skip
   (repeat first|simp only[ww]|(apply xa;simp+decide only[go_sem,l1,hmt,hR1,hRl,q1,hvl,hfd,b41];rfl;kernel_rfl))
   (apply a2v;(·simp+decide only[go_sem]<;>rfl))
   exact⟨_,_,rfl,rfl,rfl⟩
theorem c7c(sum:Int)(n:Nat)(R:List (List AV))(nm w0 w1 w2 w3 w4:List UInt8)(T:List Tm)(hTl:T.length≤100000)(hne:T≠[])(hl:T.length<16)(hno:nm∉T.map Tm.name)(hRl:R.length=n)(hn7:7≤n)(hRf:FlatR R)(hR1:R[1]?=some [.str nm])(hR2:∀j w,[w0,w1,w2,w3,w4][j]?=some w→R[2+j]?=some [.str w])(hnum:∀w∈[w0,w1,w2,w3,w4],NumOk w)(htm:a5j ⟨nm,a0d w0,a0d w1,a0d w2,a0d w3,a0d w4⟩=true) :
 ∃r:AV×a08,(∃c H1,r=(.tuple [],H1)∧a04 H1 0=some (.row 4 [[.nilslice,.slice c 0 (T.length+1) none,.nilslice,.int .i64 sum]])∧a04 H1 c=some (.row 6 ((T++[⟨nm,a0d w0,a0d w1,a0d w2,a0d w3,a0d w4⟩]:List Tm).map Tm.enc)))∧sem L.env Mf 66 [.ptr 0 0 0,.slice 2 0 7 (some n)] [some (.row 4 [[.nilslice,.slice 1 0 T.length none,.nilslice,.int .i64 sum]]),some (.row 6 (T.map Tm.enc)),some (.row 1 R)]=some r:=by
 have hmt:=λd H e=>a1b (d:=d) H e;have hn1:=λd H w hw=>a5p (d:=d) H w hw;have r1:=λπ=>a02 π hRf;have r2:=a01 hRf;have hT1:=λπ=>a02 π (a0g T);have hT2:=a01 (a0g T);have hTn:(T.map Tm.enc).length=T.length:=List.length_map ..;have q1:1<n:=by omega
 have q2:(7:Nat)-2=5:=rfl;have q7:7≤n:=hn7;have b41:Nat.beq 41 82=false:=by decide
 have hws:[w0,w1,w2,w3,w4].length=5:=rfl;obtain⟨ws,hwe⟩:∃ws,ws=[w0,w1,w2,w3,w4]:=⟨_,rfl⟩
 have hN5:Nat→ws.length=5:=λ_=>by rw[hwe];rfl
 rw[←hwe]at hR2 hnum
 (refine svE Tryz.f66 ?_;simp only[Tryz.f66,gS])
 (repeat first|simp only[ww]|(apply xa;simp+decide only[go_sem,hmt,hRl,q1,q7];rfl;kernel_rfl))
 refine a0p (σ:=Nat) kp66_0 (λi=>[(0,.ptr 0 0 0),(1,.slice 2 0 7 (some n)),(4,grV 3 ((ws.take i).map λw=>[AV.int .i64 (a0d w:Nat)])),(13,.slice 2 2 5 (some (n-2))),(14,.int .i64 5),(15,.int .i64 (i:Nat))]) (λi=>[some (.row 4 [[.nilslice,.slice 1 0 T.length none,.nilslice,.int .i64 sum]]),some (.row 6 (T.map Tm.enc)),some (.row 1 R)]++grH 1 ((ws.take i).map λw=>[AV.int .i64 (a0d w:Nat)])) (λi=>5-i) (λi=>i≤5) 0 ?_ (Nat.zero_le _) ?_
 ·(simp+decide only[go_sem,a09,a05,r1,r2,hT1,hT2,List.take_zero,List.map_nil,a0a,a0c,List.append_nil]<;>rfl)
 ·intro i hi;have hNf:∀i,FlatR ((ws.take i).map λw=>[AV.int .i64 (a0d w:Nat)]):=λi=>FlatR.map λ_=>rfl;have hNl:((ws.take i).map λw=>[AV.int .i64 (a0d w:Nat)]).length=i:=by rw[List.length_map,List.length_take,hN5 0];omega
  by_cases hlt:i<5
  ·have l1:(i:Int)<5:=by omega
   obtain⟨w,hw⟩:∃w,ws[i]?=some w:=⟨_,z9e (by rw[hN5 0];exact hlt)⟩
   have hg:=hR2 i w hw;have hnw:=λd H=>hn1 d H w (hnum w (List.mem_of_getElem? hw));have hwi:IntKind.i64.wrap ((i:Int)+1)=((i+1:Nat):Int):=by rw[w64 (by omega) (by omega)];omega
   have hsr:((ws.take (i+1)).map λw=>[AV.int .i64 (a0d w:Nat)])=((ws.take i).map λw=>[AV.int .i64 (a0d w:Nat)])++[[.int .i64 (a0d w:Nat)]]:=by rw[a59 hw,List.map_append];rfl
   have n5:=a01 (hNf (i+1));have n6:=λπ=>a02 π (hNf (i+1));have m5:=a01 (hNf i);have m6:=λπ=>a02 π (hNf i);have q3:2+i<n:=by omega
   have hrm:i+1≤1000000000:=by omega
   by_cases hk:i=0
   ·subst hk;have e0:((ws.take 0).map λw=>[AV.int .i64 (a0d w:Nat)])=[]:=rfl;rw[e0]at hsr⊢;simp only[List.nil_append]at hsr;simp only[a0a,a0c,List.append_nil]
    (repeat first|simp only[ww]|(apply xa;simp+decide only[go_sem,l1,hlt,hg,hnw,hwi,hRl,q3,Nat.add_zero];rfl;kernel_rfl))
    refine a22 (0+1) ?_ (by omega) (by omega)
    (simp+decide only[go_sem,a09,a05,hsr,a1q,a1k,List.length_nil,r1,r2,hT1,hT2]<;>rfl)
   ·have hne':((ws.take i).map λw=>[AV.int .i64 (a0d w:Nat)])≠[]:=by intro e;rw[e]at hNl;simp at hNl;omega
    rw[a0k 3 hne',a0n 1 hne',hNl];rw[hsr]at n5 n6;generalize((ws.take i).map λw=>[AV.int .i64 (a0d w:Nat)])=NRR at *;simp only[List.cons_append,List.nil_append]
    (repeat first|simp only[ww]|(apply xa;simp+decide only[go_sem,l1,hlt,hg,hnw,hwi,hRl,q3,hNl,hrm];rfl;kernel_rfl))
    refine a22 (i+1) ?_ (by omega) (by omega)
    (simp+decide only[go_sem,a09,a05,hsr,a2h,a2i,hNl,n5,n6,r1,r2,hT1,hT2,List.cons_append,List.nil_append]<;>rfl)
  ·obtain rfl:i=5:=by omega
   have l1:¬((5:Nat):Int)<5:=by omega
   have e5:((ws.take 5).map λw=>[AV.int .i64 (a0d w:Nat)])=[[.int .i64 (a0d w0:Nat)],[.int .i64 (a0d w1:Nat)],[.int .i64 (a0d w2:Nat)],[.int .i64 (a0d w3:Nat)],[.int .i64 (a0d w4:Nat)]]:=by rw[hwe];rfl
   rw[e5];simp only[a1q,a1k,List.cons_append,List.nil_append,List.length_cons,List.length_nil];have hvl:=λd H=>a0l (E:=L.env) (draw:=d) (call:=sem L.env Mf) (g:=49) (fs:=[]) (cs:=[]) (ar:=[.agg [.str nm,.int .i64 (a0d w0:Nat),.int .i64 (a0d w1:Nat),.int .i64 (a0d w2:Nat),.int .i64 (a0d w3:Nat),.int .i64 (a0d w4:Nat)]]) (H:=H) (by kernel_rfl) (by kernel_rfl) rfl (by rfl) ((b7l ⟨nm,a0d w0,a0d w1,a0d w2,a0d w3,a0d w4⟩).trans (by rw[htm])) rfl;have hfd0:=b11 sum nm T (by omega);have hneg:=(c04 nm (T.map Tm.name)).2 hno;generalize fnd nm (T.map Tm.name)=zz at hfd0 hneg;have hfd:a0j L.env false (sem L.env Mf) (.func (.func 85) [] []) [.ptr 0 0 0,.str nm] [some (.row 4 [[.nilslice,.slice 1 0 T.length none,.nilslice,.int .i64 sum]]),some (.row 6 (T.map Tm.enc)),some (.row 1 R),some (.row 1 [[.int .i64 (a0d w0:Nat)],[.int .i64 (a0d w1:Nat)],[.int .i64 (a0d w2:Nat)],[.int .i64 (a0d w3:Nat)],[.int .i64 (a0d w4:Nat)]]),some (.row 6 [[.str nm,.int .i64 (a0d w0:Nat),.int .i64 (a0d w1:Nat),.int .i64 (a0d w2:Nat),.int .i64 (a0d w3:Nat),.int .i64 (a0d w4:Nat)]])]=some (.int .i64 zz,[some (.row 4 [[.nilslice,.slice 1 0 T.length none,.nilslice,.int .i64 sum]]),some (.row 6 (T.map Tm.enc)),some (.row 1 R),some (.row 1 [[.int .i64 (a0d w0:Nat)],[.int .i64 (a0d w1:Nat)],[.int .i64 (a0d w2:Nat)],[.int .i64 (a0d w3:Nat)],[.int .i64 (a0d w4:Nat)]]),some (.row 6 [[.str nm,.int .i64 (a0d w0:Nat),.int .i64 (a0d w1:Nat),.int .i64 (a0d w2:Nat),.int .i64 (a0d w3:Nat),.int .i64 (a0d w4:Nat)]])],[0,1]):=by have hc:=a0o (sem L.env Mf 85) [.ptr 0 0 0,.str nm] [some (.row 4 [[.nilslice,.slice 1 0 T.length none,.nilslice,.int .i64 sum]]),some (.row 6 (T.map Tm.enc)),some (.row 1 R),some (.row 1 [[.int .i64 (a0d w0:Nat)],[.int .i64 (a0d w1:Nat)],[.int .i64 (a0d w2:Nat)],[.int .i64 (a0d w3:Nat)],[.int .i64 (a0d w4:Nat)]]),some (.row 6 [[.str nm,.int .i64 (a0d w0:Nat),.int .i64 (a0d w1:Nat),.int .i64 (a0d w2:Nat),.int .i64 (a0d w3:Nat),.int .i64 (a0d w4:Nat)]])] (σ:=[0,1]) (by simp+decide only[go_sem,hT1,hT2]<;>rfl) rfl rfl (args':=[.ptr 0 0 0,.str nm]) rfl (H0:=[some (.row 4 [[.nilslice,.slice 1 0 T.length none,.nilslice,.int .i64 sum]]),some (.row 6 (T.map Tm.enc))]) (by simp+decide only[go_sem,a0u,hT1,hT2]) hfd0;refine a1x (by kernel_rfl) (by kernel_rfl) rfl (hc.trans ?_);simp+decide only[go_sem,a0s,hT1,hT2]<;>rfl
   have c6:(T.length:Int)<16:=by omega
   have hrm:T.length+1≤1000000000:=by omega
   (repeat first|simp only[ww]|(apply xa;simp+decide only[go_sem,l1,hmt,hR1,hRl,q1,hvl,hfd,b41,hneg,c6,hrm,hTn];rfl;kernel_rfl))
   (apply a2v;(·simp+decide only[go_sem]<;>rfl))
   exact⟨_,_,rfl,rfl,by simp[List.map_append];rfl⟩
theorem c7b(sum:Int)(n:Nat)(R:List (List AV))(nm w0 w1 w2 w3 w4:List UInt8)(S:List Sg)(hRl:R.length=n)(hn7:7≤n)(hRf:FlatR R)(hR1:R[1]?=some [.str nm])(hR2:∀j w,[w0,w1,w2,w3,w4][j]?=some w→R[2+j]?=some [.str w])(hnum:∀w∈[w0,w1,w2,w3,w4],NumOk w)(htm:a5j ⟨nm,a0d w0,a0d w1,a0d w2,a0d w3,a0d w4⟩=true) :
 ∃r:AV×a08,(∃c H1,r=(.tuple [],H1)∧a04 H1 0=some (.row 4 [[.slice 1 0 S.length none,.slice c 0 (([]:List Tm).length+1) none,.nilslice,.int .i64 sum]])∧a04 H1 c=some (.row 6 ((([]:List Tm)++[⟨nm,a0d w0,a0d w1,a0d w2,a0d w3,a0d w4⟩]:List Tm).map Tm.enc))∧a04 H1 1=some (.row 2 (S.map Sg.enc)))∧sem L.env Mf 66 [.ptr 0 0 0,.slice 2 0 7 (some n)] [some (.row 4 [[.slice 1 0 S.length none,.nilslice,.nilslice,.int .i64 sum]]),some (.row 2 (S.map Sg.enc)),some (.row 1 R)]=some r:=by
 have hmt:=λd H e=>a1b (d:=d) H e;have hn1:=λd H w hw=>a5p (d:=d) H w hw;have r1:=λπ=>a02 π hRf;have r2:=a01 hRf;have hS1:=λπ=>a02 π (a0z S);have hS2:=a01 (a0z S);have q1:1<n:=by omega
 have q2:(7:Nat)-2=5:=rfl;have q7:7≤n:=hn7;have b41:Nat.beq 41 82=false:=by decide
 have hws:[w0,w1,w2,w3,w4].length=5:=rfl;obtain⟨ws,hwe⟩:∃ws,ws=[w0,w1,w2,w3,w4]:=⟨_,rfl⟩
 have hN5:Nat→ws.length=5:=λ_=>by rw[hwe];rfl
 rw[←hwe]at hR2 hnum
 (refine svE Tryz.f66 ?_;simp only[Tryz.f66,gS])
 (repeat first|simp only[ww]|(apply xa;simp+decide only[go_sem,hmt,hRl,q1,q7];rfl;kernel_rfl))
 refine a0p (σ:=Nat) kp66_0 (λi=>[(0,.ptr 0 0 0),(1,.slice 2 0 7 (some n)),(4,grV 3 ((ws.take i).map λw=>[AV.int .i64 (a0d w:Nat)])),(13,.slice 2 2 5 (some (n-2))),(14,.int .i64 5),(15,.int .i64 (i:Nat))]) (λi=>[some (.row 4 [[.slice 1 0 S.length none,.nilslice,.nilslice,.int .i64 sum]]),some (.row 2 (S.map Sg.enc)),some (.row 1 R)]++grH 1 ((ws.take i).map λw=>[AV.int .i64 (a0d w:Nat)])) (λi=>5-i) (λi=>i≤5) 0 ?_ (Nat.zero_le _) ?_
 ·(simp+decide only[go_sem,a09,a05,r1,r2,hS1,hS2,List.take_zero,List.map_nil,a0a,a0c,List.append_nil]<;>rfl)
 ·intro i hi;have hNf:∀i,FlatR ((ws.take i).map λw=>[AV.int .i64 (a0d w:Nat)]):=λi=>FlatR.map λ_=>rfl;have hNl:((ws.take i).map λw=>[AV.int .i64 (a0d w:Nat)]).length=i:=by rw[List.length_map,List.length_take,hN5 0];omega
  by_cases hlt:i<5
  ·have l1:(i:Int)<5:=by omega
   obtain⟨w,hw⟩:∃w,ws[i]?=some w:=⟨_,z9e (by rw[hN5 0];exact hlt)⟩
   have hg:=hR2 i w hw;have hnw:=λd H=>hn1 d H w (hnum w (List.mem_of_getElem? hw));have hwi:IntKind.i64.wrap ((i:Int)+1)=((i+1:Nat):Int):=by rw[w64 (by omega) (by omega)];omega
   have hsr:((ws.take (i+1)).map λw=>[AV.int .i64 (a0d w:Nat)])=((ws.take i).map λw=>[AV.int .i64 (a0d w:Nat)])++[[.int .i64 (a0d w:Nat)]]:=by rw[a59 hw,List.map_append];rfl
   have n5:=a01 (hNf (i+1));have n6:=λπ=>a02 π (hNf (i+1));have m5:=a01 (hNf i);have m6:=λπ=>a02 π (hNf i);have q3:2+i<n:=by omega
   have hrm:i+1≤1000000000:=by omega
   by_cases hk:i=0
   ·subst hk;have e0:((ws.take 0).map λw=>[AV.int .i64 (a0d w:Nat)])=[]:=rfl;rw[e0]at hsr⊢;simp only[List.nil_append]at hsr;simp only[a0a,a0c,List.append_nil]
    (repeat first|simp only[ww]|(apply xa;simp+decide only[go_sem,l1,hlt,hg,hnw,hwi,hRl,q3,Nat.add_zero];rfl;kernel_rfl))
    refine a22 (0+1) ?_ (by omega) (by omega)
    (simp+decide only[go_sem,a09,a05,hsr,a1q,a1k,List.length_nil,r1,r2,hS1,hS2]<;>rfl)
   ·have hne':((ws.take i).map λw=>[AV.int .i64 (a0d w:Nat)])≠[]:=by intro e;rw[e]at hNl;simp at hNl;omega
    rw[a0k 3 hne',a0n 1 hne',hNl];rw[hsr]at n5 n6;generalize((ws.take i).map λw=>[AV.int .i64 (a0d w:Nat)])=NRR at *;simp only[List.cons_append,List.nil_append]
    (repeat first|simp only[ww]|(apply xa;simp+decide only[go_sem,l1,hlt,hg,hnw,hwi,hRl,q3,hNl,hrm];rfl;kernel_rfl))
    refine a22 (i+1) ?_ (by omega) (by omega)
    (simp+decide only[go_sem,a09,a05,hsr,a2h,a2i,hNl,n5,n6,r1,r2,hS1,hS2,List.cons_append,List.nil_append]<;>rfl)
  ·obtain rfl:i=5:=by omega
   have l1:¬((5:Nat):Int)<5:=by omega
   have e5:((ws.take 5).map λw=>[AV.int .i64 (a0d w:Nat)])=[[.int .i64 (a0d w0:Nat)],[.int .i64 (a0d w1:Nat)],[.int .i64 (a0d w2:Nat)],[.int .i64 (a0d w3:Nat)],[.int .i64 (a0d w4:Nat)]]:=by rw[hwe];rfl
   rw[e5];simp only[a1q,a1k,List.cons_append,List.nil_append,List.length_cons,List.length_nil];have hvl:=λd H=>a0l (E:=L.env) (draw:=d) (call:=sem L.env Mf) (g:=49) (fs:=[]) (cs:=[]) (ar:=[.agg [.str nm,.int .i64 (a0d w0:Nat),.int .i64 (a0d w1:Nat),.int .i64 (a0d w2:Nat),.int .i64 (a0d w3:Nat),.int .i64 (a0d w4:Nat)]]) (H:=H) (by kernel_rfl) (by kernel_rfl) rfl (by rfl) ((b7l ⟨nm,a0d w0,a0d w1,a0d w2,a0d w3,a0d w4⟩).trans (by rw[htm])) rfl;have hfd0:=c2p sum nm S
   skip
   skip
   have hfd:a0j L.env false (sem L.env Mf) (.func (.func 85) [] []) [.ptr 0 0 0,.str nm] [some (.row 4 [[.slice 1 0 S.length none,.nilslice,.nilslice,.int .i64 sum]]),some (.row 2 (S.map Sg.enc)),some (.row 1 R),some (.row 1 [[.int .i64 (a0d w0:Nat)],[.int .i64 (a0d w1:Nat)],[.int .i64 (a0d w2:Nat)],[.int .i64 (a0d w3:Nat)],[.int .i64 (a0d w4:Nat)]]),some (.row 6 [[.str nm,.int .i64 (a0d w0:Nat),.int .i64 (a0d w1:Nat),.int .i64 (a0d w2:Nat),.int .i64 (a0d w3:Nat),.int .i64 (a0d w4:Nat)]])]=some (.int .i64 (-1),[some (.row 4 [[.slice 1 0 S.length none,.nilslice,.nilslice,.int .i64 sum]]),some (.row 2 (S.map Sg.enc)),some (.row 1 R),some (.row 1 [[.int .i64 (a0d w0:Nat)],[.int .i64 (a0d w1:Nat)],[.int .i64 (a0d w2:Nat)],[.int .i64 (a0d w3:Nat)],[.int .i64 (a0d w4:Nat)]]),some (.row 6 [[.str nm,.int .i64 (a0d w0:Nat),.int .i64 (a0d w1:Nat),.int .i64 (a0d w2:Nat),.int .i64 (a0d w3:Nat),.int .i64 (a0d w4:Nat)]])],[0,1]):=by have hc:=a0o (sem L.env Mf 85) [.ptr 0 0 0,.str nm] [some (.row 4 [[.slice 1 0 S.length none,.nilslice,.nilslice,.int .i64 sum]]),some (.row 2 (S.map Sg.enc)),some (.row 1 R),some (.row 1 [[.int .i64 (a0d w0:Nat)],[.int .i64 (a0d w1:Nat)],[.int .i64 (a0d w2:Nat)],[.int .i64 (a0d w3:Nat)],[.int .i64 (a0d w4:Nat)]]),some (.row 6 [[.str nm,.int .i64 (a0d w0:Nat),.int .i64 (a0d w1:Nat),.int .i64 (a0d w2:Nat),.int .i64 (a0d w3:Nat),.int .i64 (a0d w4:Nat)]])] (σ:=[0,1]) (by simp+decide only[go_sem,hS1,hS2]<;>rfl) rfl rfl (args':=[.ptr 0 0 0,.str nm]) rfl (H0:=[some (.row 4 [[.slice 1 0 S.length none,.nilslice,.nilslice,.int .i64 sum]]),some (.row 2 (S.map Sg.enc))]) (by simp+decide only[go_sem,a0u,hS1,hS2]) hfd0;refine a1x (by kernel_rfl) (by kernel_rfl) rfl (hc.trans ?_);simp+decide only[go_sem,a0s,hS1,hS2]<;>rfl
   skip
   skip
   (repeat first|simp only[ww]|(apply xa;simp+decide only[go_sem,l1,hmt,hR1,hRl,q1,hvl,hfd,b41];rfl;kernel_rfl))
   (apply a2v;(·simp+decide only[go_sem]<;>rfl))
   exact⟨_,_,rfl,rfl,rfl,rfl⟩
theorem c7a(sum:Int)(n:Nat)(R:List (List AV))(nm w0 w1 w2 w3 w4:List UInt8)(S:List Sg)(T:List Tm)(hTl:T.length≤100000)(hne:T≠[])(hl:T.length<16)(hno:nm∉T.map Tm.name)(hRl:R.length=n)(hn7:7≤n)(hRf:FlatR R)(hR1:R[1]?=some [.str nm])(hR2:∀j w,[w0,w1,w2,w3,w4][j]?=some w→R[2+j]?=some [.str w])(hnum:∀w∈[w0,w1,w2,w3,w4],NumOk w)(htm:a5j ⟨nm,a0d w0,a0d w1,a0d w2,a0d w3,a0d w4⟩=true) :
 ∃r:AV×a08,(∃c H1,r=(.tuple [],H1)∧a04 H1 0=some (.row 4 [[.slice 1 0 S.length none,.slice c 0 (T.length+1) none,.nilslice,.int .i64 sum]])∧a04 H1 c=some (.row 6 ((T++[⟨nm,a0d w0,a0d w1,a0d w2,a0d w3,a0d w4⟩]:List Tm).map Tm.enc))∧a04 H1 1=some (.row 2 (S.map Sg.enc)))∧sem L.env Mf 66 [.ptr 0 0 0,.slice 3 0 7 (some n)] [some (.row 4 [[.slice 1 0 S.length none,.slice 2 0 T.length none,.nilslice,.int .i64 sum]]),some (.row 2 (S.map Sg.enc)),some (.row 6 (T.map Tm.enc)),some (.row 1 R)]=some r:=by
 have hmt:=λd H e=>a1b (d:=d) H e;have hn1:=λd H w hw=>a5p (d:=d) H w hw;have r1:=λπ=>a02 π hRf;have r2:=a01 hRf;have hS1:=λπ=>a02 π (a0z S);have hS2:=a01 (a0z S);have hT1:=λπ=>a02 π (a0g T);have hT2:=a01 (a0g T);have hTn:(T.map Tm.enc).length=T.length:=List.length_map ..;have q1:1<n:=by omega
 have q2:(7:Nat)-2=5:=rfl;have q7:7≤n:=hn7;have b41:Nat.beq 41 82=false:=by decide
 have hws:[w0,w1,w2,w3,w4].length=5:=rfl;obtain⟨ws,hwe⟩:∃ws,ws=[w0,w1,w2,w3,w4]:=⟨_,rfl⟩
 have hN5:Nat→ws.length=5:=λ_=>by rw[hwe];rfl
 rw[←hwe]at hR2 hnum
 (refine svE Tryz.f66 ?_;simp only[Tryz.f66,gS])
 (repeat first|simp only[ww]|(apply xa;simp+decide only[go_sem,hmt,hRl,q1,q7];rfl;kernel_rfl))
 refine a0p (σ:=Nat) kp66_0 (λi=>[(0,.ptr 0 0 0),(1,.slice 3 0 7 (some n)),(4,grV 4 ((ws.take i).map λw=>[AV.int .i64 (a0d w:Nat)])),(13,.slice 3 2 5 (some (n-2))),(14,.int .i64 5),(15,.int .i64 (i:Nat))]) (λi=>[some (.row 4 [[.slice 1 0 S.length none,.slice 2 0 T.length none,.nilslice,.int .i64 sum]]),some (.row 2 (S.map Sg.enc)),some (.row 6 (T.map Tm.enc)),some (.row 1 R)]++grH 1 ((ws.take i).map λw=>[AV.int .i64 (a0d w:Nat)])) (λi=>5-i) (λi=>i≤5) 0 ?_ (Nat.zero_le _) ?_
 ·(simp+decide only[go_sem,a09,a05,r1,r2,hS1,hS2,hT1,hT2,List.take_zero,List.map_nil,a0a,a0c,List.append_nil]<;>rfl)
 ·intro i hi;have hNf:∀i,FlatR ((ws.take i).map λw=>[AV.int .i64 (a0d w:Nat)]):=λi=>FlatR.map λ_=>rfl;have hNl:((ws.take i).map λw=>[AV.int .i64 (a0d w:Nat)]).length=i:=by rw[List.length_map,List.length_take,hN5 0];omega
  by_cases hlt:i<5
  ·have l1:(i:Int)<5:=by omega
   obtain⟨w,hw⟩:∃w,ws[i]?=some w:=⟨_,z9e (by rw[hN5 0];exact hlt)⟩
   have hg:=hR2 i w hw;have hnw:=λd H=>hn1 d H w (hnum w (List.mem_of_getElem? hw));have hwi:IntKind.i64.wrap ((i:Int)+1)=((i+1:Nat):Int):=by rw[w64 (by omega) (by omega)];omega
   have hsr:((ws.take (i+1)).map λw=>[AV.int .i64 (a0d w:Nat)])=((ws.take i).map λw=>[AV.int .i64 (a0d w:Nat)])++[[.int .i64 (a0d w:Nat)]]:=by rw[a59 hw,List.map_append];rfl
   have n5:=a01 (hNf (i+1));have n6:=λπ=>a02 π (hNf (i+1));have m5:=a01 (hNf i);have m6:=λπ=>a02 π (hNf i);have q3:2+i<n:=by omega
   have hrm:i+1≤1000000000:=by omega
   by_cases hk:i=0
   ·subst hk;have e0:((ws.take 0).map λw=>[AV.int .i64 (a0d w:Nat)])=[]:=rfl;rw[e0]at hsr⊢;simp only[List.nil_append]at hsr;simp only[a0a,a0c,List.append_nil]
    (repeat first|simp only[ww]|(apply xa;simp+decide only[go_sem,l1,hlt,hg,hnw,hwi,hRl,q3,Nat.add_zero];rfl;kernel_rfl))
    refine a22 (0+1) ?_ (by omega) (by omega)
    (simp+decide only[go_sem,a09,a05,hsr,a1q,a1k,List.length_nil,r1,r2,hS1,hS2,hT1,hT2]<;>rfl)
   ·have hne':((ws.take i).map λw=>[AV.int .i64 (a0d w:Nat)])≠[]:=by intro e;rw[e]at hNl;simp at hNl;omega
    rw[a0k 4 hne',a0n 1 hne',hNl];rw[hsr]at n5 n6;generalize((ws.take i).map λw=>[AV.int .i64 (a0d w:Nat)])=NRR at *;simp only[List.cons_append,List.nil_append]
    (repeat first|simp only[ww]|(apply xa;simp+decide only[go_sem,l1,hlt,hg,hnw,hwi,hRl,q3,hNl,hrm];rfl;kernel_rfl))
    refine a22 (i+1) ?_ (by omega) (by omega)
    (simp+decide only[go_sem,a09,a05,hsr,a2h,a2i,hNl,n5,n6,r1,r2,hS1,hS2,hT1,hT2,List.cons_append,List.nil_append]<;>rfl)
  ·obtain rfl:i=5:=by omega
   have l1:¬((5:Nat):Int)<5:=by omega
   have e5:((ws.take 5).map λw=>[AV.int .i64 (a0d w:Nat)])=[[.int .i64 (a0d w0:Nat)],[.int .i64 (a0d w1:Nat)],[.int .i64 (a0d w2:Nat)],[.int .i64 (a0d w3:Nat)],[.int .i64 (a0d w4:Nat)]]:=by rw[hwe];rfl
   rw[e5];simp only[a1q,a1k,List.cons_append,List.nil_append,List.length_cons,List.length_nil];have hvl:=λd H=>a0l (E:=L.env) (draw:=d) (call:=sem L.env Mf) (g:=49) (fs:=[]) (cs:=[]) (ar:=[.agg [.str nm,.int .i64 (a0d w0:Nat),.int .i64 (a0d w1:Nat),.int .i64 (a0d w2:Nat),.int .i64 (a0d w3:Nat),.int .i64 (a0d w4:Nat)]]) (H:=H) (by kernel_rfl) (by kernel_rfl) rfl (by rfl) ((b7l ⟨nm,a0d w0,a0d w1,a0d w2,a0d w3,a0d w4⟩).trans (by rw[htm])) rfl;have hfd0:=b10 sum nm S T (by omega);have hneg:=(c04 nm (T.map Tm.name)).2 hno;generalize fnd nm (T.map Tm.name)=zz at hfd0 hneg;have hfd:a0j L.env false (sem L.env Mf) (.func (.func 85) [] []) [.ptr 0 0 0,.str nm] [some (.row 4 [[.slice 1 0 S.length none,.slice 2 0 T.length none,.nilslice,.int .i64 sum]]),some (.row 2 (S.map Sg.enc)),some (.row 6 (T.map Tm.enc)),some (.row 1 R),some (.row 1 [[.int .i64 (a0d w0:Nat)],[.int .i64 (a0d w1:Nat)],[.int .i64 (a0d w2:Nat)],[.int .i64 (a0d w3:Nat)],[.int .i64 (a0d w4:Nat)]]),some (.row 6 [[.str nm,.int .i64 (a0d w0:Nat),.int .i64 (a0d w1:Nat),.int .i64 (a0d w2:Nat),.int .i64 (a0d w3:Nat),.int .i64 (a0d w4:Nat)]])]=some (.int .i64 zz,[some (.row 4 [[.slice 1 0 S.length none,.slice 2 0 T.length none,.nilslice,.int .i64 sum]]),some (.row 2 (S.map Sg.enc)),some (.row 6 (T.map Tm.enc)),some (.row 1 R),some (.row 1 [[.int .i64 (a0d w0:Nat)],[.int .i64 (a0d w1:Nat)],[.int .i64 (a0d w2:Nat)],[.int .i64 (a0d w3:Nat)],[.int .i64 (a0d w4:Nat)]]),some (.row 6 [[.str nm,.int .i64 (a0d w0:Nat),.int .i64 (a0d w1:Nat),.int .i64 (a0d w2:Nat),.int .i64 (a0d w3:Nat),.int .i64 (a0d w4:Nat)]])],[0,1,2]):=by have hc:=a0o (sem L.env Mf 85) [.ptr 0 0 0,.str nm] [some (.row 4 [[.slice 1 0 S.length none,.slice 2 0 T.length none,.nilslice,.int .i64 sum]]),some (.row 2 (S.map Sg.enc)),some (.row 6 (T.map Tm.enc)),some (.row 1 R),some (.row 1 [[.int .i64 (a0d w0:Nat)],[.int .i64 (a0d w1:Nat)],[.int .i64 (a0d w2:Nat)],[.int .i64 (a0d w3:Nat)],[.int .i64 (a0d w4:Nat)]]),some (.row 6 [[.str nm,.int .i64 (a0d w0:Nat),.int .i64 (a0d w1:Nat),.int .i64 (a0d w2:Nat),.int .i64 (a0d w3:Nat),.int .i64 (a0d w4:Nat)]])] (σ:=[0,1,2]) (by simp+decide only[go_sem,hS1,hS2,hT1,hT2]<;>rfl) rfl rfl (args':=[.ptr 0 0 0,.str nm]) rfl (H0:=[some (.row 4 [[.slice 1 0 S.length none,.slice 2 0 T.length none,.nilslice,.int .i64 sum]]),some (.row 2 (S.map Sg.enc)),some (.row 6 (T.map Tm.enc))]) (by simp+decide only[go_sem,a0u,hS1,hS2,hT1,hT2]) hfd0;refine a1x (by kernel_rfl) (by kernel_rfl) rfl (hc.trans ?_);simp+decide only[go_sem,a0s,hS1,hS2,hT1,hT2]<;>rfl
   have c6:(T.length:Int)<16:=by omega
   have hrm:T.length+1≤1000000000:=by omega
   (repeat first|simp only[ww]|(apply xa;simp+decide only[go_sem,l1,hmt,hR1,hRl,q1,hvl,hfd,b41,hneg,c6,hrm,hTn];rfl;kernel_rfl))
   (apply a2v;(·simp+decide only[go_sem]<;>rfl))
   exact⟨_,_,rfl,rfl,by simp[List.map_append];rfl,rfl⟩
end Go.RInst
namespace Go.RInst
set_option maxHeartbeats 200000000
open Go.Proofs Go.Ax Go.Pc
variable [PR]
set_option maxRecDepth 100000
theorem a9z:∀(S:List Sg) (cs:List UInt8),a29 S cs=true→∀(i:Nat) (s:Sg) (c:UInt8),S[i]?=some s→cs[i]?=some c→(a23 s.dir).contains c=true
 | [],[],_,i,s,c,h,_=>by simp at h
 | [],_::_,h,_,_,_,_,_=>by simp[a29]at h
 |_::_,[],h,_,_,_,_,_=>by simp[a29]at h
 |s0::S,c0::cs,h,0,s,c,h1,h2=>by simp only[a29,Bool.and_eq_true]at h;cases h1;cases h2;exact h.1
 |s0::S,c0::cs,h,i+1,s,c,h1,h2=>by simp only[a29,Bool.and_eq_true]at h;exact a9z S cs h.2 i s c (by simpa using h1) (by simpa using h2)
theorem a98(v:Vc)(T:List Tm)(hTl:T.length≤100000)(hv:a55 v ([]:List Sg) T.length=true):sem L.env Mf 50 [.agg (Vc.enc v),.agg [.nilslice,.slice 0 0 T.length none,.nilslice]] [some (.row 6 (T.map Tm.enc))]=some (.bool true,[some (.row 6 (T.map Tm.enc))]):=by
 have hT1:=λπ=>a02 π (a0g T);have hT2:=a01 (a0g T);have hTn:(T.map Tm.enc).length=T.length:=List.length_map ..
 skip
 simp only[a55,Bool.and_eq_true,decide_eq_true_eq]at hv;obtain⟨k0,k1,k2,k3,hco⟩:=hv;have k4:=(a4t _ _ hco).symm;have j0:¬v.t<0:=by omega
 have j1:¬(T.length:Int)≤v.t:=by omega
 have j2:¬v.rep<1:=by omega
 have j3:¬(1000000:Int)<v.rep:=by omega
 have j4:(v.cells.length:Int)=0:=by simpa using k4
 have hib:=λd H s c=>b3f (d:=d) H s c
 (refine sv Tryz.f50 ?_;simp only[Tryz.f50,gS])
 (repeat first|simp only[ww]|(apply xa;simp+decide only[go_sem,j0,j1,j2,j3,j4,List.length_map];rfl;kernel_rfl))
 refine a0p (σ:=Nat) kp50_0 (λi=>[(2,.ptr 1 0 0),(39,.nilslice),(40,.int .i64 0),(41,.int .i64 (i:Nat))]) (λ_=>[some (.row 6 (T.map Tm.enc)),some (.row 3 [Vc.enc v])]) (λi=>([]:List Sg).length-i) (λi=>i≤([]:List Sg).length) 0 ?_ (Nat.zero_le _) ?_
 ·(simp+decide only[go_sem,a09,a05,hT1,hT2]<;>rfl)
 ·intro i hi;obtain rfl:i=0:=by simpa using hi
  (repeat first|simp only[ww]|(apply xa;simp+decide only[go_sem];rfl;kernel_rfl))
  (apply fqb;simp+decide only[go_sem,hT1,hT2]<;>rfl)
theorem a97(v:Vc)(T:List Tm)(hTl:T.length≤100000)(V:List Vc)(hv:a55 v ([]:List Sg) T.length=true):sem L.env Mf 50 [.agg (Vc.enc v),.agg [.nilslice,.slice 0 0 T.length none,.slice 1 0 V.length none]] [some (.row 6 (T.map Tm.enc)),some (.row 3 (V.map Vc.enc))]=some (.bool true,[some (.row 6 (T.map Tm.enc)),some (.row 3 (V.map Vc.enc))]):=by
 have hT1:=λπ=>a02 π (a0g T);have hT2:=a01 (a0g T);have hTn:(T.map Tm.enc).length=T.length:=List.length_map ..;have hV1:=λπ=>a02 π (a0b V);have hV2:=a01 (a0b V)
 skip
 simp only[a55,Bool.and_eq_true,decide_eq_true_eq]at hv;obtain⟨k0,k1,k2,k3,hco⟩:=hv;have k4:=(a4t _ _ hco).symm;have j0:¬v.t<0:=by omega
 have j1:¬(T.length:Int)≤v.t:=by omega
 have j2:¬v.rep<1:=by omega
 have j3:¬(1000000:Int)<v.rep:=by omega
 have j4:(v.cells.length:Int)=0:=by simpa using k4
 have hib:=λd H s c=>b3f (d:=d) H s c
 (refine sv Tryz.f50 ?_;simp only[Tryz.f50,gS])
 (repeat first|simp only[ww]|(apply xa;simp+decide only[go_sem,j0,j1,j2,j3,j4,List.length_map];rfl;kernel_rfl))
 refine a0p (σ:=Nat) kp50_0 (λi=>[(2,.ptr 2 0 0),(39,.nilslice),(40,.int .i64 0),(41,.int .i64 (i:Nat))]) (λ_=>[some (.row 6 (T.map Tm.enc)),some (.row 3 (V.map Vc.enc)),some (.row 3 [Vc.enc v])]) (λi=>([]:List Sg).length-i) (λi=>i≤([]:List Sg).length) 0 ?_ (Nat.zero_le _) ?_
 ·(simp+decide only[go_sem,a09,a05,hT1,hT2,hV1,hV2]<;>rfl)
 ·intro i hi;obtain rfl:i=0:=by simpa using hi
  (repeat first|simp only[ww]|(apply xa;simp+decide only[go_sem];rfl;kernel_rfl))
  (apply fqb;simp+decide only[go_sem,hT1,hT2,hV1,hV2]<;>rfl)
theorem a96(v:Vc)(S:List Sg)(T:List Tm)(hTl:T.length≤100000)(hv:a55 v S T.length=true)(hSl:S.length≤100000):sem L.env Mf 50 [.agg (Vc.enc v),.agg [.slice 0 0 S.length none,.slice 1 0 T.length none,.nilslice]] [some (.row 2 (S.map Sg.enc)),some (.row 6 (T.map Tm.enc))]=some (.bool true,[some (.row 2 (S.map Sg.enc)),some (.row 6 (T.map Tm.enc))]):=by
 have hS1:=λπ=>a02 π (a0z S);have hS2:=a01 (a0z S);have hT1:=λπ=>a02 π (a0g T);have hT2:=a01 (a0g T);have hTn:(T.map Tm.enc).length=T.length:=List.length_map ..;have hSn:(S.map Sg.enc).length=S.length:=List.length_map ..;simp only[a55,Bool.and_eq_true,decide_eq_true_eq]at hv;obtain⟨k0,k1,k2,k3,hco⟩:=hv;have k4:=(a4t _ _ hco).symm;have j0:¬v.t<0:=by omega
 have j1:¬(T.length:Int)≤v.t:=by omega
 have j2:¬v.rep<1:=by omega
 have j3:¬(1000000:Int)<v.rep:=by omega
 have j4:(v.cells.length:Int)=S.length:=by omega
 have hib:=λd H s c=>b3f (d:=d) H s c
 (refine sv Tryz.f50 ?_;simp only[Tryz.f50,gS])
 (repeat first|simp only[ww]|(apply xa;simp+decide only[go_sem,j0,j1,j2,j3,j4,hSn,List.length_map];rfl;kernel_rfl))
 refine a0p (σ:=Nat) kp50_0 (λi=>[(2,.ptr 2 0 0),(39,.slice 0 0 S.length none),(40,.int .i64 S.length),(41,.int .i64 (i:Nat))]) (λ_=>[some (.row 2 (S.map Sg.enc)),some (.row 6 (T.map Tm.enc)),some (.row 3 [Vc.enc v])]) (λi=>S.length-i) (λi=>i≤S.length) 0 ?_ (Nat.zero_le _) ?_
 ·(simp+decide only[go_sem,a09,a05,hS1,hS2,hT1,hT2]<;>rfl)
 ·intro i hi;by_cases hlt:i<S.length
  ·have l1:(i:Int)<S.length:=by omega
   obtain⟨s,hs⟩:∃s,S[i]?=some s:=⟨_,z9e hlt⟩
   obtain⟨c,hc⟩:∃c,v.cells[i]?=some c:=⟨_,z9e (by omega)⟩
   have hw:IntKind.i64.wrap ((i:Int)+1)=((i+1:Nat):Int):=by rw[w64 (by omega) (by omega)];omega
   have hsm:(S.map Sg.enc)[i]?=some (Sg.enc s):=by rw[List.getElem?_map,hs];rfl
   have hlc:i<v.cells.length:=by omega
   have hk:(a23 s.dir).contains c=true:=a9z S v.cells hco i s c hs hc;by_cases hd:s.dir=1
   ·have d1:(s.dir:Int)=1:=by omega
    have hL:a23 s.dir=[76,72,88]:=by rw[hd];rfl
    have c1:¬Lib.indexByte [76,72,88] c<0:=by have:=b5i _ _ hk;rw[hL]at this;omega
    (repeat first|simp only[ww]|(apply xa;simp+decide only[go_sem,l1,hlt,hw,hsm,hs,hc,hlc,d1,hib,c1,hSn];rfl;kernel_rfl))
    refine a22 (i+1) ?_ (by omega) (by omega)
    (simp+decide only[go_sem,a09,a05,hS1,hS2,hT1,hT2]<;>rfl)
   ·have d1:¬(s.dir:Int)=1:=by omega
    have hL:a23 s.dir=[48,49,88,80]:=if_neg hd;have c1:¬Lib.indexByte [48,49,88,80] c<0:=by have:=b5i _ _ hk;rw[hL]at this;omega
    (repeat first|simp only[ww]|(apply xa;simp+decide only[go_sem,l1,hlt,hw,hsm,hs,hc,hlc,d1,hib,c1,hSn];rfl;kernel_rfl))
    refine a22 (i+1) ?_ (by omega) (by omega)
    (simp+decide only[go_sem,a09,a05,hS1,hS2,hT1,hT2]<;>rfl)
  ·have l1:¬(i:Int)<S.length:=by omega
   (repeat first|simp only[ww]|(apply xa;simp+decide only[go_sem,l1];rfl;kernel_rfl))
   (apply fqb;simp+decide only[go_sem,hS1,hS2,hT1,hT2]<;>rfl)
theorem a95(v:Vc)(S:List Sg)(T:List Tm)(hTl:T.length≤100000)(V:List Vc)(hv:a55 v S T.length=true)(hSl:S.length≤100000):sem L.env Mf 50 [.agg (Vc.enc v),.agg [.slice 0 0 S.length none,.slice 1 0 T.length none,.slice 2 0 V.length none]] [some (.row 2 (S.map Sg.enc)),some (.row 6 (T.map Tm.enc)),some (.row 3 (V.map Vc.enc))]=some (.bool true,[some (.row 2 (S.map Sg.enc)),some (.row 6 (T.map Tm.enc)),some (.row 3 (V.map Vc.enc))]):=by
 have hS1:=λπ=>a02 π (a0z S);have hS2:=a01 (a0z S);have hT1:=λπ=>a02 π (a0g T);have hT2:=a01 (a0g T);have hTn:(T.map Tm.enc).length=T.length:=List.length_map ..;have hV1:=λπ=>a02 π (a0b V);have hV2:=a01 (a0b V);have hSn:(S.map Sg.enc).length=S.length:=List.length_map ..;simp only[a55,Bool.and_eq_true,decide_eq_true_eq]at hv;obtain⟨k0,k1,k2,k3,hco⟩:=hv;have k4:=(a4t _ _ hco).symm;have j0:¬v.t<0:=by omega
 have j1:¬(T.length:Int)≤v.t:=by omega
 have j2:¬v.rep<1:=by omega
 have j3:¬(1000000:Int)<v.rep:=by omega
 have j4:(v.cells.length:Int)=S.length:=by omega
 have hib:=λd H s c=>b3f (d:=d) H s c
 (refine sv Tryz.f50 ?_;simp only[Tryz.f50,gS])
 (repeat first|simp only[ww]|(apply xa;simp+decide only[go_sem,j0,j1,j2,j3,j4,hSn,List.length_map];rfl;kernel_rfl))
 refine a0p (σ:=Nat) kp50_0 (λi=>[(2,.ptr 3 0 0),(39,.slice 0 0 S.length none),(40,.int .i64 S.length),(41,.int .i64 (i:Nat))]) (λ_=>[some (.row 2 (S.map Sg.enc)),some (.row 6 (T.map Tm.enc)),some (.row 3 (V.map Vc.enc)),some (.row 3 [Vc.enc v])]) (λi=>S.length-i) (λi=>i≤S.length) 0 ?_ (Nat.zero_le _) ?_
 ·(simp+decide only[go_sem,a09,a05,hS1,hS2,hT1,hT2,hV1,hV2]<;>rfl)
 ·intro i hi;by_cases hlt:i<S.length
  ·have l1:(i:Int)<S.length:=by omega
   obtain⟨s,hs⟩:∃s,S[i]?=some s:=⟨_,z9e hlt⟩
   obtain⟨c,hc⟩:∃c,v.cells[i]?=some c:=⟨_,z9e (by omega)⟩
   have hw:IntKind.i64.wrap ((i:Int)+1)=((i+1:Nat):Int):=by rw[w64 (by omega) (by omega)];omega
   have hsm:(S.map Sg.enc)[i]?=some (Sg.enc s):=by rw[List.getElem?_map,hs];rfl
   have hlc:i<v.cells.length:=by omega
   have hk:(a23 s.dir).contains c=true:=a9z S v.cells hco i s c hs hc;by_cases hd:s.dir=1
   ·have d1:(s.dir:Int)=1:=by omega
    have hL:a23 s.dir=[76,72,88]:=by rw[hd];rfl
    have c1:¬Lib.indexByte [76,72,88] c<0:=by have:=b5i _ _ hk;rw[hL]at this;omega
    (repeat first|simp only[ww]|(apply xa;simp+decide only[go_sem,l1,hlt,hw,hsm,hs,hc,hlc,d1,hib,c1,hSn];rfl;kernel_rfl))
    refine a22 (i+1) ?_ (by omega) (by omega)
    (simp+decide only[go_sem,a09,a05,hS1,hS2,hT1,hT2,hV1,hV2]<;>rfl)
   ·have d1:¬(s.dir:Int)=1:=by omega
    have hL:a23 s.dir=[48,49,88,80]:=if_neg hd;have c1:¬Lib.indexByte [48,49,88,80] c<0:=by have:=b5i _ _ hk;rw[hL]at this;omega
    (repeat first|simp only[ww]|(apply xa;simp+decide only[go_sem,l1,hlt,hw,hsm,hs,hc,hlc,d1,hib,c1,hSn];rfl;kernel_rfl))
    refine a22 (i+1) ?_ (by omega) (by omega)
    (simp+decide only[go_sem,a09,a05,hS1,hS2,hT1,hT2,hV1,hV2]<;>rfl)
  ·have l1:¬(i:Int)<S.length:=by omega
   (repeat first|simp only[ww]|(apply xa;simp+decide only[go_sem,l1];rfl;kernel_rfl))
   (apply fqb;simp+decide only[go_sem,hS1,hS2,hT1,hT2,hV1,hV2]<;>rfl)
theorem c3n(sum:Int)(n:Nat)(R:List (List AV))(nm cl:List UInt8)(T:List Tm)(hTl:T.length≤100000)(hRl:R.length=n)(hnm:3≤n)(hRf:FlatR R)(hR1:R[1]?=some [.str nm])(hR2:R[2]?=some [.str cl])(hs0:0≤sum)(hsum:sum+(1:Nat)≤1000000)(hok:a55 ⟨fnd nm (T.map Tm.name),if cl=[45]then[]else cl,(1:Nat)⟩ ([]:List Sg) T.length=true) :
 ∃r:AV×a08,(∃c H1,r=(.tuple [],H1)∧a04 H1 0=some (.row 4 [[.nilslice,.slice 1 0 T.length none,.slice c 0 (([]:List Vc).length+1) none,.int .i64 (sum+(1:Nat))]])∧a04 H1 c=some (.row 3 ((([]:List Vc)++[⟨fnd nm (T.map Tm.name),if cl=[45]then[]else cl,(1:Nat)⟩]:List Vc).map Vc.enc))∧a04 H1 1=some (.row 6 (T.map Tm.enc)))∧sem L.env Mf 67 [.ptr 0 0 0,.slice 2 0 3 (some n)] [some (.row 4 [[.nilslice,.slice 1 0 T.length none,.nilslice,.int .i64 sum]]),some (.row 6 (T.map Tm.enc)),some (.row 1 R)]=some r:=by
 have hmt:=λd H e=>a1b (d:=d) H e;have r1:=λπ=>a02 π hRf;have r2:=a01 hRf;have hT1:=λπ=>a02 π (a0g T);have hT2:=a01 (a0g T);have hTn:(T.map Tm.enc).length=T.length:=List.length_map ..;have q1:1<n:=by omega
 have q2:2<n:=by omega
 have b43:Nat.beq 43 82=false:=by decide
 have hwS1:IntKind.i64.wrap (sum+1)=sum+1:=w64 (by omega) (by omega);have hsum1:sum+1≤1000000:=by omega
 have hwS:IntKind.i64.wrap (sum+(1:Nat))=sum+(1:Nat):=w64 (by omega) (by omega);have hfd0:=b11 sum nm T hTl;generalize fnd nm (T.map Tm.name)=zz at *;have hfd:∀d,a0j L.env d (sem L.env Mf) (.func (.func 85) [] []) [.ptr 0 0 0,.str nm] [some (.row 4 [[.nilslice,.slice 1 0 T.length none,.nilslice,.int .i64 sum]]),some (.row 6 (T.map Tm.enc)),some (.row 1 R)]=some (.int .i64 zz,[some (.row 4 [[.nilslice,.slice 1 0 T.length none,.nilslice,.int .i64 sum]]),some (.row 6 (T.map Tm.enc)),some (.row 1 R)],[0,1]):=by intro d;have hc:=a0o (sem L.env Mf 85) [.ptr 0 0 0,.str nm] [some (.row 4 [[.nilslice,.slice 1 0 T.length none,.nilslice,.int .i64 sum]]),some (.row 6 (T.map Tm.enc)),some (.row 1 R)] (σ:=[0,1]) (by simp+decide only[go_sem,hT1,hT2]<;>rfl) rfl rfl (args':=[.ptr 0 0 0,.str nm]) rfl (H0:=[some (.row 4 [[.nilslice,.slice 1 0 T.length none,.nilslice,.int .i64 sum]]),some (.row 6 (T.map Tm.enc))]) (by simp+decide only[go_sem,a0u,hT1,hT2]) hfd0;refine a1t (by kernel_rfl) (by kernel_rfl) rfl (hc.trans ?_) rfl;simp+decide only[go_sem,a0s,hT1,hT2]<;>rfl
 by_cases hcl:cl=[45]
 ·subst hcl;rw[if_pos rfl]at hok⊢;have hvm:=a98 ⟨zz,[],(1:Nat)⟩ T hTl hok;have hvl:∀d,a0j L.env d (sem L.env Mf) (.func (.func 50) [] []) [.agg [.int .i64 zz,.str [],.int .i64 1],.agg [.nilslice,.slice 1 0 T.length none,.nilslice]] [some (.row 4 [[.nilslice,.slice 1 0 T.length none,.nilslice,.int .i64 sum]]),some (.row 6 (T.map Tm.enc)),some (.row 1 R),some (.row 3 [[.int .i64 zz,.str [],.int .i64 1]])]=some (.bool true,[some (.row 4 [[.nilslice,.slice 1 0 T.length none,.nilslice,.int .i64 sum]]),some (.row 6 (T.map Tm.enc)),some (.row 1 R),some (.row 3 [[.int .i64 zz,.str [],.int .i64 1]])],[1]):=by
   intro d;have hc:=a0o (sem L.env Mf 50) [.agg [.int .i64 zz,.str [],.int .i64 1],.agg [.nilslice,.slice 1 0 T.length none,.nilslice]] [some (.row 4 [[.nilslice,.slice 1 0 T.length none,.nilslice,.int .i64 sum]]),some (.row 6 (T.map Tm.enc)),some (.row 1 R),some (.row 3 [[.int .i64 zz,.str [],.int .i64 1]])] (σ:=[1]) (by simp+decide only[go_sem,hT1,hT2]<;>rfl) rfl rfl (args':=[.agg [.int .i64 zz,.str [],.int .i64 1],.agg [.nilslice,.slice 0 0 T.length none,.nilslice]]) rfl (H0:=[some (.row 6 (T.map Tm.enc))]) (by simp+decide only[go_sem,a0u,hT1,hT2]) hvm;refine a1t (by kernel_rfl) (by kernel_rfl) rfl (hc.trans ?_) rfl;simp+decide only[go_sem,a0s,hT1,hT2,r1]<;>rfl
  (refine svE Tryz.f67 ?_;simp only[Tryz.f67,gS])
  (repeat first|simp only[ww]|(apply xa;simp+decide only[go_sem,hmt,hR1,hR2,hRl,q1,q2,hfd,hvl,hwS1,hsum1,b43];rfl;kernel_rfl))
  (apply a2v;(·simp+decide only[go_sem]<;>rfl))
  exact⟨_,_,rfl,rfl,rfl,rfl⟩
 ·skip
  rw[if_neg hcl]at hok⊢;have hvm:=a98 ⟨zz,cl,(1:Nat)⟩ T hTl hok;have hvl:∀d,a0j L.env d (sem L.env Mf) (.func (.func 50) [] []) [.agg [.int .i64 zz,.str cl,.int .i64 1],.agg [.nilslice,.slice 1 0 T.length none,.nilslice]] [some (.row 4 [[.nilslice,.slice 1 0 T.length none,.nilslice,.int .i64 sum]]),some (.row 6 (T.map Tm.enc)),some (.row 1 R),some (.row 3 [[.int .i64 zz,.str cl,.int .i64 1]])]=some (.bool true,[some (.row 4 [[.nilslice,.slice 1 0 T.length none,.nilslice,.int .i64 sum]]),some (.row 6 (T.map Tm.enc)),some (.row 1 R),some (.row 3 [[.int .i64 zz,.str cl,.int .i64 1]])],[1]):=by intro d;have hc:=a0o (sem L.env Mf 50) [.agg [.int .i64 zz,.str cl,.int .i64 1],.agg [.nilslice,.slice 1 0 T.length none,.nilslice]] [some (.row 4 [[.nilslice,.slice 1 0 T.length none,.nilslice,.int .i64 sum]]),some (.row 6 (T.map Tm.enc)),some (.row 1 R),some (.row 3 [[.int .i64 zz,.str cl,.int .i64 1]])] (σ:=[1]) (by simp+decide only[go_sem,hT1,hT2]<;>rfl) rfl rfl (args':=[.agg [.int .i64 zz,.str cl,.int .i64 1],.agg [.nilslice,.slice 0 0 T.length none,.nilslice]]) rfl (H0:=[some (.row 6 (T.map Tm.enc))]) (by simp+decide only[go_sem,a0u,hT1,hT2]) hvm;refine a1t (by kernel_rfl) (by kernel_rfl) rfl (hc.trans ?_) rfl;simp+decide only[go_sem,a0s,hT1,hT2,r1]<;>rfl
  (refine svE Tryz.f67 ?_;simp only[Tryz.f67,gS])
  (repeat first|simp only[ww]|(apply xa;simp+decide only[go_sem,hmt,hR1,hR2,hRl,q1,q2,hfd,hvl,hwS1,hsum1,b43,hcl];rfl;kernel_rfl))
  (apply a2v;(·simp+decide only[go_sem]<;>rfl))
  exact⟨_,_,rfl,rfl,rfl,rfl⟩
theorem c3m(sum:Int)(n:Nat)(R:List (List AV))(nm cl:List UInt8)(rp:List UInt8)(hrp:NumOk rp)(hR3:R[3]?=some [.str rp])(T:List Tm)(hTl:T.length≤100000)(hRl:R.length=n)(hnm:4≤n)(hRf:FlatR R)(hR1:R[1]?=some [.str nm])(hR2:R[2]?=some [.str cl])(hs0:0≤sum)(hsum:sum+(a0d rp:Nat)≤1000000)(hok:a55 ⟨fnd nm (T.map Tm.name),if cl=[45]then[]else cl,(a0d rp:Nat)⟩ ([]:List Sg) T.length=true) :
 ∃r:AV×a08,(∃c H1,r=(.tuple [],H1)∧a04 H1 0=some (.row 4 [[.nilslice,.slice 1 0 T.length none,.slice c 0 (([]:List Vc).length+1) none,.int .i64 (sum+(a0d rp:Nat))]])∧a04 H1 c=some (.row 3 ((([]:List Vc)++[⟨fnd nm (T.map Tm.name),if cl=[45]then[]else cl,(a0d rp:Nat)⟩]:List Vc).map Vc.enc))∧a04 H1 1=some (.row 6 (T.map Tm.enc)))∧sem L.env Mf 67 [.ptr 0 0 0,.slice 2 0 4 (some n)] [some (.row 4 [[.nilslice,.slice 1 0 T.length none,.nilslice,.int .i64 sum]]),some (.row 6 (T.map Tm.enc)),some (.row 1 R)]=some r:=by
 have hmt:=λd H e=>a1b (d:=d) H e;have r1:=λπ=>a02 π hRf;have r2:=a01 hRf;have hT1:=λπ=>a02 π (a0g T);have hT2:=a01 (a0g T);have hTn:(T.map Tm.enc).length=T.length:=List.length_map ..;have q1:1<n:=by omega
 have q2:2<n:=by omega
 have b43:Nat.beq 43 82=false:=by decide
 have q3:3<n:=by omega
 have hnu:=λd H=>a5p (d:=d) H rp hrp;have hwS:IntKind.i64.wrap (sum+(a0d rp:Nat))=sum+(a0d rp:Nat):=w64 (by omega) (by omega);have hfd0:=b11 sum nm T hTl;generalize fnd nm (T.map Tm.name)=zz at *;have hfd:∀d,a0j L.env d (sem L.env Mf) (.func (.func 85) [] []) [.ptr 0 0 0,.str nm] [some (.row 4 [[.nilslice,.slice 1 0 T.length none,.nilslice,.int .i64 sum]]),some (.row 6 (T.map Tm.enc)),some (.row 1 R)]=some (.int .i64 zz,[some (.row 4 [[.nilslice,.slice 1 0 T.length none,.nilslice,.int .i64 sum]]),some (.row 6 (T.map Tm.enc)),some (.row 1 R)],[0,1]):=by intro d;have hc:=a0o (sem L.env Mf 85) [.ptr 0 0 0,.str nm] [some (.row 4 [[.nilslice,.slice 1 0 T.length none,.nilslice,.int .i64 sum]]),some (.row 6 (T.map Tm.enc)),some (.row 1 R)] (σ:=[0,1]) (by simp+decide only[go_sem,hT1,hT2]<;>rfl) rfl rfl (args':=[.ptr 0 0 0,.str nm]) rfl (H0:=[some (.row 4 [[.nilslice,.slice 1 0 T.length none,.nilslice,.int .i64 sum]]),some (.row 6 (T.map Tm.enc))]) (by simp+decide only[go_sem,a0u,hT1,hT2]) hfd0;refine a1t (by kernel_rfl) (by kernel_rfl) rfl (hc.trans ?_) rfl;simp+decide only[go_sem,a0s,hT1,hT2]<;>rfl
 by_cases hcl:cl=[45]
 ·subst hcl;rw[if_pos rfl]at hok⊢;have hvm:=a98 ⟨zz,[],(a0d rp:Nat)⟩ T hTl hok;have hvl:∀d,a0j L.env d (sem L.env Mf) (.func (.func 50) [] []) [.agg [.int .i64 zz,.str [],.int .i64 (a0d rp:Nat)],.agg [.nilslice,.slice 1 0 T.length none,.nilslice]] [some (.row 4 [[.nilslice,.slice 1 0 T.length none,.nilslice,.int .i64 sum]]),some (.row 6 (T.map Tm.enc)),some (.row 1 R),some (.row 3 [[.int .i64 zz,.str [],.int .i64 (a0d rp:Nat)]])]=some (.bool true,[some (.row 4 [[.nilslice,.slice 1 0 T.length none,.nilslice,.int .i64 sum]]),some (.row 6 (T.map Tm.enc)),some (.row 1 R),some (.row 3 [[.int .i64 zz,.str [],.int .i64 (a0d rp:Nat)]])],[1]):=by
   intro d;have hc:=a0o (sem L.env Mf 50) [.agg [.int .i64 zz,.str [],.int .i64 (a0d rp:Nat)],.agg [.nilslice,.slice 1 0 T.length none,.nilslice]] [some (.row 4 [[.nilslice,.slice 1 0 T.length none,.nilslice,.int .i64 sum]]),some (.row 6 (T.map Tm.enc)),some (.row 1 R),some (.row 3 [[.int .i64 zz,.str [],.int .i64 (a0d rp:Nat)]])] (σ:=[1]) (by simp+decide only[go_sem,hT1,hT2]<;>rfl) rfl rfl (args':=[.agg [.int .i64 zz,.str [],.int .i64 (a0d rp:Nat)],.agg [.nilslice,.slice 0 0 T.length none,.nilslice]]) rfl (H0:=[some (.row 6 (T.map Tm.enc))]) (by simp+decide only[go_sem,a0u,hT1,hT2]) hvm;refine a1t (by kernel_rfl) (by kernel_rfl) rfl (hc.trans ?_) rfl;simp+decide only[go_sem,a0s,hT1,hT2,r1]<;>rfl
  (refine svE Tryz.f67 ?_;simp only[Tryz.f67,gS])
  (repeat first|simp only[ww]|(apply xa;simp+decide only[go_sem,hmt,hR1,hR2,hR3,q3,hnu,hRl,q1,q2,hfd,hvl,hwS,hsum,b43];rfl;kernel_rfl))
  (apply a2v;(·simp+decide only[go_sem]<;>rfl))
  exact⟨_,_,rfl,rfl,rfl,rfl⟩
 ·skip
  rw[if_neg hcl]at hok⊢;have hvm:=a98 ⟨zz,cl,(a0d rp:Nat)⟩ T hTl hok;have hvl:∀d,a0j L.env d (sem L.env Mf) (.func (.func 50) [] []) [.agg [.int .i64 zz,.str cl,.int .i64 (a0d rp:Nat)],.agg [.nilslice,.slice 1 0 T.length none,.nilslice]] [some (.row 4 [[.nilslice,.slice 1 0 T.length none,.nilslice,.int .i64 sum]]),some (.row 6 (T.map Tm.enc)),some (.row 1 R),some (.row 3 [[.int .i64 zz,.str cl,.int .i64 (a0d rp:Nat)]])]=some (.bool true,[some (.row 4 [[.nilslice,.slice 1 0 T.length none,.nilslice,.int .i64 sum]]),some (.row 6 (T.map Tm.enc)),some (.row 1 R),some (.row 3 [[.int .i64 zz,.str cl,.int .i64 (a0d rp:Nat)]])],[1]):=by intro d;have hc:=a0o (sem L.env Mf 50) [.agg [.int .i64 zz,.str cl,.int .i64 (a0d rp:Nat)],.agg [.nilslice,.slice 1 0 T.length none,.nilslice]] [some (.row 4 [[.nilslice,.slice 1 0 T.length none,.nilslice,.int .i64 sum]]),some (.row 6 (T.map Tm.enc)),some (.row 1 R),some (.row 3 [[.int .i64 zz,.str cl,.int .i64 (a0d rp:Nat)]])] (σ:=[1]) (by simp+decide only[go_sem,hT1,hT2]<;>rfl) rfl rfl (args':=[.agg [.int .i64 zz,.str cl,.int .i64 (a0d rp:Nat)],.agg [.nilslice,.slice 0 0 T.length none,.nilslice]]) rfl (H0:=[some (.row 6 (T.map Tm.enc))]) (by simp+decide only[go_sem,a0u,hT1,hT2]) hvm;refine a1t (by kernel_rfl) (by kernel_rfl) rfl (hc.trans ?_) rfl;simp+decide only[go_sem,a0s,hT1,hT2,r1]<;>rfl
  (refine svE Tryz.f67 ?_;simp only[Tryz.f67,gS])
  (repeat first|simp only[ww]|(apply xa;simp+decide only[go_sem,hmt,hR1,hR2,hR3,q3,hnu,hRl,q1,q2,hfd,hvl,hwS,hsum,b43,hcl];rfl;kernel_rfl))
  (apply a2v;(·simp+decide only[go_sem]<;>rfl))
  exact⟨_,_,rfl,rfl,rfl,rfl⟩
theorem c3l(sum:Int)(n:Nat)(R:List (List AV))(nm cl:List UInt8)(T:List Tm)(hTl:T.length≤100000)(V:List Vc)(hVl:V.length<65536)(hRl:R.length=n)(hnm:3≤n)(hRf:FlatR R)(hR1:R[1]?=some [.str nm])(hR2:R[2]?=some [.str cl])(hs0:0≤sum)(hsum:sum+(1:Nat)≤1000000)(hok:a55 ⟨fnd nm (T.map Tm.name),if cl=[45]then[]else cl,(1:Nat)⟩ ([]:List Sg) T.length=true) :
 ∃r:AV×a08,(∃c H1,r=(.tuple [],H1)∧a04 H1 0=some (.row 4 [[.nilslice,.slice 1 0 T.length none,.slice c 0 (V.length+1) none,.int .i64 (sum+(1:Nat))]])∧a04 H1 c=some (.row 3 ((V++[⟨fnd nm (T.map Tm.name),if cl=[45]then[]else cl,(1:Nat)⟩]:List Vc).map Vc.enc))∧a04 H1 1=some (.row 6 (T.map Tm.enc)))∧sem L.env Mf 67 [.ptr 0 0 0,.slice 3 0 3 (some n)] [some (.row 4 [[.nilslice,.slice 1 0 T.length none,.slice 2 0 V.length none,.int .i64 sum]]),some (.row 6 (T.map Tm.enc)),some (.row 3 (V.map Vc.enc)),some (.row 1 R)]=some r:=by
 have hmt:=λd H e=>a1b (d:=d) H e;have r1:=λπ=>a02 π hRf;have r2:=a01 hRf;have hT1:=λπ=>a02 π (a0g T);have hT2:=a01 (a0g T);have hTn:(T.map Tm.enc).length=T.length:=List.length_map ..;have hV1:=λπ=>a02 π (a0b V);have hV2:=a01 (a0b V);have q1:1<n:=by omega
 have q2:2<n:=by omega
 have b43:Nat.beq 43 82=false:=by decide
 have hwS1:IntKind.i64.wrap (sum+1)=sum+1:=w64 (by omega) (by omega);have hsum1:sum+1≤1000000:=by omega
 have hVn:(V.map Vc.enc).length=V.length:=List.length_map ..;have c7:(V.length:Int)<65536:=by omega
 have hrm:V.length+1≤1000000000:=by omega
 have hwS:IntKind.i64.wrap (sum+(1:Nat))=sum+(1:Nat):=w64 (by omega) (by omega);have hfd0:=b5q sum nm T hTl V;generalize fnd nm (T.map Tm.name)=zz at *;have hfd:∀d,a0j L.env d (sem L.env Mf) (.func (.func 85) [] []) [.ptr 0 0 0,.str nm] [some (.row 4 [[.nilslice,.slice 1 0 T.length none,.slice 2 0 V.length none,.int .i64 sum]]),some (.row 6 (T.map Tm.enc)),some (.row 3 (V.map Vc.enc)),some (.row 1 R)]=some (.int .i64 zz,[some (.row 4 [[.nilslice,.slice 1 0 T.length none,.slice 2 0 V.length none,.int .i64 sum]]),some (.row 6 (T.map Tm.enc)),some (.row 3 (V.map Vc.enc)),some (.row 1 R)],[0,1,2]):=by intro d;have hc:=a0o (sem L.env Mf 85) [.ptr 0 0 0,.str nm] [some (.row 4 [[.nilslice,.slice 1 0 T.length none,.slice 2 0 V.length none,.int .i64 sum]]),some (.row 6 (T.map Tm.enc)),some (.row 3 (V.map Vc.enc)),some (.row 1 R)] (σ:=[0,1,2]) (by simp+decide only[go_sem,hT1,hT2,hV1,hV2]<;>rfl) rfl rfl (args':=[.ptr 0 0 0,.str nm]) rfl (H0:=[some (.row 4 [[.nilslice,.slice 1 0 T.length none,.slice 2 0 V.length none,.int .i64 sum]]),some (.row 6 (T.map Tm.enc)),some (.row 3 (V.map Vc.enc))]) (by simp+decide only[go_sem,a0u,hT1,hT2,hV1,hV2]) hfd0;refine a1t (by kernel_rfl) (by kernel_rfl) rfl (hc.trans ?_) rfl;simp+decide only[go_sem,a0s,hT1,hT2,hV1,hV2]<;>rfl
 by_cases hcl:cl=[45]
 ·subst hcl;rw[if_pos rfl]at hok⊢;have hvm:=a97 ⟨zz,[],(1:Nat)⟩ T hTl V hok;have hvl:∀d,a0j L.env d (sem L.env Mf) (.func (.func 50) [] []) [.agg [.int .i64 zz,.str [],.int .i64 1],.agg [.nilslice,.slice 1 0 T.length none,.slice 2 0 V.length none]] [some (.row 4 [[.nilslice,.slice 1 0 T.length none,.slice 2 0 V.length none,.int .i64 sum]]),some (.row 6 (T.map Tm.enc)),some (.row 3 (V.map Vc.enc)),some (.row 1 R),some (.row 3 [[.int .i64 zz,.str [],.int .i64 1]])]=some (.bool true,[some (.row 4 [[.nilslice,.slice 1 0 T.length none,.slice 2 0 V.length none,.int .i64 sum]]),some (.row 6 (T.map Tm.enc)),some (.row 3 (V.map Vc.enc)),some (.row 1 R),some (.row 3 [[.int .i64 zz,.str [],.int .i64 1]])],[1,2]):=by
   intro d;have hc:=a0o (sem L.env Mf 50) [.agg [.int .i64 zz,.str [],.int .i64 1],.agg [.nilslice,.slice 1 0 T.length none,.slice 2 0 V.length none]] [some (.row 4 [[.nilslice,.slice 1 0 T.length none,.slice 2 0 V.length none,.int .i64 sum]]),some (.row 6 (T.map Tm.enc)),some (.row 3 (V.map Vc.enc)),some (.row 1 R),some (.row 3 [[.int .i64 zz,.str [],.int .i64 1]])] (σ:=[1,2]) (by simp+decide only[go_sem,hT1,hT2,hV1,hV2]<;>rfl) rfl rfl (args':=[.agg [.int .i64 zz,.str [],.int .i64 1],.agg [.nilslice,.slice 0 0 T.length none,.slice 1 0 V.length none]]) rfl (H0:=[some (.row 6 (T.map Tm.enc)),some (.row 3 (V.map Vc.enc))]) (by simp+decide only[go_sem,a0u,hT1,hT2,hV1,hV2]) hvm;refine a1t (by kernel_rfl) (by kernel_rfl) rfl (hc.trans ?_) rfl;simp+decide only[go_sem,a0s,hT1,hT2,hV1,hV2,r1]<;>rfl
  (refine svE Tryz.f67 ?_;simp only[Tryz.f67,gS])
  (repeat first|simp only[ww]|(apply xa;simp+decide only[go_sem,hmt,hR1,hR2,hRl,q1,q2,hfd,hvl,hwS1,hsum1,b43,hVn,c7,hrm];rfl;kernel_rfl))
  (apply a2v;(·simp+decide only[go_sem]<;>rfl))
  exact⟨_,_,rfl,rfl,by simp[List.map_append];rfl,rfl⟩
 ·skip
  rw[if_neg hcl]at hok⊢;have hvm:=a97 ⟨zz,cl,(1:Nat)⟩ T hTl V hok;have hvl:∀d,a0j L.env d (sem L.env Mf) (.func (.func 50) [] []) [.agg [.int .i64 zz,.str cl,.int .i64 1],.agg [.nilslice,.slice 1 0 T.length none,.slice 2 0 V.length none]] [some (.row 4 [[.nilslice,.slice 1 0 T.length none,.slice 2 0 V.length none,.int .i64 sum]]),some (.row 6 (T.map Tm.enc)),some (.row 3 (V.map Vc.enc)),some (.row 1 R),some (.row 3 [[.int .i64 zz,.str cl,.int .i64 1]])]=some (.bool true,[some (.row 4 [[.nilslice,.slice 1 0 T.length none,.slice 2 0 V.length none,.int .i64 sum]]),some (.row 6 (T.map Tm.enc)),some (.row 3 (V.map Vc.enc)),some (.row 1 R),some (.row 3 [[.int .i64 zz,.str cl,.int .i64 1]])],[1,2]):=by intro d;have hc:=a0o (sem L.env Mf 50) [.agg [.int .i64 zz,.str cl,.int .i64 1],.agg [.nilslice,.slice 1 0 T.length none,.slice 2 0 V.length none]] [some (.row 4 [[.nilslice,.slice 1 0 T.length none,.slice 2 0 V.length none,.int .i64 sum]]),some (.row 6 (T.map Tm.enc)),some (.row 3 (V.map Vc.enc)),some (.row 1 R),some (.row 3 [[.int .i64 zz,.str cl,.int .i64 1]])] (σ:=[1,2]) (by simp+decide only[go_sem,hT1,hT2,hV1,hV2]<;>rfl) rfl rfl (args':=[.agg [.int .i64 zz,.str cl,.int .i64 1],.agg [.nilslice,.slice 0 0 T.length none,.slice 1 0 V.length none]]) rfl (H0:=[some (.row 6 (T.map Tm.enc)),some (.row 3 (V.map Vc.enc))]) (by simp+decide only[go_sem,a0u,hT1,hT2,hV1,hV2]) hvm;refine a1t (by kernel_rfl) (by kernel_rfl) rfl (hc.trans ?_) rfl;simp+decide only[go_sem,a0s,hT1,hT2,hV1,hV2,r1]<;>rfl
  (refine svE Tryz.f67 ?_;simp only[Tryz.f67,gS])
  (repeat first|simp only[ww]|(apply xa;simp+decide only[go_sem,hmt,hR1,hR2,hRl,q1,q2,hfd,hvl,hwS1,hsum1,b43,hVn,c7,hrm,hcl];rfl;kernel_rfl))
  (apply a2v;(·simp+decide only[go_sem]<;>rfl))
  exact⟨_,_,rfl,rfl,by simp[List.map_append];rfl,rfl⟩
theorem c3k(sum:Int)(n:Nat)(R:List (List AV))(nm cl:List UInt8)(rp:List UInt8)(hrp:NumOk rp)(hR3:R[3]?=some [.str rp])(T:List Tm)(hTl:T.length≤100000)(V:List Vc)(hVl:V.length<65536)(hRl:R.length=n)(hnm:4≤n)(hRf:FlatR R)(hR1:R[1]?=some [.str nm])(hR2:R[2]?=some [.str cl])(hs0:0≤sum)(hsum:sum+(a0d rp:Nat)≤1000000)(hok:a55 ⟨fnd nm (T.map Tm.name),if cl=[45]then[]else cl,(a0d rp:Nat)⟩ ([]:List Sg) T.length=true) :
 ∃r:AV×a08,(∃c H1,r=(.tuple [],H1)∧a04 H1 0=some (.row 4 [[.nilslice,.slice 1 0 T.length none,.slice c 0 (V.length+1) none,.int .i64 (sum+(a0d rp:Nat))]])∧a04 H1 c=some (.row 3 ((V++[⟨fnd nm (T.map Tm.name),if cl=[45]then[]else cl,(a0d rp:Nat)⟩]:List Vc).map Vc.enc))∧a04 H1 1=some (.row 6 (T.map Tm.enc)))∧sem L.env Mf 67 [.ptr 0 0 0,.slice 3 0 4 (some n)] [some (.row 4 [[.nilslice,.slice 1 0 T.length none,.slice 2 0 V.length none,.int .i64 sum]]),some (.row 6 (T.map Tm.enc)),some (.row 3 (V.map Vc.enc)),some (.row 1 R)]=some r:=by
 have hmt:=λd H e=>a1b (d:=d) H e;have r1:=λπ=>a02 π hRf;have r2:=a01 hRf;have hT1:=λπ=>a02 π (a0g T);have hT2:=a01 (a0g T);have hTn:(T.map Tm.enc).length=T.length:=List.length_map ..;have hV1:=λπ=>a02 π (a0b V);have hV2:=a01 (a0b V);have q1:1<n:=by omega
 have q2:2<n:=by omega
 have b43:Nat.beq 43 82=false:=by decide
 have q3:3<n:=by omega
 have hnu:=λd H=>a5p (d:=d) H rp hrp;have hVn:(V.map Vc.enc).length=V.length:=List.length_map ..;have c7:(V.length:Int)<65536:=by omega
 have hrm:V.length+1≤1000000000:=by omega
 have hwS:IntKind.i64.wrap (sum+(a0d rp:Nat))=sum+(a0d rp:Nat):=w64 (by omega) (by omega);have hfd0:=b5q sum nm T hTl V;generalize fnd nm (T.map Tm.name)=zz at *;have hfd:∀d,a0j L.env d (sem L.env Mf) (.func (.func 85) [] []) [.ptr 0 0 0,.str nm] [some (.row 4 [[.nilslice,.slice 1 0 T.length none,.slice 2 0 V.length none,.int .i64 sum]]),some (.row 6 (T.map Tm.enc)),some (.row 3 (V.map Vc.enc)),some (.row 1 R)]=some (.int .i64 zz,[some (.row 4 [[.nilslice,.slice 1 0 T.length none,.slice 2 0 V.length none,.int .i64 sum]]),some (.row 6 (T.map Tm.enc)),some (.row 3 (V.map Vc.enc)),some (.row 1 R)],[0,1,2]):=by intro d;have hc:=a0o (sem L.env Mf 85) [.ptr 0 0 0,.str nm] [some (.row 4 [[.nilslice,.slice 1 0 T.length none,.slice 2 0 V.length none,.int .i64 sum]]),some (.row 6 (T.map Tm.enc)),some (.row 3 (V.map Vc.enc)),some (.row 1 R)] (σ:=[0,1,2]) (by simp+decide only[go_sem,hT1,hT2,hV1,hV2]<;>rfl) rfl rfl (args':=[.ptr 0 0 0,.str nm]) rfl (H0:=[some (.row 4 [[.nilslice,.slice 1 0 T.length none,.slice 2 0 V.length none,.int .i64 sum]]),some (.row 6 (T.map Tm.enc)),some (.row 3 (V.map Vc.enc))]) (by simp+decide only[go_sem,a0u,hT1,hT2,hV1,hV2]) hfd0;refine a1t (by kernel_rfl) (by kernel_rfl) rfl (hc.trans ?_) rfl;simp+decide only[go_sem,a0s,hT1,hT2,hV1,hV2]<;>rfl
 by_cases hcl:cl=[45]
 ·subst hcl;rw[if_pos rfl]at hok⊢;have hvm:=a97 ⟨zz,[],(a0d rp:Nat)⟩ T hTl V hok;have hvl:∀d,a0j L.env d (sem L.env Mf) (.func (.func 50) [] []) [.agg [.int .i64 zz,.str [],.int .i64 (a0d rp:Nat)],.agg [.nilslice,.slice 1 0 T.length none,.slice 2 0 V.length none]] [some (.row 4 [[.nilslice,.slice 1 0 T.length none,.slice 2 0 V.length none,.int .i64 sum]]),some (.row 6 (T.map Tm.enc)),some (.row 3 (V.map Vc.enc)),some (.row 1 R),some (.row 3 [[.int .i64 zz,.str [],.int .i64 (a0d rp:Nat)]])]=some (.bool true,[some (.row 4 [[.nilslice,.slice 1 0 T.length none,.slice 2 0 V.length none,.int .i64 sum]]),some (.row 6 (T.map Tm.enc)),some (.row 3 (V.map Vc.enc)),some (.row 1 R),some (.row 3 [[.int .i64 zz,.str [],.int .i64 (a0d rp:Nat)]])],[1,2]):=by
   intro d;have hc:=a0o (sem L.env Mf 50) [.agg [.int .i64 zz,.str [],.int .i64 (a0d rp:Nat)],.agg [.nilslice,.slice 1 0 T.length none,.slice 2 0 V.length none]] [some (.row 4 [[.nilslice,.slice 1 0 T.length none,.slice 2 0 V.length none,.int .i64 sum]]),some (.row 6 (T.map Tm.enc)),some (.row 3 (V.map Vc.enc)),some (.row 1 R),some (.row 3 [[.int .i64 zz,.str [],.int .i64 (a0d rp:Nat)]])] (σ:=[1,2]) (by simp+decide only[go_sem,hT1,hT2,hV1,hV2]<;>rfl) rfl rfl (args':=[.agg [.int .i64 zz,.str [],.int .i64 (a0d rp:Nat)],.agg [.nilslice,.slice 0 0 T.length none,.slice 1 0 V.length none]]) rfl (H0:=[some (.row 6 (T.map Tm.enc)),some (.row 3 (V.map Vc.enc))]) (by simp+decide only[go_sem,a0u,hT1,hT2,hV1,hV2]) hvm;refine a1t (by kernel_rfl) (by kernel_rfl) rfl (hc.trans ?_) rfl;simp+decide only[go_sem,a0s,hT1,hT2,hV1,hV2,r1]<;>rfl
  (refine svE Tryz.f67 ?_;simp only[Tryz.f67,gS])
  (repeat first|simp only[ww]|(apply xa;simp+decide only[go_sem,hmt,hR1,hR2,hR3,q3,hnu,hRl,q1,q2,hfd,hvl,hwS,hsum,b43,hVn,c7,hrm];rfl;kernel_rfl))
  (apply a2v;(·simp+decide only[go_sem]<;>rfl))
  exact⟨_,_,rfl,rfl,by simp[List.map_append];rfl,rfl⟩
 ·skip
  rw[if_neg hcl]at hok⊢;have hvm:=a97 ⟨zz,cl,(a0d rp:Nat)⟩ T hTl V hok;have hvl:∀d,a0j L.env d (sem L.env Mf) (.func (.func 50) [] []) [.agg [.int .i64 zz,.str cl,.int .i64 (a0d rp:Nat)],.agg [.nilslice,.slice 1 0 T.length none,.slice 2 0 V.length none]] [some (.row 4 [[.nilslice,.slice 1 0 T.length none,.slice 2 0 V.length none,.int .i64 sum]]),some (.row 6 (T.map Tm.enc)),some (.row 3 (V.map Vc.enc)),some (.row 1 R),some (.row 3 [[.int .i64 zz,.str cl,.int .i64 (a0d rp:Nat)]])]=some (.bool true,[some (.row 4 [[.nilslice,.slice 1 0 T.length none,.slice 2 0 V.length none,.int .i64 sum]]),some (.row 6 (T.map Tm.enc)),some (.row 3 (V.map Vc.enc)),some (.row 1 R),some (.row 3 [[.int .i64 zz,.str cl,.int .i64 (a0d rp:Nat)]])],[1,2]):=by intro d;have hc:=a0o (sem L.env Mf 50) [.agg [.int .i64 zz,.str cl,.int .i64 (a0d rp:Nat)],.agg [.nilslice,.slice 1 0 T.length none,.slice 2 0 V.length none]] [some (.row 4 [[.nilslice,.slice 1 0 T.length none,.slice 2 0 V.length none,.int .i64 sum]]),some (.row 6 (T.map Tm.enc)),some (.row 3 (V.map Vc.enc)),some (.row 1 R),some (.row 3 [[.int .i64 zz,.str cl,.int .i64 (a0d rp:Nat)]])] (σ:=[1,2]) (by simp+decide only[go_sem,hT1,hT2,hV1,hV2]<;>rfl) rfl rfl (args':=[.agg [.int .i64 zz,.str cl,.int .i64 (a0d rp:Nat)],.agg [.nilslice,.slice 0 0 T.length none,.slice 1 0 V.length none]]) rfl (H0:=[some (.row 6 (T.map Tm.enc)),some (.row 3 (V.map Vc.enc))]) (by simp+decide only[go_sem,a0u,hT1,hT2,hV1,hV2]) hvm;refine a1t (by kernel_rfl) (by kernel_rfl) rfl (hc.trans ?_) rfl;simp+decide only[go_sem,a0s,hT1,hT2,hV1,hV2,r1]<;>rfl
  (refine svE Tryz.f67 ?_;simp only[Tryz.f67,gS])
  (repeat first|simp only[ww]|(apply xa;simp+decide only[go_sem,hmt,hR1,hR2,hR3,q3,hnu,hRl,q1,q2,hfd,hvl,hwS,hsum,b43,hVn,c7,hrm,hcl];rfl;kernel_rfl))
  (apply a2v;(·simp+decide only[go_sem]<;>rfl))
  exact⟨_,_,rfl,rfl,by simp[List.map_append];rfl,rfl⟩
theorem c3j(sum:Int)(n:Nat)(R:List (List AV))(nm cl:List UInt8)(S:List Sg)(T:List Tm)(hTl:T.length≤100000)(hSl:S.length≤100000)(hRl:R.length=n)(hnm:3≤n)(hRf:FlatR R)(hR1:R[1]?=some [.str nm])(hR2:R[2]?=some [.str cl])(hs0:0≤sum)(hsum:sum+(1:Nat)≤1000000)(hok:a55 ⟨fnd nm (T.map Tm.name),if cl=[45]then[]else cl,(1:Nat)⟩ S T.length=true) :
 ∃r:AV×a08,(∃c H1,r=(.tuple [],H1)∧a04 H1 0=some (.row 4 [[.slice 1 0 S.length none,.slice 2 0 T.length none,.slice c 0 (([]:List Vc).length+1) none,.int .i64 (sum+(1:Nat))]])∧a04 H1 c=some (.row 3 ((([]:List Vc)++[⟨fnd nm (T.map Tm.name),if cl=[45]then[]else cl,(1:Nat)⟩]:List Vc).map Vc.enc))∧a04 H1 1=some (.row 2 (S.map Sg.enc))∧a04 H1 2=some (.row 6 (T.map Tm.enc)))∧sem L.env Mf 67 [.ptr 0 0 0,.slice 3 0 3 (some n)] [some (.row 4 [[.slice 1 0 S.length none,.slice 2 0 T.length none,.nilslice,.int .i64 sum]]),some (.row 2 (S.map Sg.enc)),some (.row 6 (T.map Tm.enc)),some (.row 1 R)]=some r:=by
 have hmt:=λd H e=>a1b (d:=d) H e;have r1:=λπ=>a02 π hRf;have r2:=a01 hRf;have hS1:=λπ=>a02 π (a0z S);have hS2:=a01 (a0z S);have hT1:=λπ=>a02 π (a0g T);have hT2:=a01 (a0g T);have hTn:(T.map Tm.enc).length=T.length:=List.length_map ..;have q1:1<n:=by omega
 have q2:2<n:=by omega
 have b43:Nat.beq 43 82=false:=by decide
 have hwS1:IntKind.i64.wrap (sum+1)=sum+1:=w64 (by omega) (by omega);have hsum1:sum+1≤1000000:=by omega
 have hwS:IntKind.i64.wrap (sum+(1:Nat))=sum+(1:Nat):=w64 (by omega) (by omega);have hfd0:=b10 sum nm S T hTl;generalize fnd nm (T.map Tm.name)=zz at *;have hfd:∀d,a0j L.env d (sem L.env Mf) (.func (.func 85) [] []) [.ptr 0 0 0,.str nm] [some (.row 4 [[.slice 1 0 S.length none,.slice 2 0 T.length none,.nilslice,.int .i64 sum]]),some (.row 2 (S.map Sg.enc)),some (.row 6 (T.map Tm.enc)),some (.row 1 R)]=some (.int .i64 zz,[some (.row 4 [[.slice 1 0 S.length none,.slice 2 0 T.length none,.nilslice,.int .i64 sum]]),some (.row 2 (S.map Sg.enc)),some (.row 6 (T.map Tm.enc)),some (.row 1 R)],[0,1,2]):=by intro d;have hc:=a0o (sem L.env Mf 85) [.ptr 0 0 0,.str nm] [some (.row 4 [[.slice 1 0 S.length none,.slice 2 0 T.length none,.nilslice,.int .i64 sum]]),some (.row 2 (S.map Sg.enc)),some (.row 6 (T.map Tm.enc)),some (.row 1 R)] (σ:=[0,1,2]) (by simp+decide only[go_sem,hS1,hS2,hT1,hT2]<;>rfl) rfl rfl (args':=[.ptr 0 0 0,.str nm]) rfl (H0:=[some (.row 4 [[.slice 1 0 S.length none,.slice 2 0 T.length none,.nilslice,.int .i64 sum]]),some (.row 2 (S.map Sg.enc)),some (.row 6 (T.map Tm.enc))]) (by simp+decide only[go_sem,a0u,hS1,hS2,hT1,hT2]) hfd0;refine a1t (by kernel_rfl) (by kernel_rfl) rfl (hc.trans ?_) rfl;simp+decide only[go_sem,a0s,hS1,hS2,hT1,hT2]<;>rfl
 by_cases hcl:cl=[45]
 ·subst hcl;rw[if_pos rfl]at hok⊢;have hvm:=a96 ⟨zz,[],(1:Nat)⟩ S T hTl hok hSl;have hvl:∀d,a0j L.env d (sem L.env Mf) (.func (.func 50) [] []) [.agg [.int .i64 zz,.str [],.int .i64 1],.agg [.slice 1 0 S.length none,.slice 2 0 T.length none,.nilslice]] [some (.row 4 [[.slice 1 0 S.length none,.slice 2 0 T.length none,.nilslice,.int .i64 sum]]),some (.row 2 (S.map Sg.enc)),some (.row 6 (T.map Tm.enc)),some (.row 1 R),some (.row 3 [[.int .i64 zz,.str [],.int .i64 1]])]=some (.bool true,[some (.row 4 [[.slice 1 0 S.length none,.slice 2 0 T.length none,.nilslice,.int .i64 sum]]),some (.row 2 (S.map Sg.enc)),some (.row 6 (T.map Tm.enc)),some (.row 1 R),some (.row 3 [[.int .i64 zz,.str [],.int .i64 1]])],[1,2]):=by
   intro d;have hc:=a0o (sem L.env Mf 50) [.agg [.int .i64 zz,.str [],.int .i64 1],.agg [.slice 1 0 S.length none,.slice 2 0 T.length none,.nilslice]] [some (.row 4 [[.slice 1 0 S.length none,.slice 2 0 T.length none,.nilslice,.int .i64 sum]]),some (.row 2 (S.map Sg.enc)),some (.row 6 (T.map Tm.enc)),some (.row 1 R),some (.row 3 [[.int .i64 zz,.str [],.int .i64 1]])] (σ:=[1,2]) (by simp+decide only[go_sem,hS1,hS2,hT1,hT2]<;>rfl) rfl rfl (args':=[.agg [.int .i64 zz,.str [],.int .i64 1],.agg [.slice 0 0 S.length none,.slice 1 0 T.length none,.nilslice]]) rfl (H0:=[some (.row 2 (S.map Sg.enc)),some (.row 6 (T.map Tm.enc))]) (by simp+decide only[go_sem,a0u,hS1,hS2,hT1,hT2]) hvm;refine a1t (by kernel_rfl) (by kernel_rfl) rfl (hc.trans ?_) rfl;simp+decide only[go_sem,a0s,hS1,hS2,hT1,hT2,r1]<;>rfl
  (refine svE Tryz.f67 ?_;simp only[Tryz.f67,gS])
  (repeat first|simp only[ww]|(apply xa;simp+decide only[go_sem,hmt,hR1,hR2,hRl,q1,q2,hfd,hvl,hwS1,hsum1,b43];rfl;kernel_rfl))
  (apply a2v;(·simp+decide only[go_sem]<;>rfl))
  exact⟨_,_,rfl,rfl,rfl,rfl,rfl⟩
 ·skip
  rw[if_neg hcl]at hok⊢;have hvm:=a96 ⟨zz,cl,(1:Nat)⟩ S T hTl hok hSl;have hvl:∀d,a0j L.env d (sem L.env Mf) (.func (.func 50) [] []) [.agg [.int .i64 zz,.str cl,.int .i64 1],.agg [.slice 1 0 S.length none,.slice 2 0 T.length none,.nilslice]] [some (.row 4 [[.slice 1 0 S.length none,.slice 2 0 T.length none,.nilslice,.int .i64 sum]]),some (.row 2 (S.map Sg.enc)),some (.row 6 (T.map Tm.enc)),some (.row 1 R),some (.row 3 [[.int .i64 zz,.str cl,.int .i64 1]])]=some (.bool true,[some (.row 4 [[.slice 1 0 S.length none,.slice 2 0 T.length none,.nilslice,.int .i64 sum]]),some (.row 2 (S.map Sg.enc)),some (.row 6 (T.map Tm.enc)),some (.row 1 R),some (.row 3 [[.int .i64 zz,.str cl,.int .i64 1]])],[1,2]):=by intro d;have hc:=a0o (sem L.env Mf 50) [.agg [.int .i64 zz,.str cl,.int .i64 1],.agg [.slice 1 0 S.length none,.slice 2 0 T.length none,.nilslice]] [some (.row 4 [[.slice 1 0 S.length none,.slice 2 0 T.length none,.nilslice,.int .i64 sum]]),some (.row 2 (S.map Sg.enc)),some (.row 6 (T.map Tm.enc)),some (.row 1 R),some (.row 3 [[.int .i64 zz,.str cl,.int .i64 1]])] (σ:=[1,2]) (by simp+decide only[go_sem,hS1,hS2,hT1,hT2]<;>rfl) rfl rfl (args':=[.agg [.int .i64 zz,.str cl,.int .i64 1],.agg [.slice 0 0 S.length none,.slice 1 0 T.length none,.nilslice]]) rfl (H0:=[some (.row 2 (S.map Sg.enc)),some (.row 6 (T.map Tm.enc))]) (by simp+decide only[go_sem,a0u,hS1,hS2,hT1,hT2]) hvm;refine a1t (by kernel_rfl) (by kernel_rfl) rfl (hc.trans ?_) rfl;simp+decide only[go_sem,a0s,hS1,hS2,hT1,hT2,r1]<;>rfl
  (refine svE Tryz.f67 ?_;simp only[Tryz.f67,gS])
  (repeat first|simp only[ww]|(apply xa;simp+decide only[go_sem,hmt,hR1,hR2,hRl,q1,q2,hfd,hvl,hwS1,hsum1,b43,hcl];rfl;kernel_rfl))
  (apply a2v;(·simp+decide only[go_sem]<;>rfl))
  exact⟨_,_,rfl,rfl,rfl,rfl,rfl⟩
theorem c3i(sum:Int)(n:Nat)(R:List (List AV))(nm cl:List UInt8)(rp:List UInt8)(hrp:NumOk rp)(hR3:R[3]?=some [.str rp])(S:List Sg)(T:List Tm)(hTl:T.length≤100000)(hSl:S.length≤100000)(hRl:R.length=n)(hnm:4≤n)(hRf:FlatR R)(hR1:R[1]?=some [.str nm])(hR2:R[2]?=some [.str cl])(hs0:0≤sum)(hsum:sum+(a0d rp:Nat)≤1000000)(hok:a55 ⟨fnd nm (T.map Tm.name),if cl=[45]then[]else cl,(a0d rp:Nat)⟩ S T.length=true) :
 ∃r:AV×a08,(∃c H1,r=(.tuple [],H1)∧a04 H1 0=some (.row 4 [[.slice 1 0 S.length none,.slice 2 0 T.length none,.slice c 0 (([]:List Vc).length+1) none,.int .i64 (sum+(a0d rp:Nat))]])∧a04 H1 c=some (.row 3 ((([]:List Vc)++[⟨fnd nm (T.map Tm.name),if cl=[45]then[]else cl,(a0d rp:Nat)⟩]:List Vc).map Vc.enc))∧a04 H1 1=some (.row 2 (S.map Sg.enc))∧a04 H1 2=some (.row 6 (T.map Tm.enc)))∧sem L.env Mf 67 [.ptr 0 0 0,.slice 3 0 4 (some n)] [some (.row 4 [[.slice 1 0 S.length none,.slice 2 0 T.length none,.nilslice,.int .i64 sum]]),some (.row 2 (S.map Sg.enc)),some (.row 6 (T.map Tm.enc)),some (.row 1 R)]=some r:=by
 have hmt:=λd H e=>a1b (d:=d) H e;have r1:=λπ=>a02 π hRf;have r2:=a01 hRf;have hS1:=λπ=>a02 π (a0z S);have hS2:=a01 (a0z S);have hT1:=λπ=>a02 π (a0g T);have hT2:=a01 (a0g T);have hTn:(T.map Tm.enc).length=T.length:=List.length_map ..;have q1:1<n:=by omega
 have q2:2<n:=by omega
 have b43:Nat.beq 43 82=false:=by decide
 have q3:3<n:=by omega
 have hnu:=λd H=>a5p (d:=d) H rp hrp;have hwS:IntKind.i64.wrap (sum+(a0d rp:Nat))=sum+(a0d rp:Nat):=w64 (by omega) (by omega);have hfd0:=b10 sum nm S T hTl;generalize fnd nm (T.map Tm.name)=zz at *;have hfd:∀d,a0j L.env d (sem L.env Mf) (.func (.func 85) [] []) [.ptr 0 0 0,.str nm] [some (.row 4 [[.slice 1 0 S.length none,.slice 2 0 T.length none,.nilslice,.int .i64 sum]]),some (.row 2 (S.map Sg.enc)),some (.row 6 (T.map Tm.enc)),some (.row 1 R)]=some (.int .i64 zz,[some (.row 4 [[.slice 1 0 S.length none,.slice 2 0 T.length none,.nilslice,.int .i64 sum]]),some (.row 2 (S.map Sg.enc)),some (.row 6 (T.map Tm.enc)),some (.row 1 R)],[0,1,2]):=by intro d;have hc:=a0o (sem L.env Mf 85) [.ptr 0 0 0,.str nm] [some (.row 4 [[.slice 1 0 S.length none,.slice 2 0 T.length none,.nilslice,.int .i64 sum]]),some (.row 2 (S.map Sg.enc)),some (.row 6 (T.map Tm.enc)),some (.row 1 R)] (σ:=[0,1,2]) (by simp+decide only[go_sem,hS1,hS2,hT1,hT2]<;>rfl) rfl rfl (args':=[.ptr 0 0 0,.str nm]) rfl (H0:=[some (.row 4 [[.slice 1 0 S.length none,.slice 2 0 T.length none,.nilslice,.int .i64 sum]]),some (.row 2 (S.map Sg.enc)),some (.row 6 (T.map Tm.enc))]) (by simp+decide only[go_sem,a0u,hS1,hS2,hT1,hT2]) hfd0;refine a1t (by kernel_rfl) (by kernel_rfl) rfl (hc.trans ?_) rfl;simp+decide only[go_sem,a0s,hS1,hS2,hT1,hT2]<;>rfl
 by_cases hcl:cl=[45]
 ·subst hcl;rw[if_pos rfl]at hok⊢;have hvm:=a96 ⟨zz,[],(a0d rp:Nat)⟩ S T hTl hok hSl;have hvl:∀d,a0j L.env d (sem L.env Mf) (.func (.func 50) [] []) [.agg [.int .i64 zz,.str [],.int .i64 (a0d rp:Nat)],.agg [.slice 1 0 S.length none,.slice 2 0 T.length none,.nilslice]] [some (.row 4 [[.slice 1 0 S.length none,.slice 2 0 T.length none,.nilslice,.int .i64 sum]]),some (.row 2 (S.map Sg.enc)),some (.row 6 (T.map Tm.enc)),some (.row 1 R),some (.row 3 [[.int .i64 zz,.str [],.int .i64 (a0d rp:Nat)]])]=some (.bool true,[some (.row 4 [[.slice 1 0 S.length none,.slice 2 0 T.length none,.nilslice,.int .i64 sum]]),some (.row 2 (S.map Sg.enc)),some (.row 6 (T.map Tm.enc)),some (.row 1 R),some (.row 3 [[.int .i64 zz,.str [],.int .i64 (a0d rp:Nat)]])],[1,2]):=by
   intro d;have hc:=a0o (sem L.env Mf 50) [.agg [.int .i64 zz,.str [],.int .i64 (a0d rp:Nat)],.agg [.slice 1 0 S.length none,.slice 2 0 T.length none,.nilslice]] [some (.row 4 [[.slice 1 0 S.length none,.slice 2 0 T.length none,.nilslice,.int .i64 sum]]),some (.row 2 (S.map Sg.enc)),some (.row 6 (T.map Tm.enc)),some (.row 1 R),some (.row 3 [[.int .i64 zz,.str [],.int .i64 (a0d rp:Nat)]])] (σ:=[1,2]) (by simp+decide only[go_sem,hS1,hS2,hT1,hT2]<;>rfl) rfl rfl (args':=[.agg [.int .i64 zz,.str [],.int .i64 (a0d rp:Nat)],.agg [.slice 0 0 S.length none,.slice 1 0 T.length none,.nilslice]]) rfl (H0:=[some (.row 2 (S.map Sg.enc)),some (.row 6 (T.map Tm.enc))]) (by simp+decide only[go_sem,a0u,hS1,hS2,hT1,hT2]) hvm;refine a1t (by kernel_rfl) (by kernel_rfl) rfl (hc.trans ?_) rfl;simp+decide only[go_sem,a0s,hS1,hS2,hT1,hT2,r1]<;>rfl
  (refine svE Tryz.f67 ?_;simp only[Tryz.f67,gS])
  (repeat first|simp only[ww]|(apply xa;simp+decide only[go_sem,hmt,hR1,hR2,hR3,q3,hnu,hRl,q1,q2,hfd,hvl,hwS,hsum,b43];rfl;kernel_rfl))
  (apply a2v;(·simp+decide only[go_sem]<;>rfl))
  exact⟨_,_,rfl,rfl,rfl,rfl,rfl⟩
 ·skip
  rw[if_neg hcl]at hok⊢;have hvm:=a96 ⟨zz,cl,(a0d rp:Nat)⟩ S T hTl hok hSl;have hvl:∀d,a0j L.env d (sem L.env Mf) (.func (.func 50) [] []) [.agg [.int .i64 zz,.str cl,.int .i64 (a0d rp:Nat)],.agg [.slice 1 0 S.length none,.slice 2 0 T.length none,.nilslice]] [some (.row 4 [[.slice 1 0 S.length none,.slice 2 0 T.length none,.nilslice,.int .i64 sum]]),some (.row 2 (S.map Sg.enc)),some (.row 6 (T.map Tm.enc)),some (.row 1 R),some (.row 3 [[.int .i64 zz,.str cl,.int .i64 (a0d rp:Nat)]])]=some (.bool true,[some (.row 4 [[.slice 1 0 S.length none,.slice 2 0 T.length none,.nilslice,.int .i64 sum]]),some (.row 2 (S.map Sg.enc)),some (.row 6 (T.map Tm.enc)),some (.row 1 R),some (.row 3 [[.int .i64 zz,.str cl,.int .i64 (a0d rp:Nat)]])],[1,2]):=by intro d;have hc:=a0o (sem L.env Mf 50) [.agg [.int .i64 zz,.str cl,.int .i64 (a0d rp:Nat)],.agg [.slice 1 0 S.length none,.slice 2 0 T.length none,.nilslice]] [some (.row 4 [[.slice 1 0 S.length none,.slice 2 0 T.length none,.nilslice,.int .i64 sum]]),some (.row 2 (S.map Sg.enc)),some (.row 6 (T.map Tm.enc)),some (.row 1 R),some (.row 3 [[.int .i64 zz,.str cl,.int .i64 (a0d rp:Nat)]])] (σ:=[1,2]) (by simp+decide only[go_sem,hS1,hS2,hT1,hT2]<;>rfl) rfl rfl (args':=[.agg [.int .i64 zz,.str cl,.int .i64 (a0d rp:Nat)],.agg [.slice 0 0 S.length none,.slice 1 0 T.length none,.nilslice]]) rfl (H0:=[some (.row 2 (S.map Sg.enc)),some (.row 6 (T.map Tm.enc))]) (by simp+decide only[go_sem,a0u,hS1,hS2,hT1,hT2]) hvm;refine a1t (by kernel_rfl) (by kernel_rfl) rfl (hc.trans ?_) rfl;simp+decide only[go_sem,a0s,hS1,hS2,hT1,hT2,r1]<;>rfl
  (refine svE Tryz.f67 ?_;simp only[Tryz.f67,gS])
  (repeat first|simp only[ww]|(apply xa;simp+decide only[go_sem,hmt,hR1,hR2,hR3,q3,hnu,hRl,q1,q2,hfd,hvl,hwS,hsum,b43,hcl];rfl;kernel_rfl))
  (apply a2v;(·simp+decide only[go_sem]<;>rfl))
  exact⟨_,_,rfl,rfl,rfl,rfl,rfl⟩
theorem c3h(sum:Int)(n:Nat)(R:List (List AV))(nm cl:List UInt8)(S:List Sg)(T:List Tm)(hTl:T.length≤100000)(V:List Vc)(hSl:S.length≤100000)(hVl:V.length<65536)(hRl:R.length=n)(hnm:3≤n)(hRf:FlatR R)(hR1:R[1]?=some [.str nm])(hR2:R[2]?=some [.str cl])(hs0:0≤sum)(hsum:sum+(1:Nat)≤1000000)(hok:a55 ⟨fnd nm (T.map Tm.name),if cl=[45]then[]else cl,(1:Nat)⟩ S T.length=true) :
 ∃r:AV×a08,(∃c H1,r=(.tuple [],H1)∧a04 H1 0=some (.row 4 [[.slice 1 0 S.length none,.slice 2 0 T.length none,.slice c 0 (V.length+1) none,.int .i64 (sum+(1:Nat))]])∧a04 H1 c=some (.row 3 ((V++[⟨fnd nm (T.map Tm.name),if cl=[45]then[]else cl,(1:Nat)⟩]:List Vc).map Vc.enc))∧a04 H1 1=some (.row 2 (S.map Sg.enc))∧a04 H1 2=some (.row 6 (T.map Tm.enc)))∧sem L.env Mf 67 [.ptr 0 0 0,.slice 4 0 3 (some n)] [some (.row 4 [[.slice 1 0 S.length none,.slice 2 0 T.length none,.slice 3 0 V.length none,.int .i64 sum]]),some (.row 2 (S.map Sg.enc)),some (.row 6 (T.map Tm.enc)),some (.row 3 (V.map Vc.enc)),some (.row 1 R)]=some r:=by
 have hmt:=λd H e=>a1b (d:=d) H e;have r1:=λπ=>a02 π hRf;have r2:=a01 hRf;have hS1:=λπ=>a02 π (a0z S);have hS2:=a01 (a0z S);have hT1:=λπ=>a02 π (a0g T);have hT2:=a01 (a0g T);have hTn:(T.map Tm.enc).length=T.length:=List.length_map ..;have hV1:=λπ=>a02 π (a0b V);have hV2:=a01 (a0b V);have q1:1<n:=by omega
 have q2:2<n:=by omega
 have b43:Nat.beq 43 82=false:=by decide
 have hwS1:IntKind.i64.wrap (sum+1)=sum+1:=w64 (by omega) (by omega);have hsum1:sum+1≤1000000:=by omega
 have hVn:(V.map Vc.enc).length=V.length:=List.length_map ..;have c7:(V.length:Int)<65536:=by omega
 have hrm:V.length+1≤1000000000:=by omega
 have hwS:IntKind.i64.wrap (sum+(1:Nat))=sum+(1:Nat):=w64 (by omega) (by omega);have hfd0:=b5p sum nm S T hTl V;generalize fnd nm (T.map Tm.name)=zz at *;have hfd:∀d,a0j L.env d (sem L.env Mf) (.func (.func 85) [] []) [.ptr 0 0 0,.str nm] [some (.row 4 [[.slice 1 0 S.length none,.slice 2 0 T.length none,.slice 3 0 V.length none,.int .i64 sum]]),some (.row 2 (S.map Sg.enc)),some (.row 6 (T.map Tm.enc)),some (.row 3 (V.map Vc.enc)),some (.row 1 R)]=some (.int .i64 zz,[some (.row 4 [[.slice 1 0 S.length none,.slice 2 0 T.length none,.slice 3 0 V.length none,.int .i64 sum]]),some (.row 2 (S.map Sg.enc)),some (.row 6 (T.map Tm.enc)),some (.row 3 (V.map Vc.enc)),some (.row 1 R)],[0,1,2,3]):=by intro d;have hc:=a0o (sem L.env Mf 85) [.ptr 0 0 0,.str nm] [some (.row 4 [[.slice 1 0 S.length none,.slice 2 0 T.length none,.slice 3 0 V.length none,.int .i64 sum]]),some (.row 2 (S.map Sg.enc)),some (.row 6 (T.map Tm.enc)),some (.row 3 (V.map Vc.enc)),some (.row 1 R)] (σ:=[0,1,2,3]) (by simp+decide only[go_sem,hS1,hS2,hT1,hT2,hV1,hV2]<;>rfl) rfl rfl (args':=[.ptr 0 0 0,.str nm]) rfl (H0:=[some (.row 4 [[.slice 1 0 S.length none,.slice 2 0 T.length none,.slice 3 0 V.length none,.int .i64 sum]]),some (.row 2 (S.map Sg.enc)),some (.row 6 (T.map Tm.enc)),some (.row 3 (V.map Vc.enc))]) (by simp+decide only[go_sem,a0u,hS1,hS2,hT1,hT2,hV1,hV2]) hfd0;refine a1t (by kernel_rfl) (by kernel_rfl) rfl (hc.trans ?_) rfl;simp+decide only[go_sem,a0s,hS1,hS2,hT1,hT2,hV1,hV2]<;>rfl
 by_cases hcl:cl=[45]
 ·subst hcl;rw[if_pos rfl]at hok⊢;have hvm:=a95 ⟨zz,[],(1:Nat)⟩ S T hTl V hok hSl;have hvl:∀d,a0j L.env d (sem L.env Mf) (.func (.func 50) [] []) [.agg [.int .i64 zz,.str [],.int .i64 1],.agg [.slice 1 0 S.length none,.slice 2 0 T.length none,.slice 3 0 V.length none]] [some (.row 4 [[.slice 1 0 S.length none,.slice 2 0 T.length none,.slice 3 0 V.length none,.int .i64 sum]]),some (.row 2 (S.map Sg.enc)),some (.row 6 (T.map Tm.enc)),some (.row 3 (V.map Vc.enc)),some (.row 1 R),some (.row 3 [[.int .i64 zz,.str [],.int .i64 1]])]=some (.bool true,[some (.row 4 [[.slice 1 0 S.length none,.slice 2 0 T.length none,.slice 3 0 V.length none,.int .i64 sum]]),some (.row 2 (S.map Sg.enc)),some (.row 6 (T.map Tm.enc)),some (.row 3 (V.map Vc.enc)),some (.row 1 R),some (.row 3 [[.int .i64 zz,.str [],.int .i64 1]])],[1,2,3]):=by
   intro d;have hc:=a0o (sem L.env Mf 50) [.agg [.int .i64 zz,.str [],.int .i64 1],.agg [.slice 1 0 S.length none,.slice 2 0 T.length none,.slice 3 0 V.length none]] [some (.row 4 [[.slice 1 0 S.length none,.slice 2 0 T.length none,.slice 3 0 V.length none,.int .i64 sum]]),some (.row 2 (S.map Sg.enc)),some (.row 6 (T.map Tm.enc)),some (.row 3 (V.map Vc.enc)),some (.row 1 R),some (.row 3 [[.int .i64 zz,.str [],.int .i64 1]])] (σ:=[1,2,3]) (by simp+decide only[go_sem,hS1,hS2,hT1,hT2,hV1,hV2]<;>rfl) rfl rfl (args':=[.agg [.int .i64 zz,.str [],.int .i64 1],.agg [.slice 0 0 S.length none,.slice 1 0 T.length none,.slice 2 0 V.length none]]) rfl (H0:=[some (.row 2 (S.map Sg.enc)),some (.row 6 (T.map Tm.enc)),some (.row 3 (V.map Vc.enc))]) (by simp+decide only[go_sem,a0u,hS1,hS2,hT1,hT2,hV1,hV2]) hvm;refine a1t (by kernel_rfl) (by kernel_rfl) rfl (hc.trans ?_) rfl;simp+decide only[go_sem,a0s,hS1,hS2,hT1,hT2,hV1,hV2,r1]<;>rfl
  (refine svE Tryz.f67 ?_;simp only[Tryz.f67,gS])
  (repeat first|simp only[ww]|(apply xa;simp+decide only[go_sem,hmt,hR1,hR2,hRl,q1,q2,hfd,hvl,hwS1,hsum1,b43,hVn,c7,hrm];rfl;kernel_rfl))
  (apply a2v;(·simp+decide only[go_sem]<;>rfl))
  exact⟨_,_,rfl,rfl,by simp[List.map_append];rfl,rfl,rfl⟩
 ·skip
  rw[if_neg hcl]at hok⊢;have hvm:=a95 ⟨zz,cl,(1:Nat)⟩ S T hTl V hok hSl;have hvl:∀d,a0j L.env d (sem L.env Mf) (.func (.func 50) [] []) [.agg [.int .i64 zz,.str cl,.int .i64 1],.agg [.slice 1 0 S.length none,.slice 2 0 T.length none,.slice 3 0 V.length none]] [some (.row 4 [[.slice 1 0 S.length none,.slice 2 0 T.length none,.slice 3 0 V.length none,.int .i64 sum]]),some (.row 2 (S.map Sg.enc)),some (.row 6 (T.map Tm.enc)),some (.row 3 (V.map Vc.enc)),some (.row 1 R),some (.row 3 [[.int .i64 zz,.str cl,.int .i64 1]])]=some (.bool true,[some (.row 4 [[.slice 1 0 S.length none,.slice 2 0 T.length none,.slice 3 0 V.length none,.int .i64 sum]]),some (.row 2 (S.map Sg.enc)),some (.row 6 (T.map Tm.enc)),some (.row 3 (V.map Vc.enc)),some (.row 1 R),some (.row 3 [[.int .i64 zz,.str cl,.int .i64 1]])],[1,2,3]):=by intro d;have hc:=a0o (sem L.env Mf 50) [.agg [.int .i64 zz,.str cl,.int .i64 1],.agg [.slice 1 0 S.length none,.slice 2 0 T.length none,.slice 3 0 V.length none]] [some (.row 4 [[.slice 1 0 S.length none,.slice 2 0 T.length none,.slice 3 0 V.length none,.int .i64 sum]]),some (.row 2 (S.map Sg.enc)),some (.row 6 (T.map Tm.enc)),some (.row 3 (V.map Vc.enc)),some (.row 1 R),some (.row 3 [[.int .i64 zz,.str cl,.int .i64 1]])] (σ:=[1,2,3]) (by simp+decide only[go_sem,hS1,hS2,hT1,hT2,hV1,hV2]<;>rfl) rfl rfl (args':=[.agg [.int .i64 zz,.str cl,.int .i64 1],.agg [.slice 0 0 S.length none,.slice 1 0 T.length none,.slice 2 0 V.length none]]) rfl (H0:=[some (.row 2 (S.map Sg.enc)),some (.row 6 (T.map Tm.enc)),some (.row 3 (V.map Vc.enc))]) (by simp+decide only[go_sem,a0u,hS1,hS2,hT1,hT2,hV1,hV2]) hvm;refine a1t (by kernel_rfl) (by kernel_rfl) rfl (hc.trans ?_) rfl;simp+decide only[go_sem,a0s,hS1,hS2,hT1,hT2,hV1,hV2,r1]<;>rfl
  (refine svE Tryz.f67 ?_;simp only[Tryz.f67,gS])
  (repeat first|simp only[ww]|(apply xa;simp+decide only[go_sem,hmt,hR1,hR2,hRl,q1,q2,hfd,hvl,hwS1,hsum1,b43,hVn,c7,hrm,hcl];rfl;kernel_rfl))
  (apply a2v;(·simp+decide only[go_sem]<;>rfl))
  exact⟨_,_,rfl,rfl,by simp[List.map_append];rfl,rfl,rfl⟩
theorem c3g(sum:Int)(n:Nat)(R:List (List AV))(nm cl:List UInt8)(rp:List UInt8)(hrp:NumOk rp)(hR3:R[3]?=some [.str rp])(S:List Sg)(T:List Tm)(hTl:T.length≤100000)(V:List Vc)(hSl:S.length≤100000)(hVl:V.length<65536)(hRl:R.length=n)(hnm:4≤n)(hRf:FlatR R)(hR1:R[1]?=some [.str nm])(hR2:R[2]?=some [.str cl])(hs0:0≤sum)(hsum:sum+(a0d rp:Nat)≤1000000)(hok:a55 ⟨fnd nm (T.map Tm.name),if cl=[45]then[]else cl,(a0d rp:Nat)⟩ S T.length=true) :
 ∃r:AV×a08,(∃c H1,r=(.tuple [],H1)∧a04 H1 0=some (.row 4 [[.slice 1 0 S.length none,.slice 2 0 T.length none,.slice c 0 (V.length+1) none,.int .i64 (sum+(a0d rp:Nat))]])∧a04 H1 c=some (.row 3 ((V++[⟨fnd nm (T.map Tm.name),if cl=[45]then[]else cl,(a0d rp:Nat)⟩]:List Vc).map Vc.enc))∧a04 H1 1=some (.row 2 (S.map Sg.enc))∧a04 H1 2=some (.row 6 (T.map Tm.enc)))∧sem L.env Mf 67 [.ptr 0 0 0,.slice 4 0 4 (some n)] [some (.row 4 [[.slice 1 0 S.length none,.slice 2 0 T.length none,.slice 3 0 V.length none,.int .i64 sum]]),some (.row 2 (S.map Sg.enc)),some (.row 6 (T.map Tm.enc)),some (.row 3 (V.map Vc.enc)),some (.row 1 R)]=some r:=by
 have hmt:=λd H e=>a1b (d:=d) H e;have r1:=λπ=>a02 π hRf;have r2:=a01 hRf;have hS1:=λπ=>a02 π (a0z S);have hS2:=a01 (a0z S);have hT1:=λπ=>a02 π (a0g T);have hT2:=a01 (a0g T);have hTn:(T.map Tm.enc).length=T.length:=List.length_map ..;have hV1:=λπ=>a02 π (a0b V);have hV2:=a01 (a0b V);have q1:1<n:=by omega
 have q2:2<n:=by omega
 have b43:Nat.beq 43 82=false:=by decide
 have q3:3<n:=by omega
 have hnu:=λd H=>a5p (d:=d) H rp hrp;have hVn:(V.map Vc.enc).length=V.length:=List.length_map ..;have c7:(V.length:Int)<65536:=by omega
 have hrm:V.length+1≤1000000000:=by omega
 have hwS:IntKind.i64.wrap (sum+(a0d rp:Nat))=sum+(a0d rp:Nat):=w64 (by omega) (by omega);have hfd0:=b5p sum nm S T hTl V;generalize fnd nm (T.map Tm.name)=zz at *;have hfd:∀d,a0j L.env d (sem L.env Mf) (.func (.func 85) [] []) [.ptr 0 0 0,.str nm] [some (.row 4 [[.slice 1 0 S.length none,.slice 2 0 T.length none,.slice 3 0 V.length none,.int .i64 sum]]),some (.row 2 (S.map Sg.enc)),some (.row 6 (T.map Tm.enc)),some (.row 3 (V.map Vc.enc)),some (.row 1 R)]=some (.int .i64 zz,[some (.row 4 [[.slice 1 0 S.length none,.slice 2 0 T.length none,.slice 3 0 V.length none,.int .i64 sum]]),some (.row 2 (S.map Sg.enc)),some (.row 6 (T.map Tm.enc)),some (.row 3 (V.map Vc.enc)),some (.row 1 R)],[0,1,2,3]):=by intro d;have hc:=a0o (sem L.env Mf 85) [.ptr 0 0 0,.str nm] [some (.row 4 [[.slice 1 0 S.length none,.slice 2 0 T.length none,.slice 3 0 V.length none,.int .i64 sum]]),some (.row 2 (S.map Sg.enc)),some (.row 6 (T.map Tm.enc)),some (.row 3 (V.map Vc.enc)),some (.row 1 R)] (σ:=[0,1,2,3]) (by simp+decide only[go_sem,hS1,hS2,hT1,hT2,hV1,hV2]<;>rfl) rfl rfl (args':=[.ptr 0 0 0,.str nm]) rfl (H0:=[some (.row 4 [[.slice 1 0 S.length none,.slice 2 0 T.length none,.slice 3 0 V.length none,.int .i64 sum]]),some (.row 2 (S.map Sg.enc)),some (.row 6 (T.map Tm.enc)),some (.row 3 (V.map Vc.enc))]) (by simp+decide only[go_sem,a0u,hS1,hS2,hT1,hT2,hV1,hV2]) hfd0;refine a1t (by kernel_rfl) (by kernel_rfl) rfl (hc.trans ?_) rfl;simp+decide only[go_sem,a0s,hS1,hS2,hT1,hT2,hV1,hV2]<;>rfl
 by_cases hcl:cl=[45]
 ·subst hcl;rw[if_pos rfl]at hok⊢;have hvm:=a95 ⟨zz,[],(a0d rp:Nat)⟩ S T hTl V hok hSl;have hvl:∀d,a0j L.env d (sem L.env Mf) (.func (.func 50) [] []) [.agg [.int .i64 zz,.str [],.int .i64 (a0d rp:Nat)],.agg [.slice 1 0 S.length none,.slice 2 0 T.length none,.slice 3 0 V.length none]] [some (.row 4 [[.slice 1 0 S.length none,.slice 2 0 T.length none,.slice 3 0 V.length none,.int .i64 sum]]),some (.row 2 (S.map Sg.enc)),some (.row 6 (T.map Tm.enc)),some (.row 3 (V.map Vc.enc)),some (.row 1 R),some (.row 3 [[.int .i64 zz,.str [],.int .i64 (a0d rp:Nat)]])]=some (.bool true,[some (.row 4 [[.slice 1 0 S.length none,.slice 2 0 T.length none,.slice 3 0 V.length none,.int .i64 sum]]),some (.row 2 (S.map Sg.enc)),some (.row 6 (T.map Tm.enc)),some (.row 3 (V.map Vc.enc)),some (.row 1 R),some (.row 3 [[.int .i64 zz,.str [],.int .i64 (a0d rp:Nat)]])],[1,2,3]):=by
   intro d;have hc:=a0o (sem L.env Mf 50) [.agg [.int .i64 zz,.str [],.int .i64 (a0d rp:Nat)],.agg [.slice 1 0 S.length none,.slice 2 0 T.length none,.slice 3 0 V.length none]] [some (.row 4 [[.slice 1 0 S.length none,.slice 2 0 T.length none,.slice 3 0 V.length none,.int .i64 sum]]),some (.row 2 (S.map Sg.enc)),some (.row 6 (T.map Tm.enc)),some (.row 3 (V.map Vc.enc)),some (.row 1 R),some (.row 3 [[.int .i64 zz,.str [],.int .i64 (a0d rp:Nat)]])] (σ:=[1,2,3]) (by simp+decide only[go_sem,hS1,hS2,hT1,hT2,hV1,hV2]<;>rfl) rfl rfl (args':=[.agg [.int .i64 zz,.str [],.int .i64 (a0d rp:Nat)],.agg [.slice 0 0 S.length none,.slice 1 0 T.length none,.slice 2 0 V.length none]]) rfl (H0:=[some (.row 2 (S.map Sg.enc)),some (.row 6 (T.map Tm.enc)),some (.row 3 (V.map Vc.enc))]) (by simp+decide only[go_sem,a0u,hS1,hS2,hT1,hT2,hV1,hV2]) hvm;refine a1t (by kernel_rfl) (by kernel_rfl) rfl (hc.trans ?_) rfl;simp+decide only[go_sem,a0s,hS1,hS2,hT1,hT2,hV1,hV2,r1]<;>rfl
  (refine svE Tryz.f67 ?_;simp only[Tryz.f67,gS])
  (repeat first|simp only[ww]|(apply xa;simp+decide only[go_sem,hmt,hR1,hR2,hR3,q3,hnu,hRl,q1,q2,hfd,hvl,hwS,hsum,b43,hVn,c7,hrm];rfl;kernel_rfl))
  (apply a2v;(·simp+decide only[go_sem]<;>rfl))
  exact⟨_,_,rfl,rfl,by simp[List.map_append];rfl,rfl,rfl⟩
 ·skip
  rw[if_neg hcl]at hok⊢;have hvm:=a95 ⟨zz,cl,(a0d rp:Nat)⟩ S T hTl V hok hSl;have hvl:∀d,a0j L.env d (sem L.env Mf) (.func (.func 50) [] []) [.agg [.int .i64 zz,.str cl,.int .i64 (a0d rp:Nat)],.agg [.slice 1 0 S.length none,.slice 2 0 T.length none,.slice 3 0 V.length none]] [some (.row 4 [[.slice 1 0 S.length none,.slice 2 0 T.length none,.slice 3 0 V.length none,.int .i64 sum]]),some (.row 2 (S.map Sg.enc)),some (.row 6 (T.map Tm.enc)),some (.row 3 (V.map Vc.enc)),some (.row 1 R),some (.row 3 [[.int .i64 zz,.str cl,.int .i64 (a0d rp:Nat)]])]=some (.bool true,[some (.row 4 [[.slice 1 0 S.length none,.slice 2 0 T.length none,.slice 3 0 V.length none,.int .i64 sum]]),some (.row 2 (S.map Sg.enc)),some (.row 6 (T.map Tm.enc)),some (.row 3 (V.map Vc.enc)),some (.row 1 R),some (.row 3 [[.int .i64 zz,.str cl,.int .i64 (a0d rp:Nat)]])],[1,2,3]):=by intro d;have hc:=a0o (sem L.env Mf 50) [.agg [.int .i64 zz,.str cl,.int .i64 (a0d rp:Nat)],.agg [.slice 1 0 S.length none,.slice 2 0 T.length none,.slice 3 0 V.length none]] [some (.row 4 [[.slice 1 0 S.length none,.slice 2 0 T.length none,.slice 3 0 V.length none,.int .i64 sum]]),some (.row 2 (S.map Sg.enc)),some (.row 6 (T.map Tm.enc)),some (.row 3 (V.map Vc.enc)),some (.row 1 R),some (.row 3 [[.int .i64 zz,.str cl,.int .i64 (a0d rp:Nat)]])] (σ:=[1,2,3]) (by simp+decide only[go_sem,hS1,hS2,hT1,hT2,hV1,hV2]<;>rfl) rfl rfl (args':=[.agg [.int .i64 zz,.str cl,.int .i64 (a0d rp:Nat)],.agg [.slice 0 0 S.length none,.slice 1 0 T.length none,.slice 2 0 V.length none]]) rfl (H0:=[some (.row 2 (S.map Sg.enc)),some (.row 6 (T.map Tm.enc)),some (.row 3 (V.map Vc.enc))]) (by simp+decide only[go_sem,a0u,hS1,hS2,hT1,hT2,hV1,hV2]) hvm;refine a1t (by kernel_rfl) (by kernel_rfl) rfl (hc.trans ?_) rfl;simp+decide only[go_sem,a0s,hS1,hS2,hT1,hT2,hV1,hV2,r1]<;>rfl
  (refine svE Tryz.f67 ?_;simp only[Tryz.f67,gS])
  (repeat first|simp only[ww]|(apply xa;simp+decide only[go_sem,hmt,hR1,hR2,hR3,q3,hnu,hRl,q1,q2,hfd,hvl,hwS,hsum,b43,hVn,c7,hrm,hcl];rfl;kernel_rfl))
  (apply a2v;(·simp+decide only[go_sem]<;>rfl))
  exact⟨_,_,rfl,rfl,by simp[List.map_append];rfl,rfl,rfl⟩
end Go.RInst
