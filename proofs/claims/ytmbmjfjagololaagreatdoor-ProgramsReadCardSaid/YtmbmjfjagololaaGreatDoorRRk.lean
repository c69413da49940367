/- Part of a proof. No condition. -/
import Derived.Test.YtmbmjfjagololaaGreatDoorRRj
set_option linter.unusedSectionVars false
set_option linter.unusedSimpArgs false
set_option linter.unusedVariables false
namespace Go.RInst
set_option maxHeartbeats 200000000
open Go.Proofs Go.Ax Go.Pc
variable [PR]
set_option maxRecDepth 100000
theorem b7b(H:a08)(c:Nat)(n:List UInt8)(hc:a03 H c=some (.row 1 [[.str n]])):a0e L.env false (sem L.env Mf) (.func (.func 100) [] []) [.nilslice,.func (.func 101) [] [.ptr c 0 0]] H=some (.int .i64 (-1),H,[c]):=by
 have aq:=a0v hc;refine a59 [c] (by kernel_rfl) (by kernel_rfl) rfl ?_ rfl (by simpa using aq) ?_ (an:=[.nilslice,.func (.func 101) [] [.ptr 0 0 0]]) ?_ (H0:=[some (.row 1 [[.str n]])]) (by simp[hc]) (d26 n) rfl
 ·show a0j H 1000000 [c] []=_;exact a7q (by rw[hc];rfl)
 ·intro b hb;simp only[e3r]at hb;subst hb;rw[hc];intro π;rfl
 ·simp[ren,b87,a47,a2w,e2g]
theorem a9z(H:a08)(a c:Nat)(n:List UInt8)(l:List Tm)(hl:l.length≤100000)(ha:a03 H a=some (.row 6 (l.map Tm.enc)))(hc:a03 H c=some (.row 1 [[.str n]]))(iD:a≠c):a0e L.env false (sem L.env Mf) (.func (.func 100) [] []) [.slice a 0 l.length none,.func (.func 101) [] [.ptr c 0 0]] H=some (.int .i64 (fnd n (l.map Tm.name)),H,[a,c]):=by
 have h1:=a0v ha;have h2:=a0v hc;refine a59 [a,c] (by kernel_rfl) (by kernel_rfl) rfl ?_ (by simp[a12,a18,a04,a05,iD.symm]) (by simp[h1,h2]) ?_ (an:=[.slice 0 0 l.length none,.func (.func 101) [] [.ptr 1 0 0]]) ?_ (H0:=[some (.row 6 (l.map Tm.enc)),some (.row 1 [[.str n]])]) (by simp[ha,hc]) (d27 n l hl) rfl
 ·show a0j H 1000000 [a,c] []=_;exact b31 iD (by rw[ha];exact a01 (a0a l)) (by rw[hc];rfl)
 ·intro b hb;simp only[e3b,e5f,e7f]at hb;rcases hb with rfl|rfl
  ·rw[ha];exact FlatO.row (a0a l)
  ·rw[hc];intro π;rfl
 ·simp[ren,b87,a47,a2w,e2g,iD]
theorem c30(sum:Int)(nm:List UInt8):sem L.env Mf 85 [.ptr 0 0 0,.str nm] [some (.row 4 [[.nilslice,.nilslice,.nilslice,.int .i64 sum]])]=some (.int .i64 (-1),[some (.row 4 [[.nilslice,.nilslice,.nilslice,.int .i64 sum]])]):=by
 have eI:=b7b [some (.row 4 [[.nilslice,.nilslice,.nilslice,.int .i64 sum]]),some (.row 1 [[.str nm]])] 1 nm rfl
 (refine sv Tryz.f85 ?_;simp only[Tryz.f85,gS])
 (repeat first|simp only[ww]|(apply xa;simp+decide only[go_sem,eI];rfl;kernel_rfl))
 (apply fqb;simp+decide only[go_sem]<;>rfl)
theorem a6k(sum:Int)(nm:List UInt8)(T:List Tm)(a7:T.length≤100000):sem L.env Mf 85 [.ptr 0 0 0,.str nm] [some (.row 4 [[.nilslice,.slice 1 0 T.length none,.nilslice,.int .i64 sum]]),some (.row 6 (T.map Tm.enc))]=some (.int .i64 (fnd nm (T.map Tm.name)),[some (.row 4 [[.nilslice,.slice 1 0 T.length none,.nilslice,.int .i64 sum]]),some (.row 6 (T.map Tm.enc))]):=by
 have az:=λπ=>a02 π (a0a T);have aA:=a01 (a0a T);have dZ:(T.map Tm.enc).length=T.length:=b41 ..;have eI:=a9z [some (.row 4 [[.nilslice,.slice 1 0 T.length none,.nilslice,.int .i64 sum]]),some (.row 6 (T.map Tm.enc)),some (.row 1 [[.str nm]])] 1 2 nm T a7 rfl rfl (by decide)
 (refine sv Tryz.f85 ?_;simp only[Tryz.f85,gS])
 (repeat first|simp only[ww]|(apply xa;simp+decide only[go_sem,eI];rfl;kernel_rfl))
 (apply fqb;simp+decide only[go_sem,az,aA]<;>rfl)
theorem a8o(sum:Int)(nm:List UInt8)(T:List Tm)(a7:T.length≤100000)(V:List Vc):sem L.env Mf 85 [.ptr 0 0 0,.str nm] [some (.row 4 [[.nilslice,.slice 1 0 T.length none,.slice 2 0 V.length none,.int .i64 sum]]),some (.row 6 (T.map Tm.enc)),some (.row 3 (V.map Vc.enc))]=some (.int .i64 (fnd nm (T.map Tm.name)),[some (.row 4 [[.nilslice,.slice 1 0 T.length none,.slice 2 0 V.length none,.int .i64 sum]]),some (.row 6 (T.map Tm.enc)),some (.row 3 (V.map Vc.enc))]):=by
 have az:=λπ=>a02 π (a0a T);have aA:=a01 (a0a T);have dZ:(T.map Tm.enc).length=T.length:=b41 ..;have aZ:=λπ=>a02 π (a13 V);have a6:=a01 (a13 V);have eI:=a9z [some (.row 4 [[.nilslice,.slice 1 0 T.length none,.slice 2 0 V.length none,.int .i64 sum]]),some (.row 6 (T.map Tm.enc)),some (.row 3 (V.map Vc.enc)),some (.row 1 [[.str nm]])] 1 3 nm T a7 rfl rfl (by decide)
 (refine sv Tryz.f85 ?_;simp only[Tryz.f85,gS])
 (repeat first|simp only[ww]|(apply xa;simp+decide only[go_sem,eI];rfl;kernel_rfl))
 (apply fqb;simp+decide only[go_sem,az,aA,aZ,a6]<;>rfl)
theorem c2z(sum:Int)(nm:List UInt8)(S:List Sg):sem L.env Mf 85 [.ptr 0 0 0,.str nm] [some (.row 4 [[.slice 1 0 S.length none,.nilslice,.nilslice,.int .i64 sum]]),some (.row 2 (S.map Sg.enc))]=some (.int .i64 (-1),[some (.row 4 [[.slice 1 0 S.length none,.nilslice,.nilslice,.int .i64 sum]]),some (.row 2 (S.map Sg.enc))]):=by
 have aO:=λπ=>a02 π (a0s S);have aP:=a01 (a0s S);have eI:=b7b [some (.row 4 [[.slice 1 0 S.length none,.nilslice,.nilslice,.int .i64 sum]]),some (.row 2 (S.map Sg.enc)),some (.row 1 [[.str nm]])] 2 nm rfl
 (refine sv Tryz.f85 ?_;simp only[Tryz.f85,gS])
 (repeat first|simp only[ww]|(apply xa;simp+decide only[go_sem,eI];rfl;kernel_rfl))
 (apply fqb;simp+decide only[go_sem,aO,aP]<;>rfl)
theorem a6j(sum:Int)(nm:List UInt8)(S:List Sg)(T:List Tm)(a7:T.length≤100000):sem L.env Mf 85 [.ptr 0 0 0,.str nm] [some (.row 4 [[.slice 1 0 S.length none,.slice 2 0 T.length none,.nilslice,.int .i64 sum]]),some (.row 2 (S.map Sg.enc)),some (.row 6 (T.map Tm.enc))]=some (.int .i64 (fnd nm (T.map Tm.name)),[some (.row 4 [[.slice 1 0 S.length none,.slice 2 0 T.length none,.nilslice,.int .i64 sum]]),some (.row 2 (S.map Sg.enc)),some (.row 6 (T.map Tm.enc))]):=by
 have aO:=λπ=>a02 π (a0s S);have aP:=a01 (a0s S);have az:=λπ=>a02 π (a0a T);have aA:=a01 (a0a T);have dZ:(T.map Tm.enc).length=T.length:=b41 ..;have eI:=a9z [some (.row 4 [[.slice 1 0 S.length none,.slice 2 0 T.length none,.nilslice,.int .i64 sum]]),some (.row 2 (S.map Sg.enc)),some (.row 6 (T.map Tm.enc)),some (.row 1 [[.str nm]])] 2 3 nm T a7 rfl rfl (by decide)
 (refine sv Tryz.f85 ?_;simp only[Tryz.f85,gS])
 (repeat first|simp only[ww]|(apply xa;simp+decide only[go_sem,eI];rfl;kernel_rfl))
 (apply fqb;simp+decide only[go_sem,aO,aP,az,aA]<;>rfl)
theorem a8n(sum:Int)(nm:List UInt8)(S:List Sg)(T:List Tm)(a7:T.length≤100000)(V:List Vc):sem L.env Mf 85 [.ptr 0 0 0,.str nm] [some (.row 4 [[.slice 1 0 S.length none,.slice 2 0 T.length none,.slice 3 0 V.length none,.int .i64 sum]]),some (.row 2 (S.map Sg.enc)),some (.row 6 (T.map Tm.enc)),some (.row 3 (V.map Vc.enc))]=some (.int .i64 (fnd nm (T.map Tm.name)),[some (.row 4 [[.slice 1 0 S.length none,.slice 2 0 T.length none,.slice 3 0 V.length none,.int .i64 sum]]),some (.row 2 (S.map Sg.enc)),some (.row 6 (T.map Tm.enc)),some (.row 3 (V.map Vc.enc))]):=by
 have aO:=λπ=>a02 π (a0s S);have aP:=a01 (a0s S);have az:=λπ=>a02 π (a0a T);have aA:=a01 (a0a T);have dZ:(T.map Tm.enc).length=T.length:=b41 ..;have aZ:=λπ=>a02 π (a13 V);have a6:=a01 (a13 V);have eI:=a9z [some (.row 4 [[.slice 1 0 S.length none,.slice 2 0 T.length none,.slice 3 0 V.length none,.int .i64 sum]]),some (.row 2 (S.map Sg.enc)),some (.row 6 (T.map Tm.enc)),some (.row 3 (V.map Vc.enc)),some (.row 1 [[.str nm]])] 2 4 nm T a7 rfl rfl (by decide)
 (refine sv Tryz.f85 ?_;simp only[Tryz.f85,gS])
 (repeat first|simp only[ww]|(apply xa;simp+decide only[go_sem,eI];rfl;kernel_rfl))
 (apply fqb;simp+decide only[go_sem,aO,aP,az,aA,aZ,a6]<;>rfl)
theorem c7m(sum:Int)(n:Nat)(R:List (List AV))(nm w0 w1 w2 w3 w4:List UInt8)(ap:R.length=n)(dY:7≤n)(aw:FlatR R)(aI:R[1]?=some [.str nm])(aC:∀j w,[w0,w1,w2,w3,w4][j]?=some w→R[2+j]?=some [.str w])(aU:∀w∈[w0,w1,w2,w3,w4],NumOk w)(dM:a5l ⟨nm,a09 w0,a09 w1,a09 w2,a09 w3,a09 w4⟩=true) :
 ∃r:AV×a08,(∃c H1,r=(.tuple [],H1)∧a03 H1 0=some (.row 4 [[.nilslice,.slice c 0 (([]:List Tm).length+1) none,.nilslice,.int .i64 sum]])∧a03 H1 c=some (.row 6 ((([]:List Tm)++[⟨nm,a09 w0,a09 w1,a09 w2,a09 w3,a09 w4⟩]:List Tm).map Tm.enc)))∧sem L.env Mf 66 [.ptr 0 0 0,.slice 1 0 7 (some n)] [some (.row 4 [[.nilslice,.nilslice,.nilslice,.int .i64 sum]]),some (.row 1 R)]=some r:=by
 have aF:=λd H e=>a0i (d:=d) H e;have aY:=λd H w hw=>a2m (d:=d) H w hw;have r1:=λπ=>a02 π aw;have r2:=a01 aw;have q1:1<n:=by omega
 have q2:(7:Nat)-2=5:=rfl;have q7:7≤n:=dY;have gE:Nat.beq 41 82=false:=by decide
 have br:[w0,w1,w2,w3,w4].length=5:=rfl;obtain⟨ws,dL⟩:∃ws,ws=[w0,w1,w2,w3,w4]:=⟨_,rfl⟩
 have gz:Nat→ws.length=5:=λ_=>by rw[dL];rfl
 rw[←dL]at aC aU
 (refine svE Tryz.f66 ?_;simp only[Tryz.f66,gS])
 (repeat first|simp only[ww]|(apply xa;simp+decide only[go_sem,aF,ap,q1,q7];rfl;kernel_rfl))
 refine a15 (σ:=Nat) kp66_0 (λi=>[(0,.ptr 0 0 0),(1,.slice 1 0 7 (some n)),(4,grV 2 ((ws.take i).map λw=>[AV.int .i64 (a09 w:Nat)])),(13,.slice 1 2 5 (some (n-2))),(14,.int .i64 5),(15,.int .i64 (i:Nat))]) (λi=>[some (.row 4 [[.nilslice,.nilslice,.nilslice,.int .i64 sum]]),some (.row 1 R)]++grH 1 ((ws.take i).map λw=>[AV.int .i64 (a09 w:Nat)])) (λi=>5-i) (λi=>i≤5) 0 ?_ (e3h _) ?_
 ·(simp+decide only[go_sem,a0d,a07,r1,r2,e28,e3a,a0p,a0u,e2h]<;>rfl)
 ·intro i hi;have dR:∀i,FlatR ((ws.take i).map λw=>[AV.int .i64 (a09 w:Nat)]):=λi=>FlatR.map λ_=>rfl;have cX:((ws.take i).map λw=>[AV.int .i64 (a09 w:Nat)]).length=i:=by rw[b41,e4z,gz 0];omega
  by_cases aq:i<5
  ·have l1:(i:Int)<5:=by omega
   obtain⟨w,hw⟩:∃w,ws[i]?=some w:=⟨_,z9e (by rw[gz 0];exact aq)⟩
   have hg:=aC i w hw;have gv:=λd H=>aY d H w (aU w (e25 hw));have cZ:IntKind.i64.wrap ((i:Int)+1)=((i+1:Nat):Int):=by rw[w64 (by omega) (by omega)];omega
   have bW:((ws.take (i+1)).map λw=>[AV.int .i64 (a09 w:Nat)])=((ws.take i).map λw=>[AV.int .i64 (a09 w:Nat)])++[[.int .i64 (a09 w:Nat)]]:=by rw[a48 hw,e3j];rfl
   have n5:=a01 (dR (i+1));have n6:=λπ=>a02 π (dR (i+1));have m5:=a01 (dR i);have m6:=λπ=>a02 π (dR i);have q3:2+i<n:=by omega
   have cU:i+1≤1000000000:=by omega
   by_cases hk:i=0
   ·subst hk;have e0:((ws.take 0).map λw=>[AV.int .i64 (a09 w:Nat)])=[]:=rfl;rw[e0]at bW⊢;simp only[b43]at bW;simp only[a0p,a0u,e2h]
    (repeat first|simp only[ww]|(apply xa;simp+decide only[go_sem,l1,aq,hg,gv,cZ,ap,q3,e5y];rfl;kernel_rfl))
    refine a2p (0+1) ?_ (by omega) (by omega)
    (simp+decide only[go_sem,a0d,a07,bW,a1t,a1q,e27,r1,r2]<;>rfl)
   ·have dg:((ws.take i).map λw=>[AV.int .i64 (a09 w:Nat)])≠[]:=by intro e;rw[e]at cX;simp at cX;omega
    rw[a0h 2 dg,a0y 1 dg,cX];rw[bW]at n5 n6;generalize((ws.take i).map λw=>[AV.int .i64 (a09 w:Nat)])=NRR at *;simp only[b82,b43]
    (repeat first|simp only[ww]|(apply xa;simp+decide only[go_sem,l1,aq,hg,gv,cZ,ap,q3,cX,cU];rfl;kernel_rfl))
    refine a2p (i+1) ?_ (by omega) (by omega)
    (simp+decide only[go_sem,a0d,a07,bW,a42,a43,cX,n5,n6,r1,r2,b82,b43]<;>rfl)
  ·obtain rfl:i=5:=by omega
   have l1:¬((5:Nat):Int)<5:=by omega
   have e5:((ws.take 5).map λw=>[AV.int .i64 (a09 w:Nat)])=[[.int .i64 (a09 w0:Nat)],[.int .i64 (a09 w1:Nat)],[.int .i64 (a09 w2:Nat)],[.int .i64 (a09 w3:Nat)],[.int .i64 (a09 w4:Nat)]]:=by rw[dL];rfl
   rw[e5];simp only[a1t,a1q,b82,b43,b94,e27];have bd:=λd H=>a0l (E:=L.env) (ai:=d) (call:=sem L.env Mf) (g:=49) (fs:=[]) (cs:=[]) (ar:=[.agg [.str nm,.int .i64 (a09 w0:Nat),.int .i64 (a09 w1:Nat),.int .i64 (a09 w2:Nat),.int .i64 (a09 w3:Nat),.int .i64 (a09 w4:Nat)]]) (H:=H) (by kernel_rfl) (by kernel_rfl) rfl (by rfl) ((b2r ⟨nm,a09 w0,a09 w1,a09 w2,a09 w3,a09 w4⟩).trans (by rw[dM])) rfl;have bc:=c30 sum nm
   skip
   skip
   have cr:a0e L.env false (sem L.env Mf) (.func (.func 85) [] []) [.ptr 0 0 0,.str nm] [some (.row 4 [[.nilslice,.nilslice,.nilslice,.int .i64 sum]]),some (.row 1 R),some (.row 1 [[.int .i64 (a09 w0:Nat)],[.int .i64 (a09 w1:Nat)],[.int .i64 (a09 w2:Nat)],[.int .i64 (a09 w3:Nat)],[.int .i64 (a09 w4:Nat)]]),some (.row 6 [[.str nm,.int .i64 (a09 w0:Nat),.int .i64 (a09 w1:Nat),.int .i64 (a09 w2:Nat),.int .i64 (a09 w3:Nat),.int .i64 (a09 w4:Nat)]])]=some (.int .i64 (-1),[some (.row 4 [[.nilslice,.nilslice,.nilslice,.int .i64 sum]]),some (.row 1 R),some (.row 1 [[.int .i64 (a09 w0:Nat)],[.int .i64 (a09 w1:Nat)],[.int .i64 (a09 w2:Nat)],[.int .i64 (a09 w3:Nat)],[.int .i64 (a09 w4:Nat)]]),some (.row 6 [[.str nm,.int .i64 (a09 w0:Nat),.int .i64 (a09 w1:Nat),.int .i64 (a09 w2:Nat),.int .i64 (a09 w3:Nat),.int .i64 (a09 w4:Nat)]])],[0]):=by have hc:=a0b (sem L.env Mf 85) [.ptr 0 0 0,.str nm] [some (.row 4 [[.nilslice,.nilslice,.nilslice,.int .i64 sum]]),some (.row 1 R),some (.row 1 [[.int .i64 (a09 w0:Nat)],[.int .i64 (a09 w1:Nat)],[.int .i64 (a09 w2:Nat)],[.int .i64 (a09 w3:Nat)],[.int .i64 (a09 w4:Nat)]]),some (.row 6 [[.str nm,.int .i64 (a09 w0:Nat),.int .i64 (a09 w1:Nat),.int .i64 (a09 w2:Nat),.int .i64 (a09 w3:Nat),.int .i64 (a09 w4:Nat)]])] (σ:=[0]) (by simp+decide only[go_sem]<;>rfl) rfl rfl (an:=[.ptr 0 0 0,.str nm]) rfl (H0:=[some (.row 4 [[.nilslice,.nilslice,.nilslice,.int .i64 sum]])]) (by simp+decide only[go_sem,a0q]) bc;refine a2g (by kernel_rfl) (by kernel_rfl) rfl (hc.trans ?_);simp+decide only[go_sem,a0n]<;>rfl
   skip
   skip
   (repeat first|simp only[ww]|(apply xa;simp+decide only[go_sem,l1,aF,aI,ap,q1,bd,cr,gE];rfl;kernel_rfl))
   (apply a4x;(·simp+decide only[go_sem]<;>rfl))
   exact⟨_,_,rfl,rfl,rfl⟩
theorem c7l(sum:Int)(n:Nat)(R:List (List AV))(nm w0 w1 w2 w3 w4:List UInt8)(T:List Tm)(a7:T.length≤100000)(aK:T≠[])(hl:T.length<16)(bP:nm∉T.map Tm.name)(ap:R.length=n)(dY:7≤n)(aw:FlatR R)(aI:R[1]?=some [.str nm])(aC:∀j w,[w0,w1,w2,w3,w4][j]?=some w→R[2+j]?=some [.str w])(aU:∀w∈[w0,w1,w2,w3,w4],NumOk w)(dM:a5l ⟨nm,a09 w0,a09 w1,a09 w2,a09 w3,a09 w4⟩=true) :
 ∃r:AV×a08,(∃c H1,r=(.tuple [],H1)∧a03 H1 0=some (.row 4 [[.nilslice,.slice c 0 (T.length+1) none,.nilslice,.int .i64 sum]])∧a03 H1 c=some (.row 6 ((T++[⟨nm,a09 w0,a09 w1,a09 w2,a09 w3,a09 w4⟩]:List Tm).map Tm.enc)))∧sem L.env Mf 66 [.ptr 0 0 0,.slice 2 0 7 (some n)] [some (.row 4 [[.nilslice,.slice 1 0 T.length none,.nilslice,.int .i64 sum]]),some (.row 6 (T.map Tm.enc)),some (.row 1 R)]=some r:=by
 have aF:=λd H e=>a0i (d:=d) H e;have aY:=λd H w hw=>a2m (d:=d) H w hw;have r1:=λπ=>a02 π aw;have r2:=a01 aw;have az:=λπ=>a02 π (a0a T);have aA:=a01 (a0a T);have dZ:(T.map Tm.enc).length=T.length:=b41 ..;have q1:1<n:=by omega
 have q2:(7:Nat)-2=5:=rfl;have q7:7≤n:=dY;have gE:Nat.beq 41 82=false:=by decide
 have br:[w0,w1,w2,w3,w4].length=5:=rfl;obtain⟨ws,dL⟩:∃ws,ws=[w0,w1,w2,w3,w4]:=⟨_,rfl⟩
 have gz:Nat→ws.length=5:=λ_=>by rw[dL];rfl
 rw[←dL]at aC aU
 (refine svE Tryz.f66 ?_;simp only[Tryz.f66,gS])
 (repeat first|simp only[ww]|(apply xa;simp+decide only[go_sem,aF,ap,q1,q7];rfl;kernel_rfl))
 refine a15 (σ:=Nat) kp66_0 (λi=>[(0,.ptr 0 0 0),(1,.slice 2 0 7 (some n)),(4,grV 3 ((ws.take i).map λw=>[AV.int .i64 (a09 w:Nat)])),(13,.slice 2 2 5 (some (n-2))),(14,.int .i64 5),(15,.int .i64 (i:Nat))]) (λi=>[some (.row 4 [[.nilslice,.slice 1 0 T.length none,.nilslice,.int .i64 sum]]),some (.row 6 (T.map Tm.enc)),some (.row 1 R)]++grH 1 ((ws.take i).map λw=>[AV.int .i64 (a09 w:Nat)])) (λi=>5-i) (λi=>i≤5) 0 ?_ (e3h _) ?_
 ·(simp+decide only[go_sem,a0d,a07,r1,r2,az,aA,e28,e3a,a0p,a0u,e2h]<;>rfl)
 ·intro i hi;have dR:∀i,FlatR ((ws.take i).map λw=>[AV.int .i64 (a09 w:Nat)]):=λi=>FlatR.map λ_=>rfl;have cX:((ws.take i).map λw=>[AV.int .i64 (a09 w:Nat)]).length=i:=by rw[b41,e4z,gz 0];omega
  by_cases aq:i<5
  ·have l1:(i:Int)<5:=by omega
   obtain⟨w,hw⟩:∃w,ws[i]?=some w:=⟨_,z9e (by rw[gz 0];exact aq)⟩
   have hg:=aC i w hw;have gv:=λd H=>aY d H w (aU w (e25 hw));have cZ:IntKind.i64.wrap ((i:Int)+1)=((i+1:Nat):Int):=by rw[w64 (by omega) (by omega)];omega
   have bW:((ws.take (i+1)).map λw=>[AV.int .i64 (a09 w:Nat)])=((ws.take i).map λw=>[AV.int .i64 (a09 w:Nat)])++[[.int .i64 (a09 w:Nat)]]:=by rw[a48 hw,e3j];rfl
   have n5:=a01 (dR (i+1));have n6:=λπ=>a02 π (dR (i+1));have m5:=a01 (dR i);have m6:=λπ=>a02 π (dR i);have q3:2+i<n:=by omega
   have cU:i+1≤1000000000:=by omega
   by_cases hk:i=0
   ·subst hk;have e0:((ws.take 0).map λw=>[AV.int .i64 (a09 w:Nat)])=[]:=rfl;rw[e0]at bW⊢;simp only[b43]at bW;simp only[a0p,a0u,e2h]
    (repeat first|simp only[ww]|(apply xa;simp+decide only[go_sem,l1,aq,hg,gv,cZ,ap,q3,e5y];rfl;kernel_rfl))
    refine a2p (0+1) ?_ (by omega) (by omega)
    (simp+decide only[go_sem,a0d,a07,bW,a1t,a1q,e27,r1,r2,az,aA]<;>rfl)
   ·have dg:((ws.take i).map λw=>[AV.int .i64 (a09 w:Nat)])≠[]:=by intro e;rw[e]at cX;simp at cX;omega
    rw[a0h 3 dg,a0y 1 dg,cX];rw[bW]at n5 n6;generalize((ws.take i).map λw=>[AV.int .i64 (a09 w:Nat)])=NRR at *;simp only[b82,b43]
    (repeat first|simp only[ww]|(apply xa;simp+decide only[go_sem,l1,aq,hg,gv,cZ,ap,q3,cX,cU];rfl;kernel_rfl))
    refine a2p (i+1) ?_ (by omega) (by omega)
    (simp+decide only[go_sem,a0d,a07,bW,a42,a43,cX,n5,n6,r1,r2,az,aA,b82,b43]<;>rfl)
  ·obtain rfl:i=5:=by omega
   have l1:¬((5:Nat):Int)<5:=by omega
   have e5:((ws.take 5).map λw=>[AV.int .i64 (a09 w:Nat)])=[[.int .i64 (a09 w0:Nat)],[.int .i64 (a09 w1:Nat)],[.int .i64 (a09 w2:Nat)],[.int .i64 (a09 w3:Nat)],[.int .i64 (a09 w4:Nat)]]:=by rw[dL];rfl
   rw[e5];simp only[a1t,a1q,b82,b43,b94,e27];have bd:=λd H=>a0l (E:=L.env) (ai:=d) (call:=sem L.env Mf) (g:=49) (fs:=[]) (cs:=[]) (ar:=[.agg [.str nm,.int .i64 (a09 w0:Nat),.int .i64 (a09 w1:Nat),.int .i64 (a09 w2:Nat),.int .i64 (a09 w3:Nat),.int .i64 (a09 w4:Nat)]]) (H:=H) (by kernel_rfl) (by kernel_rfl) rfl (by rfl) ((b2r ⟨nm,a09 w0,a09 w1,a09 w2,a09 w3,a09 w4⟩).trans (by rw[dM])) rfl;have bc:=a6k sum nm T (by omega);have dN:=(b3q nm (T.map Tm.name)).2 bP;generalize fnd nm (T.map Tm.name)=zz at bc dN;have cr:a0e L.env false (sem L.env Mf) (.func (.func 85) [] []) [.ptr 0 0 0,.str nm] [some (.row 4 [[.nilslice,.slice 1 0 T.length none,.nilslice,.int .i64 sum]]),some (.row 6 (T.map Tm.enc)),some (.row 1 R),some (.row 1 [[.int .i64 (a09 w0:Nat)],[.int .i64 (a09 w1:Nat)],[.int .i64 (a09 w2:Nat)],[.int .i64 (a09 w3:Nat)],[.int .i64 (a09 w4:Nat)]]),some (.row 6 [[.str nm,.int .i64 (a09 w0:Nat),.int .i64 (a09 w1:Nat),.int .i64 (a09 w2:Nat),.int .i64 (a09 w3:Nat),.int .i64 (a09 w4:Nat)]])]=some (.int .i64 zz,[some (.row 4 [[.nilslice,.slice 1 0 T.length none,.nilslice,.int .i64 sum]]),some (.row 6 (T.map Tm.enc)),some (.row 1 R),some (.row 1 [[.int .i64 (a09 w0:Nat)],[.int .i64 (a09 w1:Nat)],[.int .i64 (a09 w2:Nat)],[.int .i64 (a09 w3:Nat)],[.int .i64 (a09 w4:Nat)]]),some (.row 6 [[.str nm,.int .i64 (a09 w0:Nat),.int .i64 (a09 w1:Nat),.int .i64 (a09 w2:Nat),.int .i64 (a09 w3:Nat),.int .i64 (a09 w4:Nat)]])],[0,1]):=by have hc:=a0b (sem L.env Mf 85) [.ptr 0 0 0,.str nm] [some (.row 4 [[.nilslice,.slice 1 0 T.length none,.nilslice,.int .i64 sum]]),some (.row 6 (T.map Tm.enc)),some (.row 1 R),some (.row 1 [[.int .i64 (a09 w0:Nat)],[.int .i64 (a09 w1:Nat)],[.int .i64 (a09 w2:Nat)],[.int .i64 (a09 w3:Nat)],[.int .i64 (a09 w4:Nat)]]),some (.row 6 [[.str nm,.int .i64 (a09 w0:Nat),.int .i64 (a09 w1:Nat),.int .i64 (a09 w2:Nat),.int .i64 (a09 w3:Nat),.int .i64 (a09 w4:Nat)]])] (σ:=[0,1]) (by simp+decide only[go_sem,az,aA]<;>rfl) rfl rfl (an:=[.ptr 0 0 0,.str nm]) rfl (H0:=[some (.row 4 [[.nilslice,.slice 1 0 T.length none,.nilslice,.int .i64 sum]]),some (.row 6 (T.map Tm.enc))]) (by simp+decide only[go_sem,a0q,az,aA]) bc;refine a2g (by kernel_rfl) (by kernel_rfl) rfl (hc.trans ?_);simp+decide only[go_sem,a0n,az,aA]<;>rfl
   have c6:(T.length:Int)<16:=by omega
   have cU:T.length+1≤1000000000:=by omega
   (repeat first|simp only[ww]|(apply xa;simp+decide only[go_sem,l1,aF,aI,ap,q1,bd,cr,gE,dN,c6,cU,dZ];rfl;kernel_rfl))
   (apply a4x;(·simp+decide only[go_sem]<;>rfl))
   exact⟨_,_,rfl,rfl,by simp[e3j];rfl⟩
theorem c7k(sum:Int)(n:Nat)(R:List (List AV))(nm w0 w1 w2 w3 w4:List UInt8)(S:List Sg)(ap:R.length=n)(dY:7≤n)(aw:FlatR R)(aI:R[1]?=some [.str nm])(aC:∀j w,[w0,w1,w2,w3,w4][j]?=some w→R[2+j]?=some [.str w])(aU:∀w∈[w0,w1,w2,w3,w4],NumOk w)(dM:a5l ⟨nm,a09 w0,a09 w1,a09 w2,a09 w3,a09 w4⟩=true) :
 ∃r:AV×a08,(∃c H1,r=(.tuple [],H1)∧a03 H1 0=some (.row 4 [[.slice 1 0 S.length none,.slice c 0 (([]:List Tm).length+1) none,.nilslice,.int .i64 sum]])∧a03 H1 c=some (.row 6 ((([]:List Tm)++[⟨nm,a09 w0,a09 w1,a09 w2,a09 w3,a09 w4⟩]:List Tm).map Tm.enc))∧a03 H1 1=some (.row 2 (S.map Sg.enc)))∧sem L.env Mf 66 [.ptr 0 0 0,.slice 2 0 7 (some n)] [some (.row 4 [[.slice 1 0 S.length none,.nilslice,.nilslice,.int .i64 sum]]),some (.row 2 (S.map Sg.enc)),some (.row 1 R)]=some r:=by
 have aF:=λd H e=>a0i (d:=d) H e;have aY:=λd H w hw=>a2m (d:=d) H w hw;have r1:=λπ=>a02 π aw;have r2:=a01 aw;have aO:=λπ=>a02 π (a0s S);have aP:=a01 (a0s S);have q1:1<n:=by omega
 have q2:(7:Nat)-2=5:=rfl;have q7:7≤n:=dY;have gE:Nat.beq 41 82=false:=by decide
 have br:[w0,w1,w2,w3,w4].length=5:=rfl;obtain⟨ws,dL⟩:∃ws,ws=[w0,w1,w2,w3,w4]:=⟨_,rfl⟩
 have gz:Nat→ws.length=5:=λ_=>by rw[dL];rfl
 rw[←dL]at aC aU
 (refine svE Tryz.f66 ?_;simp only[Tryz.f66,gS])
 (repeat first|simp only[ww]|(apply xa;simp+decide only[go_sem,aF,ap,q1,q7];rfl;kernel_rfl))
 refine a15 (σ:=Nat) kp66_0 (λi=>[(0,.ptr 0 0 0),(1,.slice 2 0 7 (some n)),(4,grV 3 ((ws.take i).map λw=>[AV.int .i64 (a09 w:Nat)])),(13,.slice 2 2 5 (some (n-2))),(14,.int .i64 5),(15,.int .i64 (i:Nat))]) (λi=>[some (.row 4 [[.slice 1 0 S.length none,.nilslice,.nilslice,.int .i64 sum]]),some (.row 2 (S.map Sg.enc)),some (.row 1 R)]++grH 1 ((ws.take i).map λw=>[AV.int .i64 (a09 w:Nat)])) (λi=>5-i) (λi=>i≤5) 0 ?_ (e3h _) ?_
 ·(simp+decide only[go_sem,a0d,a07,r1,r2,aO,aP,e28,e3a,a0p,a0u,e2h]<;>rfl)
 ·intro i hi;have dR:∀i,FlatR ((ws.take i).map λw=>[AV.int .i64 (a09 w:Nat)]):=λi=>FlatR.map λ_=>rfl;have cX:((ws.take i).map λw=>[AV.int .i64 (a09 w:Nat)]).length=i:=by rw[b41,e4z,gz 0];omega
  by_cases aq:i<5
  ·have l1:(i:Int)<5:=by omega
   obtain⟨w,hw⟩:∃w,ws[i]?=some w:=⟨_,z9e (by rw[gz 0];exact aq)⟩
   have hg:=aC i w hw;have gv:=λd H=>aY d H w (aU w (e25 hw));have cZ:IntKind.i64.wrap ((i:Int)+1)=((i+1:Nat):Int):=by rw[w64 (by omega) (by omega)];omega
   have bW:((ws.take (i+1)).map λw=>[AV.int .i64 (a09 w:Nat)])=((ws.take i).map λw=>[AV.int .i64 (a09 w:Nat)])++[[.int .i64 (a09 w:Nat)]]:=by rw[a48 hw,e3j];rfl
   have n5:=a01 (dR (i+1));have n6:=λπ=>a02 π (dR (i+1));have m5:=a01 (dR i);have m6:=λπ=>a02 π (dR i);have q3:2+i<n:=by omega
   have cU:i+1≤1000000000:=by omega
   by_cases hk:i=0
   ·subst hk;have e0:((ws.take 0).map λw=>[AV.int .i64 (a09 w:Nat)])=[]:=rfl;rw[e0]at bW⊢;simp only[b43]at bW;simp only[a0p,a0u,e2h]
    (repeat first|simp only[ww]|(apply xa;simp+decide only[go_sem,l1,aq,hg,gv,cZ,ap,q3,e5y];rfl;kernel_rfl))
    refine a2p (0+1) ?_ (by omega) (by omega)
    (simp+decide only[go_sem,a0d,a07,bW,a1t,a1q,e27,r1,r2,aO,aP]<;>rfl)
   ·have dg:((ws.take i).map λw=>[AV.int .i64 (a09 w:Nat)])≠[]:=by intro e;rw[e]at cX;simp at cX;omega
    rw[a0h 3 dg,a0y 1 dg,cX];rw[bW]at n5 n6;generalize((ws.take i).map λw=>[AV.int .i64 (a09 w:Nat)])=NRR at *;simp only[b82,b43]
    (repeat first|simp only[ww]|(apply xa;simp+decide only[go_sem,l1,aq,hg,gv,cZ,ap,q3,cX,cU];rfl;kernel_rfl))
    refine a2p (i+1) ?_ (by omega) (by omega)
    (simp+decide only[go_sem,a0d,a07,bW,a42,a43,cX,n5,n6,r1,r2,aO,aP,b82,b43]<;>rfl)
  ·obtain rfl:i=5:=by omega
   have l1:¬((5:Nat):Int)<5:=by omega
   have e5:((ws.take 5).map λw=>[AV.int .i64 (a09 w:Nat)])=[[.int .i64 (a09 w0:Nat)],[.int .i64 (a09 w1:Nat)],[.int .i64 (a09 w2:Nat)],[.int .i64 (a09 w3:Nat)],[.int .i64 (a09 w4:Nat)]]:=by rw[dL];rfl
   rw[e5];simp only[a1t,a1q,b82,b43,b94,e27];have bd:=λd H=>a0l (E:=L.env) (ai:=d) (call:=sem L.env Mf) (g:=49) (fs:=[]) (cs:=[]) (ar:=[.agg [.str nm,.int .i64 (a09 w0:Nat),.int .i64 (a09 w1:Nat),.int .i64 (a09 w2:Nat),.int .i64 (a09 w3:Nat),.int .i64 (a09 w4:Nat)]]) (H:=H) (by kernel_rfl) (by kernel_rfl) rfl (by rfl) ((b2r ⟨nm,a09 w0,a09 w1,a09 w2,a09 w3,a09 w4⟩).trans (by rw[dM])) rfl;have bc:=c2z sum nm S
   skip
   skip
   have cr:a0e L.env false (sem L.env Mf) (.func (.func 85) [] []) [.ptr 0 0 0,.str nm] [some (.row 4 [[.slice 1 0 S.length none,.nilslice,.nilslice,.int .i64 sum]]),some (.row 2 (S.map Sg.enc)),some (.row 1 R),some (.row 1 [[.int .i64 (a09 w0:Nat)],[.int .i64 (a09 w1:Nat)],[.int .i64 (a09 w2:Nat)],[.int .i64 (a09 w3:Nat)],[.int .i64 (a09 w4:Nat)]]),some (.row 6 [[.str nm,.int .i64 (a09 w0:Nat),.int .i64 (a09 w1:Nat),.int .i64 (a09 w2:Nat),.int .i64 (a09 w3:Nat),.int .i64 (a09 w4:Nat)]])]=some (.int .i64 (-1),[some (.row 4 [[.slice 1 0 S.length none,.nilslice,.nilslice,.int .i64 sum]]),some (.row 2 (S.map Sg.enc)),some (.row 1 R),some (.row 1 [[.int .i64 (a09 w0:Nat)],[.int .i64 (a09 w1:Nat)],[.int .i64 (a09 w2:Nat)],[.int .i64 (a09 w3:Nat)],[.int .i64 (a09 w4:Nat)]]),some (.row 6 [[.str nm,.int .i64 (a09 w0:Nat),.int .i64 (a09 w1:Nat),.int .i64 (a09 w2:Nat),.int .i64 (a09 w3:Nat),.int .i64 (a09 w4:Nat)]])],[0,1]):=by have hc:=a0b (sem L.env Mf 85) [.ptr 0 0 0,.str nm] [some (.row 4 [[.slice 1 0 S.length none,.nilslice,.nilslice,.int .i64 sum]]),some (.row 2 (S.map Sg.enc)),some (.row 1 R),some (.row 1 [[.int .i64 (a09 w0:Nat)],[.int .i64 (a09 w1:Nat)],[.int .i64 (a09 w2:Nat)],[.int .i64 (a09 w3:Nat)],[.int .i64 (a09 w4:Nat)]]),some (.row 6 [[.str nm,.int .i64 (a09 w0:Nat),.int .i64 (a09 w1:Nat),.int .i64 (a09 w2:Nat),.int .i64 (a09 w3:Nat),.int .i64 (a09 w4:Nat)]])] (σ:=[0,1]) (by simp+decide only[go_sem,aO,aP]<;>rfl) rfl rfl (an:=[.ptr 0 0 0,.str nm]) rfl (H0:=[some (.row 4 [[.slice 1 0 S.length none,.nilslice,.nilslice,.int .i64 sum]]),some (.row 2 (S.map Sg.enc))]) (by simp+decide only[go_sem,a0q,aO,aP]) bc;refine a2g (by kernel_rfl) (by kernel_rfl) rfl (hc.trans ?_);simp+decide only[go_sem,a0n,aO,aP]<;>rfl
   skip
   skip
   (repeat first|simp only[ww]|(apply xa;simp+decide only[go_sem,l1,aF,aI,ap,q1,bd,cr,gE];rfl;kernel_rfl))
   (apply a4x;(·simp+decide only[go_sem]<;>rfl))
   exact⟨_,_,rfl,rfl,rfl,rfl⟩
theorem c7j(sum:Int)(n:Nat)(R:List (List AV))(nm w0 w1 w2 w3 w4:List UInt8)(S:List Sg)(T:List Tm)(a7:T.length≤100000)(aK:T≠[])(hl:T.length<16)(bP:nm∉T.map Tm.name)(ap:R.length=n)(dY:7≤n)(aw:FlatR R)(aI:R[1]?=some [.str nm])(aC:∀j w,[w0,w1,w2,w3,w4][j]?=some w→R[2+j]?=some [.str w])(aU:∀w∈[w0,w1,w2,w3,w4],NumOk w)(dM:a5l ⟨nm,a09 w0,a09 w1,a09 w2,a09 w3,a09 w4⟩=true) :
 ∃r:AV×a08,(∃c H1,r=(.tuple [],H1)∧a03 H1 0=some (.row 4 [[.slice 1 0 S.length none,.slice c 0 (T.length+1) none,.nilslice,.int .i64 sum]])∧a03 H1 c=some (.row 6 ((T++[⟨nm,a09 w0,a09 w1,a09 w2,a09 w3,a09 w4⟩]:List Tm).map Tm.enc))∧a03 H1 1=some (.row 2 (S.map Sg.enc)))∧sem L.env Mf 66 [.ptr 0 0 0,.slice 3 0 7 (some n)] [some (.row 4 [[.slice 1 0 S.length none,.slice 2 0 T.length none,.nilslice,.int .i64 sum]]),some (.row 2 (S.map Sg.enc)),some (.row 6 (T.map Tm.enc)),some (.row 1 R)]=some r:=by
 have aF:=λd H e=>a0i (d:=d) H e;have aY:=λd H w hw=>a2m (d:=d) H w hw;have r1:=λπ=>a02 π aw;have r2:=a01 aw;have aO:=λπ=>a02 π (a0s S);have aP:=a01 (a0s S);have az:=λπ=>a02 π (a0a T);have aA:=a01 (a0a T);have dZ:(T.map Tm.enc).length=T.length:=b41 ..;have q1:1<n:=by omega
 have q2:(7:Nat)-2=5:=rfl;have q7:7≤n:=dY;have gE:Nat.beq 41 82=false:=by decide
 have br:[w0,w1,w2,w3,w4].length=5:=rfl;obtain⟨ws,dL⟩:∃ws,ws=[w0,w1,w2,w3,w4]:=⟨_,rfl⟩
 have gz:Nat→ws.length=5:=λ_=>by rw[dL];rfl
 rw[←dL]at aC aU
 (refine svE Tryz.f66 ?_;simp only[Tryz.f66,gS])
 (repeat first|simp only[ww]|(apply xa;simp+decide only[go_sem,aF,ap,q1,q7];rfl;kernel_rfl))
 refine a15 (σ:=Nat) kp66_0 (λi=>[(0,.ptr 0 0 0),(1,.slice 3 0 7 (some n)),(4,grV 4 ((ws.take i).map λw=>[AV.int .i64 (a09 w:Nat)])),(13,.slice 3 2 5 (some (n-2))),(14,.int .i64 5),(15,.int .i64 (i:Nat))]) (λi=>[some (.row 4 [[.slice 1 0 S.length none,.slice 2 0 T.length none,.nilslice,.int .i64 sum]]),some (.row 2 (S.map Sg.enc)),some (.row 6 (T.map Tm.enc)),some (.row 1 R)]++grH 1 ((ws.take i).map λw=>[AV.int .i64 (a09 w:Nat)])) (λi=>5-i) (λi=>i≤5) 0 ?_ (e3h _) ?_
 ·(simp+decide only[go_sem,a0d,a07,r1,r2,aO,aP,az,aA,e28,e3a,a0p,a0u,e2h]<;>rfl)
 ·intro i hi;have dR:∀i,FlatR ((ws.take i).map λw=>[AV.int .i64 (a09 w:Nat)]):=λi=>FlatR.map λ_=>rfl;have cX:((ws.take i).map λw=>[AV.int .i64 (a09 w:Nat)]).length=i:=by rw[b41,e4z,gz 0];omega
  by_cases aq:i<5
  ·have l1:(i:Int)<5:=by omega
   obtain⟨w,hw⟩:∃w,ws[i]?=some w:=⟨_,z9e (by rw[gz 0];exact aq)⟩
   have hg:=aC i w hw;have gv:=λd H=>aY d H w (aU w (e25 hw));have cZ:IntKind.i64.wrap ((i:Int)+1)=((i+1:Nat):Int):=by rw[w64 (by omega) (by omega)];omega
   have bW:((ws.take (i+1)).map λw=>[AV.int .i64 (a09 w:Nat)])=((ws.take i).map λw=>[AV.int .i64 (a09 w:Nat)])++[[.int .i64 (a09 w:Nat)]]:=by rw[a48 hw,e3j];rfl
   have n5:=a01 (dR (i+1));have n6:=λπ=>a02 π (dR (i+1));have m5:=a01 (dR i);have m6:=λπ=>a02 π (dR i);have q3:2+i<n:=by omega
   have cU:i+1≤1000000000:=by omega
   by_cases hk:i=0
   ·subst hk;have e0:((ws.take 0).map λw=>[AV.int .i64 (a09 w:Nat)])=[]:=rfl;rw[e0]at bW⊢;simp only[b43]at bW;simp only[a0p,a0u,e2h]
    (repeat first|simp only[ww]|(apply xa;simp+decide only[go_sem,l1,aq,hg,gv,cZ,ap,q3,e5y];rfl;kernel_rfl))
    refine a2p (0+1) ?_ (by omega) (by omega)
    (simp+decide only[go_sem,a0d,a07,bW,a1t,a1q,e27,r1,r2,aO,aP,az,aA]<;>rfl)
   ·have dg:((ws.take i).map λw=>[AV.int .i64 (a09 w:Nat)])≠[]:=by intro e;rw[e]at cX;simp at cX;omega
    rw[a0h 4 dg,a0y 1 dg,cX];rw[bW]at n5 n6;generalize((ws.take i).map λw=>[AV.int .i64 (a09 w:Nat)])=NRR at *;simp only[b82,b43]
    (repeat first|simp only[ww]|(apply xa;simp+decide only[go_sem,l1,aq,hg,gv,cZ,ap,q3,cX,cU];rfl;kernel_rfl))
    refine a2p (i+1) ?_ (by omega) (by omega)
    (simp+decide only[go_sem,a0d,a07,bW,a42,a43,cX,n5,n6,r1,r2,aO,aP,az,aA,b82,b43]<;>rfl)
  ·obtain rfl:i=5:=by omega
   have l1:¬((5:Nat):Int)<5:=by omega
   have e5:((ws.take 5).map λw=>[AV.int .i64 (a09 w:Nat)])=[[.int .i64 (a09 w0:Nat)],[.int .i64 (a09 w1:Nat)],[.int .i64 (a09 w2:Nat)],[.int .i64 (a09 w3:Nat)],[.int .i64 (a09 w4:Nat)]]:=by rw[dL];rfl
   rw[e5];simp only[a1t,a1q,b82,b43,b94,e27];have bd:=λd H=>a0l (E:=L.env) (ai:=d) (call:=sem L.env Mf) (g:=49) (fs:=[]) (cs:=[]) (ar:=[.agg [.str nm,.int .i64 (a09 w0:Nat),.int .i64 (a09 w1:Nat),.int .i64 (a09 w2:Nat),.int .i64 (a09 w3:Nat),.int .i64 (a09 w4:Nat)]]) (H:=H) (by kernel_rfl) (by kernel_rfl) rfl (by rfl) ((b2r ⟨nm,a09 w0,a09 w1,a09 w2,a09 w3,a09 w4⟩).trans (by rw[dM])) rfl;have bc:=a6j sum nm S T (by omega);have dN:=(b3q nm (T.map Tm.name)).2 bP;generalize fnd nm (T.map Tm.name)=zz at bc dN;have cr:a0e L.env false (sem L.env Mf) (.func (.func 85) [] []) [.ptr 0 0 0,.str nm] [some (.row 4 [[.slice 1 0 S.length none,.slice 2 0 T.length none,.nilslice,.int .i64 sum]]),some (.row 2 (S.map Sg.enc)),some (.row 6 (T.map Tm.enc)),some (.row 1 R),some (.row 1 [[.int .i64 (a09 w0:Nat)],[.int .i64 (a09 w1:Nat)],[.int .i64 (a09 w2:Nat)],[.int .i64 (a09 w3:Nat)],[.int .i64 (a09 w4:Nat)]]),some (.row 6 [[.str nm,.int .i64 (a09 w0:Nat),.int .i64 (a09 w1:Nat),.int .i64 (a09 w2:Nat),.int .i64 (a09 w3:Nat),.int .i64 (a09 w4:Nat)]])]=some (.int .i64 zz,[some (.row 4 [[.slice 1 0 S.length none,.slice 2 0 T.length none,.nilslice,.int .i64 sum]]),some (.row 2 (S.map Sg.enc)),some (.row 6 (T.map Tm.enc)),some (.row 1 R),some (.row 1 [[.int .i64 (a09 w0:Nat)],[.int .i64 (a09 w1:Nat)],[.int .i64 (a09 w2:Nat)],[.int .i64 (a09 w3:Nat)],[.int .i64 (a09 w4:Nat)]]),some (.row 6 [[.str nm,.int .i64 (a09 w0:Nat),.int .i64 (a09 w1:Nat),.int .i64 (a09 w2:Nat),.int .i64 (a09 w3:Nat),.int .i64 (a09 w4:Nat)]])],[0,1,2]):=by have hc:=a0b (sem L.env Mf 85) [.ptr 0 0 0,.str nm] [some (.row 4 [[.slice 1 0 S.length none,.slice 2 0 T.length none,.nilslice,.int .i64 sum]]),some (.row 2 (S.map Sg.enc)),some (.row 6 (T.map Tm.enc)),some (.row 1 R),some (.row 1 [[.int .i64 (a09 w0:Nat)],[.int .i64 (a09 w1:Nat)],[.int .i64 (a09 w2:Nat)],[.int .i64 (a09 w3:Nat)],[.int .i64 (a09 w4:Nat)]]),some (.row 6 [[.str nm,.int .i64 (a09 w0:Nat),.int .i64 (a09 w1:Nat),.int .i64 (a09 w2:Nat),.int .i64 (a09 w3:Nat),.int .i64 (a09 w4:Nat)]])] (σ:=[0,1,2]) (by simp+decide only[go_sem,aO,aP,az,aA]<;>rfl) rfl rfl (an:=[.ptr 0 0 0,.str nm]) rfl (H0:=[some (.row 4 [[.slice 1 0 S.length none,.slice 2 0 T.length none,.nilslice,.int .i64 sum]]),some (.row 2 (S.map Sg.enc)),some (.row 6 (T.map Tm.enc))]) (by simp+decide only[go_sem,a0q,aO,aP,az,aA]) bc;refine a2g (by kernel_rfl) (by kernel_rfl) rfl (hc.trans ?_);simp+decide only[go_sem,a0n,aO,aP,az,aA]<;>rfl
   have c6:(T.length:Int)<16:=by omega
   have cU:T.length+1≤1000000000:=by omega
   (repeat first|simp only[ww]|(apply xa;simp+decide only[go_sem,l1,aF,aI,ap,q1,bd,cr,gE,dN,c6,cU,dZ];rfl;kernel_rfl))
   (apply a4x;(·simp+decide only[go_sem]<;>rfl))
   exact⟨_,_,rfl,rfl,by simp[e3j];rfl,rfl⟩
end Go.RInst
namespace Go.RInst
set_option maxHeartbeats 200000000
open Go.Proofs Go.Ax Go.Pc
variable [PR]
set_option maxRecDepth 100000
theorem b07:∀(S:List Sg) (cs:List UInt8),a1w S cs=true→∀(i:Nat) (s:Sg) (c:UInt8),S[i]?=some s→cs[i]?=some c→(a1d s.dir).contains c=true
 | [],[],_,i,s,c,h,_=>by simp at h
 | [],_::_,h,_,_,_,_,_=>by simp[a1w]at h
 |_::_,[],h,_,_,_,_,_=>by simp[a1w]at h
 |s0::S,c0::cs,h,0,s,c,h1,h2=>by simp only[a1w,b46]at h;cases h1;cases h2;exact h.1
 |s0::S,c0::cs,h,i+1,s,c,h1,h2=>by simp only[a1w,b46]at h;exact b07 S cs h.2 i s c (by simpa using h1) (by simpa using h2)
theorem a66(v:Vc)(T:List Tm)(a7:T.length≤100000)(hv:a22 v ([]:List Sg) T.length=true):sem L.env Mf 50 [.agg (Vc.enc v),.agg [.nilslice,.slice 0 0 T.length none,.nilslice]] [some (.row 6 (T.map Tm.enc))]=some (.bool true,[some (.row 6 (T.map Tm.enc))]):=by
 have az:=λπ=>a02 π (a0a T);have aA:=a01 (a0a T);have dZ:(T.map Tm.enc).length=T.length:=b41 ..
 skip
 simp only[a22,b46,e2d]at hv;obtain⟨k0,k1,k2,k3,ej⟩:=hv;have k4:=(a4s _ _ ej).symm;have j0:¬v.t<0:=by omega
 have j1:¬(T.length:Int)≤v.t:=by omega
 have j2:¬v.rep<1:=by omega
 have j3:¬(1000000:Int)<v.rep:=by omega
 have j4:(v.cells.length:Int)=0:=by simpa using k4
 have fh:=λd H s c=>a97 (d:=d) H s c
 (refine sv Tryz.f50 ?_;simp only[Tryz.f50,gS])
 (repeat first|simp only[ww]|(apply xa;simp+decide only[go_sem,j0,j1,j2,j3,j4,b41];rfl;kernel_rfl))
 refine a15 (σ:=Nat) kp50_0 (λi=>[(2,.ptr 1 0 0),(39,.nilslice),(40,.int .i64 0),(41,.int .i64 (i:Nat))]) (λ_=>[some (.row 6 (T.map Tm.enc)),some (.row 3 [Vc.enc v])]) (λi=>([]:List Sg).length-i) (λi=>i≤([]:List Sg).length) 0 ?_ (e3h _) ?_
 ·(simp+decide only[go_sem,a0d,a07,az,aA]<;>rfl)
 ·intro i hi;obtain rfl:i=0:=by simpa using hi
  (repeat first|simp only[ww]|(apply xa;simp+decide only[go_sem];rfl;kernel_rfl))
  (apply fqb;simp+decide only[go_sem,az,aA]<;>rfl)
theorem a65(v:Vc)(T:List Tm)(a7:T.length≤100000)(V:List Vc)(hv:a22 v ([]:List Sg) T.length=true):sem L.env Mf 50 [.agg (Vc.enc v),.agg [.nilslice,.slice 0 0 T.length none,.slice 1 0 V.length none]] [some (.row 6 (T.map Tm.enc)),some (.row 3 (V.map Vc.enc))]=some (.bool true,[some (.row 6 (T.map Tm.enc)),some (.row 3 (V.map Vc.enc))]):=by
 have az:=λπ=>a02 π (a0a T);have aA:=a01 (a0a T);have dZ:(T.map Tm.enc).length=T.length:=b41 ..;have aZ:=λπ=>a02 π (a13 V);have a6:=a01 (a13 V)
 skip
 simp only[a22,b46,e2d]at hv;obtain⟨k0,k1,k2,k3,ej⟩:=hv;have k4:=(a4s _ _ ej).symm;have j0:¬v.t<0:=by omega
 have j1:¬(T.length:Int)≤v.t:=by omega
 have j2:¬v.rep<1:=by omega
 have j3:¬(1000000:Int)<v.rep:=by omega
 have j4:(v.cells.length:Int)=0:=by simpa using k4
 have fh:=λd H s c=>a97 (d:=d) H s c
 (refine sv Tryz.f50 ?_;simp only[Tryz.f50,gS])
 (repeat first|simp only[ww]|(apply xa;simp+decide only[go_sem,j0,j1,j2,j3,j4,b41];rfl;kernel_rfl))
 refine a15 (σ:=Nat) kp50_0 (λi=>[(2,.ptr 2 0 0),(39,.nilslice),(40,.int .i64 0),(41,.int .i64 (i:Nat))]) (λ_=>[some (.row 6 (T.map Tm.enc)),some (.row 3 (V.map Vc.enc)),some (.row 3 [Vc.enc v])]) (λi=>([]:List Sg).length-i) (λi=>i≤([]:List Sg).length) 0 ?_ (e3h _) ?_
 ·(simp+decide only[go_sem,a0d,a07,az,aA,aZ,a6]<;>rfl)
 ·intro i hi;obtain rfl:i=0:=by simpa using hi
  (repeat first|simp only[ww]|(apply xa;simp+decide only[go_sem];rfl;kernel_rfl))
  (apply fqb;simp+decide only[go_sem,az,aA,aZ,a6]<;>rfl)
theorem a64(v:Vc)(S:List Sg)(T:List Tm)(a7:T.length≤100000)(hv:a22 v S T.length=true)(dQ:S.length≤100000):sem L.env Mf 50 [.agg (Vc.enc v),.agg [.slice 0 0 S.length none,.slice 1 0 T.length none,.nilslice]] [some (.row 2 (S.map Sg.enc)),some (.row 6 (T.map Tm.enc))]=some (.bool true,[some (.row 2 (S.map Sg.enc)),some (.row 6 (T.map Tm.enc))]):=by
 have aO:=λπ=>a02 π (a0s S);have aP:=a01 (a0s S);have az:=λπ=>a02 π (a0a T);have aA:=a01 (a0a T);have dZ:(T.map Tm.enc).length=T.length:=b41 ..;have gM:(S.map Sg.enc).length=S.length:=b41 ..;simp only[a22,b46,e2d]at hv;obtain⟨k0,k1,k2,k3,ej⟩:=hv;have k4:=(a4s _ _ ej).symm;have j0:¬v.t<0:=by omega
 have j1:¬(T.length:Int)≤v.t:=by omega
 have j2:¬v.rep<1:=by omega
 have j3:¬(1000000:Int)<v.rep:=by omega
 have j4:(v.cells.length:Int)=S.length:=by omega
 have fh:=λd H s c=>a97 (d:=d) H s c
 (refine sv Tryz.f50 ?_;simp only[Tryz.f50,gS])
 (repeat first|simp only[ww]|(apply xa;simp+decide only[go_sem,j0,j1,j2,j3,j4,gM,b41];rfl;kernel_rfl))
 refine a15 (σ:=Nat) kp50_0 (λi=>[(2,.ptr 2 0 0),(39,.slice 0 0 S.length none),(40,.int .i64 S.length),(41,.int .i64 (i:Nat))]) (λ_=>[some (.row 2 (S.map Sg.enc)),some (.row 6 (T.map Tm.enc)),some (.row 3 [Vc.enc v])]) (λi=>S.length-i) (λi=>i≤S.length) 0 ?_ (e3h _) ?_
 ·(simp+decide only[go_sem,a0d,a07,aO,aP,az,aA]<;>rfl)
 ·intro i hi;by_cases aq:i<S.length
  ·have l1:(i:Int)<S.length:=by omega
   obtain⟨s,hs⟩:∃s,S[i]?=some s:=⟨_,z9e aq⟩
   obtain⟨c,hc⟩:∃c,v.cells[i]?=some c:=⟨_,z9e (by omega)⟩
   have hw:IntKind.i64.wrap ((i:Int)+1)=((i+1:Nat):Int):=by rw[w64 (by omega) (by omega)];omega
   have b7:(S.map Sg.enc)[i]?=some (Sg.enc s):=by rw[e2e,hs];rfl
   have eE:i<v.cells.length:=by omega
   have hk:(a1d s.dir).contains c=true:=b07 S v.cells ej i s c hs hc;by_cases hd:s.dir=1
   ·have d1:(s.dir:Int)=1:=by omega
    have hL:a1d s.dir=[76,72,88]:=by rw[hd];rfl
    have c1:¬Lib.indexByte [76,72,88] c<0:=by have:=a8v _ _ hk;rw[hL]at this;omega
    (repeat first|simp only[ww]|(apply xa;simp+decide only[go_sem,l1,aq,hw,b7,hs,hc,eE,d1,fh,c1,gM];rfl;kernel_rfl))
    refine a2p (i+1) ?_ (by omega) (by omega)
    (simp+decide only[go_sem,a0d,a07,aO,aP,az,aA]<;>rfl)
   ·have d1:¬(s.dir:Int)=1:=by omega
    have hL:a1d s.dir=[48,49,88,80]:=e2i hd;have c1:¬Lib.indexByte [48,49,88,80] c<0:=by have:=a8v _ _ hk;rw[hL]at this;omega
    (repeat first|simp only[ww]|(apply xa;simp+decide only[go_sem,l1,aq,hw,b7,hs,hc,eE,d1,fh,c1,gM];rfl;kernel_rfl))
    refine a2p (i+1) ?_ (by omega) (by omega)
    (simp+decide only[go_sem,a0d,a07,aO,aP,az,aA]<;>rfl)
  ·have l1:¬(i:Int)<S.length:=by omega
   (repeat first|simp only[ww]|(apply xa;simp+decide only[go_sem,l1];rfl;kernel_rfl))
   (apply fqb;simp+decide only[go_sem,aO,aP,az,aA]<;>rfl)
theorem a63(v:Vc)(S:List Sg)(T:List Tm)(a7:T.length≤100000)(V:List Vc)(hv:a22 v S T.length=true)(dQ:S.length≤100000):sem L.env Mf 50 [.agg (Vc.enc v),.agg [.slice 0 0 S.length none,.slice 1 0 T.length none,.slice 2 0 V.length none]] [some (.row 2 (S.map Sg.enc)),some (.row 6 (T.map Tm.enc)),some (.row 3 (V.map Vc.enc))]=some (.bool true,[some (.row 2 (S.map Sg.enc)),some (.row 6 (T.map Tm.enc)),some (.row 3 (V.map Vc.enc))]):=by
 have aO:=λπ=>a02 π (a0s S);have aP:=a01 (a0s S);have az:=λπ=>a02 π (a0a T);have aA:=a01 (a0a T);have dZ:(T.map Tm.enc).length=T.length:=b41 ..;have aZ:=λπ=>a02 π (a13 V);have a6:=a01 (a13 V);have gM:(S.map Sg.enc).length=S.length:=b41 ..;simp only[a22,b46,e2d]at hv;obtain⟨k0,k1,k2,k3,ej⟩:=hv;have k4:=(a4s _ _ ej).symm;have j0:¬v.t<0:=by omega
 have j1:¬(T.length:Int)≤v.t:=by omega
 have j2:¬v.rep<1:=by omega
 have j3:¬(1000000:Int)<v.rep:=by omega
 have j4:(v.cells.length:Int)=S.length:=by omega
 have fh:=λd H s c=>a97 (d:=d) H s c
 (refine sv Tryz.f50 ?_;simp only[Tryz.f50,gS])
 (repeat first|simp only[ww]|(apply xa;simp+decide only[go_sem,j0,j1,j2,j3,j4,gM,b41];rfl;kernel_rfl))
 refine a15 (σ:=Nat) kp50_0 (λi=>[(2,.ptr 3 0 0),(39,.slice 0 0 S.length none),(40,.int .i64 S.length),(41,.int .i64 (i:Nat))]) (λ_=>[some (.row 2 (S.map Sg.enc)),some (.row 6 (T.map Tm.enc)),some (.row 3 (V.map Vc.enc)),some (.row 3 [Vc.enc v])]) (λi=>S.length-i) (λi=>i≤S.length) 0 ?_ (e3h _) ?_
 ·(simp+decide only[go_sem,a0d,a07,aO,aP,az,aA,aZ,a6]<;>rfl)
 ·intro i hi;by_cases aq:i<S.length
  ·have l1:(i:Int)<S.length:=by omega
   obtain⟨s,hs⟩:∃s,S[i]?=some s:=⟨_,z9e aq⟩
   obtain⟨c,hc⟩:∃c,v.cells[i]?=some c:=⟨_,z9e (by omega)⟩
   have hw:IntKind.i64.wrap ((i:Int)+1)=((i+1:Nat):Int):=by rw[w64 (by omega) (by omega)];omega
   have b7:(S.map Sg.enc)[i]?=some (Sg.enc s):=by rw[e2e,hs];rfl
   have eE:i<v.cells.length:=by omega
   have hk:(a1d s.dir).contains c=true:=b07 S v.cells ej i s c hs hc;by_cases hd:s.dir=1
   ·have d1:(s.dir:Int)=1:=by omega
    have hL:a1d s.dir=[76,72,88]:=by rw[hd];rfl
    have c1:¬Lib.indexByte [76,72,88] c<0:=by have:=a8v _ _ hk;rw[hL]at this;omega
    (repeat first|simp only[ww]|(apply xa;simp+decide only[go_sem,l1,aq,hw,b7,hs,hc,eE,d1,fh,c1,gM];rfl;kernel_rfl))
    refine a2p (i+1) ?_ (by omega) (by omega)
    (simp+decide only[go_sem,a0d,a07,aO,aP,az,aA,aZ,a6]<;>rfl)
   ·have d1:¬(s.dir:Int)=1:=by omega
    have hL:a1d s.dir=[48,49,88,80]:=e2i hd;have c1:¬Lib.indexByte [48,49,88,80] c<0:=by have:=a8v _ _ hk;rw[hL]at this;omega
    (repeat first|simp only[ww]|(apply xa;simp+decide only[go_sem,l1,aq,hw,b7,hs,hc,eE,d1,fh,c1,gM];rfl;kernel_rfl))
    refine a2p (i+1) ?_ (by omega) (by omega)
    (simp+decide only[go_sem,a0d,a07,aO,aP,az,aA,aZ,a6]<;>rfl)
  ·have l1:¬(i:Int)<S.length:=by omega
   (repeat first|simp only[ww]|(apply xa;simp+decide only[go_sem,l1];rfl;kernel_rfl))
   (apply fqb;simp+decide only[go_sem,aO,aP,az,aA,aZ,a6]<;>rfl)
theorem c3z(sum:Int)(n:Nat)(R:List (List AV))(nm cl:List UInt8)(T:List Tm)(a7:T.length≤100000)(ap:R.length=n)(bH:3≤n)(aw:FlatR R)(aI:R[1]?=some [.str nm])(aC:R[2]?=some [.str cl])(bL:0≤sum)(bR:sum+(1:Nat)≤1000000)(ba:a22 ⟨fnd nm (T.map Tm.name),if cl=[45]then[]else cl,(1:Nat)⟩ ([]:List Sg) T.length=true) :
 ∃r:AV×a08,(∃c H1,r=(.tuple [],H1)∧a03 H1 0=some (.row 4 [[.nilslice,.slice 1 0 T.length none,.slice c 0 (([]:List Vc).length+1) none,.int .i64 (sum+(1:Nat))]])∧a03 H1 c=some (.row 3 ((([]:List Vc)++[⟨fnd nm (T.map Tm.name),if cl=[45]then[]else cl,(1:Nat)⟩]:List Vc).map Vc.enc))∧a03 H1 1=some (.row 6 (T.map Tm.enc)))∧sem L.env Mf 67 [.ptr 0 0 0,.slice 2 0 3 (some n)] [some (.row 4 [[.nilslice,.slice 1 0 T.length none,.nilslice,.int .i64 sum]]),some (.row 6 (T.map Tm.enc)),some (.row 1 R)]=some r:=by
 have aF:=λd H e=>a0i (d:=d) H e;have r1:=λπ=>a02 π aw;have r2:=a01 aw;have az:=λπ=>a02 π (a0a T);have aA:=a01 (a0a T);have dZ:(T.map Tm.enc).length=T.length:=b41 ..;have q1:1<n:=by omega
 have q2:2<n:=by omega
 have bg:Nat.beq 43 82=false:=by decide
 have gp:IntKind.i64.wrap (sum+1)=sum+1:=w64 (by omega) (by omega);have d9:sum+1≤1000000:=by omega
 have eC:IntKind.i64.wrap (sum+(1:Nat))=sum+(1:Nat):=w64 (by omega) (by omega);have bc:=a6k sum nm T a7;generalize fnd nm (T.map Tm.name)=zz at *;have cr:∀d,a0e L.env d (sem L.env Mf) (.func (.func 85) [] []) [.ptr 0 0 0,.str nm] [some (.row 4 [[.nilslice,.slice 1 0 T.length none,.nilslice,.int .i64 sum]]),some (.row 6 (T.map Tm.enc)),some (.row 1 R)]=some (.int .i64 zz,[some (.row 4 [[.nilslice,.slice 1 0 T.length none,.nilslice,.int .i64 sum]]),some (.row 6 (T.map Tm.enc)),some (.row 1 R)],[0,1]):=by intro d;have hc:=a0b (sem L.env Mf 85) [.ptr 0 0 0,.str nm] [some (.row 4 [[.nilslice,.slice 1 0 T.length none,.nilslice,.int .i64 sum]]),some (.row 6 (T.map Tm.enc)),some (.row 1 R)] (σ:=[0,1]) (by simp+decide only[go_sem,az,aA]<;>rfl) rfl rfl (an:=[.ptr 0 0 0,.str nm]) rfl (H0:=[some (.row 4 [[.nilslice,.slice 1 0 T.length none,.nilslice,.int .i64 sum]]),some (.row 6 (T.map Tm.enc))]) (by simp+decide only[go_sem,a0q,az,aA]) bc;refine a14 (by kernel_rfl) (by kernel_rfl) rfl (hc.trans ?_) rfl;simp+decide only[go_sem,a0n,az,aA]<;>rfl
 by_cases aX:cl=[45]
 ·subst aX;rw[e3g rfl]at ba⊢;have ce:=a66 ⟨zz,[],(1:Nat)⟩ T a7 ba;have bd:∀d,a0e L.env d (sem L.env Mf) (.func (.func 50) [] []) [.agg [.int .i64 zz,.str [],.int .i64 1],.agg [.nilslice,.slice 1 0 T.length none,.nilslice]] [some (.row 4 [[.nilslice,.slice 1 0 T.length none,.nilslice,.int .i64 sum]]),some (.row 6 (T.map Tm.enc)),some (.row 1 R),some (.row 3 [[.int .i64 zz,.str [],.int .i64 1]])]=some (.bool true,[some (.row 4 [[.nilslice,.slice 1 0 T.length none,.nilslice,.int .i64 sum]]),some (.row 6 (T.map Tm.enc)),some (.row 1 R),some (.row 3 [[.int .i64 zz,.str [],.int .i64 1]])],[1]):=by
   intro d;have hc:=a0b (sem L.env Mf 50) [.agg [.int .i64 zz,.str [],.int .i64 1],.agg [.nilslice,.slice 1 0 T.length none,.nilslice]] [some (.row 4 [[.nilslice,.slice 1 0 T.length none,.nilslice,.int .i64 sum]]),some (.row 6 (T.map Tm.enc)),some (.row 1 R),some (.row 3 [[.int .i64 zz,.str [],.int .i64 1]])] (σ:=[1]) (by simp+decide only[go_sem,az,aA]<;>rfl) rfl rfl (an:=[.agg [.int .i64 zz,.str [],.int .i64 1],.agg [.nilslice,.slice 0 0 T.length none,.nilslice]]) rfl (H0:=[some (.row 6 (T.map Tm.enc))]) (by simp+decide only[go_sem,a0q,az,aA]) ce;refine a14 (by kernel_rfl) (by kernel_rfl) rfl (hc.trans ?_) rfl;simp+decide only[go_sem,a0n,az,aA,r1]<;>rfl
  (refine svE Tryz.f67 ?_;simp only[Tryz.f67,gS])
  (repeat first|simp only[ww]|(apply xa;simp+decide only[go_sem,aF,aI,aC,ap,q1,q2,cr,bd,gp,d9,bg];rfl;kernel_rfl))
  (apply a4x;(·simp+decide only[go_sem]<;>rfl))
  exact⟨_,_,rfl,rfl,rfl,rfl⟩
 ·skip
  rw[e2i aX]at ba⊢;have ce:=a66 ⟨zz,cl,(1:Nat)⟩ T a7 ba;have bd:∀d,a0e L.env d (sem L.env Mf) (.func (.func 50) [] []) [.agg [.int .i64 zz,.str cl,.int .i64 1],.agg [.nilslice,.slice 1 0 T.length none,.nilslice]] [some (.row 4 [[.nilslice,.slice 1 0 T.length none,.nilslice,.int .i64 sum]]),some (.row 6 (T.map Tm.enc)),some (.row 1 R),some (.row 3 [[.int .i64 zz,.str cl,.int .i64 1]])]=some (.bool true,[some (.row 4 [[.nilslice,.slice 1 0 T.length none,.nilslice,.int .i64 sum]]),some (.row 6 (T.map Tm.enc)),some (.row 1 R),some (.row 3 [[.int .i64 zz,.str cl,.int .i64 1]])],[1]):=by intro d;have hc:=a0b (sem L.env Mf 50) [.agg [.int .i64 zz,.str cl,.int .i64 1],.agg [.nilslice,.slice 1 0 T.length none,.nilslice]] [some (.row 4 [[.nilslice,.slice 1 0 T.length none,.nilslice,.int .i64 sum]]),some (.row 6 (T.map Tm.enc)),some (.row 1 R),some (.row 3 [[.int .i64 zz,.str cl,.int .i64 1]])] (σ:=[1]) (by simp+decide only[go_sem,az,aA]<;>rfl) rfl rfl (an:=[.agg [.int .i64 zz,.str cl,.int .i64 1],.agg [.nilslice,.slice 0 0 T.length none,.nilslice]]) rfl (H0:=[some (.row 6 (T.map Tm.enc))]) (by simp+decide only[go_sem,a0q,az,aA]) ce;refine a14 (by kernel_rfl) (by kernel_rfl) rfl (hc.trans ?_) rfl;simp+decide only[go_sem,a0n,az,aA,r1]<;>rfl
  (refine svE Tryz.f67 ?_;simp only[Tryz.f67,gS])
  (repeat first|simp only[ww]|(apply xa;simp+decide only[go_sem,aF,aI,aC,ap,q1,q2,cr,bd,gp,d9,bg,aX];rfl;kernel_rfl))
  (apply a4x;(·simp+decide only[go_sem]<;>rfl))
  exact⟨_,_,rfl,rfl,rfl,rfl⟩
theorem c3y(sum:Int)(n:Nat)(R:List (List AV))(nm cl:List UInt8)(rp:List UInt8)(bB:NumOk rp)(cM:R[3]?=some [.str rp])(T:List Tm)(a7:T.length≤100000)(ap:R.length=n)(bH:4≤n)(aw:FlatR R)(aI:R[1]?=some [.str nm])(aC:R[2]?=some [.str cl])(bL:0≤sum)(bR:sum+(a09 rp:Nat)≤1000000)(ba:a22 ⟨fnd nm (T.map Tm.name),if cl=[45]then[]else cl,(a09 rp:Nat)⟩ ([]:List Sg) T.length=true) :
 ∃r:AV×a08,(∃c H1,r=(.tuple [],H1)∧a03 H1 0=some (.row 4 [[.nilslice,.slice 1 0 T.length none,.slice c 0 (([]:List Vc).length+1) none,.int .i64 (sum+(a09 rp:Nat))]])∧a03 H1 c=some (.row 3 ((([]:List Vc)++[⟨fnd nm (T.map Tm.name),if cl=[45]then[]else cl,(a09 rp:Nat)⟩]:List Vc).map Vc.enc))∧a03 H1 1=some (.row 6 (T.map Tm.enc)))∧sem L.env Mf 67 [.ptr 0 0 0,.slice 2 0 4 (some n)] [some (.row 4 [[.nilslice,.slice 1 0 T.length none,.nilslice,.int .i64 sum]]),some (.row 6 (T.map Tm.enc)),some (.row 1 R)]=some r:=by
 have aF:=λd H e=>a0i (d:=d) H e;have r1:=λπ=>a02 π aw;have r2:=a01 aw;have az:=λπ=>a02 π (a0a T);have aA:=a01 (a0a T);have dZ:(T.map Tm.enc).length=T.length:=b41 ..;have q1:1<n:=by omega
 have q2:2<n:=by omega
 have bg:Nat.beq 43 82=false:=by decide
 have q3:3<n:=by omega
 have gH:=λd H=>a2m (d:=d) H rp bB;have eC:IntKind.i64.wrap (sum+(a09 rp:Nat))=sum+(a09 rp:Nat):=w64 (by omega) (by omega);have bc:=a6k sum nm T a7;generalize fnd nm (T.map Tm.name)=zz at *;have cr:∀d,a0e L.env d (sem L.env Mf) (.func (.func 85) [] []) [.ptr 0 0 0,.str nm] [some (.row 4 [[.nilslice,.slice 1 0 T.length none,.nilslice,.int .i64 sum]]),some (.row 6 (T.map Tm.enc)),some (.row 1 R)]=some (.int .i64 zz,[some (.row 4 [[.nilslice,.slice 1 0 T.length none,.nilslice,.int .i64 sum]]),some (.row 6 (T.map Tm.enc)),some (.row 1 R)],[0,1]):=by intro d;have hc:=a0b (sem L.env Mf 85) [.ptr 0 0 0,.str nm] [some (.row 4 [[.nilslice,.slice 1 0 T.length none,.nilslice,.int .i64 sum]]),some (.row 6 (T.map Tm.enc)),some (.row 1 R)] (σ:=[0,1]) (by simp+decide only[go_sem,az,aA]<;>rfl) rfl rfl (an:=[.ptr 0 0 0,.str nm]) rfl (H0:=[some (.row 4 [[.nilslice,.slice 1 0 T.length none,.nilslice,.int .i64 sum]]),some (.row 6 (T.map Tm.enc))]) (by simp+decide only[go_sem,a0q,az,aA]) bc;refine a14 (by kernel_rfl) (by kernel_rfl) rfl (hc.trans ?_) rfl;simp+decide only[go_sem,a0n,az,aA]<;>rfl
 by_cases aX:cl=[45]
 ·subst aX;rw[e3g rfl]at ba⊢;have ce:=a66 ⟨zz,[],(a09 rp:Nat)⟩ T a7 ba;have bd:∀d,a0e L.env d (sem L.env Mf) (.func (.func 50) [] []) [.agg [.int .i64 zz,.str [],.int .i64 (a09 rp:Nat)],.agg [.nilslice,.slice 1 0 T.length none,.nilslice]] [some (.row 4 [[.nilslice,.slice 1 0 T.length none,.nilslice,.int .i64 sum]]),some (.row 6 (T.map Tm.enc)),some (.row 1 R),some (.row 3 [[.int .i64 zz,.str [],.int .i64 (a09 rp:Nat)]])]=some (.bool true,[some (.row 4 [[.nilslice,.slice 1 0 T.length none,.nilslice,.int .i64 sum]]),some (.row 6 (T.map Tm.enc)),some (.row 1 R),some (.row 3 [[.int .i64 zz,.str [],.int .i64 (a09 rp:Nat)]])],[1]):=by
   intro d;have hc:=a0b (sem L.env Mf 50) [.agg [.int .i64 zz,.str [],.int .i64 (a09 rp:Nat)],.agg [.nilslice,.slice 1 0 T.length none,.nilslice]] [some (.row 4 [[.nilslice,.slice 1 0 T.length none,.nilslice,.int .i64 sum]]),some (.row 6 (T.map Tm.enc)),some (.row 1 R),some (.row 3 [[.int .i64 zz,.str [],.int .i64 (a09 rp:Nat)]])] (σ:=[1]) (by simp+decide only[go_sem,az,aA]<;>rfl) rfl rfl (an:=[.agg [.int .i64 zz,.str [],.int .i64 (a09 rp:Nat)],.agg [.nilslice,.slice 0 0 T.length none,.nilslice]]) rfl (H0:=[some (.row 6 (T.map Tm.enc))]) (by simp+decide only[go_sem,a0q,az,aA]) ce;refine a14 (by kernel_rfl) (by kernel_rfl) rfl (hc.trans ?_) rfl;simp+decide only[go_sem,a0n,az,aA,r1]<;>rfl
  (refine svE Tryz.f67 ?_;simp only[Tryz.f67,gS])
  (repeat first|simp only[ww]|(apply xa;simp+decide only[go_sem,aF,aI,aC,cM,q3,gH,ap,q1,q2,cr,bd,eC,bR,bg];rfl;kernel_rfl))
  (apply a4x;(·simp+decide only[go_sem]<;>rfl))
  exact⟨_,_,rfl,rfl,rfl,rfl⟩
 ·skip
  rw[e2i aX]at ba⊢;have ce:=a66 ⟨zz,cl,(a09 rp:Nat)⟩ T a7 ba;have bd:∀d,a0e L.env d (sem L.env Mf) (.func (.func 50) [] []) [.agg [.int .i64 zz,.str cl,.int .i64 (a09 rp:Nat)],.agg [.nilslice,.slice 1 0 T.length none,.nilslice]] [some (.row 4 [[.nilslice,.slice 1 0 T.length none,.nilslice,.int .i64 sum]]),some (.row 6 (T.map Tm.enc)),some (.row 1 R),some (.row 3 [[.int .i64 zz,.str cl,.int .i64 (a09 rp:Nat)]])]=some (.bool true,[some (.row 4 [[.nilslice,.slice 1 0 T.length none,.nilslice,.int .i64 sum]]),some (.row 6 (T.map Tm.enc)),some (.row 1 R),some (.row 3 [[.int .i64 zz,.str cl,.int .i64 (a09 rp:Nat)]])],[1]):=by intro d;have hc:=a0b (sem L.env Mf 50) [.agg [.int .i64 zz,.str cl,.int .i64 (a09 rp:Nat)],.agg [.nilslice,.slice 1 0 T.length none,.nilslice]] [some (.row 4 [[.nilslice,.slice 1 0 T.length none,.nilslice,.int .i64 sum]]),some (.row 6 (T.map Tm.enc)),some (.row 1 R),some (.row 3 [[.int .i64 zz,.str cl,.int .i64 (a09 rp:Nat)]])] (σ:=[1]) (by simp+decide only[go_sem,az,aA]<;>rfl) rfl rfl (an:=[.agg [.int .i64 zz,.str cl,.int .i64 (a09 rp:Nat)],.agg [.nilslice,.slice 0 0 T.length none,.nilslice]]) rfl (H0:=[some (.row 6 (T.map Tm.enc))]) (by simp+decide only[go_sem,a0q,az,aA]) ce;refine a14 (by kernel_rfl) (by kernel_rfl) rfl (hc.trans ?_) rfl;simp+decide only[go_sem,a0n,az,aA,r1]<;>rfl
  (refine svE Tryz.f67 ?_;simp only[Tryz.f67,gS])
  (repeat first|simp only[ww]|(apply xa;simp+decide only[go_sem,aF,aI,aC,cM,q3,gH,ap,q1,q2,cr,bd,eC,bR,bg,aX];rfl;kernel_rfl))
  (apply a4x;(·simp+decide only[go_sem]<;>rfl))
  exact⟨_,_,rfl,rfl,rfl,rfl⟩
theorem c3x(sum:Int)(n:Nat)(R:List (List AV))(nm cl:List UInt8)(T:List Tm)(a7:T.length≤100000)(V:List Vc)(kU:V.length<65536)(ap:R.length=n)(bH:3≤n)(aw:FlatR R)(aI:R[1]?=some [.str nm])(aC:R[2]?=some [.str cl])(bL:0≤sum)(bR:sum+(1:Nat)≤1000000)(ba:a22 ⟨fnd nm (T.map Tm.name),if cl=[45]then[]else cl,(1:Nat)⟩ ([]:List Sg) T.length=true) :
 ∃r:AV×a08,(∃c H1,r=(.tuple [],H1)∧a03 H1 0=some (.row 4 [[.nilslice,.slice 1 0 T.length none,.slice c 0 (V.length+1) none,.int .i64 (sum+(1:Nat))]])∧a03 H1 c=some (.row 3 ((V++[⟨fnd nm (T.map Tm.name),if cl=[45]then[]else cl,(1:Nat)⟩]:List Vc).map Vc.enc))∧a03 H1 1=some (.row 6 (T.map Tm.enc)))∧sem L.env Mf 67 [.ptr 0 0 0,.slice 3 0 3 (some n)] [some (.row 4 [[.nilslice,.slice 1 0 T.length none,.slice 2 0 V.length none,.int .i64 sum]]),some (.row 6 (T.map Tm.enc)),some (.row 3 (V.map Vc.enc)),some (.row 1 R)]=some r:=by
 have aF:=λd H e=>a0i (d:=d) H e;have r1:=λπ=>a02 π aw;have r2:=a01 aw;have az:=λπ=>a02 π (a0a T);have aA:=a01 (a0a T);have dZ:(T.map Tm.enc).length=T.length:=b41 ..;have aZ:=λπ=>a02 π (a13 V);have a6:=a01 (a13 V);have q1:1<n:=by omega
 have q2:2<n:=by omega
 have bg:Nat.beq 43 82=false:=by decide
 have gp:IntKind.i64.wrap (sum+1)=sum+1:=w64 (by omega) (by omega);have d9:sum+1≤1000000:=by omega
 have jE:(V.map Vc.enc).length=V.length:=b41 ..;have c7:(V.length:Int)<65536:=by omega
 have cU:V.length+1≤1000000000:=by omega
 have eC:IntKind.i64.wrap (sum+(1:Nat))=sum+(1:Nat):=w64 (by omega) (by omega);have bc:=a8o sum nm T a7 V;generalize fnd nm (T.map Tm.name)=zz at *;have cr:∀d,a0e L.env d (sem L.env Mf) (.func (.func 85) [] []) [.ptr 0 0 0,.str nm] [some (.row 4 [[.nilslice,.slice 1 0 T.length none,.slice 2 0 V.length none,.int .i64 sum]]),some (.row 6 (T.map Tm.enc)),some (.row 3 (V.map Vc.enc)),some (.row 1 R)]=some (.int .i64 zz,[some (.row 4 [[.nilslice,.slice 1 0 T.length none,.slice 2 0 V.length none,.int .i64 sum]]),some (.row 6 (T.map Tm.enc)),some (.row 3 (V.map Vc.enc)),some (.row 1 R)],[0,1,2]):=by intro d;have hc:=a0b (sem L.env Mf 85) [.ptr 0 0 0,.str nm] [some (.row 4 [[.nilslice,.slice 1 0 T.length none,.slice 2 0 V.length none,.int .i64 sum]]),some (.row 6 (T.map Tm.enc)),some (.row 3 (V.map Vc.enc)),some (.row 1 R)] (σ:=[0,1,2]) (by simp+decide only[go_sem,az,aA,aZ,a6]<;>rfl) rfl rfl (an:=[.ptr 0 0 0,.str nm]) rfl (H0:=[some (.row 4 [[.nilslice,.slice 1 0 T.length none,.slice 2 0 V.length none,.int .i64 sum]]),some (.row 6 (T.map Tm.enc)),some (.row 3 (V.map Vc.enc))]) (by simp+decide only[go_sem,a0q,az,aA,aZ,a6]) bc;refine a14 (by kernel_rfl) (by kernel_rfl) rfl (hc.trans ?_) rfl;simp+decide only[go_sem,a0n,az,aA,aZ,a6]<;>rfl
 by_cases aX:cl=[45]
 ·subst aX;rw[e3g rfl]at ba⊢;have ce:=a65 ⟨zz,[],(1:Nat)⟩ T a7 V ba;have bd:∀d,a0e L.env d (sem L.env Mf) (.func (.func 50) [] []) [.agg [.int .i64 zz,.str [],.int .i64 1],.agg [.nilslice,.slice 1 0 T.length none,.slice 2 0 V.length none]] [some (.row 4 [[.nilslice,.slice 1 0 T.length none,.slice 2 0 V.length none,.int .i64 sum]]),some (.row 6 (T.map Tm.enc)),some (.row 3 (V.map Vc.enc)),some (.row 1 R),some (.row 3 [[.int .i64 zz,.str [],.int .i64 1]])]=some (.bool true,[some (.row 4 [[.nilslice,.slice 1 0 T.length none,.slice 2 0 V.length none,.int .i64 sum]]),some (.row 6 (T.map Tm.enc)),some (.row 3 (V.map Vc.enc)),some (.row 1 R),some (.row 3 [[.int .i64 zz,.str [],.int .i64 1]])],[1,2]):=by
   intro d;have hc:=a0b (sem L.env Mf 50) [.agg [.int .i64 zz,.str [],.int .i64 1],.agg [.nilslice,.slice 1 0 T.length none,.slice 2 0 V.length none]] [some (.row 4 [[.nilslice,.slice 1 0 T.length none,.slice 2 0 V.length none,.int .i64 sum]]),some (.row 6 (T.map Tm.enc)),some (.row 3 (V.map Vc.enc)),some (.row 1 R),some (.row 3 [[.int .i64 zz,.str [],.int .i64 1]])] (σ:=[1,2]) (by simp+decide only[go_sem,az,aA,aZ,a6]<;>rfl) rfl rfl (an:=[.agg [.int .i64 zz,.str [],.int .i64 1],.agg [.nilslice,.slice 0 0 T.length none,.slice 1 0 V.length none]]) rfl (H0:=[some (.row 6 (T.map Tm.enc)),some (.row 3 (V.map Vc.enc))]) (by simp+decide only[go_sem,a0q,az,aA,aZ,a6]) ce;refine a14 (by kernel_rfl) (by kernel_rfl) rfl (hc.trans ?_) rfl;simp+decide only[go_sem,a0n,az,aA,aZ,a6,r1]<;>rfl
  (refine svE Tryz.f67 ?_;simp only[Tryz.f67,gS])
  (repeat first|simp only[ww]|(apply xa;simp+decide only[go_sem,aF,aI,aC,ap,q1,q2,cr,bd,gp,d9,bg,jE,c7,cU];rfl;kernel_rfl))
  (apply a4x;(·simp+decide only[go_sem]<;>rfl))
  exact⟨_,_,rfl,rfl,by simp[e3j];rfl,rfl⟩
 ·skip
  rw[e2i aX]at ba⊢;have ce:=a65 ⟨zz,cl,(1:Nat)⟩ T a7 V ba;have bd:∀d,a0e L.env d (sem L.env Mf) (.func (.func 50) [] []) [.agg [.int .i64 zz,.str cl,.int .i64 1],.agg [.nilslice,.slice 1 0 T.length none,.slice 2 0 V.length none]] [some (.row 4 [[.nilslice,.slice 1 0 T.length none,.slice 2 0 V.length none,.int .i64 sum]]),some (.row 6 (T.map Tm.enc)),some (.row 3 (V.map Vc.enc)),some (.row 1 R),some (.row 3 [[.int .i64 zz,.str cl,.int .i64 1]])]=some (.bool true,[some (.row 4 [[.nilslice,.slice 1 0 T.length none,.slice 2 0 V.length none,.int .i64 sum]]),some (.row 6 (T.map Tm.enc)),some (.row 3 (V.map Vc.enc)),some (.row 1 R),some (.row 3 [[.int .i64 zz,.str cl,.int .i64 1]])],[1,2]):=by intro d;have hc:=a0b (sem L.env Mf 50) [.agg [.int .i64 zz,.str cl,.int .i64 1],.agg [.nilslice,.slice 1 0 T.length none,.slice 2 0 V.length none]] [some (.row 4 [[.nilslice,.slice 1 0 T.length none,.slice 2 0 V.length none,.int .i64 sum]]),some (.row 6 (T.map Tm.enc)),some (.row 3 (V.map Vc.enc)),some (.row 1 R),some (.row 3 [[.int .i64 zz,.str cl,.int .i64 1]])] (σ:=[1,2]) (by simp+decide only[go_sem,az,aA,aZ,a6]<;>rfl) rfl rfl (an:=[.agg [.int .i64 zz,.str cl,.int .i64 1],.agg [.nilslice,.slice 0 0 T.length none,.slice 1 0 V.length none]]) rfl (H0:=[some (.row 6 (T.map Tm.enc)),some (.row 3 (V.map Vc.enc))]) (by simp+decide only[go_sem,a0q,az,aA,aZ,a6]) ce;refine a14 (by kernel_rfl) (by kernel_rfl) rfl (hc.trans ?_) rfl;simp+decide only[go_sem,a0n,az,aA,aZ,a6,r1]<;>rfl
  (refine svE Tryz.f67 ?_;simp only[Tryz.f67,gS])
  (repeat first|simp only[ww]|(apply xa;simp+decide only[go_sem,aF,aI,aC,ap,q1,q2,cr,bd,gp,d9,bg,jE,c7,cU,aX];rfl;kernel_rfl))
  (apply a4x;(·simp+decide only[go_sem]<;>rfl))
  exact⟨_,_,rfl,rfl,by simp[e3j];rfl,rfl⟩
theorem c3w(sum:Int)(n:Nat)(R:List (List AV))(nm cl:List UInt8)(rp:List UInt8)(bB:NumOk rp)(cM:R[3]?=some [.str rp])(T:List Tm)(a7:T.length≤100000)(V:List Vc)(kU:V.length<65536)(ap:R.length=n)(bH:4≤n)(aw:FlatR R)(aI:R[1]?=some [.str nm])(aC:R[2]?=some [.str cl])(bL:0≤sum)(bR:sum+(a09 rp:Nat)≤1000000)(ba:a22 ⟨fnd nm (T.map Tm.name),if cl=[45]then[]else cl,(a09 rp:Nat)⟩ ([]:List Sg) T.length=true) :
 ∃r:AV×a08,(∃c H1,r=(.tuple [],H1)∧a03 H1 0=some (.row 4 [[.nilslice,.slice 1 0 T.length none,.slice c 0 (V.length+1) none,.int .i64 (sum+(a09 rp:Nat))]])∧a03 H1 c=some (.row 3 ((V++[⟨fnd nm (T.map Tm.name),if cl=[45]then[]else cl,(a09 rp:Nat)⟩]:List Vc).map Vc.enc))∧a03 H1 1=some (.row 6 (T.map Tm.enc)))∧sem L.env Mf 67 [.ptr 0 0 0,.slice 3 0 4 (some n)] [some (.row 4 [[.nilslice,.slice 1 0 T.length none,.slice 2 0 V.length none,.int .i64 sum]]),some (.row 6 (T.map Tm.enc)),some (.row 3 (V.map Vc.enc)),some (.row 1 R)]=some r:=by
 have aF:=λd H e=>a0i (d:=d) H e;have r1:=λπ=>a02 π aw;have r2:=a01 aw;have az:=λπ=>a02 π (a0a T);have aA:=a01 (a0a T);have dZ:(T.map Tm.enc).length=T.length:=b41 ..;have aZ:=λπ=>a02 π (a13 V);have a6:=a01 (a13 V);have q1:1<n:=by omega
 have q2:2<n:=by omega
 have bg:Nat.beq 43 82=false:=by decide
 have q3:3<n:=by omega
 have gH:=λd H=>a2m (d:=d) H rp bB;have jE:(V.map Vc.enc).length=V.length:=b41 ..;have c7:(V.length:Int)<65536:=by omega
 have cU:V.length+1≤1000000000:=by omega
 have eC:IntKind.i64.wrap (sum+(a09 rp:Nat))=sum+(a09 rp:Nat):=w64 (by omega) (by omega);have bc:=a8o sum nm T a7 V;generalize fnd nm (T.map Tm.name)=zz at *;have cr:∀d,a0e L.env d (sem L.env Mf) (.func (.func 85) [] []) [.ptr 0 0 0,.str nm] [some (.row 4 [[.nilslice,.slice 1 0 T.length none,.slice 2 0 V.length none,.int .i64 sum]]),some (.row 6 (T.map Tm.enc)),some (.row 3 (V.map Vc.enc)),some (.row 1 R)]=some (.int .i64 zz,[some (.row 4 [[.nilslice,.slice 1 0 T.length none,.slice 2 0 V.length none,.int .i64 sum]]),some (.row 6 (T.map Tm.enc)),some (.row 3 (V.map Vc.enc)),some (.row 1 R)],[0,1,2]):=by intro d;have hc:=a0b (sem L.env Mf 85) [.ptr 0 0 0,.str nm] [some (.row 4 [[.nilslice,.slice 1 0 T.length none,.slice 2 0 V.length none,.int .i64 sum]]),some (.row 6 (T.map Tm.enc)),some (.row 3 (V.map Vc.enc)),some (.row 1 R)] (σ:=[0,1,2]) (by simp+decide only[go_sem,az,aA,aZ,a6]<;>rfl) rfl rfl (an:=[.ptr 0 0 0,.str nm]) rfl (H0:=[some (.row 4 [[.nilslice,.slice 1 0 T.length none,.slice 2 0 V.length none,.int .i64 sum]]),some (.row 6 (T.map Tm.enc)),some (.row 3 (V.map Vc.enc))]) (by simp+decide only[go_sem,a0q,az,aA,aZ,a6]) bc;refine a14 (by kernel_rfl) (by kernel_rfl) rfl (hc.trans ?_) rfl;simp+decide only[go_sem,a0n,az,aA,aZ,a6]<;>rfl
 by_cases aX:cl=[45]
 ·subst aX;rw[e3g rfl]at ba⊢;have ce:=a65 ⟨zz,[],(a09 rp:Nat)⟩ T a7 V ba;have bd:∀d,a0e L.env d (sem L.env Mf) (.func (.func 50) [] []) [.agg [.int .i64 zz,.str [],.int .i64 (a09 rp:Nat)],.agg [.nilslice,.slice 1 0 T.length none,.slice 2 0 V.length none]] [some (.row 4 [[.nilslice,.slice 1 0 T.length none,.slice 2 0 V.length none,.int .i64 sum]]),some (.row 6 (T.map Tm.enc)),some (.row 3 (V.map Vc.enc)),some (.row 1 R),some (.row 3 [[.int .i64 zz,.str [],.int .i64 (a09 rp:Nat)]])]=some (.bool true,[some (.row 4 [[.nilslice,.slice 1 0 T.length none,.slice 2 0 V.length none,.int .i64 sum]]),some (.row 6 (T.map Tm.enc)),some (.row 3 (V.map Vc.enc)),some (.row 1 R),some (.row 3 [[.int .i64 zz,.str [],.int .i64 (a09 rp:Nat)]])],[1,2]):=by
   intro d;have hc:=a0b (sem L.env Mf 50) [.agg [.int .i64 zz,.str [],.int .i64 (a09 rp:Nat)],.agg [.nilslice,.slice 1 0 T.length none,.slice 2 0 V.length none]] [some (.row 4 [[.nilslice,.slice 1 0 T.length none,.slice 2 0 V.length none,.int .i64 sum]]),some (.row 6 (T.map Tm.enc)),some (.row 3 (V.map Vc.enc)),some (.row 1 R),some (.row 3 [[.int .i64 zz,.str [],.int .i64 (a09 rp:Nat)]])] (σ:=[1,2]) (by simp+decide only[go_sem,az,aA,aZ,a6]<;>rfl) rfl rfl (an:=[.agg [.int .i64 zz,.str [],.int .i64 (a09 rp:Nat)],.agg [.nilslice,.slice 0 0 T.length none,.slice 1 0 V.length none]]) rfl (H0:=[some (.row 6 (T.map Tm.enc)),some (.row 3 (V.map Vc.enc))]) (by simp+decide only[go_sem,a0q,az,aA,aZ,a6]) ce;refine a14 (by kernel_rfl) (by kernel_rfl) rfl (hc.trans ?_) rfl;simp+decide only[go_sem,a0n,az,aA,aZ,a6,r1]<;>rfl
  (refine svE Tryz.f67 ?_;simp only[Tryz.f67,gS])
  (repeat first|simp only[ww]|(apply xa;simp+decide only[go_sem,aF,aI,aC,cM,q3,gH,ap,q1,q2,cr,bd,eC,bR,bg,jE,c7,cU];rfl;kernel_rfl))
  (apply a4x;(·simp+decide only[go_sem]<;>rfl))
  exact⟨_,_,rfl,rfl,by simp[e3j];rfl,rfl⟩
 ·skip
  rw[e2i aX]at ba⊢;have ce:=a65 ⟨zz,cl,(a09 rp:Nat)⟩ T a7 V ba;have bd:∀d,a0e L.env d (sem L.env Mf) (.func (.func 50) [] []) [.agg [.int .i64 zz,.str cl,.int .i64 (a09 rp:Nat)],.agg [.nilslice,.slice 1 0 T.length none,.slice 2 0 V.length none]] [some (.row 4 [[.nilslice,.slice 1 0 T.length none,.slice 2 0 V.length none,.int .i64 sum]]),some (.row 6 (T.map Tm.enc)),some (.row 3 (V.map Vc.enc)),some (.row 1 R),some (.row 3 [[.int .i64 zz,.str cl,.int .i64 (a09 rp:Nat)]])]=some (.bool true,[some (.row 4 [[.nilslice,.slice 1 0 T.length none,.slice 2 0 V.length none,.int .i64 sum]]),some (.row 6 (T.map Tm.enc)),some (.row 3 (V.map Vc.enc)),some (.row 1 R),some (.row 3 [[.int .i64 zz,.str cl,.int .i64 (a09 rp:Nat)]])],[1,2]):=by intro d;have hc:=a0b (sem L.env Mf 50) [.agg [.int .i64 zz,.str cl,.int .i64 (a09 rp:Nat)],.agg [.nilslice,.slice 1 0 T.length none,.slice 2 0 V.length none]] [some (.row 4 [[.nilslice,.slice 1 0 T.length none,.slice 2 0 V.length none,.int .i64 sum]]),some (.row 6 (T.map Tm.enc)),some (.row 3 (V.map Vc.enc)),some (.row 1 R),some (.row 3 [[.int .i64 zz,.str cl,.int .i64 (a09 rp:Nat)]])] (σ:=[1,2]) (by simp+decide only[go_sem,az,aA,aZ,a6]<;>rfl) rfl rfl (an:=[.agg [.int .i64 zz,.str cl,.int .i64 (a09 rp:Nat)],.agg [.nilslice,.slice 0 0 T.length none,.slice 1 0 V.length none]]) rfl (H0:=[some (.row 6 (T.map Tm.enc)),some (.row 3 (V.map Vc.enc))]) (by simp+decide only[go_sem,a0q,az,aA,aZ,a6]) ce;refine a14 (by kernel_rfl) (by kernel_rfl) rfl (hc.trans ?_) rfl;simp+decide only[go_sem,a0n,az,aA,aZ,a6,r1]<;>rfl
  (refine svE Tryz.f67 ?_;simp only[Tryz.f67,gS])
  (repeat first|simp only[ww]|(apply xa;simp+decide only[go_sem,aF,aI,aC,cM,q3,gH,ap,q1,q2,cr,bd,eC,bR,bg,jE,c7,cU,aX];rfl;kernel_rfl))
  (apply a4x;(·simp+decide only[go_sem]<;>rfl))
  exact⟨_,_,rfl,rfl,by simp[e3j];rfl,rfl⟩
theorem c3v(sum:Int)(n:Nat)(R:List (List AV))(nm cl:List UInt8)(S:List Sg)(T:List Tm)(a7:T.length≤100000)(dQ:S.length≤100000)(ap:R.length=n)(bH:3≤n)(aw:FlatR R)(aI:R[1]?=some [.str nm])(aC:R[2]?=some [.str cl])(bL:0≤sum)(bR:sum+(1:Nat)≤1000000)(ba:a22 ⟨fnd nm (T.map Tm.name),if cl=[45]then[]else cl,(1:Nat)⟩ S T.length=true) :
 ∃r:AV×a08,(∃c H1,r=(.tuple [],H1)∧a03 H1 0=some (.row 4 [[.slice 1 0 S.length none,.slice 2 0 T.length none,.slice c 0 (([]:List Vc).length+1) none,.int .i64 (sum+(1:Nat))]])∧a03 H1 c=some (.row 3 ((([]:List Vc)++[⟨fnd nm (T.map Tm.name),if cl=[45]then[]else cl,(1:Nat)⟩]:List Vc).map Vc.enc))∧a03 H1 1=some (.row 2 (S.map Sg.enc))∧a03 H1 2=some (.row 6 (T.map Tm.enc)))∧sem L.env Mf 67 [.ptr 0 0 0,.slice 3 0 3 (some n)] [some (.row 4 [[.slice 1 0 S.length none,.slice 2 0 T.length none,.nilslice,.int .i64 sum]]),some (.row 2 (S.map Sg.enc)),some (.row 6 (T.map Tm.enc)),some (.row 1 R)]=some r:=by
 have aF:=λd H e=>a0i (d:=d) H e;have r1:=λπ=>a02 π aw;have r2:=a01 aw;have aO:=λπ=>a02 π (a0s S);have aP:=a01 (a0s S);have az:=λπ=>a02 π (a0a T);have aA:=a01 (a0a T);have dZ:(T.map Tm.enc).length=T.length:=b41 ..;have q1:1<n:=by omega
 have q2:2<n:=by omega
 have bg:Nat.beq 43 82=false:=by decide
 have gp:IntKind.i64.wrap (sum+1)=sum+1:=w64 (by omega) (by omega);have d9:sum+1≤1000000:=by omega
 have eC:IntKind.i64.wrap (sum+(1:Nat))=sum+(1:Nat):=w64 (by omega) (by omega);have bc:=a6j sum nm S T a7;generalize fnd nm (T.map Tm.name)=zz at *;have cr:∀d,a0e L.env d (sem L.env Mf) (.func (.func 85) [] []) [.ptr 0 0 0,.str nm] [some (.row 4 [[.slice 1 0 S.length none,.slice 2 0 T.length none,.nilslice,.int .i64 sum]]),some (.row 2 (S.map Sg.enc)),some (.row 6 (T.map Tm.enc)),some (.row 1 R)]=some (.int .i64 zz,[some (.row 4 [[.slice 1 0 S.length none,.slice 2 0 T.length none,.nilslice,.int .i64 sum]]),some (.row 2 (S.map Sg.enc)),some (.row 6 (T.map Tm.enc)),some (.row 1 R)],[0,1,2]):=by intro d;have hc:=a0b (sem L.env Mf 85) [.ptr 0 0 0,.str nm] [some (.row 4 [[.slice 1 0 S.length none,.slice 2 0 T.length none,.nilslice,.int .i64 sum]]),some (.row 2 (S.map Sg.enc)),some (.row 6 (T.map Tm.enc)),some (.row 1 R)] (σ:=[0,1,2]) (by simp+decide only[go_sem,aO,aP,az,aA]<;>rfl) rfl rfl (an:=[.ptr 0 0 0,.str nm]) rfl (H0:=[some (.row 4 [[.slice 1 0 S.length none,.slice 2 0 T.length none,.nilslice,.int .i64 sum]]),some (.row 2 (S.map Sg.enc)),some (.row 6 (T.map Tm.enc))]) (by simp+decide only[go_sem,a0q,aO,aP,az,aA]) bc;refine a14 (by kernel_rfl) (by kernel_rfl) rfl (hc.trans ?_) rfl;simp+decide only[go_sem,a0n,aO,aP,az,aA]<;>rfl
 by_cases aX:cl=[45]
 ·subst aX;rw[e3g rfl]at ba⊢;have ce:=a64 ⟨zz,[],(1:Nat)⟩ S T a7 ba dQ;have bd:∀d,a0e L.env d (sem L.env Mf) (.func (.func 50) [] []) [.agg [.int .i64 zz,.str [],.int .i64 1],.agg [.slice 1 0 S.length none,.slice 2 0 T.length none,.nilslice]] [some (.row 4 [[.slice 1 0 S.length none,.slice 2 0 T.length none,.nilslice,.int .i64 sum]]),some (.row 2 (S.map Sg.enc)),some (.row 6 (T.map Tm.enc)),some (.row 1 R),some (.row 3 [[.int .i64 zz,.str [],.int .i64 1]])]=some (.bool true,[some (.row 4 [[.slice 1 0 S.length none,.slice 2 0 T.length none,.nilslice,.int .i64 sum]]),some (.row 2 (S.map Sg.enc)),some (.row 6 (T.map Tm.enc)),some (.row 1 R),some (.row 3 [[.int .i64 zz,.str [],.int .i64 1]])],[1,2]):=by
   intro d;have hc:=a0b (sem L.env Mf 50) [.agg [.int .i64 zz,.str [],.int .i64 1],.agg [.slice 1 0 S.length none,.slice 2 0 T.length none,.nilslice]] [some (.row 4 [[.slice 1 0 S.length none,.slice 2 0 T.length none,.nilslice,.int .i64 sum]]),some (.row 2 (S.map Sg.enc)),some (.row 6 (T.map Tm.enc)),some (.row 1 R),some (.row 3 [[.int .i64 zz,.str [],.int .i64 1]])] (σ:=[1,2]) (by simp+decide only[go_sem,aO,aP,az,aA]<;>rfl) rfl rfl (an:=[.agg [.int .i64 zz,.str [],.int .i64 1],.agg [.slice 0 0 S.length none,.slice 1 0 T.length none,.nilslice]]) rfl (H0:=[some (.row 2 (S.map Sg.enc)),some (.row 6 (T.map Tm.enc))]) (by simp+decide only[go_sem,a0q,aO,aP,az,aA]) ce;refine a14 (by kernel_rfl) (by kernel_rfl) rfl (hc.trans ?_) rfl;simp+decide only[go_sem,a0n,aO,aP,az,aA,r1]<;>rfl
  (refine svE Tryz.f67 ?_;simp only[Tryz.f67,gS])
  (repeat first|simp only[ww]|(apply xa;simp+decide only[go_sem,aF,aI,aC,ap,q1,q2,cr,bd,gp,d9,bg];rfl;kernel_rfl))
  (apply a4x;(·simp+decide only[go_sem]<;>rfl))
  exact⟨_,_,rfl,rfl,rfl,rfl,rfl⟩
 ·skip
  rw[e2i aX]at ba⊢;have ce:=a64 ⟨zz,cl,(1:Nat)⟩ S T a7 ba dQ;have bd:∀d,a0e L.env d (sem L.env Mf) (.func (.func 50) [] []) [.agg [.int .i64 zz,.str cl,.int .i64 1],.agg [.slice 1 0 S.length none,.slice 2 0 T.length none,.nilslice]] [some (.row 4 [[.slice 1 0 S.length none,.slice 2 0 T.length none,.nilslice,.int .i64 sum]]),some (.row 2 (S.map Sg.enc)),some (.row 6 (T.map Tm.enc)),some (.row 1 R),some (.row 3 [[.int .i64 zz,.str cl,.int .i64 1]])]=some (.bool true,[some (.row 4 [[.slice 1 0 S.length none,.slice 2 0 T.length none,.nilslice,.int .i64 sum]]),some (.row 2 (S.map Sg.enc)),some (.row 6 (T.map Tm.enc)),some (.row 1 R),some (.row 3 [[.int .i64 zz,.str cl,.int .i64 1]])],[1,2]):=by intro d;have hc:=a0b (sem L.env Mf 50) [.agg [.int .i64 zz,.str cl,.int .i64 1],.agg [.slice 1 0 S.length none,.slice 2 0 T.length none,.nilslice]] [some (.row 4 [[.slice 1 0 S.length none,.slice 2 0 T.length none,.nilslice,.int .i64 sum]]),some (.row 2 (S.map Sg.enc)),some (.row 6 (T.map Tm.enc)),some (.row 1 R),some (.row 3 [[.int .i64 zz,.str cl,.int .i64 1]])] (σ:=[1,2]) (by simp+decide only[go_sem,aO,aP,az,aA]<;>rfl) rfl rfl (an:=[.agg [.int .i64 zz,.str cl,.int .i64 1],.agg [.slice 0 0 S.length none,.slice 1 0 T.length none,.nilslice]]) rfl (H0:=[some (.row 2 (S.map Sg.enc)),some (.row 6 (T.map Tm.enc))]) (by simp+decide only[go_sem,a0q,aO,aP,az,aA]) ce;refine a14 (by kernel_rfl) (by kernel_rfl) rfl (hc.trans ?_) rfl;simp+decide only[go_sem,a0n,aO,aP,az,aA,r1]<;>rfl
  (refine svE Tryz.f67 ?_;simp only[Tryz.f67,gS])
  (repeat first|simp only[ww]|(apply xa;simp+decide only[go_sem,aF,aI,aC,ap,q1,q2,cr,bd,gp,d9,bg,aX];rfl;kernel_rfl))
  (apply a4x;(·simp+decide only[go_sem]<;>rfl))
  exact⟨_,_,rfl,rfl,rfl,rfl,rfl⟩
theorem c3u(sum:Int)(n:Nat)(R:List (List AV))(nm cl:List UInt8)(rp:List UInt8)(bB:NumOk rp)(cM:R[3]?=some [.str rp])(S:List Sg)(T:List Tm)(a7:T.length≤100000)(dQ:S.length≤100000)(ap:R.length=n)(bH:4≤n)(aw:FlatR R)(aI:R[1]?=some [.str nm])(aC:R[2]?=some [.str cl])(bL:0≤sum)(bR:sum+(a09 rp:Nat)≤1000000)(ba:a22 ⟨fnd nm (T.map Tm.name),if cl=[45]then[]else cl,(a09 rp:Nat)⟩ S T.length=true) :
 ∃r:AV×a08,(∃c H1,r=(.tuple [],H1)∧a03 H1 0=some (.row 4 [[.slice 1 0 S.length none,.slice 2 0 T.length none,.slice c 0 (([]:List Vc).length+1) none,.int .i64 (sum+(a09 rp:Nat))]])∧a03 H1 c=some (.row 3 ((([]:List Vc)++[⟨fnd nm (T.map Tm.name),if cl=[45]then[]else cl,(a09 rp:Nat)⟩]:List Vc).map Vc.enc))∧a03 H1 1=some (.row 2 (S.map Sg.enc))∧a03 H1 2=some (.row 6 (T.map Tm.enc)))∧sem L.env Mf 67 [.ptr 0 0 0,.slice 3 0 4 (some n)] [some (.row 4 [[.slice 1 0 S.length none,.slice 2 0 T.length none,.nilslice,.int .i64 sum]]),some (.row 2 (S.map Sg.enc)),some (.row 6 (T.map Tm.enc)),some (.row 1 R)]=some r:=by
 have aF:=λd H e=>a0i (d:=d) H e;have r1:=λπ=>a02 π aw;have r2:=a01 aw;have aO:=λπ=>a02 π (a0s S);have aP:=a01 (a0s S);have az:=λπ=>a02 π (a0a T);have aA:=a01 (a0a T);have dZ:(T.map Tm.enc).length=T.length:=b41 ..;have q1:1<n:=by omega
 have q2:2<n:=by omega
 have bg:Nat.beq 43 82=false:=by decide
 have q3:3<n:=by omega
 have gH:=λd H=>a2m (d:=d) H rp bB;have eC:IntKind.i64.wrap (sum+(a09 rp:Nat))=sum+(a09 rp:Nat):=w64 (by omega) (by omega);have bc:=a6j sum nm S T a7;generalize fnd nm (T.map Tm.name)=zz at *;have cr:∀d,a0e L.env d (sem L.env Mf) (.func (.func 85) [] []) [.ptr 0 0 0,.str nm] [some (.row 4 [[.slice 1 0 S.length none,.slice 2 0 T.length none,.nilslice,.int .i64 sum]]),some (.row 2 (S.map Sg.enc)),some (.row 6 (T.map Tm.enc)),some (.row 1 R)]=some (.int .i64 zz,[some (.row 4 [[.slice 1 0 S.length none,.slice 2 0 T.length none,.nilslice,.int .i64 sum]]),some (.row 2 (S.map Sg.enc)),some (.row 6 (T.map Tm.enc)),some (.row 1 R)],[0,1,2]):=by intro d;have hc:=a0b (sem L.env Mf 85) [.ptr 0 0 0,.str nm] [some (.row 4 [[.slice 1 0 S.length none,.slice 2 0 T.length none,.nilslice,.int .i64 sum]]),some (.row 2 (S.map Sg.enc)),some (.row 6 (T.map Tm.enc)),some (.row 1 R)] (σ:=[0,1,2]) (by simp+decide only[go_sem,aO,aP,az,aA]<;>rfl) rfl rfl (an:=[.ptr 0 0 0,.str nm]) rfl (H0:=[some (.row 4 [[.slice 1 0 S.length none,.slice 2 0 T.length none,.nilslice,.int .i64 sum]]),some (.row 2 (S.map Sg.enc)),some (.row 6 (T.map Tm.enc))]) (by simp+decide only[go_sem,a0q,aO,aP,az,aA]) bc;refine a14 (by kernel_rfl) (by kernel_rfl) rfl (hc.trans ?_) rfl;simp+decide only[go_sem,a0n,aO,aP,az,aA]<;>rfl
 by_cases aX:cl=[45]
 ·subst aX;rw[e3g rfl]at ba⊢;have ce:=a64 ⟨zz,[],(a09 rp:Nat)⟩ S T a7 ba dQ;have bd:∀d,a0e L.env d (sem L.env Mf) (.func (.func 50) [] []) [.agg [.int .i64 zz,.str [],.int .i64 (a09 rp:Nat)],.agg [.slice 1 0 S.length none,.slice 2 0 T.length none,.nilslice]] [some (.row 4 [[.slice 1 0 S.length none,.slice 2 0 T.length none,.nilslice,.int .i64 sum]]),some (.row 2 (S.map Sg.enc)),some (.row 6 (T.map Tm.enc)),some (.row 1 R),some (.row 3 [[.int .i64 zz,.str [],.int .i64 (a09 rp:Nat)]])]=some (.bool true,[some (.row 4 [[.slice 1 0 S.length none,.slice 2 0 T.length none,.nilslice,.int .i64 sum]]),some (.row 2 (S.map Sg.enc)),some (.row 6 (T.map Tm.enc)),some (.row 1 R),some (.row 3 [[.int .i64 zz,.str [],.int .i64 (a09 rp:Nat)]])],[1,2]):=by
   intro d;have hc:=a0b (sem L.env Mf 50) [.agg [.int .i64 zz,.str [],.int .i64 (a09 rp:Nat)],.agg [.slice 1 0 S.length none,.slice 2 0 T.length none,.nilslice]] [some (.row 4 [[.slice 1 0 S.length none,.slice 2 0 T.length none,.nilslice,.int .i64 sum]]),some (.row 2 (S.map Sg.enc)),some (.row 6 (T.map Tm.enc)),some (.row 1 R),some (.row 3 [[.int .i64 zz,.str [],.int .i64 (a09 rp:Nat)]])] (σ:=[1,2]) (by simp+decide only[go_sem,aO,aP,az,aA]<;>rfl) rfl rfl (an:=[.agg [.int .i64 zz,.str [],.int .i64 (a09 rp:Nat)],.agg [.slice 0 0 S.length none,.slice 1 0 T.length none,.nilslice]]) rfl (H0:=[some (.row 2 (S.map Sg.enc)),some (.row 6 (T.map Tm.enc))]) (by simp+decide only[go_sem,a0q,aO,aP,az,aA]) ce;refine a14 (by kernel_rfl) (by kernel_rfl) rfl (hc.trans ?_) rfl;simp+decide only[go_sem,a0n,aO,aP,az,aA,r1]<;>rfl
  (refine svE Tryz.f67 ?_;simp only[Tryz.f67,gS])
  (repeat first|simp only[ww]|(apply xa;simp+decide only[go_sem,aF,aI,aC,cM,q3,gH,ap,q1,q2,cr,bd,eC,bR,bg];rfl;kernel_rfl))
  (apply a4x;(·simp+decide only[go_sem]<;>rfl))
  exact⟨_,_,rfl,rfl,rfl,rfl,rfl⟩
 ·skip
  rw[e2i aX]at ba⊢;have ce:=a64 ⟨zz,cl,(a09 rp:Nat)⟩ S T a7 ba dQ;have bd:∀d,a0e L.env d (sem L.env Mf) (.func (.func 50) [] []) [.agg [.int .i64 zz,.str cl,.int .i64 (a09 rp:Nat)],.agg [.slice 1 0 S.length none,.slice 2 0 T.length none,.nilslice]] [some (.row 4 [[.slice 1 0 S.length none,.slice 2 0 T.length none,.nilslice,.int .i64 sum]]),some (.row 2 (S.map Sg.enc)),some (.row 6 (T.map Tm.enc)),some (.row 1 R),some (.row 3 [[.int .i64 zz,.str cl,.int .i64 (a09 rp:Nat)]])]=some (.bool true,[some (.row 4 [[.slice 1 0 S.length none,.slice 2 0 T.length none,.nilslice,.int .i64 sum]]),some (.row 2 (S.map Sg.enc)),some (.row 6 (T.map Tm.enc)),some (.row 1 R),some (.row 3 [[.int .i64 zz,.str cl,.int .i64 (a09 rp:Nat)]])],[1,2]):=by intro d;have hc:=a0b (sem L.env Mf 50) [.agg [.int .i64 zz,.str cl,.int .i64 (a09 rp:Nat)],.agg [.slice 1 0 S.length none,.slice 2 0 T.length none,.nilslice]] [some (.row 4 [[.slice 1 0 S.length none,.slice 2 0 T.length none,.nilslice,.int .i64 sum]]),some (.row 2 (S.map Sg.enc)),some (.row 6 (T.map Tm.enc)),some (.row 1 R),some (.row 3 [[.int .i64 zz,.str cl,.int .i64 (a09 rp:Nat)]])] (σ:=[1,2]) (by simp+decide only[go_sem,aO,aP,az,aA]<;>rfl) rfl rfl (an:=[.agg [.int .i64 zz,.str cl,.int .i64 (a09 rp:Nat)],.agg [.slice 0 0 S.length none,.slice 1 0 T.length none,.nilslice]]) rfl (H0:=[some (.row 2 (S.map Sg.enc)),some (.row 6 (T.map Tm.enc))]) (by simp+decide only[go_sem,a0q,aO,aP,az,aA]) ce;refine a14 (by kernel_rfl) (by kernel_rfl) rfl (hc.trans ?_) rfl;simp+decide only[go_sem,a0n,aO,aP,az,aA,r1]<;>rfl
  (refine svE Tryz.f67 ?_;simp only[Tryz.f67,gS])
  (repeat first|simp only[ww]|(apply xa;simp+decide only[go_sem,aF,aI,aC,cM,q3,gH,ap,q1,q2,cr,bd,eC,bR,bg,aX];rfl;kernel_rfl))
  (apply a4x;(·simp+decide only[go_sem]<;>rfl))
  exact⟨_,_,rfl,rfl,rfl,rfl,rfl⟩
theorem c3t(sum:Int)(n:Nat)(R:List (List AV))(nm cl:List UInt8)(S:List Sg)(T:List Tm)(a7:T.length≤100000)(V:List Vc)(dQ:S.length≤100000)(kU:V.length<65536)(ap:R.length=n)(bH:3≤n)(aw:FlatR R)(aI:R[1]?=some [.str nm])(aC:R[2]?=some [.str cl])(bL:0≤sum)(bR:sum+(1:Nat)≤1000000)(ba:a22 ⟨fnd nm (T.map Tm.name),if cl=[45]then[]else cl,(1:Nat)⟩ S T.length=true) :
 ∃r:AV×a08,(∃c H1,r=(.tuple [],H1)∧a03 H1 0=some (.row 4 [[.slice 1 0 S.length none,.slice 2 0 T.length none,.slice c 0 (V.length+1) none,.int .i64 (sum+(1:Nat))]])∧a03 H1 c=some (.row 3 ((V++[⟨fnd nm (T.map Tm.name),if cl=[45]then[]else cl,(1:Nat)⟩]:List Vc).map Vc.enc))∧a03 H1 1=some (.row 2 (S.map Sg.enc))∧a03 H1 2=some (.row 6 (T.map Tm.enc)))∧sem L.env Mf 67 [.ptr 0 0 0,.slice 4 0 3 (some n)] [some (.row 4 [[.slice 1 0 S.length none,.slice 2 0 T.length none,.slice 3 0 V.length none,.int .i64 sum]]),some (.row 2 (S.map Sg.enc)),some (.row 6 (T.map Tm.enc)),some (.row 3 (V.map Vc.enc)),some (.row 1 R)]=some r:=by
 have aF:=λd H e=>a0i (d:=d) H e;have r1:=λπ=>a02 π aw;have r2:=a01 aw;have aO:=λπ=>a02 π (a0s S);have aP:=a01 (a0s S);have az:=λπ=>a02 π (a0a T);have aA:=a01 (a0a T);have dZ:(T.map Tm.enc).length=T.length:=b41 ..;have aZ:=λπ=>a02 π (a13 V);have a6:=a01 (a13 V);have q1:1<n:=by omega
 have q2:2<n:=by omega
 have bg:Nat.beq 43 82=false:=by decide
 have gp:IntKind.i64.wrap (sum+1)=sum+1:=w64 (by omega) (by omega);have d9:sum+1≤1000000:=by omega
 have jE:(V.map Vc.enc).length=V.length:=b41 ..;have c7:(V.length:Int)<65536:=by omega
 have cU:V.length+1≤1000000000:=by omega
 have eC:IntKind.i64.wrap (sum+(1:Nat))=sum+(1:Nat):=w64 (by omega) (by omega);have bc:=a8n sum nm S T a7 V;generalize fnd nm (T.map Tm.name)=zz at *;have cr:∀d,a0e L.env d (sem L.env Mf) (.func (.func 85) [] []) [.ptr 0 0 0,.str nm] [some (.row 4 [[.slice 1 0 S.length none,.slice 2 0 T.length none,.slice 3 0 V.length none,.int .i64 sum]]),some (.row 2 (S.map Sg.enc)),some (.row 6 (T.map Tm.enc)),some (.row 3 (V.map Vc.enc)),some (.row 1 R)]=some (.int .i64 zz,[some (.row 4 [[.slice 1 0 S.length none,.slice 2 0 T.length none,.slice 3 0 V.length none,.int .i64 sum]]),some (.row 2 (S.map Sg.enc)),some (.row 6 (T.map Tm.enc)),some (.row 3 (V.map Vc.enc)),some (.row 1 R)],[0,1,2,3]):=by intro d;have hc:=a0b (sem L.env Mf 85) [.ptr 0 0 0,.str nm] [some (.row 4 [[.slice 1 0 S.length none,.slice 2 0 T.length none,.slice 3 0 V.length none,.int .i64 sum]]),some (.row 2 (S.map Sg.enc)),some (.row 6 (T.map Tm.enc)),some (.row 3 (V.map Vc.enc)),some (.row 1 R)] (σ:=[0,1,2,3]) (by simp+decide only[go_sem,aO,aP,az,aA,aZ,a6]<;>rfl) rfl rfl (an:=[.ptr 0 0 0,.str nm]) rfl (H0:=[some (.row 4 [[.slice 1 0 S.length none,.slice 2 0 T.length none,.slice 3 0 V.length none,.int .i64 sum]]),some (.row 2 (S.map Sg.enc)),some (.row 6 (T.map Tm.enc)),some (.row 3 (V.map Vc.enc))]) (by simp+decide only[go_sem,a0q,aO,aP,az,aA,aZ,a6]) bc;refine a14 (by kernel_rfl) (by kernel_rfl) rfl (hc.trans ?_) rfl;simp+decide only[go_sem,a0n,aO,aP,az,aA,aZ,a6]<;>rfl
 by_cases aX:cl=[45]
 ·subst aX;rw[e3g rfl]at ba⊢;have ce:=a63 ⟨zz,[],(1:Nat)⟩ S T a7 V ba dQ;have bd:∀d,a0e L.env d (sem L.env Mf) (.func (.func 50) [] []) [.agg [.int .i64 zz,.str [],.int .i64 1],.agg [.slice 1 0 S.length none,.slice 2 0 T.length none,.slice 3 0 V.length none]] [some (.row 4 [[.slice 1 0 S.length none,.slice 2 0 T.length none,.slice 3 0 V.length none,.int .i64 sum]]),some (.row 2 (S.map Sg.enc)),some (.row 6 (T.map Tm.enc)),some (.row 3 (V.map Vc.enc)),some (.row 1 R),some (.row 3 [[.int .i64 zz,.str [],.int .i64 1]])]=some (.bool true,[some (.row 4 [[.slice 1 0 S.length none,.slice 2 0 T.length none,.slice 3 0 V.length none,.int .i64 sum]]),some (.row 2 (S.map Sg.enc)),some (.row 6 (T.map Tm.enc)),some (.row 3 (V.map Vc.enc)),some (.row 1 R),some (.row 3 [[.int .i64 zz,.str [],.int .i64 1]])],[1,2,3]):=by
   intro d;have hc:=a0b (sem L.env Mf 50) [.agg [.int .i64 zz,.str [],.int .i64 1],.agg [.slice 1 0 S.length none,.slice 2 0 T.length none,.slice 3 0 V.length none]] [some (.row 4 [[.slice 1 0 S.length none,.slice 2 0 T.length none,.slice 3 0 V.length none,.int .i64 sum]]),some (.row 2 (S.map Sg.enc)),some (.row 6 (T.map Tm.enc)),some (.row 3 (V.map Vc.enc)),some (.row 1 R),some (.row 3 [[.int .i64 zz,.str [],.int .i64 1]])] (σ:=[1,2,3]) (by simp+decide only[go_sem,aO,aP,az,aA,aZ,a6]<;>rfl) rfl rfl (an:=[.agg [.int .i64 zz,.str [],.int .i64 1],.agg [.slice 0 0 S.length none,.slice 1 0 T.length none,.slice 2 0 V.length none]]) rfl (H0:=[some (.row 2 (S.map Sg.enc)),some (.row 6 (T.map Tm.enc)),some (.row 3 (V.map Vc.enc))]) (by simp+decide only[go_sem,a0q,aO,aP,az,aA,aZ,a6]) ce;refine a14 (by kernel_rfl) (by kernel_rfl) rfl (hc.trans ?_) rfl;simp+decide only[go_sem,a0n,aO,aP,az,aA,aZ,a6,r1]<;>rfl
  (refine svE Tryz.f67 ?_;simp only[Tryz.f67,gS])
  (repeat first|simp only[ww]|(apply xa;simp+decide only[go_sem,aF,aI,aC,ap,q1,q2,cr,bd,gp,d9,bg,jE,c7,cU];rfl;kernel_rfl))
  (apply a4x;(·simp+decide only[go_sem]<;>rfl))
  exact⟨_,_,rfl,rfl,by simp[e3j];rfl,rfl,rfl⟩
 ·skip
  rw[e2i aX]at ba⊢;have ce:=a63 ⟨zz,cl,(1:Nat)⟩ S T a7 V ba dQ;have bd:∀d,a0e L.env d (sem L.env Mf) (.func (.func 50) [] []) [.agg [.int .i64 zz,.str cl,.int .i64 1],.agg [.slice 1 0 S.length none,.slice 2 0 T.length none,.slice 3 0 V.length none]] [some (.row 4 [[.slice 1 0 S.length none,.slice 2 0 T.length none,.slice 3 0 V.length none,.int .i64 sum]]),some (.row 2 (S.map Sg.enc)),some (.row 6 (T.map Tm.enc)),some (.row 3 (V.map Vc.enc)),some (.row 1 R),some (.row 3 [[.int .i64 zz,.str cl,.int .i64 1]])]=some (.bool true,[some (.row 4 [[.slice 1 0 S.length none,.slice 2 0 T.length none,.slice 3 0 V.length none,.int .i64 sum]]),some (.row 2 (S.map Sg.enc)),some (.row 6 (T.map Tm.enc)),some (.row 3 (V.map Vc.enc)),some (.row 1 R),some (.row 3 [[.int .i64 zz,.str cl,.int .i64 1]])],[1,2,3]):=by intro d;have hc:=a0b (sem L.env Mf 50) [.agg [.int .i64 zz,.str cl,.int .i64 1],.agg [.slice 1 0 S.length none,.slice 2 0 T.length none,.slice 3 0 V.length none]] [some (.row 4 [[.slice 1 0 S.length none,.slice 2 0 T.length none,.slice 3 0 V.length none,.int .i64 sum]]),some (.row 2 (S.map Sg.enc)),some (.row 6 (T.map Tm.enc)),some (.row 3 (V.map Vc.enc)),some (.row 1 R),some (.row 3 [[.int .i64 zz,.str cl,.int .i64 1]])] (σ:=[1,2,3]) (by simp+decide only[go_sem,aO,aP,az,aA,aZ,a6]<;>rfl) rfl rfl (an:=[.agg [.int .i64 zz,.str cl,.int .i64 1],.agg [.slice 0 0 S.length none,.slice 1 0 T.length none,.slice 2 0 V.length none]]) rfl (H0:=[some (.row 2 (S.map Sg.enc)),some (.row 6 (T.map Tm.enc)),some (.row 3 (V.map Vc.enc))]) (by simp+decide only[go_sem,a0q,aO,aP,az,aA,aZ,a6]) ce;refine a14 (by kernel_rfl) (by kernel_rfl) rfl (hc.trans ?_) rfl;simp+decide only[go_sem,a0n,aO,aP,az,aA,aZ,a6,r1]<;>rfl
  (refine svE Tryz.f67 ?_;simp only[Tryz.f67,gS])
  (repeat first|simp only[ww]|(apply xa;simp+decide only[go_sem,aF,aI,aC,ap,q1,q2,cr,bd,gp,d9,bg,jE,c7,cU,aX];rfl;kernel_rfl))
  (apply a4x;(·simp+decide only[go_sem]<;>rfl))
  exact⟨_,_,rfl,rfl,by simp[e3j];rfl,rfl,rfl⟩
theorem c3s(sum:Int)(n:Nat)(R:List (List AV))(nm cl:List UInt8)(rp:List UInt8)(bB:NumOk rp)(cM:R[3]?=some [.str rp])(S:List Sg)(T:List Tm)(a7:T.length≤100000)(V:List Vc)(dQ:S.length≤100000)(kU:V.length<65536)(ap:R.length=n)(bH:4≤n)(aw:FlatR R)(aI:R[1]?=some [.str nm])(aC:R[2]?=some [.str cl])(bL:0≤sum)(bR:sum+(a09 rp:Nat)≤1000000)(ba:a22 ⟨fnd nm (T.map Tm.name),if cl=[45]then[]else cl,(a09 rp:Nat)⟩ S T.length=true) :
 ∃r:AV×a08,(∃c H1,r=(.tuple [],H1)∧a03 H1 0=some (.row 4 [[.slice 1 0 S.length none,.slice 2 0 T.length none,.slice c 0 (V.length+1) none,.int .i64 (sum+(a09 rp:Nat))]])∧a03 H1 c=some (.row 3 ((V++[⟨fnd nm (T.map Tm.name),if cl=[45]then[]else cl,(a09 rp:Nat)⟩]:List Vc).map Vc.enc))∧a03 H1 1=some (.row 2 (S.map Sg.enc))∧a03 H1 2=some (.row 6 (T.map Tm.enc)))∧sem L.env Mf 67 [.ptr 0 0 0,.slice 4 0 4 (some n)] [some (.row 4 [[.slice 1 0 S.length none,.slice 2 0 T.length none,.slice 3 0 V.length none,.int .i64 sum]]),some (.row 2 (S.map Sg.enc)),some (.row 6 (T.map Tm.enc)),some (.row 3 (V.map Vc.enc)),some (.row 1 R)]=some r:=by
 have aF:=λd H e=>a0i (d:=d) H e;have r1:=λπ=>a02 π aw;have r2:=a01 aw;have aO:=λπ=>a02 π (a0s S);have aP:=a01 (a0s S);have az:=λπ=>a02 π (a0a T);have aA:=a01 (a0a T);have dZ:(T.map Tm.enc).length=T.length:=b41 ..;have aZ:=λπ=>a02 π (a13 V);have a6:=a01 (a13 V);have q1:1<n:=by omega
 have q2:2<n:=by omega
 have bg:Nat.beq 43 82=false:=by decide
 have q3:3<n:=by omega
 have gH:=λd H=>a2m (d:=d) H rp bB;have jE:(V.map Vc.enc).length=V.length:=b41 ..;have c7:(V.length:Int)<65536:=by omega
 have cU:V.length+1≤1000000000:=by omega
 have eC:IntKind.i64.wrap (sum+(a09 rp:Nat))=sum+(a09 rp:Nat):=w64 (by omega) (by omega);have bc:=a8n sum nm S T a7 V;generalize fnd nm (T.map Tm.name)=zz at *;have cr:∀d,a0e L.env d (sem L.env Mf) (.func (.func 85) [] []) [.ptr 0 0 0,.str nm] [some (.row 4 [[.slice 1 0 S.length none,.slice 2 0 T.length none,.slice 3 0 V.length none,.int .i64 sum]]),some (.row 2 (S.map Sg.enc)),some (.row 6 (T.map Tm.enc)),some (.row 3 (V.map Vc.enc)),some (.row 1 R)]=some (.int .i64 zz,[some (.row 4 [[.slice 1 0 S.length none,.slice 2 0 T.length none,.slice 3 0 V.length none,.int .i64 sum]]),some (.row 2 (S.map Sg.enc)),some (.row 6 (T.map Tm.enc)),some (.row 3 (V.map Vc.enc)),some (.row 1 R)],[0,1,2,3]):=by intro d;have hc:=a0b (sem L.env Mf 85) [.ptr 0 0 0,.str nm] [some (.row 4 [[.slice 1 0 S.length none,.slice 2 0 T.length none,.slice 3 0 V.length none,.int .i64 sum]]),some (.row 2 (S.map Sg.enc)),some (.row 6 (T.map Tm.enc)),some (.row 3 (V.map Vc.enc)),some (.row 1 R)] (σ:=[0,1,2,3]) (by simp+decide only[go_sem,aO,aP,az,aA,aZ,a6]<;>rfl) rfl rfl (an:=[.ptr 0 0 0,.str nm]) rfl (H0:=[some (.row 4 [[.slice 1 0 S.length none,.slice 2 0 T.length none,.slice 3 0 V.length none,.int .i64 sum]]),some (.row 2 (S.map Sg.enc)),some (.row 6 (T.map Tm.enc)),some (.row 3 (V.map Vc.enc))]) (by simp+decide only[go_sem,a0q,aO,aP,az,aA,aZ,a6]) bc;refine a14 (by kernel_rfl) (by kernel_rfl) rfl (hc.trans ?_) rfl;simp+decide only[go_sem,a0n,aO,aP,az,aA,aZ,a6]<;>rfl
 by_cases aX:cl=[45]
 ·subst aX;rw[e3g rfl]at ba⊢;have ce:=a63 ⟨zz,[],(a09 rp:Nat)⟩ S T a7 V ba dQ;have bd:∀d,a0e L.env d (sem L.env Mf) (.func (.func 50) [] []) [.agg [.int .i64 zz,.str [],.int .i64 (a09 rp:Nat)],.agg [.slice 1 0 S.length none,.slice 2 0 T.length none,.slice 3 0 V.length none]] [some (.row 4 [[.slice 1 0 S.length none,.slice 2 0 T.length none,.slice 3 0 V.length none,.int .i64 sum]]),some (.row 2 (S.map Sg.enc)),some (.row 6 (T.map Tm.enc)),some (.row 3 (V.map Vc.enc)),some (.row 1 R),some (.row 3 [[.int .i64 zz,.str [],.int .i64 (a09 rp:Nat)]])]=some (.bool true,[some (.row 4 [[.slice 1 0 S.length none,.slice 2 0 T.length none,.slice 3 0 V.length none,.int .i64 sum]]),some (.row 2 (S.map Sg.enc)),some (.row 6 (T.map Tm.enc)),some (.row 3 (V.map Vc.enc)),some (.row 1 R),some (.row 3 [[.int .i64 zz,.str [],.int .i64 (a09 rp:Nat)]])],[1,2,3]):=by
   intro d;have hc:=a0b (sem L.env Mf 50) [.agg [.int .i64 zz,.str [],.int .i64 (a09 rp:Nat)],.agg [.slice 1 0 S.length none,.slice 2 0 T.length none,.slice 3 0 V.length none]] [some (.row 4 [[.slice 1 0 S.length none,.slice 2 0 T.length none,.slice 3 0 V.length none,.int .i64 sum]]),some (.row 2 (S.map Sg.enc)),some (.row 6 (T.map Tm.enc)),some (.row 3 (V.map Vc.enc)),some (.row 1 R),some (.row 3 [[.int .i64 zz,.str [],.int .i64 (a09 rp:Nat)]])] (σ:=[1,2,3]) (by simp+decide only[go_sem,aO,aP,az,aA,aZ,a6]<;>rfl) rfl rfl (an:=[.agg [.int .i64 zz,.str [],.int .i64 (a09 rp:Nat)],.agg [.slice 0 0 S.length none,.slice 1 0 T.length none,.slice 2 0 V.length none]]) rfl (H0:=[some (.row 2 (S.map Sg.enc)),some (.row 6 (T.map Tm.enc)),some (.row 3 (V.map Vc.enc))]) (by simp+decide only[go_sem,a0q,aO,aP,az,aA,aZ,a6]) ce;refine a14 (by kernel_rfl) (by kernel_rfl) rfl (hc.trans ?_) rfl;simp+decide only[go_sem,a0n,aO,aP,az,aA,aZ,a6,r1]<;>rfl
  (refine svE Tryz.f67 ?_;simp only[Tryz.f67,gS])
  (repeat first|simp only[ww]|(apply xa;simp+decide only[go_sem,aF,aI,aC,cM,q3,gH,ap,q1,q2,cr,bd,eC,bR,bg,jE,c7,cU];rfl;kernel_rfl))
  (apply a4x;(·simp+decide only[go_sem]<;>rfl))
  exact⟨_,_,rfl,rfl,by simp[e3j];rfl,rfl,rfl⟩
 ·skip
  rw[e2i aX]at ba⊢;have ce:=a63 ⟨zz,cl,(a09 rp:Nat)⟩ S T a7 V ba dQ;have bd:∀d,a0e L.env d (sem L.env Mf) (.func (.func 50) [] []) [.agg [.int .i64 zz,.str cl,.int .i64 (a09 rp:Nat)],.agg [.slice 1 0 S.length none,.slice 2 0 T.length none,.slice 3 0 V.length none]] [some (.row 4 [[.slice 1 0 S.length none,.slice 2 0 T.length none,.slice 3 0 V.length none,.int .i64 sum]]),some (.row 2 (S.map Sg.enc)),some (.row 6 (T.map Tm.enc)),some (.row 3 (V.map Vc.enc)),some (.row 1 R),some (.row 3 [[.int .i64 zz,.str cl,.int .i64 (a09 rp:Nat)]])]=some (.bool true,[some (.row 4 [[.slice 1 0 S.length none,.slice 2 0 T.length none,.slice 3 0 V.length none,.int .i64 sum]]),some (.row 2 (S.map Sg.enc)),some (.row 6 (T.map Tm.enc)),some (.row 3 (V.map Vc.enc)),some (.row 1 R),some (.row 3 [[.int .i64 zz,.str cl,.int .i64 (a09 rp:Nat)]])],[1,2,3]):=by intro d;have hc:=a0b (sem L.env Mf 50) [.agg [.int .i64 zz,.str cl,.int .i64 (a09 rp:Nat)],.agg [.slice 1 0 S.length none,.slice 2 0 T.length none,.slice 3 0 V.length none]] [some (.row 4 [[.slice 1 0 S.length none,.slice 2 0 T.length none,.slice 3 0 V.length none,.int .i64 sum]]),some (.row 2 (S.map Sg.enc)),some (.row 6 (T.map Tm.enc)),some (.row 3 (V.map Vc.enc)),some (.row 1 R),some (.row 3 [[.int .i64 zz,.str cl,.int .i64 (a09 rp:Nat)]])] (σ:=[1,2,3]) (by simp+decide only[go_sem,aO,aP,az,aA,aZ,a6]<;>rfl) rfl rfl (an:=[.agg [.int .i64 zz,.str cl,.int .i64 (a09 rp:Nat)],.agg [.slice 0 0 S.length none,.slice 1 0 T.length none,.slice 2 0 V.length none]]) rfl (H0:=[some (.row 2 (S.map Sg.enc)),some (.row 6 (T.map Tm.enc)),some (.row 3 (V.map Vc.enc))]) (by simp+decide only[go_sem,a0q,aO,aP,az,aA,aZ,a6]) ce;refine a14 (by kernel_rfl) (by kernel_rfl) rfl (hc.trans ?_) rfl;simp+decide only[go_sem,a0n,aO,aP,az,aA,aZ,a6,r1]<;>rfl
  (refine svE Tryz.f67 ?_;simp only[Tryz.f67,gS])
  (repeat first|simp only[ww]|(apply xa;simp+decide only[go_sem,aF,aI,aC,cM,q3,gH,ap,q1,q2,cr,bd,eC,bR,bg,jE,c7,cU,aX];rfl;kernel_rfl))
  (apply a4x;(·simp+decide only[go_sem]<;>rfl))
  exact⟨_,_,rfl,rfl,by simp[e3j];rfl,rfl,rfl⟩
end Go.RInst
