/- Part of a proof. No condition. -/
import Derived.Test.YtmbmjfjagololaaGreatDoorRRm
import Derived.Test.YtmbmjfjagololaaGreatDoorRRd
import Derived.Test.YtmbmjfjagololaaGreatDoorRPh
set_option linter.unusedSectionVars false
set_option linter.unusedSimpArgs false
set_option linter.unusedVariables false
namespace Go.RInst
set_option maxHeartbeats 200000000
open Go.Proofs Go.Ax Go.Pc
variable [PR]
set_option maxRecDepth 100000
theorem a9p:sem L.env Mf 42 [.nilslice] []=some (.nilslice,[]):=by
 (refine sv Tryz.f42 ?_;simp only[Tryz.f42,gS])
 (repeat first|simp only[ww]|(apply xa;simp+decide only[go_sem];rfl;kernel_rfl))
 (apply fqb;simp+decide only[go_sem]<;>rfl)
theorem b6r(n:Nat)(R:List (List AV))(hn:R.length=n)(dz:FlatR R):sem L.env Mf 42 [.slice 0 0 n none] [some (.row 2 R)]=some (.slice 0 0 n (some n),[some (.row 2 R)]):=by
 have h1:=λπ=>a02 π dz;have h2:=a01 dz;have h3:=λq d=>a2n q d dz
 (refine sv Tryz.f42 ?_;simp only[Tryz.f42,gS])
 (repeat first|simp only[ww]|(apply xa;simp+decide only[go_sem,hn,e2c];rfl;kernel_rfl))
 (apply fqb;simp+decide only[go_sem,h1,h2,h3]<;>rfl)
theorem a9l:sem L.env Mf 43 [.nilslice] []=some (.nilslice,[]):=by
 (refine sv Tryz.f43 ?_;simp only[Tryz.f43,gS])
 (repeat first|simp only[ww]|(apply xa;simp+decide only[go_sem];rfl;kernel_rfl))
 (apply fqb;simp+decide only[go_sem]<;>rfl)
theorem b6m(n:Nat)(R:List (List AV))(hn:R.length=n)(dz:FlatR R):sem L.env Mf 43 [.slice 0 0 n none] [some (.row 6 R)]=some (.slice 0 0 n (some n),[some (.row 6 R)]):=by
 have h1:=λπ=>a02 π dz;have h2:=a01 dz;have h3:=λq d=>a2n q d dz
 (refine sv Tryz.f43 ?_;simp only[Tryz.f43,gS])
 (repeat first|simp only[ww]|(apply xa;simp+decide only[go_sem,hn,e2c];rfl;kernel_rfl))
 (apply fqb;simp+decide only[go_sem,h1,h2,h3]<;>rfl)
theorem a9j:sem L.env Mf 44 [.nilslice] []=some (.nilslice,[]):=by
 (refine sv Tryz.f44 ?_;simp only[Tryz.f44,gS])
 (repeat first|simp only[ww]|(apply xa;simp+decide only[go_sem];rfl;kernel_rfl))
 (apply fqb;simp+decide only[go_sem]<;>rfl)
theorem b6d(n:Nat)(R:List (List AV))(hn:R.length=n)(dz:FlatR R):sem L.env Mf 44 [.slice 0 0 n none] [some (.row 3 R)]=some (.slice 0 0 n (some n),[some (.row 3 R)]):=by
 have h1:=λπ=>a02 π dz;have h2:=a01 dz;have h3:=λq d=>a2n q d dz
 (refine sv Tryz.f44 ?_;simp only[Tryz.f44,gS])
 (repeat first|simp only[ww]|(apply xa;simp+decide only[go_sem,hn,e2c];rfl;kernel_rfl))
 (apply fqb;simp+decide only[go_sem,h1,h2,h3]<;>rfl)
theorem a9c(r:Rd):(∃o0,a1s r=[some o0])∨(∃o0 o1,a1s r=[some o0,some o1])∨(∃o0 o1 o2,a1s r=[some o0,some o1,some o2])∨(∃o0 o1 o2 o3,a1s r=[some o0,some o1,some o2,some o3]):=by
 unfold a1s;cases r.S.map Sg.enc<;>cases r.T.map Tm.enc<;>cases r.V.map Vc.enc<;>simp only[a0u,a1q,b43,b82,e2h]
 ·exact .inl ⟨_,rfl⟩
 ·exact .inr (.inl ⟨_,_,rfl⟩)
 ·exact .inr (.inl ⟨_,_,rfl⟩)
 ·exact .inr (.inr (.inl ⟨_,_,_,rfl⟩))
 ·exact .inr (.inl ⟨_,_,rfl⟩)
 ·exact .inr (.inr (.inl ⟨_,_,_,rfl⟩))
 ·exact .inr (.inr (.inl ⟨_,_,_,rfl⟩))
 ·exact .inr (.inr (.inr ⟨_,_,_,_,rfl⟩))
theorem c5o(lo:Nat)(H:a08)(k:Nat):GsL lo H k .nilslice []:=.inl ⟨rfl,rfl⟩
theorem b79{lo:Nat}{H:a08}{k c n:Nat}{R:List (List AV)}(aK:R≠[])(hn:n=R.length)(h:a03 H c=some (.row k R))(hc:lo≤c):GsL lo H k (.slice c 0 n none) R:=.inr ⟨aK,c,by rw[hn],h,hc⟩
theorem c4p(r:Rd)(a b c:Option AObj)(L:a08):RdL 3 ([a,b,c]++a1s r++L) 3 r:=by
 refine⟨_,_,_,rfl,?_,?_,?_⟩
 ·cases hS:r.S.map Sg.enc with
  |nil=>rw[a0p];exact c5o _ _ _
  |cons x l=>rw[a1t];exact b79 (by simp) rfl (by unfold a1s;rw[hS,a1q];rfl) (by decide)
 ·cases hT:r.T.map Tm.enc with
  |nil=>rw[a0p];exact c5o _ _ _
  |cons x l=>rw[a1t];refine b79 (by simp) rfl ?_ (by omega);unfold a1s;rw[hT,a1q];cases r.S.map Sg.enc<;>rfl
 ·cases hV:r.V.map Vc.enc with
  |nil=>rw[a0p];exact c5o _ _ _
  |cons x l=>rw[a1t];refine b79 (by simp) rfl ?_ (by omega);unfold a1s;rw[hV,a1q];cases r.S.map Sg.enc<;>cases r.T.map Tm.enc<;>rfl
def clA:List (List AV)→AV
 | []=>.nilslice
 |R=>.islice R (some R.length)
theorem a4y:clA [] = .nilslice:=rfl
theorem a7e{R:List (List AV)}(h:R≠[]):clA R = .islice R (some R.length):=by
 cases R with
 |nil=>exact absurd rfl h
 |cons=>rfl
def c2i(r:Rd):AV:=.tuple [.agg [clA (r.S.map Sg.enc),clA (r.T.map Tm.enc),clA (r.V.map Vc.enc)],.agg [.int .i64 0,.int .i64 0]]
theorem c4m(s:List UInt8)(hl:s.length≤1048576)(rf:Rd)(gt:a2a ⟨[],[],[],0⟩ (a00 10 s)=some rf) :
 Wp (cx L.env Mf 3 49 19 0) b5e (rdF s) [clO,some (.row 2 [[.int .i64 0,.int .i64 0]]),clN 0] (λex F H=>ex = .ret∧a2h F 2 = .ptr 0 0 0∧a2h F 3 = .ptr 1 0 0∧∃vs,a1l L.env [(2,.ptr 0 0 0),(3,.ptr 1 0 0)] H [.cell 2 29,.cell 3 56]=some vs∧a5t false 0 (a7t vs) H=some (c2i rf,[])):=by
 have cX:(a00 10 s).length≤2000000:=by rw[a0r];have:=e3k (a:=(10:UInt8)) (l:=s);omega
 have cK:a0e L.env false (sem L.env Mf) (.func (.func 23) [] []) [.str s,.str [10]] [clO,some (.row 2 [[.int .i64 0,.int .i64 0]]),clN 0,some (.row 4 [[.nilslice,.nilslice,.nilslice,.int .i64 0]])]=some (.slice 4 0 (a00 10 s).length (some (a00 10 s).length),[clO,some (.row 2 [[.int .i64 0,.int .i64 0]]),clN 0,some (.row 4 [[.nilslice,.nilslice,.nilslice,.int .i64 0]]),some (.row 1 (sR (a00 10 s)))],[]):=a1f [clO,some (.row 2 [[.int .i64 0,.int .i64 0]]),clN 0,some (.row 4 [[.nilslice,.nilslice,.nilslice,.int .i64 0]])] s 10 hl;have gX:=a0m (a00 10 s);have gN:=a7c (a00 10 s);have kH:=λπ=>a02 π gX;have kG:=a01 gX;have cW:∀i w,(a00 10 s)[i]?=some w→(sR (a00 10 s))[i]?=some [AV.str w]:=λi w h=>a8t h;generalize hlines:a00 10 s=lines at *;generalize sR lines=LR at *;generalize fm:lines.length=nl at *;unfold b5e;simp only[Tryz.f19,gS];unfold rdF
 (repeat first|simp only[ww]|(apply xa;simp+decide only[go_sem,cK];rfl;kernel_rfl))
 refine a15 (σ:=Nat×Rd) kp19_0 (λq=>[(2,.ptr 0 0 0),(3,.ptr 1 0 0),(4,.ptr 2 0 0),(5,.ptr 3 0 0),(17,.slice (3+(a1s q.2).length) 0 nl (some nl)),(18,.int .i64 nl),(19,.int .i64 (q.1:Nat))]) (λq=>[clO,some (.row 2 [[.int .i64 0,.int .i64 0]]),clN (q.1:Nat)]++a1s q.2++[some (.row 1 LR)]) (λq=>nl-q.1) (λq=>q.1≤nl∧RdWf q.2∧a2a q.2 (lines.drop q.1)=some rf) (0,⟨[],[],[],0⟩) ?_ ⟨e3h _,d67,gt⟩ ?_
 ·(simp+decide only[go_sem,a0d,a07,kH,kG]<;>rfl)
 ·rintro⟨i,r⟩ ⟨hi,hw,aH⟩
  simp only at hi hw aH⊢;by_cases aq:i<nl
  ·have l1:(i:Int)<nl:=by omega
   obtain⟨si,nI⟩:∃si,lines[i]?=some si:=⟨_,z9e (by omega)⟩
   have hg:=cW i si nI;have al:lines.drop i=si::lines.drop (i+1):=by obtain⟨hh,he⟩:=e26.1 nI;rw[←he];exact e6o hh
   rw[al]at aH;unfold a2a at aH;split at aH
   case h_2=>cases aH
   rename_i r1 eo;have cZ:IntKind.i64.wrap ((i:Int)+1)=((i+1:Nat):Int):=by rw[w64 (by omega) (by omega)];omega
   obtain⟨H',σ,c1,c2,c3,c4,c5⟩:=c54 3 ([clO,some (.row 2 [[.int .i64 0,.int .i64 0]]),clN ((i+1:Nat):Int)]++a1s r++[some (.row 1 LR)]) 3 r r1 si hw eo (c4p r _ _ _ _) (by decide);have p0:a03 H' 0=clO:=c4 0 (by simp<;>omega) (by decide);have p1:a03 H' 1=some (.row 2 [[.int .i64 0,.int .i64 0]]):=c4 1 (by simp<;>omega) (by decide);have p2:a03 H' 2=clN ((i+1:Nat):Int):=c4 2 (by simp<;>omega) (by decide);have pl:a03 H' (3+(a1s r).length)=some (.row 1 LR):=by
    have hx:a03 ([clO,some (.row 2 [[.int .i64 0,.int .i64 0]]),clN ((i+1:Nat):Int)]++a1s r++[some (.row 1 LR)]) (3+(a1s r).length)=some (.row 1 LR):=by unfold a03;rw[e3l (by simp;omega)];simp[show 3+(a1s r).length-((a1s r).length+1+1+1)=0 by omega]
    exact(c5 _ LR hx).trans hx
   have fy:=λ(F0:Frm) kW=>d73 H' r1 (3+(a1s r).length) nl (i+1) ((i+1:Nat):Int) LR gX p0 p1 p2 c2 pl (by omega) (F0:=F0) kW;have jG:RdWf r1:=by
    unfold a2v at eo;split at eo
    ·exact c9z eo hw
    ·cases eo
   have h9:(i+1,r1).1≤nl∧RdWf (i+1,r1).2∧a2a (i+1,r1).2 (lines.drop (i+1,r1).1)=some rf:=⟨by simp only;omega,jG,aH⟩
   rcases a9c r with ⟨o0,e⟩|⟨o0,o1,e⟩|⟨o0,o1,o2,e⟩|⟨o0,o1,o2,o3,e⟩
   ·rw[e]at c1 fy⊢;simp only[b82,b43,b94,e27]at c1 fy⊢
    (repeat first|simp only[ww]|(apply xa;simp+decide only[go_sem,l1,aq,hg,gN,cZ,c1];rfl;kernel_rfl))
    refine a2p (i+1,r1) ?_ (by simp only;omega) h9;rw[a0d];exact fy _ rfl
   ·rw[e]at c1 fy⊢;simp only[b82,b43,b94,e27]at c1 fy⊢
    (repeat first|simp only[ww]|(apply xa;simp+decide only[go_sem,l1,aq,hg,gN,cZ,c1];rfl;kernel_rfl))
    refine a2p (i+1,r1) ?_ (by simp only;omega) h9;rw[a0d];exact fy _ rfl
   ·rw[e]at c1 fy⊢;simp only[b82,b43,b94,e27]at c1 fy⊢
    (repeat first|simp only[ww]|(apply xa;simp+decide only[go_sem,l1,aq,hg,gN,cZ,c1];rfl;kernel_rfl))
    refine a2p (i+1,r1) ?_ (by simp only;omega) h9;rw[a0d];exact fy _ rfl
   ·rw[e]at c1 fy⊢;simp only[b82,b43,b94,e27]at c1 fy⊢
    (repeat first|simp only[ww]|(apply xa;simp+decide only[go_sem,l1,aq,hg,gN,cZ,c1];rfl;kernel_rfl))
    refine a2p (i+1,r1) ?_ (by simp only;omega) h9;rw[a0d];exact fy _ rfl
  ·obtain rfl:i=nl:=by omega
   have l1:¬(i:Int)<i:=by omega
   have pU:r=rf:=by rw[List.drop_of_length_le (by omega)]at aH;unfold a2a at aH;exact z9o aH
   subst pU;have S1:=λπ=>a02 π (a0s r.S);have T1:=λπ=>a02 π (a0a r.T);have V1:=λπ=>a02 π (a13 r.V);have S3:=λq d=>a2n q d (a0s r.S);have T3:=λq d=>a2n q d (a0a r.T);have V3:=λq d=>a2n q d (a13 r.V);have fS:=a0s r.S;have fT:=a0a r.T;have fV:=a13 r.V;have jK:c2i r = .tuple [.agg [clA (r.S.map Sg.enc),clA (r.T.map Tm.enc),clA (r.V.map Vc.enc)],.agg [.int .i64 0,.int .i64 0]]:=rfl;rw[jK];have uR:Nat.beq 94 82=false:=by decide
   by_cases cn:r.S.map Sg.enc=[]<;>by_cases bZ:r.T.map Tm.enc=[]<;>by_cases b8:r.V.map Vc.enc=[]
   ·have aj:a1s r=[some (.row 4 [[.nilslice,.nilslice,.nilslice,.int .i64 r.sum]])]:=by
     unfold a1s;rw[cn,a0p,a0u,bZ,a0p,a0u,b8,a0p,a0u];rfl
    rw[aj];simp only[b82,b43,b94,e27];have kS:∀d H,a0e L.env d (sem L.env Mf) (.func (.func 42) [] []) [.nilslice] H=some (.nilslice,H,[]):=λd H=>a0l (by kernel_rfl) (by kernel_rfl) rfl rfl a9p rfl;have kT:∀d H,a0e L.env d (sem L.env Mf) (.func (.func 43) [] []) [.nilslice] H=some (.nilslice,H,[]):=λd H=>a0l (by kernel_rfl) (by kernel_rfl) rfl rfl a9l rfl;have kV:∀d H,a0e L.env d (sem L.env Mf) (.func (.func 44) [] []) [.nilslice] H=some (.nilslice,H,[]):=λd H=>a0l (by kernel_rfl) (by kernel_rfl) rfl rfl a9j rfl;rw[cn,a4y,bZ,a4y,b8,a4y]
    (repeat first|simp only[ww]|(apply xa;simp+decide only[go_sem,l1,kS,kT,kV];rfl;kernel_rfl))
    refine⟨trivial,rfl,rfl,_,by(simp+decide only[go_sem]<;>rfl),?_⟩;simp+decide only[go_sem,S1,T1,V1,S3,T3,V3]<;>rfl
   ·have aj:a1s r=[some (.row 4 [[.nilslice,.nilslice,.slice 4 0 (r.V.map Vc.enc).length none,.int .i64 r.sum]]),some (.row 3 (r.V.map Vc.enc))]:=by
     unfold a1s;rw[cn,a0p,a0u,bZ,a0p,a0u,a0h _ b8,a0y _ b8];rfl
    rw[aj];simp only[b82,b43,b94,e27];have kS:∀d H,a0e L.env d (sem L.env Mf) (.func (.func 42) [] []) [.nilslice] H=some (.nilslice,H,[]):=λd H=>a0l (by kernel_rfl) (by kernel_rfl) rfl rfl a9p rfl;have kT:∀d H,a0e L.env d (sem L.env Mf) (.func (.func 43) [] []) [.nilslice] H=some (.nilslice,H,[]):=λd H=>a0l (by kernel_rfl) (by kernel_rfl) rfl rfl a9l rfl;have kV:∀d,a0e L.env d (sem L.env Mf) (.func (.func 44) [] []) [.slice 4 0 (r.V.map Vc.enc).length none] [clO,some (.row 2 [[.int .i64 0,.int .i64 0]]),clN (i:Nat),some (.row 4 [[.nilslice,.nilslice,.slice 4 0 (r.V.map Vc.enc).length none,.int .i64 r.sum]]),some (.row 3 (r.V.map Vc.enc)),some (.row 1 LR)]=some (.slice 4 0 (r.V.map Vc.enc).length (some (r.V.map Vc.enc).length),[clO,some (.row 2 [[.int .i64 0,.int .i64 0]]),clN (i:Nat),some (.row 4 [[.nilslice,.nilslice,.slice 4 0 (r.V.map Vc.enc).length none,.int .i64 r.sum]]),some (.row 3 (r.V.map Vc.enc)),some (.row 1 LR)],[4]):=λd=>a0z (by kernel_rfl) (by kernel_rfl) rfl (b:=4) (o:=.row 3 (r.V.map Vc.enc)) (o':=.row 3 (r.V.map Vc.enc)) rfl (a0o fV) (FlatO.row fV) rfl rfl (b6d _ _ rfl fV) (FlatO.row fV) rfl;rw[cn,a4y,bZ,a4y,a7e b8];have tV:(r.V.map Vc.enc).take (r.V.map Vc.enc).length=r.V.map Vc.enc:=e3c (e2c _);generalize r.V.map Vc.enc=RV at *
    (repeat first|simp only[ww]|(apply xa;simp+decide only[go_sem,l1,kS,kT,kV];rfl;kernel_rfl))
    refine⟨trivial,rfl,rfl,_,by(simp+decide only[go_sem]<;>rfl),?_⟩;simp+decide only[go_sem,S1,T1,V1,S3,T3,V3,tV]<;>rfl
   ·have aj:a1s r=[some (.row 4 [[.nilslice,.slice 4 0 (r.T.map Tm.enc).length none,.nilslice,.int .i64 r.sum]]),some (.row 6 (r.T.map Tm.enc))]:=by
     unfold a1s;rw[cn,a0p,a0u,a0h _ bZ,a0y _ bZ,b8,a0p,a0u];rfl
    rw[aj];simp only[b82,b43,b94,e27];have kS:∀d H,a0e L.env d (sem L.env Mf) (.func (.func 42) [] []) [.nilslice] H=some (.nilslice,H,[]):=λd H=>a0l (by kernel_rfl) (by kernel_rfl) rfl rfl a9p rfl;have kT:∀d,a0e L.env d (sem L.env Mf) (.func (.func 43) [] []) [.slice 4 0 (r.T.map Tm.enc).length none] [clO,some (.row 2 [[.int .i64 0,.int .i64 0]]),clN (i:Nat),some (.row 4 [[.nilslice,.slice 4 0 (r.T.map Tm.enc).length none,.nilslice,.int .i64 r.sum]]),some (.row 6 (r.T.map Tm.enc)),some (.row 1 LR)]=some (.slice 4 0 (r.T.map Tm.enc).length (some (r.T.map Tm.enc).length),[clO,some (.row 2 [[.int .i64 0,.int .i64 0]]),clN (i:Nat),some (.row 4 [[.nilslice,.slice 4 0 (r.T.map Tm.enc).length none,.nilslice,.int .i64 r.sum]]),some (.row 6 (r.T.map Tm.enc)),some (.row 1 LR)],[4]):=λd=>a0z (by kernel_rfl) (by kernel_rfl) rfl (b:=4) (o:=.row 6 (r.T.map Tm.enc)) (o':=.row 6 (r.T.map Tm.enc)) rfl (a0o fT) (FlatO.row fT) rfl rfl (b6m _ _ rfl fT) (FlatO.row fT) rfl;have kV:∀d H,a0e L.env d (sem L.env Mf) (.func (.func 44) [] []) [.nilslice] H=some (.nilslice,H,[]):=λd H=>a0l (by kernel_rfl) (by kernel_rfl) rfl rfl a9j rfl;rw[cn,a4y,a7e bZ,b8,a4y];have tT:(r.T.map Tm.enc).take (r.T.map Tm.enc).length=r.T.map Tm.enc:=e3c (e2c _);generalize r.T.map Tm.enc=RT at *
    (repeat first|simp only[ww]|(apply xa;simp+decide only[go_sem,l1,kS,kT,kV];rfl;kernel_rfl))
    refine⟨trivial,rfl,rfl,_,by(simp+decide only[go_sem]<;>rfl),?_⟩;simp+decide only[go_sem,S1,T1,V1,S3,T3,V3,tT]<;>rfl
   ·have aj:a1s r=[some (.row 4 [[.nilslice,.slice 4 0 (r.T.map Tm.enc).length none,.slice 5 0 (r.V.map Vc.enc).length none,.int .i64 r.sum]]),some (.row 6 (r.T.map Tm.enc)),some (.row 3 (r.V.map Vc.enc))]:=by
     unfold a1s;rw[cn,a0p,a0u,a0h _ bZ,a0y _ bZ,a0h _ b8,a0y _ b8];rfl
    rw[aj];simp only[b82,b43,b94,e27];have kS:∀d H,a0e L.env d (sem L.env Mf) (.func (.func 42) [] []) [.nilslice] H=some (.nilslice,H,[]):=λd H=>a0l (by kernel_rfl) (by kernel_rfl) rfl rfl a9p rfl;have kT:∀d,a0e L.env d (sem L.env Mf) (.func (.func 43) [] []) [.slice 4 0 (r.T.map Tm.enc).length none] [clO,some (.row 2 [[.int .i64 0,.int .i64 0]]),clN (i:Nat),some (.row 4 [[.nilslice,.slice 4 0 (r.T.map Tm.enc).length none,.slice 5 0 (r.V.map Vc.enc).length none,.int .i64 r.sum]]),some (.row 6 (r.T.map Tm.enc)),some (.row 3 (r.V.map Vc.enc)),some (.row 1 LR)]=some (.slice 4 0 (r.T.map Tm.enc).length (some (r.T.map Tm.enc).length),[clO,some (.row 2 [[.int .i64 0,.int .i64 0]]),clN (i:Nat),some (.row 4 [[.nilslice,.slice 4 0 (r.T.map Tm.enc).length none,.slice 5 0 (r.V.map Vc.enc).length none,.int .i64 r.sum]]),some (.row 6 (r.T.map Tm.enc)),some (.row 3 (r.V.map Vc.enc)),some (.row 1 LR)],[4]):=λd=>a0z (by kernel_rfl) (by kernel_rfl) rfl (b:=4) (o:=.row 6 (r.T.map Tm.enc)) (o':=.row 6 (r.T.map Tm.enc)) rfl (a0o fT) (FlatO.row fT) rfl rfl (b6m _ _ rfl fT) (FlatO.row fT) rfl;have kV:∀d,a0e L.env d (sem L.env Mf) (.func (.func 44) [] []) [.slice 5 0 (r.V.map Vc.enc).length none] [clO,some (.row 2 [[.int .i64 0,.int .i64 0]]),clN (i:Nat),some (.row 4 [[.nilslice,.slice 4 0 (r.T.map Tm.enc).length none,.slice 5 0 (r.V.map Vc.enc).length none,.int .i64 r.sum]]),some (.row 6 (r.T.map Tm.enc)),some (.row 3 (r.V.map Vc.enc)),some (.row 1 LR)]=some (.slice 5 0 (r.V.map Vc.enc).length (some (r.V.map Vc.enc).length),[clO,some (.row 2 [[.int .i64 0,.int .i64 0]]),clN (i:Nat),some (.row 4 [[.nilslice,.slice 4 0 (r.T.map Tm.enc).length none,.slice 5 0 (r.V.map Vc.enc).length none,.int .i64 r.sum]]),some (.row 6 (r.T.map Tm.enc)),some (.row 3 (r.V.map Vc.enc)),some (.row 1 LR)],[5]):=λd=>a0z (by kernel_rfl) (by kernel_rfl) rfl (b:=5) (o:=.row 3 (r.V.map Vc.enc)) (o':=.row 3 (r.V.map Vc.enc)) rfl (a0o fV) (FlatO.row fV) rfl rfl (b6d _ _ rfl fV) (FlatO.row fV) rfl;rw[cn,a4y,a7e bZ,a7e b8];have tT:(r.T.map Tm.enc).take (r.T.map Tm.enc).length=r.T.map Tm.enc:=e3c (e2c _);have tV:(r.V.map Vc.enc).take (r.V.map Vc.enc).length=r.V.map Vc.enc:=e3c (e2c _);generalize r.T.map Tm.enc=RT at *;generalize r.V.map Vc.enc=RV at *
    (repeat first|simp only[ww]|(apply xa;simp+decide only[go_sem,l1,kS,kT,kV];rfl;kernel_rfl))
    refine⟨trivial,rfl,rfl,_,by(simp+decide only[go_sem]<;>rfl),?_⟩;simp+decide only[go_sem,S1,T1,V1,S3,T3,V3,tT,tV]<;>rfl
   ·have aj:a1s r=[some (.row 4 [[.slice 4 0 (r.S.map Sg.enc).length none,.nilslice,.nilslice,.int .i64 r.sum]]),some (.row 2 (r.S.map Sg.enc))]:=by
     unfold a1s;rw[a0h _ cn,a0y _ cn,bZ,a0p,a0u,b8,a0p,a0u];rfl
    rw[aj];simp only[b82,b43,b94,e27];have kS:∀d,a0e L.env d (sem L.env Mf) (.func (.func 42) [] []) [.slice 4 0 (r.S.map Sg.enc).length none] [clO,some (.row 2 [[.int .i64 0,.int .i64 0]]),clN (i:Nat),some (.row 4 [[.slice 4 0 (r.S.map Sg.enc).length none,.nilslice,.nilslice,.int .i64 r.sum]]),some (.row 2 (r.S.map Sg.enc)),some (.row 1 LR)]=some (.slice 4 0 (r.S.map Sg.enc).length (some (r.S.map Sg.enc).length),[clO,some (.row 2 [[.int .i64 0,.int .i64 0]]),clN (i:Nat),some (.row 4 [[.slice 4 0 (r.S.map Sg.enc).length none,.nilslice,.nilslice,.int .i64 r.sum]]),some (.row 2 (r.S.map Sg.enc)),some (.row 1 LR)],[4]):=λd=>a0z (by kernel_rfl) (by kernel_rfl) rfl (b:=4) (o:=.row 2 (r.S.map Sg.enc)) (o':=.row 2 (r.S.map Sg.enc)) rfl (a0o fS) (FlatO.row fS) rfl rfl (b6r _ _ rfl fS) (FlatO.row fS) rfl;have kT:∀d H,a0e L.env d (sem L.env Mf) (.func (.func 43) [] []) [.nilslice] H=some (.nilslice,H,[]):=λd H=>a0l (by kernel_rfl) (by kernel_rfl) rfl rfl a9l rfl;have kV:∀d H,a0e L.env d (sem L.env Mf) (.func (.func 44) [] []) [.nilslice] H=some (.nilslice,H,[]):=λd H=>a0l (by kernel_rfl) (by kernel_rfl) rfl rfl a9j rfl;rw[a7e cn,bZ,a4y,b8,a4y];have tS:(r.S.map Sg.enc).take (r.S.map Sg.enc).length=r.S.map Sg.enc:=e3c (e2c _);generalize r.S.map Sg.enc=RS at *
    (repeat first|simp only[ww]|(apply xa;simp+decide only[go_sem,l1,kS,kT,kV];rfl;kernel_rfl))
    refine⟨trivial,rfl,rfl,_,by(simp+decide only[go_sem]<;>rfl),?_⟩;simp+decide only[go_sem,S1,T1,V1,S3,T3,V3,tS]<;>rfl
   ·have aj:a1s r=[some (.row 4 [[.slice 4 0 (r.S.map Sg.enc).length none,.nilslice,.slice 5 0 (r.V.map Vc.enc).length none,.int .i64 r.sum]]),some (.row 2 (r.S.map Sg.enc)),some (.row 3 (r.V.map Vc.enc))]:=by
     unfold a1s;rw[a0h _ cn,a0y _ cn,bZ,a0p,a0u,a0h _ b8,a0y _ b8];rfl
    rw[aj];simp only[b82,b43,b94,e27];have kS:∀d,a0e L.env d (sem L.env Mf) (.func (.func 42) [] []) [.slice 4 0 (r.S.map Sg.enc).length none] [clO,some (.row 2 [[.int .i64 0,.int .i64 0]]),clN (i:Nat),some (.row 4 [[.slice 4 0 (r.S.map Sg.enc).length none,.nilslice,.slice 5 0 (r.V.map Vc.enc).length none,.int .i64 r.sum]]),some (.row 2 (r.S.map Sg.enc)),some (.row 3 (r.V.map Vc.enc)),some (.row 1 LR)]=some (.slice 4 0 (r.S.map Sg.enc).length (some (r.S.map Sg.enc).length),[clO,some (.row 2 [[.int .i64 0,.int .i64 0]]),clN (i:Nat),some (.row 4 [[.slice 4 0 (r.S.map Sg.enc).length none,.nilslice,.slice 5 0 (r.V.map Vc.enc).length none,.int .i64 r.sum]]),some (.row 2 (r.S.map Sg.enc)),some (.row 3 (r.V.map Vc.enc)),some (.row 1 LR)],[4]):=λd=>a0z (by kernel_rfl) (by kernel_rfl) rfl (b:=4) (o:=.row 2 (r.S.map Sg.enc)) (o':=.row 2 (r.S.map Sg.enc)) rfl (a0o fS) (FlatO.row fS) rfl rfl (b6r _ _ rfl fS) (FlatO.row fS) rfl;have kT:∀d H,a0e L.env d (sem L.env Mf) (.func (.func 43) [] []) [.nilslice] H=some (.nilslice,H,[]):=λd H=>a0l (by kernel_rfl) (by kernel_rfl) rfl rfl a9l rfl;have kV:∀d,a0e L.env d (sem L.env Mf) (.func (.func 44) [] []) [.slice 5 0 (r.V.map Vc.enc).length none] [clO,some (.row 2 [[.int .i64 0,.int .i64 0]]),clN (i:Nat),some (.row 4 [[.slice 4 0 (r.S.map Sg.enc).length none,.nilslice,.slice 5 0 (r.V.map Vc.enc).length none,.int .i64 r.sum]]),some (.row 2 (r.S.map Sg.enc)),some (.row 3 (r.V.map Vc.enc)),some (.row 1 LR)]=some (.slice 5 0 (r.V.map Vc.enc).length (some (r.V.map Vc.enc).length),[clO,some (.row 2 [[.int .i64 0,.int .i64 0]]),clN (i:Nat),some (.row 4 [[.slice 4 0 (r.S.map Sg.enc).length none,.nilslice,.slice 5 0 (r.V.map Vc.enc).length none,.int .i64 r.sum]]),some (.row 2 (r.S.map Sg.enc)),some (.row 3 (r.V.map Vc.enc)),some (.row 1 LR)],[5]):=λd=>a0z (by kernel_rfl) (by kernel_rfl) rfl (b:=5) (o:=.row 3 (r.V.map Vc.enc)) (o':=.row 3 (r.V.map Vc.enc)) rfl (a0o fV) (FlatO.row fV) rfl rfl (b6d _ _ rfl fV) (FlatO.row fV) rfl;rw[a7e cn,bZ,a4y,a7e b8];have tS:(r.S.map Sg.enc).take (r.S.map Sg.enc).length=r.S.map Sg.enc:=e3c (e2c _);have tV:(r.V.map Vc.enc).take (r.V.map Vc.enc).length=r.V.map Vc.enc:=e3c (e2c _);generalize r.S.map Sg.enc=RS at *;generalize r.V.map Vc.enc=RV at *
    (repeat first|simp only[ww]|(apply xa;simp+decide only[go_sem,l1,kS,kT,kV];rfl;kernel_rfl))
    refine⟨trivial,rfl,rfl,_,by(simp+decide only[go_sem]<;>rfl),?_⟩;simp+decide only[go_sem,S1,T1,V1,S3,T3,V3,tS,tV]<;>rfl
   ·have aj:a1s r=[some (.row 4 [[.slice 4 0 (r.S.map Sg.enc).length none,.slice 5 0 (r.T.map Tm.enc).length none,.nilslice,.int .i64 r.sum]]),some (.row 2 (r.S.map Sg.enc)),some (.row 6 (r.T.map Tm.enc))]:=by
     unfold a1s;rw[a0h _ cn,a0y _ cn,a0h _ bZ,a0y _ bZ,b8,a0p,a0u];rfl
    rw[aj];simp only[b82,b43,b94,e27];have kS:∀d,a0e L.env d (sem L.env Mf) (.func (.func 42) [] []) [.slice 4 0 (r.S.map Sg.enc).length none] [clO,some (.row 2 [[.int .i64 0,.int .i64 0]]),clN (i:Nat),some (.row 4 [[.slice 4 0 (r.S.map Sg.enc).length none,.slice 5 0 (r.T.map Tm.enc).length none,.nilslice,.int .i64 r.sum]]),some (.row 2 (r.S.map Sg.enc)),some (.row 6 (r.T.map Tm.enc)),some (.row 1 LR)]=some (.slice 4 0 (r.S.map Sg.enc).length (some (r.S.map Sg.enc).length),[clO,some (.row 2 [[.int .i64 0,.int .i64 0]]),clN (i:Nat),some (.row 4 [[.slice 4 0 (r.S.map Sg.enc).length none,.slice 5 0 (r.T.map Tm.enc).length none,.nilslice,.int .i64 r.sum]]),some (.row 2 (r.S.map Sg.enc)),some (.row 6 (r.T.map Tm.enc)),some (.row 1 LR)],[4]):=λd=>a0z (by kernel_rfl) (by kernel_rfl) rfl (b:=4) (o:=.row 2 (r.S.map Sg.enc)) (o':=.row 2 (r.S.map Sg.enc)) rfl (a0o fS) (FlatO.row fS) rfl rfl (b6r _ _ rfl fS) (FlatO.row fS) rfl;have kT:∀d,a0e L.env d (sem L.env Mf) (.func (.func 43) [] []) [.slice 5 0 (r.T.map Tm.enc).length none] [clO,some (.row 2 [[.int .i64 0,.int .i64 0]]),clN (i:Nat),some (.row 4 [[.slice 4 0 (r.S.map Sg.enc).length none,.slice 5 0 (r.T.map Tm.enc).length none,.nilslice,.int .i64 r.sum]]),some (.row 2 (r.S.map Sg.enc)),some (.row 6 (r.T.map Tm.enc)),some (.row 1 LR)]=some (.slice 5 0 (r.T.map Tm.enc).length (some (r.T.map Tm.enc).length),[clO,some (.row 2 [[.int .i64 0,.int .i64 0]]),clN (i:Nat),some (.row 4 [[.slice 4 0 (r.S.map Sg.enc).length none,.slice 5 0 (r.T.map Tm.enc).length none,.nilslice,.int .i64 r.sum]]),some (.row 2 (r.S.map Sg.enc)),some (.row 6 (r.T.map Tm.enc)),some (.row 1 LR)],[5]):=λd=>a0z (by kernel_rfl) (by kernel_rfl) rfl (b:=5) (o:=.row 6 (r.T.map Tm.enc)) (o':=.row 6 (r.T.map Tm.enc)) rfl (a0o fT) (FlatO.row fT) rfl rfl (b6m _ _ rfl fT) (FlatO.row fT) rfl;have kV:∀d H,a0e L.env d (sem L.env Mf) (.func (.func 44) [] []) [.nilslice] H=some (.nilslice,H,[]):=λd H=>a0l (by kernel_rfl) (by kernel_rfl) rfl rfl a9j rfl;rw[a7e cn,a7e bZ,b8,a4y];have tS:(r.S.map Sg.enc).take (r.S.map Sg.enc).length=r.S.map Sg.enc:=e3c (e2c _);have tT:(r.T.map Tm.enc).take (r.T.map Tm.enc).length=r.T.map Tm.enc:=e3c (e2c _);generalize r.S.map Sg.enc=RS at *;generalize r.T.map Tm.enc=RT at *
    (repeat first|simp only[ww]|(apply xa;simp+decide only[go_sem,l1,kS,kT,kV];rfl;kernel_rfl))
    refine⟨trivial,rfl,rfl,_,by(simp+decide only[go_sem]<;>rfl),?_⟩;simp+decide only[go_sem,S1,T1,V1,S3,T3,V3,tS,tT]<;>rfl
   ·have aj:a1s r=[some (.row 4 [[.slice 4 0 (r.S.map Sg.enc).length none,.slice 5 0 (r.T.map Tm.enc).length none,.slice 6 0 (r.V.map Vc.enc).length none,.int .i64 r.sum]]),some (.row 2 (r.S.map Sg.enc)),some (.row 6 (r.T.map Tm.enc)),some (.row 3 (r.V.map Vc.enc))]:=by
     unfold a1s;rw[a0h _ cn,a0y _ cn,a0h _ bZ,a0y _ bZ,a0h _ b8,a0y _ b8];rfl
    rw[aj];simp only[b82,b43,b94,e27];have kS:∀d,a0e L.env d (sem L.env Mf) (.func (.func 42) [] []) [.slice 4 0 (r.S.map Sg.enc).length none] [clO,some (.row 2 [[.int .i64 0,.int .i64 0]]),clN (i:Nat),some (.row 4 [[.slice 4 0 (r.S.map Sg.enc).length none,.slice 5 0 (r.T.map Tm.enc).length none,.slice 6 0 (r.V.map Vc.enc).length none,.int .i64 r.sum]]),some (.row 2 (r.S.map Sg.enc)),some (.row 6 (r.T.map Tm.enc)),some (.row 3 (r.V.map Vc.enc)),some (.row 1 LR)]=some (.slice 4 0 (r.S.map Sg.enc).length (some (r.S.map Sg.enc).length),[clO,some (.row 2 [[.int .i64 0,.int .i64 0]]),clN (i:Nat),some (.row 4 [[.slice 4 0 (r.S.map Sg.enc).length none,.slice 5 0 (r.T.map Tm.enc).length none,.slice 6 0 (r.V.map Vc.enc).length none,.int .i64 r.sum]]),some (.row 2 (r.S.map Sg.enc)),some (.row 6 (r.T.map Tm.enc)),some (.row 3 (r.V.map Vc.enc)),some (.row 1 LR)],[4]):=λd=>a0z (by kernel_rfl) (by kernel_rfl) rfl (b:=4) (o:=.row 2 (r.S.map Sg.enc)) (o':=.row 2 (r.S.map Sg.enc)) rfl (a0o fS) (FlatO.row fS) rfl rfl (b6r _ _ rfl fS) (FlatO.row fS) rfl;have kT:∀d,a0e L.env d (sem L.env Mf) (.func (.func 43) [] []) [.slice 5 0 (r.T.map Tm.enc).length none] [clO,some (.row 2 [[.int .i64 0,.int .i64 0]]),clN (i:Nat),some (.row 4 [[.slice 4 0 (r.S.map Sg.enc).length none,.slice 5 0 (r.T.map Tm.enc).length none,.slice 6 0 (r.V.map Vc.enc).length none,.int .i64 r.sum]]),some (.row 2 (r.S.map Sg.enc)),some (.row 6 (r.T.map Tm.enc)),some (.row 3 (r.V.map Vc.enc)),some (.row 1 LR)]=some (.slice 5 0 (r.T.map Tm.enc).length (some (r.T.map Tm.enc).length),[clO,some (.row 2 [[.int .i64 0,.int .i64 0]]),clN (i:Nat),some (.row 4 [[.slice 4 0 (r.S.map Sg.enc).length none,.slice 5 0 (r.T.map Tm.enc).length none,.slice 6 0 (r.V.map Vc.enc).length none,.int .i64 r.sum]]),some (.row 2 (r.S.map Sg.enc)),some (.row 6 (r.T.map Tm.enc)),some (.row 3 (r.V.map Vc.enc)),some (.row 1 LR)],[5]):=λd=>a0z (by kernel_rfl) (by kernel_rfl) rfl (b:=5) (o:=.row 6 (r.T.map Tm.enc)) (o':=.row 6 (r.T.map Tm.enc)) rfl (a0o fT) (FlatO.row fT) rfl rfl (b6m _ _ rfl fT) (FlatO.row fT) rfl;have kV:∀d,a0e L.env d (sem L.env Mf) (.func (.func 44) [] []) [.slice 6 0 (r.V.map Vc.enc).length none] [clO,some (.row 2 [[.int .i64 0,.int .i64 0]]),clN (i:Nat),some (.row 4 [[.slice 4 0 (r.S.map Sg.enc).length none,.slice 5 0 (r.T.map Tm.enc).length none,.slice 6 0 (r.V.map Vc.enc).length none,.int .i64 r.sum]]),some (.row 2 (r.S.map Sg.enc)),some (.row 6 (r.T.map Tm.enc)),some (.row 3 (r.V.map Vc.enc)),some (.row 1 LR)]=some (.slice 6 0 (r.V.map Vc.enc).length (some (r.V.map Vc.enc).length),[clO,some (.row 2 [[.int .i64 0,.int .i64 0]]),clN (i:Nat),some (.row 4 [[.slice 4 0 (r.S.map Sg.enc).length none,.slice 5 0 (r.T.map Tm.enc).length none,.slice 6 0 (r.V.map Vc.enc).length none,.int .i64 r.sum]]),some (.row 2 (r.S.map Sg.enc)),some (.row 6 (r.T.map Tm.enc)),some (.row 3 (r.V.map Vc.enc)),some (.row 1 LR)],[6]):=λd=>a0z (by kernel_rfl) (by kernel_rfl) rfl (b:=6) (o:=.row 3 (r.V.map Vc.enc)) (o':=.row 3 (r.V.map Vc.enc)) rfl (a0o fV) (FlatO.row fV) rfl rfl (b6d _ _ rfl fV) (FlatO.row fV) rfl;rw[a7e cn,a7e bZ,a7e b8];have tS:(r.S.map Sg.enc).take (r.S.map Sg.enc).length=r.S.map Sg.enc:=e3c (e2c _);have tT:(r.T.map Tm.enc).take (r.T.map Tm.enc).length=r.T.map Tm.enc:=e3c (e2c _);have tV:(r.V.map Vc.enc).take (r.V.map Vc.enc).length=r.V.map Vc.enc:=e3c (e2c _);generalize r.S.map Sg.enc=RS at *;generalize r.T.map Tm.enc=RT at *;generalize r.V.map Vc.enc=RV at *
    (repeat first|simp only[ww]|(apply xa;simp+decide only[go_sem,l1,kS,kT,kV];rfl;kernel_rfl))
    refine⟨trivial,rfl,rfl,_,by(simp+decide only[go_sem]<;>rfl),?_⟩;simp+decide only[go_sem,S1,T1,V1,S3,T3,V3,tS,tT,tV]<;>rfl
end Go.RInst
namespace Go.RInst
open Go.Proofs Go.Ax Go.Pc
variable [PR]
set_option maxRecDepth 100000
/-! ### a b4l that Write c0h is read back -/
theorem a69(c:UInt8):∀(u ag:List UInt8),(∀b∈u,b≠c)→a00 c (u++c::ag)=u::a00 c ag
 | [],ag,_=>by simp[a00]
 |b::u,ag,h=>by have hb:=h b (by simp);have ih:=a69 c u ag λx hx=>h x (by simp[hx]);rw[b82,a00,e2i hb,ih]
theorem b7x(c:UInt8)(u:List UInt8)(h:∀b∈u,b≠c):a00 c u=[u]:=b0m c u (List.count_eq_zero.2 λhm=>h c hm rfl)
theorem b0l(c:UInt8):∀(w:List UInt8) (ws:List (List UInt8)),(∀x∈w::ws,∀b∈x,b≠c)→a00 c (Lib.join (w::ws) [c])=w::ws
 |w,[],h=>by rw[Lib.join_one];exact b7x c w (h w (by simp))
 |w,v::ws,h=>by
  have ih:=b0l c v ws λx hx=>h x (by simp[e3b.1 hx]);have e:Lib.join (w::v::ws) [c]=w++c::Lib.join (v::ws) [c]:=by rw[Lib.join_cons,Lib.join_cons];simp[Lib.joinTail]
  rw[e,a69 c w _ (h w (by simp)),ih]
theorem b5r(c:UInt8):∀(w:List UInt8) (ws:List (List UInt8)) (d:UInt8),d≠c→(∀x∈w::ws,∀b∈x,b≠c)→∀b∈Lib.join (w::ws) [d],b≠c
 |w,[],d,hd,h=>by rw[Lib.join_one];exact h w (by simp)
 |w,v::ws,d,hd,h=>by
  have ih:=b5r c v ws d hd λx hx=>h x (by simp[e3b.1 hx]);have e:Lib.join (w::v::ws) [d]=w++d::Lib.join (v::ws) [d]:=by rw[Lib.join_cons,Lib.join_cons];simp[Lib.joinTail]
  rw[e];intro b hb;rcases e65.1 hb with hb|hb
  ·exact h w (by simp) b hb
  ·rcases e3b.1 hb with rfl|hb
   ·exact hd
   ·exact ih b hb
def d6f(ws:List (List UInt8)):Prop:=∀w∈ws,w≠[]∧∀b∈w,b≠32∧b≠10
theorem c2p{w:List UInt8}{ws:List (List UInt8)}(h:d6f (w::ws)):a2i (a00 32 (Lib.join (w::ws) [32]))=w::ws:=by rw[b0l 32 w ws λx hx b hb=>((h x hx).2 b hb).1];exact b7e λx hx=>(h x hx).1
theorem a8g(r:Rd)(s:List UInt8)(l:List (List UInt8)):a2a r (s::l)=match a2v r s with
 |some r'=>a2a r' l
 |none=>none:=rfl
theorem a6t(r:Rd)(w0:List UInt8)(tl:List (List UInt8)):rdW r (w0::tl)=if w0.head?=some 35 then some r else if w0=sigK0 then rdS r tl else if w0=a3y then rdT r tl else if w0=vecK0 then rdV r tl else none:=rfl
theorem c0c(r:Rd)(nm d:List UInt8)(hc:(d=inK∨d=a9h)∧r.T=[]∧r.V=[]∧a3s nm=true∧nm∉r.S.map Sg.name∧r.S.length<256):rdS r [nm,d]=some ⟨r.S++[⟨nm,if d=a9h then 1 else 0⟩],r.T,r.V,r.sum⟩:=by unfold rdS;exact e3g hc
theorem b32(r:Rd)(nm w0 w1 w2 w3 w4:List UInt8)(hc:r.V=[]∧(∀w∈[w0,w1,w2,w3,w4],NumOk w)∧a5l ⟨nm,a09 w0,a09 w1,a09 w2,a09 w3,a09 w4⟩=true∧nm∉r.T.map Tm.name∧r.T.length<16):rdT r [nm,w0,w1,w2,w3,w4]=some ⟨r.S,r.T++[⟨nm,a09 w0,a09 w1,a09 w2,a09 w3,a09 w4⟩],r.V,r.sum⟩:=by unfold rdT;exact e3g hc
theorem b0v{r r':Rd}{w:List UInt8}{ws:List (List UInt8)}{ag:List UInt8}(h:d6f (w::ws))(hl:(lnT (w::ws)).length≤4096)(hr:rdW r (w::ws)=some r'):a2a r (a00 10 (lnT (w::ws)++ag))=a2a r' (a00 10 ag):=by
 have e:lnT (w::ws)++ag=Lib.join (w::ws) [32]++10::ag:=by simp[lnT]
 rw[e,a69 10 _ ag (b5r 10 w ws 32 (by decide) λx hx b hb=>((h x hx).2 b hb).2)];have gw:(Lib.join (w::ws) [32]).length≤4096:=by simp only[lnT,e2f,e68]at hl;omega
 have ti:a2v r (Lib.join (w::ws) [32])=some r':=by unfold a2v;rw[e3g gw,c2p h,hr]
 rw[a8g,ti]
theorem b8a(r:Rd):a2a r (a00 10 [])=some r:=by have e:a2i (a00 32 [])=[]:=rfl;show a2a r [[]]=some r;unfold a2a a2v;rw[e3g (by simp),e];rfl
/-! numbers -/
theorem d7n:∀n:Nat,∀b∈Lib.decDigits n,b4r b:=by
 intro n
 induction n using Nat.strongRecOn with
 |_ n ih=>
  intro b hb;rw[Lib.decDigits]at hb;have key:∀k:Nat,k<10→48≤(UInt8.ofNat (48+k)).toNat∧(UInt8.ofNat (48+k)).toNat≤57:=by decide
  split at hb
  ·rename_i h;rw[e3r.1 hb];exact key n h
  ·rename_i h;rcases e65.1 hb with hb|hb
   ·exact ih (n/10) (by omega) b hb
   ·rw[e3r.1 hb];exact key _ (by omega)
theorem d7l:∀n:Nat,a09 (Lib.decDigits n)=n:=by
 intro n
 induction n using Nat.strongRecOn with
 |_ n ih=>
  rw[Lib.decDigits];have key:∀k:Nat,k<10→(UInt8.ofNat (48+k)).toNat-48=k:=by decide
  split
  ·rename_i h;show 10*0+((UInt8.ofNat (48+n)).toNat-48)=n;rw[key n h];omega
  ·rename_i h;have e:a09 (Lib.decDigits (n/10)++[UInt8.ofNat (48+n%10)])=10*a09 (Lib.decDigits (n/10))+((UInt8.ofNat (48+n%10)).toNat-48):=by
    unfold a09;rw[List.foldl_append];rfl
   rw[e,ih (n/10) (by omega),key _ (by omega)];omega
theorem d2r:∀n:Nat,0<n→∃a,(Lib.decDigits n)[0]?=some a∧a.toNat≠48:=by
 intro n
 induction n using Nat.strongRecOn with
 |_ n ih=>
  intro h0;rw[Lib.decDigits];have key:∀k:Nat,k<10→0<k→(UInt8.ofNat (48+k)).toNat≠48:=by decide
  split
  ·rename_i h;exact⟨_,rfl,key n h h0⟩
  ·rename_i h;obtain⟨a,h1,h2⟩:=ih (n/10) (by omega) (by omega);exact⟨a,by rw[e3q (e26.1 h1).1];exact h1,h2⟩
theorem d2q(n:Nat):1≤(Lib.decDigits n).length:=by rw[Lib.decDigits];split<;>simp
theorem a8k(n:Int)(h0:0≤n)(h1:n≤1000000):NumOk (Lib.itoa n)∧((a09 (Lib.itoa n):Nat):Int)=n:=by
 have hl:=a6y n h0 h1;have e:Lib.itoa n=Lib.decDigits n.toNat:=by unfold Lib.itoa;rw[e2i (by omega)]
 rw[e]at hl⊢;refine⟨⟨d2q _,hl,?_,d7n _⟩,by rw[d7l];omega⟩;by_cases hz:n.toNat=0
 ·left;rw[hz,Lib.decDigits,dif_pos (by decide)];rfl
 ·right;exact d2r _ (by omega)
theorem a8j(w:List UInt8)(h:NumOk w):w≠[]∧∀b∈w,b≠32∧b≠10:=by refine⟨λe=>by have:=h.l1;rw[e]at this;simp at this,λb hb=>?_⟩;have hd:=h.d b hb;constructor<;>(intro e;subst e;have:=hd.1;simp at this)
theorem a9w{w:List UInt8}(h:a3s w=true):w≠[]∧∀b∈w,b≠32∧b≠10:=by
 cases w with
 |nil=>cases h
 |cons a r=>refine⟨by simp,λb hb=>?_⟩;simp only[a3s,b46,e2d]at h;have hc:=e3n.1 h.2.2 b hb;simp only[b1y,b46,e2d]at hc;constructor<;>(intro e;subst e;have:=hc.1;simp at this)
theorem c36{S:List Sg}{cs:List UInt8}(h:a1w S cs=true):∀b∈cs,b≠32∧b≠10∧b≠45:=by
 intro b hb;obtain⟨i,hi⟩:=List.getElem?_of_mem hb;have hl:=a4s S cs h;have aq:=(e26.1 hi).1;obtain⟨s,hs⟩:∃s,S[i]?=some s:=⟨_,z9e (by omega)⟩
 have hk:=b07 S cs h i s b hs hi;have key:∀x:UInt8,((a1d s.dir).contains x=true)→x≠32∧x≠10∧x≠45:=by
  intro x hx;unfold a1d at hx;split at hx
  ·rw[List.contains_iff_mem]at hx;simp only[e3b,e5f,e7f]at hx;rcases hx with rfl|rfl|rfl<;>decide
  ·rw[List.contains_iff_mem]at hx;simp only[e3b,e5f,e7f]at hx;rcases hx with rfl|rfl|rfl|rfl<;>decide
 exact key b hk
theorem d0d:∀(l:List (List UInt8)) (i:Nat) (n:List UInt8),l.Nodup→l[i]?=some n→fnd n l=i
 | [],i,n,_,h=>by simp at h
 |a::l,0,n,_,h=>by
  have:a=n:=by simpa using h
  unfold fnd;rw[e3g this];rfl
 |a::l,i+1,n,hd,h=>by
  have h:l[i]?=some n:=by simpa using h
  have hd:=e66.1 hd;have ih:=d0d l i n hd.2 h;have aK:¬a=n:=λe=>hd.1 (by rw[e];exact e25 h);unfold fnd;rw[e2i aK,ih,e2i (by omega)];rfl
/-! the three kinds of lines -/
theorem c51{α:Type}{f:α→List UInt8}{l:List α}{i:Nat}{x:α}(hd:(l.map f).Nodup)(h:l[i]?=some x):f x∉(l.take i).map f:=by
 intro hm;obtain⟨y,hy,e⟩:=e6q.1 hm;obtain⟨j,hj⟩:=List.getElem?_of_mem hy;have lV:j<i:=by have:=(e26.1 hj).1;simp at this;omega
 rw[e5g,e3g lV]at hj;have h1:(l.map f)[j]?=some (f x):=by rw[e2e,hj];simp[e]
 have h2:(l.map f)[i]?=some (f x):=by rw[e2e,h];rfl
 obtain⟨a1,b1⟩:=e26.1 h1;obtain⟨a2,b2⟩:=e26.1 h2;exact List.pairwise_iff_getElem.1 hd j i a1 a2 lV (by rw[b1,b2])
section
variable {S:List Sg}{T:List Tm}{V:List Vc}(h:Valid S T V)
include h
theorem d0k(ag:List UInt8):∀k,k≤S.length→a2a ⟨S.take (S.length-k),[],[],0⟩ (a00 10 ((S.drop (S.length-k)).flatMap (λs=>lnT (a6n s))++ag))=a2a ⟨S,[],[],0⟩ (a00 10 ag)
 |0,_=>by rw[Nat.sub_zero,List.drop_length,e3z];rfl
 |k+1,hk=>by
  obtain⟨s,hs⟩:∃s,S[S.length-(k+1)]?=some s:=⟨_,z9e (by omega)⟩
  have ih:=d0k ag k (by omega);have hd:S.drop (S.length-(k+1))=s::S.drop (S.length-k):=by obtain⟨hh,he⟩:=e26.1 hs;rw[e6o hh,he,show S.length-(k+1)+1=S.length-k by omega]
  have ba:=h.sg s (e25 hs);have hl:=b6o ba;have hn:=c51 (f:=Sg.name) h.sn hs;have hS:=h.hS;simp only[a9n,b46,e2d]at ba;have aR:rdW ⟨S.take (S.length-(k+1)),[],[],0⟩ (a6n s)=some ⟨S.take (S.length-k),[],[],0⟩:=by
   have ht:=a48 hs;rw[show S.length-(k+1)+1=S.length-k by omega]at ht;unfold a6n;rw[a6t,e2i (by decide),e3g rfl];rw[c0c _ _ _ ⟨by split<;>simp,rfl,rfl,ba.1,hn,by simp only[e4z];omega⟩,ht];obtain⟨nm,dr⟩:=s;simp only at ba⊢;have ql:¬inK=a9h:=by decide
   rcases(show dr=0∨dr=1 by omega)with rfl|rfl
   ·rw[e2i (show ¬(0:Nat)=1 by decide),e2i ql]
   ·rw[e3g rfl,e3g rfl]
  have hw:d6f (a6n s):=by
   intro w hw;simp only[a6n,e3b,e5f,e7f]at hw;rcases hw with rfl|rfl|rfl
   ·exact⟨by decide,by decide⟩
   ·exact a9w ba.1
   ·split<;>exact⟨by decide,by decide⟩
  rw[hd,e71,e5j];have:=b0v (r:=⟨S.take (S.length-(k+1)),[],[],0⟩) (ag:=(S.drop (S.length-k)).flatMap (λs=>lnT (a6n s))++ag) (w:=sigK0) (ws:=[s.name,if s.dir=1 then a9h else inK]) hw (show(lnT (a6n s)).length≤4096 by omega) aR;exact this.trans ih
theorem d0j(ag:List UInt8):∀k,k≤T.length→a2a ⟨S,T.take (T.length-k),[],0⟩ (a00 10 ((T.drop (T.length-k)).flatMap (λt=>lnT (b0g t))++ag))=a2a ⟨S,T,[],0⟩ (a00 10 ag)
 |0,_=>by rw[Nat.sub_zero,List.drop_length,e3z];rfl
 |k+1,hk=>by
  obtain⟨t,hs⟩:∃t,T[T.length-(k+1)]?=some t:=⟨_,z9e (by omega)⟩
  have ih:=d0j ag k (by omega);have hd:T.drop (T.length-(k+1))=t::T.drop (T.length-k):=by obtain⟨hh,he⟩:=e26.1 hs;rw[e6o hh,he,show T.length-(k+1)+1=T.length-k by omega]
  have ba:=h.tm t (e25 hs);have hl:=b6l ba;have hn:=c51 (f:=Tm.name) h.tn hs;have hT:=h.hT;have dC:=c46 ba;have i1:=dC.dr0;have i2:=dC.ri;have i3:=dC.fa;have i4:=dC.per;have i5:=dC.top;have i6:=dC.st0;have i7:=dC.st1;have a1:=a8k t.per (by omega) (by omega);have a2:=a8k t.dr (by omega) (by omega);have a3:=a8k t.ri (by omega) (by omega);have a4:=a8k t.fa (by omega) (by omega);have a5:=a8k t.st (by omega) (by omega);have rd:(⟨t.name,(a09 (Lib.itoa t.per):Nat),(a09 (Lib.itoa t.dr):Nat),(a09 (Lib.itoa t.ri):Nat),(a09 (Lib.itoa t.fa):Nat),(a09 (Lib.itoa t.st):Nat)⟩:Tm)=t:=by rw[a1.2,a2.2,a3.2,a4.2,a5.2]
  have bH:a3s t.name=true:=by simp only[a5l,b46]at ba;exact ba.1
  have aR:rdW ⟨S,T.take (T.length-(k+1)),[],0⟩ (b0g t)=some ⟨S,T.take (T.length-k),[],0⟩:=by
   have ht:=a48 hs;rw[show T.length-(k+1)+1=T.length-k by omega]at ht;unfold b0g a57;simp only[e2b,e3a,b82,b43];rw[a6t,e2i (by decide),e2i (by decide),e3g rfl];rw[b32 _ _ _ _ _ _ _ ⟨rfl,by
    intro w hw;simp only[e3b,e5f,e7f]at hw;rcases hw with rfl|rfl|rfl|rfl|rfl
    ·exact a1.1
    ·exact a2.1
    ·exact a3.1
    ·exact a4.1
    ·exact a5.1,by rw[rd];exact ba,hn,by simp only[e4z];omega⟩,ht,rd]
  have hw:d6f (b0g t):=by
   intro w hw;simp only[b0g,a57,e2b,e3a,b82,b43,e3b,e5f,e7f]at hw;rcases hw with rfl|rfl|rfl|rfl|rfl|rfl|rfl
   ·exact⟨by decide,by decide⟩
   ·exact a9w bH
   ·exact a8j _ a1.1
   ·exact a8j _ a2.1
   ·exact a8j _ a3.1
   ·exact a8j _ a4.1
   ·exact a8j _ a5.1
  rw[hd,e71,e5j];have:=b0v (r:=⟨S,T.take (T.length-(k+1)),[],0⟩) (ag:=(T.drop (T.length-k)).flatMap (λt=>lnT (b0g t))++ag) (w:=a3y) (ws:=t.name::(a57 t).map Lib.itoa) hw (show(lnT (b0g t)).length≤4096 by omega) aR;exact this.trans ih
theorem d0i:∀k,k≤V.length→a2a ⟨S,T,V.take (V.length-k),a1g (V.take (V.length-k))⟩ (a00 10 ((V.drop (V.length-k)).flatMap (λv=>lnT (a8z T v))))=some ⟨S,T,V,a1g V⟩
 |0,_=>by rw[Nat.sub_zero,List.drop_length,e3z];exact b8a _
 |k+1,hk=>by
  obtain⟨v,hs⟩:∃v,V[V.length-(k+1)]?=some v:=⟨_,z9e (by omega)⟩
  have ih:=d0i k (by omega);have hd:V.drop (V.length-(k+1))=v::V.drop (V.length-k):=by obtain⟨hh,he⟩:=e26.1 hs;rw[e6o hh,he,show V.length-(k+1)+1=V.length-k by omega]
  have ce:=e25 hs;have ba:=h.vc v ce;have hl:=b6i h ce;have hV:=h.hV;have m9:=a9r V hs;rw[show V.length-(k+1)+1=V.length-k by omega]at m9;have ht:=a48 hs;rw[show V.length-(k+1)+1=V.length-k by omega]at ht;have jy:∀v∈V,0≤v.rep:=λv hv=>by have:=(h.rep v hv).1;omega
  have fE:=a7p V jy (V.length-k);have bR:=h.sum;have lT:=ba;simp only[a22,b46,e2d]at lT;obtain⟨b1,b2,b3,b4,b5⟩:=lT;obtain⟨t,dM⟩:∃t,T[v.t.toNat]?=some t:=⟨_,z9e (by omega)⟩
  have cI:fnd t.name (T.map Tm.name)=v.t:=by rw[d0d (T.map Tm.name) v.t.toNat t.name h.tn (by rw[e2e,dM];rfl)];omega
  have bH:a3s t.name=true:=by have:=h.tm t (e25 dM);simp only[a5l,b46]at this;exact this.1
  have bd:=b2p T v t dM;have qy:=c36 b5;have aX:(if(if v.cells=[]then[45]else v.cells)=[45]then[]else(if v.cells=[]then[45]else v.cells))=v.cells:=by
   by_cases hc:v.cells=[]
   ·rw[e3g hc,e3g rfl,hc]
   ·rw[e2i hc,e2i ?_];intro e;exact(qy 45 (by rw[e];simp)).2.2 rfl
  have a1:=a8k v.rep (by omega) (by omega);have mp:∀kk:Nat,(kk:Int)=v.rep→b0h ⟨S,T,V.take (V.length-(k+1)),a1g (V.take (V.length-(k+1)))⟩ t.name (if v.cells=[]then[45]else v.cells) kk=some ⟨S,T,V.take (V.length-k),a1g (V.take (V.length-k))⟩:=by
   intro kk lT;have pN:b4m ⟨S,T,V.take (V.length-(k+1)),a1g (V.take (V.length-(k+1)))⟩ t.name (if v.cells=[]then[45]else v.cells) kk=v:=by unfold b4m;rw[aX];simp only;rw[cI,lT]
   unfold b0h;rw[pN,e3g ⟨ba,by simp only[e4z];omega,by simp only;omega⟩,ht,lT];simp only;rw[←m9,ht]
  have aR:rdW ⟨S,T,V.take (V.length-(k+1)),a1g (V.take (V.length-(k+1)))⟩ (a8z T v)=some ⟨S,T,V.take (V.length-k),a1g (V.take (V.length-k))⟩:=by
   rw[bd];simp only[b82,b43];rw[a6t,e2i (by decide),e2i (by decide),e2i (by decide),e3g rfl];by_cases hr:v.rep=1
   ·rw[e3g hr];unfold rdV;exact mp 1 (by rw[hr];rfl)
   ·rw[e2i hr];unfold rdV;simp only;rw[e3g a1.1];exact mp _ a1.2
  have hw:d6f (a8z T v):=by
   intro w hw;rw[bd]at hw;rcases e65.1 hw with hw|hw
   ·simp only[e3b,e5f,e7f]at hw;rcases hw with rfl|rfl|rfl
    ·exact⟨by decide,by decide⟩
    ·exact a9w bH
    ·by_cases hc:v.cells=[]
     ·rw[e3g hc];exact⟨by decide,by decide⟩
     ·rw[e2i hc];exact⟨hc,λb hb=>⟨(qy b hb).1,(qy b hb).2.1⟩⟩
   ·split at hw
    ·cases hw
    ·rw[e3r.1 hw];exact a8j _ a1.1
  rw[hd,e71];obtain⟨w0,ws,he⟩:∃w0 ws,a8z T v=w0::ws:=⟨_,_,bd⟩
  rw[he]at hw aR hl⊢;rw[b0v hw (by omega) aR];exact ih
theorem c6f:a2a ⟨[],[],[],0⟩ (a00 10 (b4l S T V))=some ⟨S,T,V,a1g V⟩:=by have h1:=d0k h (txT T++txV T V) S.length (e2c _);have h2:=d0j h (txV T V) T.length (e2c _);have h3:=d0i h V.length (e2c _);rw[Nat.sub_self,e28,e5b]at h1 h2 h3;unfold b4l;rw[e5j];exact h1.trans (h2.trans h3)
end
end Go.RInst
