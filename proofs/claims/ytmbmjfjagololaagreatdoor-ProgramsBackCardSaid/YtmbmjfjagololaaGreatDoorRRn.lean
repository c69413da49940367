/- Part of a proof. No condition. -/
import Derived.Test.YtmbmjfjagololaaGreatDoorRRm
import Derived.Test.YtmbmjfjagololaaGreatDoorRRd
import Derived.Test.YtmbmjfjagololaaGreatDoorRPh
import Derived.Test.YtmbmjfjagololaaGreatDoorRPi
import Derived.Test.YtmbmjfjagololaaGreatDoorRPg
import Derived.Test.YtmbmjfjagololaaGreatDoorRPe
set_option linter.unusedSectionVars false
set_option linter.unusedSimpArgs false
set_option linter.unusedVariables false
namespace Go.RInst
set_option maxHeartbeats 200000000
open Go.Proofs Go.Ax Go.Pc
variable [PR]
set_option maxRecDepth 100000
theorem a9b:sem L.env Mf 42 [.nilslice] []=some (.nilslice,[]):=by
 (refine sv Tryz.f42 ?_;simp only[Tryz.f42,gS])
 (repeat first|simp only[ww]|(apply xa;simp+decide only[go_sem];rfl;kernel_rfl))
 (apply fqb;simp+decide only[go_sem]<;>rfl)
theorem b62(n:Nat)(R:List (List AV))(hn:R.length=n)(hfl:FlatR R):sem L.env Mf 42 [.slice 0 0 n none] [some (.row 2 R)]=some (.slice 0 0 n (some n),[some (.row 2 R)]):=by
 have h1:=λπ=>a02 π hfl;have h2:=a01 hfl;have h3:=λq d=>a13 q d hfl
 (refine sv Tryz.f42 ?_;simp only[Tryz.f42,gS])
 (repeat first|simp only[ww]|(apply xa;simp+decide only[go_sem,hn,Nat.le_refl];rfl;kernel_rfl))
 (apply fqb;simp+decide only[go_sem,h1,h2,h3]<;>rfl)
theorem a97:sem L.env Mf 43 [.nilslice] []=some (.nilslice,[]):=by
 (refine sv Tryz.f43 ?_;simp only[Tryz.f43,gS])
 (repeat first|simp only[ww]|(apply xa;simp+decide only[go_sem];rfl;kernel_rfl))
 (apply fqb;simp+decide only[go_sem]<;>rfl)
theorem b5y(n:Nat)(R:List (List AV))(hn:R.length=n)(hfl:FlatR R):sem L.env Mf 43 [.slice 0 0 n none] [some (.row 6 R)]=some (.slice 0 0 n (some n),[some (.row 6 R)]):=by
 have h1:=λπ=>a02 π hfl;have h2:=a01 hfl;have h3:=λq d=>a13 q d hfl
 (refine sv Tryz.f43 ?_;simp only[Tryz.f43,gS])
 (repeat first|simp only[ww]|(apply xa;simp+decide only[go_sem,hn,Nat.le_refl];rfl;kernel_rfl))
 (apply fqb;simp+decide only[go_sem,h1,h2,h3]<;>rfl)
theorem a91:sem L.env Mf 44 [.nilslice] []=some (.nilslice,[]):=by
 (refine sv Tryz.f44 ?_;simp only[Tryz.f44,gS])
 (repeat first|simp only[ww]|(apply xa;simp+decide only[go_sem];rfl;kernel_rfl))
 (apply fqb;simp+decide only[go_sem]<;>rfl)
theorem b5u(n:Nat)(R:List (List AV))(hn:R.length=n)(hfl:FlatR R):sem L.env Mf 44 [.slice 0 0 n none] [some (.row 3 R)]=some (.slice 0 0 n (some n),[some (.row 3 R)]):=by
 have h1:=λπ=>a02 π hfl;have h2:=a01 hfl;have h3:=λq d=>a13 q d hfl
 (refine sv Tryz.f44 ?_;simp only[Tryz.f44,gS])
 (repeat first|simp only[ww]|(apply xa;simp+decide only[go_sem,hn,Nat.le_refl];rfl;kernel_rfl))
 (apply fqb;simp+decide only[go_sem,h1,h2,h3]<;>rfl)
theorem b9s(r:Rd):(∃o0,a26 r=[some o0])∨(∃o0 o1,a26 r=[some o0,some o1])∨(∃o0 o1 o2,a26 r=[some o0,some o1,some o2])∨(∃o0 o1 o2 o3,a26 r=[some o0,some o1,some o2,some o3]):=by
 unfold a26;cases r.S.map Sg.enc<;>cases r.T.map Tm.enc<;>cases r.V.map Vc.enc<;>simp only[a0b,a1i,List.nil_append,List.cons_append,List.append_nil]
 ·exact .inl ⟨_,rfl⟩
 ·exact .inr (.inl ⟨_,_,rfl⟩)
 ·exact .inr (.inl ⟨_,_,rfl⟩)
 ·exact .inr (.inr (.inl ⟨_,_,_,rfl⟩))
 ·exact .inr (.inl ⟨_,_,rfl⟩)
 ·exact .inr (.inr (.inl ⟨_,_,_,rfl⟩))
 ·exact .inr (.inr (.inl ⟨_,_,_,rfl⟩))
 ·exact .inr (.inr (.inr ⟨_,_,_,_,rfl⟩))
theorem c4h(lo:Nat)(H:a09)(k:Nat):GsL lo H k .nilslice []:=.inl ⟨rfl,rfl⟩
theorem b6n{lo:Nat}{H:a09}{k c n:Nat}{R:List (List AV)}(hne:R≠[])(hn:n=R.length)(h:a05 H c=some (.row k R))(hc:lo≤c):GsL lo H k (.slice c 0 n none) R:=.inr ⟨hne,c,by rw[hn],h,hc⟩
theorem d03(r:Rd)(a b c:Option AObj)(L:a09):RdL 3 ([a,b,c]++a26 r++L) 3 r:=by
 refine⟨_,_,_,rfl,?_,?_,?_⟩
 ·cases hS:r.S.map Sg.enc with
  |nil=>rw[a0a];exact c4h _ _ _
  |cons x l=>rw[a1l];exact b6n (by simp) rfl (by unfold a26;rw[hS,a1i];rfl) (by decide)
 ·cases hT:r.T.map Tm.enc with
  |nil=>rw[a0a];exact c4h _ _ _
  |cons x l=>rw[a1l];refine b6n (by simp) rfl ?_ (by omega);unfold a26;rw[hT,a1i];cases r.S.map Sg.enc<;>rfl
 ·cases hV:r.V.map Vc.enc with
  |nil=>rw[a0a];exact c4h _ _ _
  |cons x l=>rw[a1l];refine b6n (by simp) rfl ?_ (by omega);unfold a26;rw[hV,a1i];cases r.S.map Sg.enc<;>cases r.T.map Tm.enc<;>rfl
def clA:List (List AV)→AV
 | []=>.nilslice
 |R=>.islice R (some R.length)
theorem a4x:clA [] = .nilslice:=rfl
theorem a71{R:List (List AV)}(h:R≠[]):clA R = .islice R (some R.length):=by
 cases R with
 |nil=>exact absurd rfl h
 |cons=>rfl
def b6a(r:Rd):AV:=.tuple [.agg [clA (r.S.map Sg.enc),clA (r.T.map Tm.enc),clA (r.V.map Vc.enc)],.agg [.int .i64 0,.int .i64 0]]
theorem c3j(s:List UInt8)(hl:s.length≤1048576)(rf:Rd)(hread:a5g ⟨[],[],[],0⟩ (a00 10 s)=some rf) :
 Wp (cx L.env Mf 3 49 19 0) b4s (rdF s) [clO,some (.row 2 [[.int .i64 0,.int .i64 0]]),clN 0] (λex F H=>ex = .ret∧a2l F 2 = .ptr 0 0 0∧a2l F 3 = .ptr 1 0 0∧∃vs,a1p L.env [(2,.ptr 0 0 0),(3,.ptr 1 0 0)] H [.cell 2 29,.cell 3 56]=some vs∧a5p false 0 (a7i vs) H=some (b6a rf,[])):=by
 have hNl:(a00 10 s).length≤2000000:=by rw[a0w];have:=List.count_le_length (a:=(10:UInt8)) (l:=s);omega
 have hsp:a0n L.env false (sem L.env Mf) (.func (.func 23) [] []) [.str s,.str [10]] [clO,some (.row 2 [[.int .i64 0,.int .i64 0]]),clN 0,some (.row 4 [[.nilslice,.nilslice,.nilslice,.int .i64 0]])]=some (.slice 4 0 (a00 10 s).length (some (a00 10 s).length),[clO,some (.row 2 [[.int .i64 0,.int .i64 0]]),clN 0,some (.row 4 [[.nilslice,.nilslice,.nilslice,.int .i64 0]]),some (.row 1 (sR (a00 10 s)))],[]):=a1v [clO,some (.row 2 [[.int .i64 0,.int .i64 0]]),clN 0,some (.row 4 [[.nilslice,.nilslice,.nilslice,.int .i64 0]])] s 10 hl;have hLf:=a14 (a00 10 s);have hLl:=b7h (a00 10 s);have hL1:=λπ=>a02 π hLf;have hL2:=a01 hLf;have hget:∀i w,(a00 10 s)[i]?=some w→(sR (a00 10 s))[i]?=some [AV.str w]:=λi w h=>b2d h;generalize hlines:a00 10 s=lines at *;generalize sR lines=LR at *;generalize hnl:lines.length=nl at *;unfold b4s;simp only[Tryz.f19,gS];unfold rdF
 (repeat first|simp only[ww]|(apply xa;simp+decide only[go_sem,hsp];rfl;kernel_rfl))
 refine a0i (σ:=Nat×Rd) kp19_0 (λq=>[(2,.ptr 0 0 0),(3,.ptr 1 0 0),(4,.ptr 2 0 0),(5,.ptr 3 0 0),(17,.slice (3+(a26 q.2).length) 0 nl (some nl)),(18,.int .i64 nl),(19,.int .i64 (q.1:Nat))]) (λq=>[clO,some (.row 2 [[.int .i64 0,.int .i64 0]]),clN (q.1:Nat)]++a26 q.2++[some (.row 1 LR)]) (λq=>nl-q.1) (λq=>q.1≤nl∧RdWf q.2∧a5g q.2 (lines.drop q.1)=some rf) (0,⟨[],[],[],0⟩) ?_ ⟨Nat.zero_le _,d9i,hread⟩ ?_
 ·(simp+decide only[go_sem,a08,a03,hL1,hL2]<;>rfl)
 ·rintro⟨i,r⟩ ⟨hi,hw,hall⟩
  simp only at hi hw hall⊢;by_cases hlt:i<nl
  ·have l1:(i:Int)<nl:=by omega
   obtain⟨si,hsi⟩:∃si,lines[i]?=some si:=⟨_,z9e (by omega)⟩
   have hg:=hget i si hsi;have hdr:lines.drop i=si::lines.drop (i+1):=by obtain⟨hh,he⟩:=List.getElem?_eq_some_iff.1 hsi;rw[←he];exact List.drop_eq_getElem_cons hh
   rw[hdr]at hall;unfold a5g at hall;split at hall
   case h_2=>cases hall
   rename_i r1 hr1;have hwi:IntKind.i64.wrap ((i:Int)+1)=((i+1:Nat):Int):=by rw[w64 (by omega) (by omega)];omega
   obtain⟨H',σ,c1,c2,c3,c4,c5⟩:=d0j 3 ([clO,some (.row 2 [[.int .i64 0,.int .i64 0]]),clN ((i+1:Nat):Int)]++a26 r++[some (.row 1 LR)]) 3 r r1 si hw hr1 (d03 r _ _ _ _) (by decide);have p0:a05 H' 0=clO:=c4 0 (by simp<;>omega) (by decide);have p1:a05 H' 1=some (.row 2 [[.int .i64 0,.int .i64 0]]):=c4 1 (by simp<;>omega) (by decide);have p2:a05 H' 2=clN ((i+1:Nat):Int):=c4 2 (by simp<;>omega) (by decide);have pl:a05 H' (3+(a26 r).length)=some (.row 1 LR):=by
    have hx:a05 ([clO,some (.row 2 [[.int .i64 0,.int .i64 0]]),clN ((i+1:Nat):Int)]++a26 r++[some (.row 1 LR)]) (3+(a26 r).length)=some (.row 1 LR):=by unfold a05;rw[List.getElem?_append_right (by simp;omega)];simp[show 3+(a26 r).length-((a26 r).length+1+1+1)=0 by omega]
    exact(c5 _ LR hx).trans hx
   have hgc:=λ(F0:Frm) hF0=>d9w H' r1 (3+(a26 r).length) nl (i+1) ((i+1:Nat):Int) LR hLf p0 p1 p2 c2 pl (by omega) (F0:=F0) hF0;have hw1:RdWf r1:=by
    unfold a9f at hr1;split at hr1
    ·exact d4k hr1 hw
    ·cases hr1
   have hinv:(i+1,r1).1≤nl∧RdWf (i+1,r1).2∧a5g (i+1,r1).2 (lines.drop (i+1,r1).1)=some rf:=⟨by simp only;omega,hw1,hall⟩
   rcases b9s r with ⟨o0,e⟩|⟨o0,o1,e⟩|⟨o0,o1,o2,e⟩|⟨o0,o1,o2,o3,e⟩
   ·rw[e]at c1 hgc⊢;simp only[List.cons_append,List.nil_append,List.length_cons,List.length_nil]at c1 hgc⊢
    (repeat first|simp only[ww]|(apply xa;simp+decide only[go_sem,l1,hlt,hg,hLl,hwi,c1];rfl;kernel_rfl))
    refine a1s (i+1,r1) ?_ (by simp only;omega) hinv;rw[a08];exact hgc _ rfl
   ·rw[e]at c1 hgc⊢;simp only[List.cons_append,List.nil_append,List.length_cons,List.length_nil]at c1 hgc⊢
    (repeat first|simp only[ww]|(apply xa;simp+decide only[go_sem,l1,hlt,hg,hLl,hwi,c1];rfl;kernel_rfl))
    refine a1s (i+1,r1) ?_ (by simp only;omega) hinv;rw[a08];exact hgc _ rfl
   ·rw[e]at c1 hgc⊢;simp only[List.cons_append,List.nil_append,List.length_cons,List.length_nil]at c1 hgc⊢
    (repeat first|simp only[ww]|(apply xa;simp+decide only[go_sem,l1,hlt,hg,hLl,hwi,c1];rfl;kernel_rfl))
    refine a1s (i+1,r1) ?_ (by simp only;omega) hinv;rw[a08];exact hgc _ rfl
   ·rw[e]at c1 hgc⊢;simp only[List.cons_append,List.nil_append,List.length_cons,List.length_nil]at c1 hgc⊢
    (repeat first|simp only[ww]|(apply xa;simp+decide only[go_sem,l1,hlt,hg,hLl,hwi,c1];rfl;kernel_rfl))
    refine a1s (i+1,r1) ?_ (by simp only;omega) hinv;rw[a08];exact hgc _ rfl
  ·obtain rfl:i=nl:=by omega
   have l1:¬(i:Int)<i:=by omega
   have hre:r=rf:=by rw[List.drop_of_length_le (by omega)]at hall;unfold a5g at hall;exact z9o hall
   subst hre;have S1:=λπ=>a02 π (a0t r.S);have T1:=λπ=>a02 π (a0g r.T);have V1:=λπ=>a02 π (a0c r.V);have S3:=λq d=>a13 q d (a0t r.S);have T3:=λq d=>a13 q d (a0g r.T);have V3:=λq d=>a13 q d (a0c r.V);have fS:=a0t r.S;have fT:=a0g r.T;have fV:=a0c r.V;have hrv:b6a r = .tuple [.agg [clA (r.S.map Sg.enc),clA (r.T.map Tm.enc),clA (r.V.map Vc.enc)],.agg [.int .i64 0,.int .i64 0]]:=rfl;rw[hrv];have b94:Nat.beq 94 82=false:=by decide
   by_cases hS0:r.S.map Sg.enc=[]<;>by_cases hT0:r.T.map Tm.enc=[]<;>by_cases hV0:r.V.map Vc.enc=[]
   ·have hcan:a26 r=[some (.row 4 [[.nilslice,.nilslice,.nilslice,.int .i64 r.sum]])]:=by
     unfold a26;rw[hS0,a0a,a0b,hT0,a0a,a0b,hV0,a0a,a0b];rfl
    rw[hcan];simp only[List.cons_append,List.nil_append,List.length_cons,List.length_nil];have kS:∀d H,a0n L.env d (sem L.env Mf) (.func (.func 42) [] []) [.nilslice] H=some (.nilslice,H,[]):=λd H=>a0h (by kernel_rfl) (by kernel_rfl) rfl rfl a9b rfl;have kT:∀d H,a0n L.env d (sem L.env Mf) (.func (.func 43) [] []) [.nilslice] H=some (.nilslice,H,[]):=λd H=>a0h (by kernel_rfl) (by kernel_rfl) rfl rfl a97 rfl;have kV:∀d H,a0n L.env d (sem L.env Mf) (.func (.func 44) [] []) [.nilslice] H=some (.nilslice,H,[]):=λd H=>a0h (by kernel_rfl) (by kernel_rfl) rfl rfl a91 rfl;rw[hS0,a4x,hT0,a4x,hV0,a4x]
    (repeat first|simp only[ww]|(apply xa;simp+decide only[go_sem,l1,kS,kT,kV];rfl;kernel_rfl))
    refine⟨trivial,rfl,rfl,_,by(simp+decide only[go_sem]<;>rfl),?_⟩;simp+decide only[go_sem,S1,T1,V1,S3,T3,V3]<;>rfl
   ·have hcan:a26 r=[some (.row 4 [[.nilslice,.nilslice,.slice 4 0 (r.V.map Vc.enc).length none,.int .i64 r.sum]]),some (.row 3 (r.V.map Vc.enc))]:=by
     unfold a26;rw[hS0,a0a,a0b,hT0,a0a,a0b,a0e _ hV0,a0j _ hV0];rfl
    rw[hcan];simp only[List.cons_append,List.nil_append,List.length_cons,List.length_nil];have kS:∀d H,a0n L.env d (sem L.env Mf) (.func (.func 42) [] []) [.nilslice] H=some (.nilslice,H,[]):=λd H=>a0h (by kernel_rfl) (by kernel_rfl) rfl rfl a9b rfl;have kT:∀d H,a0n L.env d (sem L.env Mf) (.func (.func 43) [] []) [.nilslice] H=some (.nilslice,H,[]):=λd H=>a0h (by kernel_rfl) (by kernel_rfl) rfl rfl a97 rfl;have kV:∀d,a0n L.env d (sem L.env Mf) (.func (.func 44) [] []) [.slice 4 0 (r.V.map Vc.enc).length none] [clO,some (.row 2 [[.int .i64 0,.int .i64 0]]),clN (i:Nat),some (.row 4 [[.nilslice,.nilslice,.slice 4 0 (r.V.map Vc.enc).length none,.int .i64 r.sum]]),some (.row 3 (r.V.map Vc.enc)),some (.row 1 LR)]=some (.slice 4 0 (r.V.map Vc.enc).length (some (r.V.map Vc.enc).length),[clO,some (.row 2 [[.int .i64 0,.int .i64 0]]),clN (i:Nat),some (.row 4 [[.nilslice,.nilslice,.slice 4 0 (r.V.map Vc.enc).length none,.int .i64 r.sum]]),some (.row 3 (r.V.map Vc.enc)),some (.row 1 LR)],[4]):=λd=>a10 (by kernel_rfl) (by kernel_rfl) rfl (b:=4) (o:=.row 3 (r.V.map Vc.enc)) (o':=.row 3 (r.V.map Vc.enc)) rfl (a0p fV) (FlatO.row fV) rfl rfl (b5u _ _ rfl fV) (FlatO.row fV) rfl;rw[hS0,a4x,hT0,a4x,a71 hV0];have tV:(r.V.map Vc.enc).take (r.V.map Vc.enc).length=r.V.map Vc.enc:=List.take_of_length_le (Nat.le_refl _);generalize r.V.map Vc.enc=RV at *
    (repeat first|simp only[ww]|(apply xa;simp+decide only[go_sem,l1,kS,kT,kV];rfl;kernel_rfl))
    refine⟨trivial,rfl,rfl,_,by(simp+decide only[go_sem]<;>rfl),?_⟩;simp+decide only[go_sem,S1,T1,V1,S3,T3,V3,tV]<;>rfl
   ·have hcan:a26 r=[some (.row 4 [[.nilslice,.slice 4 0 (r.T.map Tm.enc).length none,.nilslice,.int .i64 r.sum]]),some (.row 6 (r.T.map Tm.enc))]:=by
     unfold a26;rw[hS0,a0a,a0b,a0e _ hT0,a0j _ hT0,hV0,a0a,a0b];rfl
    rw[hcan];simp only[List.cons_append,List.nil_append,List.length_cons,List.length_nil];have kS:∀d H,a0n L.env d (sem L.env Mf) (.func (.func 42) [] []) [.nilslice] H=some (.nilslice,H,[]):=λd H=>a0h (by kernel_rfl) (by kernel_rfl) rfl rfl a9b rfl;have kT:∀d,a0n L.env d (sem L.env Mf) (.func (.func 43) [] []) [.slice 4 0 (r.T.map Tm.enc).length none] [clO,some (.row 2 [[.int .i64 0,.int .i64 0]]),clN (i:Nat),some (.row 4 [[.nilslice,.slice 4 0 (r.T.map Tm.enc).length none,.nilslice,.int .i64 r.sum]]),some (.row 6 (r.T.map Tm.enc)),some (.row 1 LR)]=some (.slice 4 0 (r.T.map Tm.enc).length (some (r.T.map Tm.enc).length),[clO,some (.row 2 [[.int .i64 0,.int .i64 0]]),clN (i:Nat),some (.row 4 [[.nilslice,.slice 4 0 (r.T.map Tm.enc).length none,.nilslice,.int .i64 r.sum]]),some (.row 6 (r.T.map Tm.enc)),some (.row 1 LR)],[4]):=λd=>a10 (by kernel_rfl) (by kernel_rfl) rfl (b:=4) (o:=.row 6 (r.T.map Tm.enc)) (o':=.row 6 (r.T.map Tm.enc)) rfl (a0p fT) (FlatO.row fT) rfl rfl (b5y _ _ rfl fT) (FlatO.row fT) rfl;have kV:∀d H,a0n L.env d (sem L.env Mf) (.func (.func 44) [] []) [.nilslice] H=some (.nilslice,H,[]):=λd H=>a0h (by kernel_rfl) (by kernel_rfl) rfl rfl a91 rfl;rw[hS0,a4x,a71 hT0,hV0,a4x];have tT:(r.T.map Tm.enc).take (r.T.map Tm.enc).length=r.T.map Tm.enc:=List.take_of_length_le (Nat.le_refl _);generalize r.T.map Tm.enc=RT at *
    (repeat first|simp only[ww]|(apply xa;simp+decide only[go_sem,l1,kS,kT,kV];rfl;kernel_rfl))
    refine⟨trivial,rfl,rfl,_,by(simp+decide only[go_sem]<;>rfl),?_⟩;simp+decide only[go_sem,S1,T1,V1,S3,T3,V3,tT]<;>rfl
   ·have hcan:a26 r=[some (.row 4 [[.nilslice,.slice 4 0 (r.T.map Tm.enc).length none,.slice 5 0 (r.V.map Vc.enc).length none,.int .i64 r.sum]]),some (.row 6 (r.T.map Tm.enc)),some (.row 3 (r.V.map Vc.enc))]:=by
     unfold a26;rw[hS0,a0a,a0b,a0e _ hT0,a0j _ hT0,a0e _ hV0,a0j _ hV0];rfl
    rw[hcan];simp only[List.cons_append,List.nil_append,List.length_cons,List.length_nil];have kS:∀d H,a0n L.env d (sem L.env Mf) (.func (.func 42) [] []) [.nilslice] H=some (.nilslice,H,[]):=λd H=>a0h (by kernel_rfl) (by kernel_rfl) rfl rfl a9b rfl;have kT:∀d,a0n L.env d (sem L.env Mf) (.func (.func 43) [] []) [.slice 4 0 (r.T.map Tm.enc).length none] [clO,some (.row 2 [[.int .i64 0,.int .i64 0]]),clN (i:Nat),some (.row 4 [[.nilslice,.slice 4 0 (r.T.map Tm.enc).length none,.slice 5 0 (r.V.map Vc.enc).length none,.int .i64 r.sum]]),some (.row 6 (r.T.map Tm.enc)),some (.row 3 (r.V.map Vc.enc)),some (.row 1 LR)]=some (.slice 4 0 (r.T.map Tm.enc).length (some (r.T.map Tm.enc).length),[clO,some (.row 2 [[.int .i64 0,.int .i64 0]]),clN (i:Nat),some (.row 4 [[.nilslice,.slice 4 0 (r.T.map Tm.enc).length none,.slice 5 0 (r.V.map Vc.enc).length none,.int .i64 r.sum]]),some (.row 6 (r.T.map Tm.enc)),some (.row 3 (r.V.map Vc.enc)),some (.row 1 LR)],[4]):=λd=>a10 (by kernel_rfl) (by kernel_rfl) rfl (b:=4) (o:=.row 6 (r.T.map Tm.enc)) (o':=.row 6 (r.T.map Tm.enc)) rfl (a0p fT) (FlatO.row fT) rfl rfl (b5y _ _ rfl fT) (FlatO.row fT) rfl;have kV:∀d,a0n L.env d (sem L.env Mf) (.func (.func 44) [] []) [.slice 5 0 (r.V.map Vc.enc).length none] [clO,some (.row 2 [[.int .i64 0,.int .i64 0]]),clN (i:Nat),some (.row 4 [[.nilslice,.slice 4 0 (r.T.map Tm.enc).length none,.slice 5 0 (r.V.map Vc.enc).length none,.int .i64 r.sum]]),some (.row 6 (r.T.map Tm.enc)),some (.row 3 (r.V.map Vc.enc)),some (.row 1 LR)]=some (.slice 5 0 (r.V.map Vc.enc).length (some (r.V.map Vc.enc).length),[clO,some (.row 2 [[.int .i64 0,.int .i64 0]]),clN (i:Nat),some (.row 4 [[.nilslice,.slice 4 0 (r.T.map Tm.enc).length none,.slice 5 0 (r.V.map Vc.enc).length none,.int .i64 r.sum]]),some (.row 6 (r.T.map Tm.enc)),some (.row 3 (r.V.map Vc.enc)),some (.row 1 LR)],[5]):=λd=>a10 (by kernel_rfl) (by kernel_rfl) rfl (b:=5) (o:=.row 3 (r.V.map Vc.enc)) (o':=.row 3 (r.V.map Vc.enc)) rfl (a0p fV) (FlatO.row fV) rfl rfl (b5u _ _ rfl fV) (FlatO.row fV) rfl;rw[hS0,a4x,a71 hT0,a71 hV0];have tT:(r.T.map Tm.enc).take (r.T.map Tm.enc).length=r.T.map Tm.enc:=List.take_of_length_le (Nat.le_refl _);have tV:(r.V.map Vc.enc).take (r.V.map Vc.enc).length=r.V.map Vc.enc:=List.take_of_length_le (Nat.le_refl _);generalize r.T.map Tm.enc=RT at *;generalize r.V.map Vc.enc=RV at *
    (repeat first|simp only[ww]|(apply xa;simp+decide only[go_sem,l1,kS,kT,kV];rfl;kernel_rfl))
    refine⟨trivial,rfl,rfl,_,by(simp+decide only[go_sem]<;>rfl),?_⟩;simp+decide only[go_sem,S1,T1,V1,S3,T3,V3,tT,tV]<;>rfl
   ·have hcan:a26 r=[some (.row 4 [[.slice 4 0 (r.S.map Sg.enc).length none,.nilslice,.nilslice,.int .i64 r.sum]]),some (.row 2 (r.S.map Sg.enc))]:=by
     unfold a26;rw[a0e _ hS0,a0j _ hS0,hT0,a0a,a0b,hV0,a0a,a0b];rfl
    rw[hcan];simp only[List.cons_append,List.nil_append,List.length_cons,List.length_nil];have kS:∀d,a0n L.env d (sem L.env Mf) (.func (.func 42) [] []) [.slice 4 0 (r.S.map Sg.enc).length none] [clO,some (.row 2 [[.int .i64 0,.int .i64 0]]),clN (i:Nat),some (.row 4 [[.slice 4 0 (r.S.map Sg.enc).length none,.nilslice,.nilslice,.int .i64 r.sum]]),some (.row 2 (r.S.map Sg.enc)),some (.row 1 LR)]=some (.slice 4 0 (r.S.map Sg.enc).length (some (r.S.map Sg.enc).length),[clO,some (.row 2 [[.int .i64 0,.int .i64 0]]),clN (i:Nat),some (.row 4 [[.slice 4 0 (r.S.map Sg.enc).length none,.nilslice,.nilslice,.int .i64 r.sum]]),some (.row 2 (r.S.map Sg.enc)),some (.row 1 LR)],[4]):=λd=>a10 (by kernel_rfl) (by kernel_rfl) rfl (b:=4) (o:=.row 2 (r.S.map Sg.enc)) (o':=.row 2 (r.S.map Sg.enc)) rfl (a0p fS) (FlatO.row fS) rfl rfl (b62 _ _ rfl fS) (FlatO.row fS) rfl;have kT:∀d H,a0n L.env d (sem L.env Mf) (.func (.func 43) [] []) [.nilslice] H=some (.nilslice,H,[]):=λd H=>a0h (by kernel_rfl) (by kernel_rfl) rfl rfl a97 rfl;have kV:∀d H,a0n L.env d (sem L.env Mf) (.func (.func 44) [] []) [.nilslice] H=some (.nilslice,H,[]):=λd H=>a0h (by kernel_rfl) (by kernel_rfl) rfl rfl a91 rfl;rw[a71 hS0,hT0,a4x,hV0,a4x];have tS:(r.S.map Sg.enc).take (r.S.map Sg.enc).length=r.S.map Sg.enc:=List.take_of_length_le (Nat.le_refl _);generalize r.S.map Sg.enc=RS at *
    (repeat first|simp only[ww]|(apply xa;simp+decide only[go_sem,l1,kS,kT,kV];rfl;kernel_rfl))
    refine⟨trivial,rfl,rfl,_,by(simp+decide only[go_sem]<;>rfl),?_⟩;simp+decide only[go_sem,S1,T1,V1,S3,T3,V3,tS]<;>rfl
   ·have hcan:a26 r=[some (.row 4 [[.slice 4 0 (r.S.map Sg.enc).length none,.nilslice,.slice 5 0 (r.V.map Vc.enc).length none,.int .i64 r.sum]]),some (.row 2 (r.S.map Sg.enc)),some (.row 3 (r.V.map Vc.enc))]:=by
     unfold a26;rw[a0e _ hS0,a0j _ hS0,hT0,a0a,a0b,a0e _ hV0,a0j _ hV0];rfl
    rw[hcan];simp only[List.cons_append,List.nil_append,List.length_cons,List.length_nil];have kS:∀d,a0n L.env d (sem L.env Mf) (.func (.func 42) [] []) [.slice 4 0 (r.S.map Sg.enc).length none] [clO,some (.row 2 [[.int .i64 0,.int .i64 0]]),clN (i:Nat),some (.row 4 [[.slice 4 0 (r.S.map Sg.enc).length none,.nilslice,.slice 5 0 (r.V.map Vc.enc).length none,.int .i64 r.sum]]),some (.row 2 (r.S.map Sg.enc)),some (.row 3 (r.V.map Vc.enc)),some (.row 1 LR)]=some (.slice 4 0 (r.S.map Sg.enc).length (some (r.S.map Sg.enc).length),[clO,some (.row 2 [[.int .i64 0,.int .i64 0]]),clN (i:Nat),some (.row 4 [[.slice 4 0 (r.S.map Sg.enc).length none,.nilslice,.slice 5 0 (r.V.map Vc.enc).length none,.int .i64 r.sum]]),some (.row 2 (r.S.map Sg.enc)),some (.row 3 (r.V.map Vc.enc)),some (.row 1 LR)],[4]):=λd=>a10 (by kernel_rfl) (by kernel_rfl) rfl (b:=4) (o:=.row 2 (r.S.map Sg.enc)) (o':=.row 2 (r.S.map Sg.enc)) rfl (a0p fS) (FlatO.row fS) rfl rfl (b62 _ _ rfl fS) (FlatO.row fS) rfl;have kT:∀d H,a0n L.env d (sem L.env Mf) (.func (.func 43) [] []) [.nilslice] H=some (.nilslice,H,[]):=λd H=>a0h (by kernel_rfl) (by kernel_rfl) rfl rfl a97 rfl;have kV:∀d,a0n L.env d (sem L.env Mf) (.func (.func 44) [] []) [.slice 5 0 (r.V.map Vc.enc).length none] [clO,some (.row 2 [[.int .i64 0,.int .i64 0]]),clN (i:Nat),some (.row 4 [[.slice 4 0 (r.S.map Sg.enc).length none,.nilslice,.slice 5 0 (r.V.map Vc.enc).length none,.int .i64 r.sum]]),some (.row 2 (r.S.map Sg.enc)),some (.row 3 (r.V.map Vc.enc)),some (.row 1 LR)]=some (.slice 5 0 (r.V.map Vc.enc).length (some (r.V.map Vc.enc).length),[clO,some (.row 2 [[.int .i64 0,.int .i64 0]]),clN (i:Nat),some (.row 4 [[.slice 4 0 (r.S.map Sg.enc).length none,.nilslice,.slice 5 0 (r.V.map Vc.enc).length none,.int .i64 r.sum]]),some (.row 2 (r.S.map Sg.enc)),some (.row 3 (r.V.map Vc.enc)),some (.row 1 LR)],[5]):=λd=>a10 (by kernel_rfl) (by kernel_rfl) rfl (b:=5) (o:=.row 3 (r.V.map Vc.enc)) (o':=.row 3 (r.V.map Vc.enc)) rfl (a0p fV) (FlatO.row fV) rfl rfl (b5u _ _ rfl fV) (FlatO.row fV) rfl;rw[a71 hS0,hT0,a4x,a71 hV0];have tS:(r.S.map Sg.enc).take (r.S.map Sg.enc).length=r.S.map Sg.enc:=List.take_of_length_le (Nat.le_refl _);have tV:(r.V.map Vc.enc).take (r.V.map Vc.enc).length=r.V.map Vc.enc:=List.take_of_length_le (Nat.le_refl _);generalize r.S.map Sg.enc=RS at *;generalize r.V.map Vc.enc=RV at *
    (repeat first|simp only[ww]|(apply xa;simp+decide only[go_sem,l1,kS,kT,kV];rfl;kernel_rfl))
    refine⟨trivial,rfl,rfl,_,by(simp+decide only[go_sem]<;>rfl),?_⟩;simp+decide only[go_sem,S1,T1,V1,S3,T3,V3,tS,tV]<;>rfl
   ·have hcan:a26 r=[some (.row 4 [[.slice 4 0 (r.S.map Sg.enc).length none,.slice 5 0 (r.T.map Tm.enc).length none,.nilslice,.int .i64 r.sum]]),some (.row 2 (r.S.map Sg.enc)),some (.row 6 (r.T.map Tm.enc))]:=by
     unfold a26;rw[a0e _ hS0,a0j _ hS0,a0e _ hT0,a0j _ hT0,hV0,a0a,a0b];rfl
    rw[hcan];simp only[List.cons_append,List.nil_append,List.length_cons,List.length_nil];have kS:∀d,a0n L.env d (sem L.env Mf) (.func (.func 42) [] []) [.slice 4 0 (r.S.map Sg.enc).length none] [clO,some (.row 2 [[.int .i64 0,.int .i64 0]]),clN (i:Nat),some (.row 4 [[.slice 4 0 (r.S.map Sg.enc).length none,.slice 5 0 (r.T.map Tm.enc).length none,.nilslice,.int .i64 r.sum]]),some (.row 2 (r.S.map Sg.enc)),some (.row 6 (r.T.map Tm.enc)),some (.row 1 LR)]=some (.slice 4 0 (r.S.map Sg.enc).length (some (r.S.map Sg.enc).length),[clO,some (.row 2 [[.int .i64 0,.int .i64 0]]),clN (i:Nat),some (.row 4 [[.slice 4 0 (r.S.map Sg.enc).length none,.slice 5 0 (r.T.map Tm.enc).length none,.nilslice,.int .i64 r.sum]]),some (.row 2 (r.S.map Sg.enc)),some (.row 6 (r.T.map Tm.enc)),some (.row 1 LR)],[4]):=λd=>a10 (by kernel_rfl) (by kernel_rfl) rfl (b:=4) (o:=.row 2 (r.S.map Sg.enc)) (o':=.row 2 (r.S.map Sg.enc)) rfl (a0p fS) (FlatO.row fS) rfl rfl (b62 _ _ rfl fS) (FlatO.row fS) rfl;have kT:∀d,a0n L.env d (sem L.env Mf) (.func (.func 43) [] []) [.slice 5 0 (r.T.map Tm.enc).length none] [clO,some (.row 2 [[.int .i64 0,.int .i64 0]]),clN (i:Nat),some (.row 4 [[.slice 4 0 (r.S.map Sg.enc).length none,.slice 5 0 (r.T.map Tm.enc).length none,.nilslice,.int .i64 r.sum]]),some (.row 2 (r.S.map Sg.enc)),some (.row 6 (r.T.map Tm.enc)),some (.row 1 LR)]=some (.slice 5 0 (r.T.map Tm.enc).length (some (r.T.map Tm.enc).length),[clO,some (.row 2 [[.int .i64 0,.int .i64 0]]),clN (i:Nat),some (.row 4 [[.slice 4 0 (r.S.map Sg.enc).length none,.slice 5 0 (r.T.map Tm.enc).length none,.nilslice,.int .i64 r.sum]]),some (.row 2 (r.S.map Sg.enc)),some (.row 6 (r.T.map Tm.enc)),some (.row 1 LR)],[5]):=λd=>a10 (by kernel_rfl) (by kernel_rfl) rfl (b:=5) (o:=.row 6 (r.T.map Tm.enc)) (o':=.row 6 (r.T.map Tm.enc)) rfl (a0p fT) (FlatO.row fT) rfl rfl (b5y _ _ rfl fT) (FlatO.row fT) rfl;have kV:∀d H,a0n L.env d (sem L.env Mf) (.func (.func 44) [] []) [.nilslice] H=some (.nilslice,H,[]):=λd H=>a0h (by kernel_rfl) (by kernel_rfl) rfl rfl a91 rfl;rw[a71 hS0,a71 hT0,hV0,a4x];have tS:(r.S.map Sg.enc).take (r.S.map Sg.enc).length=r.S.map Sg.enc:=List.take_of_length_le (Nat.le_refl _);have tT:(r.T.map Tm.enc).take (r.T.map Tm.enc).length=r.T.map Tm.enc:=List.take_of_length_le (Nat.le_refl _);generalize r.S.map Sg.enc=RS at *;generalize r.T.map Tm.enc=RT at *
    (repeat first|simp only[ww]|(apply xa;simp+decide only[go_sem,l1,kS,kT,kV];rfl;kernel_rfl))
    refine⟨trivial,rfl,rfl,_,by(simp+decide only[go_sem]<;>rfl),?_⟩;simp+decide only[go_sem,S1,T1,V1,S3,T3,V3,tS,tT]<;>rfl
   ·have hcan:a26 r=[some (.row 4 [[.slice 4 0 (r.S.map Sg.enc).length none,.slice 5 0 (r.T.map Tm.enc).length none,.slice 6 0 (r.V.map Vc.enc).length none,.int .i64 r.sum]]),some (.row 2 (r.S.map Sg.enc)),some (.row 6 (r.T.map Tm.enc)),some (.row 3 (r.V.map Vc.enc))]:=by
     unfold a26;rw[a0e _ hS0,a0j _ hS0,a0e _ hT0,a0j _ hT0,a0e _ hV0,a0j _ hV0];rfl
    rw[hcan];simp only[List.cons_append,List.nil_append,List.length_cons,List.length_nil];have kS:∀d,a0n L.env d (sem L.env Mf) (.func (.func 42) [] []) [.slice 4 0 (r.S.map Sg.enc).length none] [clO,some (.row 2 [[.int .i64 0,.int .i64 0]]),clN (i:Nat),some (.row 4 [[.slice 4 0 (r.S.map Sg.enc).length none,.slice 5 0 (r.T.map Tm.enc).length none,.slice 6 0 (r.V.map Vc.enc).length none,.int .i64 r.sum]]),some (.row 2 (r.S.map Sg.enc)),some (.row 6 (r.T.map Tm.enc)),some (.row 3 (r.V.map Vc.enc)),some (.row 1 LR)]=some (.slice 4 0 (r.S.map Sg.enc).length (some (r.S.map Sg.enc).length),[clO,some (.row 2 [[.int .i64 0,.int .i64 0]]),clN (i:Nat),some (.row 4 [[.slice 4 0 (r.S.map Sg.enc).length none,.slice 5 0 (r.T.map Tm.enc).length none,.slice 6 0 (r.V.map Vc.enc).length none,.int .i64 r.sum]]),some (.row 2 (r.S.map Sg.enc)),some (.row 6 (r.T.map Tm.enc)),some (.row 3 (r.V.map Vc.enc)),some (.row 1 LR)],[4]):=λd=>a10 (by kernel_rfl) (by kernel_rfl) rfl (b:=4) (o:=.row 2 (r.S.map Sg.enc)) (o':=.row 2 (r.S.map Sg.enc)) rfl (a0p fS) (FlatO.row fS) rfl rfl (b62 _ _ rfl fS) (FlatO.row fS) rfl;have kT:∀d,a0n L.env d (sem L.env Mf) (.func (.func 43) [] []) [.slice 5 0 (r.T.map Tm.enc).length none] [clO,some (.row 2 [[.int .i64 0,.int .i64 0]]),clN (i:Nat),some (.row 4 [[.slice 4 0 (r.S.map Sg.enc).length none,.slice 5 0 (r.T.map Tm.enc).length none,.slice 6 0 (r.V.map Vc.enc).length none,.int .i64 r.sum]]),some (.row 2 (r.S.map Sg.enc)),some (.row 6 (r.T.map Tm.enc)),some (.row 3 (r.V.map Vc.enc)),some (.row 1 LR)]=some (.slice 5 0 (r.T.map Tm.enc).length (some (r.T.map Tm.enc).length),[clO,some (.row 2 [[.int .i64 0,.int .i64 0]]),clN (i:Nat),some (.row 4 [[.slice 4 0 (r.S.map Sg.enc).length none,.slice 5 0 (r.T.map Tm.enc).length none,.slice 6 0 (r.V.map Vc.enc).length none,.int .i64 r.sum]]),some (.row 2 (r.S.map Sg.enc)),some (.row 6 (r.T.map Tm.enc)),some (.row 3 (r.V.map Vc.enc)),some (.row 1 LR)],[5]):=λd=>a10 (by kernel_rfl) (by kernel_rfl) rfl (b:=5) (o:=.row 6 (r.T.map Tm.enc)) (o':=.row 6 (r.T.map Tm.enc)) rfl (a0p fT) (FlatO.row fT) rfl rfl (b5y _ _ rfl fT) (FlatO.row fT) rfl;have kV:∀d,a0n L.env d (sem L.env Mf) (.func (.func 44) [] []) [.slice 6 0 (r.V.map Vc.enc).length none] [clO,some (.row 2 [[.int .i64 0,.int .i64 0]]),clN (i:Nat),some (.row 4 [[.slice 4 0 (r.S.map Sg.enc).length none,.slice 5 0 (r.T.map Tm.enc).length none,.slice 6 0 (r.V.map Vc.enc).length none,.int .i64 r.sum]]),some (.row 2 (r.S.map Sg.enc)),some (.row 6 (r.T.map Tm.enc)),some (.row 3 (r.V.map Vc.enc)),some (.row 1 LR)]=some (.slice 6 0 (r.V.map Vc.enc).length (some (r.V.map Vc.enc).length),[clO,some (.row 2 [[.int .i64 0,.int .i64 0]]),clN (i:Nat),some (.row 4 [[.slice 4 0 (r.S.map Sg.enc).length none,.slice 5 0 (r.T.map Tm.enc).length none,.slice 6 0 (r.V.map Vc.enc).length none,.int .i64 r.sum]]),some (.row 2 (r.S.map Sg.enc)),some (.row 6 (r.T.map Tm.enc)),some (.row 3 (r.V.map Vc.enc)),some (.row 1 LR)],[6]):=λd=>a10 (by kernel_rfl) (by kernel_rfl) rfl (b:=6) (o:=.row 3 (r.V.map Vc.enc)) (o':=.row 3 (r.V.map Vc.enc)) rfl (a0p fV) (FlatO.row fV) rfl rfl (b5u _ _ rfl fV) (FlatO.row fV) rfl;rw[a71 hS0,a71 hT0,a71 hV0];have tS:(r.S.map Sg.enc).take (r.S.map Sg.enc).length=r.S.map Sg.enc:=List.take_of_length_le (Nat.le_refl _);have tT:(r.T.map Tm.enc).take (r.T.map Tm.enc).length=r.T.map Tm.enc:=List.take_of_length_le (Nat.le_refl _);have tV:(r.V.map Vc.enc).take (r.V.map Vc.enc).length=r.V.map Vc.enc:=List.take_of_length_le (Nat.le_refl _);generalize r.S.map Sg.enc=RS at *;generalize r.T.map Tm.enc=RT at *;generalize r.V.map Vc.enc=RV at *
    (repeat first|simp only[ww]|(apply xa;simp+decide only[go_sem,l1,kS,kT,kV];rfl;kernel_rfl))
    refine⟨trivial,rfl,rfl,_,by(simp+decide only[go_sem]<;>rfl),?_⟩;simp+decide only[go_sem,S1,T1,V1,S3,T3,V3,tS,tT,tV]<;>rfl
end Go.RInst
namespace Go.RInst
open Go.Proofs Go.Ax Go.Pc
variable [PR]
set_option maxRecDepth 100000
/-! ### a b95 that Write b9j is read back -/
theorem b06(c:UInt8):∀(u rest:List UInt8),(∀b∈u,b≠c)→a00 c (u++c::rest)=u::a00 c rest
 | [],rest,_=>by simp[a00]
 |b::u,rest,h=>by have hb:=h b (by simp);have ih:=b06 c u rest λx hx=>h x (by simp[hx]);rw[List.cons_append,a00,if_neg hb,ih]
theorem c35(c:UInt8)(u:List UInt8)(h:∀b∈u,b≠c):a00 c u=[u]:=b05 c u (List.count_eq_zero.2 λhm=>h c hm rfl)
theorem b4l(c:UInt8):∀(w:List UInt8) (ws:List (List UInt8)),(∀x∈w::ws,∀b∈x,b≠c)→a00 c (Lib.join (w::ws) [c])=w::ws
 |w,[],h=>by rw[Lib.join_one];exact c35 c w (h w (by simp))
 |w,v::ws,h=>by
  have ih:=b4l c v ws λx hx=>h x (by simp[List.mem_cons.1 hx]);have e:Lib.join (w::v::ws) [c]=w++c::Lib.join (v::ws) [c]:=by rw[Lib.join_cons,Lib.join_cons];simp[Lib.joinTail]
  rw[e,b06 c w _ (h w (by simp)),ih]
theorem b52(c:UInt8):∀(w:List UInt8) (ws:List (List UInt8)) (d:UInt8),d≠c→(∀x∈w::ws,∀b∈x,b≠c)→∀b∈Lib.join (w::ws) [d],b≠c
 |w,[],d,hd,h=>by rw[Lib.join_one];exact h w (by simp)
 |w,v::ws,d,hd,h=>by
  have ih:=b52 c v ws d hd λx hx=>h x (by simp[List.mem_cons.1 hx]);have e:Lib.join (w::v::ws) [d]=w++d::Lib.join (v::ws) [d]:=by rw[Lib.join_cons,Lib.join_cons];simp[Lib.joinTail]
  rw[e];intro b hb;rcases List.mem_append.1 hb with hb|hb
  ·exact h w (by simp) b hb
  ·rcases List.mem_cons.1 hb with rfl|hb
   ·exact hd
   ·exact ih b hb
def d4r(ws:List (List UInt8)):Prop:=∀w∈ws,w≠[]∧∀b∈w,b≠32∧b≠10
theorem c1n{w:List UInt8}{ws:List (List UInt8)}(h:d4r (w::ws)):a3w (a00 32 (Lib.join (w::ws) [32]))=w::ws:=by rw[b4l 32 w ws λx hx b hb=>((h x hx).2 b hb).1];exact b6s λx hx=>(h x hx).1
theorem c1g(r:Rd)(s:List UInt8)(l:List (List UInt8)):a5g r (s::l)=match a9f r s with
 |some r'=>a5g r' l
 |none=>none:=rfl
theorem b69(r:Rd)(w0:List UInt8)(tl:List (List UInt8)):rdW r (w0::tl)=if w0.head?=some 35 then some r else if w0=b3z then rdS r tl else if w0=a4u then rdT r tl else if w0=a8a then rdV r tl else none:=rfl
theorem d05(r:Rd)(nm d:List UInt8)(hc:(d=inK∨d=c3t)∧r.T=[]∧r.V=[]∧a4d nm=true∧nm∉r.S.map Sg.name∧r.S.length<256):rdS r [nm,d]=some ⟨r.S++[⟨nm,if d=c3t then 1 else 0⟩],r.T,r.V,r.sum⟩:=by unfold rdS;exact if_pos hc
theorem d04(r:Rd)(nm w0 w1 w2 w3 w4:List UInt8)(hc:r.V=[]∧(∀w∈[w0,w1,w2,w3,w4],NumOk w)∧a4r ⟨nm,a0d w0,a0d w1,a0d w2,a0d w3,a0d w4⟩=true∧nm∉r.T.map Tm.name∧r.T.length<16):rdT r [nm,w0,w1,w2,w3,w4]=some ⟨r.S,r.T++[⟨nm,a0d w0,a0d w1,a0d w2,a0d w3,a0d w4⟩],r.V,r.sum⟩:=by unfold rdT;exact if_pos hc
theorem b0e{r r':Rd}{w:List UInt8}{ws:List (List UInt8)}{rest:List UInt8}(h:d4r (w::ws))(hl:(lnT (w::ws)).length≤4096)(hr:rdW r (w::ws)=some r'):a5g r (a00 10 (lnT (w::ws)++rest))=a5g r' (a00 10 rest):=by
 have e:lnT (w::ws)++rest=Lib.join (w::ws) [32]++10::rest:=by simp[lnT]
 rw[e,b06 10 _ rest (b52 10 w ws 32 (by decide) λx hx b hb=>((h x hx).2 b hb).2)];have hll:(Lib.join (w::ws) [32]).length≤4096:=by simp only[lnT,List.length_append,List.length_singleton]at hl;omega
 have hln:a9f r (Lib.join (w::ws) [32])=some r':=by unfold a9f;rw[if_pos hll,c1n h,hr]
 rw[c1g,hln]
theorem c3m(r:Rd):a5g r (a00 10 [])=some r:=by have e:a3w (a00 32 [])=[]:=rfl;show a5g r [[]]=some r;unfold a5g a9f;rw[if_pos (by simp),e];rfl
/-! numbers -/
theorem d62:∀n:Nat,∀b∈Lib.decDigits n,d0q b:=by
 intro n
 induction n using Nat.strongRecOn with
 |_ n ih=>
  intro b hb;rw[Lib.decDigits]at hb;have key:∀k:Nat,k<10→48≤(UInt8.ofNat (48+k)).toNat∧(UInt8.ofNat (48+k)).toNat≤57:=by decide
  split at hb
  ·rename_i h;rw[List.mem_singleton.1 hb];exact key n h
  ·rename_i h;rcases List.mem_append.1 hb with hb|hb
   ·exact ih (n/10) (by omega) b hb
   ·rw[List.mem_singleton.1 hb];exact key _ (by omega)
theorem d61:∀n:Nat,a0d (Lib.decDigits n)=n:=by
 intro n
 induction n using Nat.strongRecOn with
 |_ n ih=>
  rw[Lib.decDigits];have key:∀k:Nat,k<10→(UInt8.ofNat (48+k)).toNat-48=k:=by decide
  split
  ·rename_i h;show 10*0+((UInt8.ofNat (48+n)).toNat-48)=n;rw[key n h];omega
  ·rename_i h;have e:a0d (Lib.decDigits (n/10)++[UInt8.ofNat (48+n%10)])=10*a0d (Lib.decDigits (n/10))+((UInt8.ofNat (48+n%10)).toNat-48):=by
    unfold a0d;rw[List.foldl_append];rfl
   rw[e,ih (n/10) (by omega),key _ (by omega)];omega
theorem d18:∀n:Nat,0<n→∃a,(Lib.decDigits n)[0]?=some a∧a.toNat≠48:=by
 intro n
 induction n using Nat.strongRecOn with
 |_ n ih=>
  intro h0;rw[Lib.decDigits];have key:∀k:Nat,k<10→0<k→(UInt8.ofNat (48+k)).toNat≠48:=by decide
  split
  ·rename_i h;exact⟨_,rfl,key n h h0⟩
  ·rename_i h;obtain⟨a,h1,h2⟩:=ih (n/10) (by omega) (by omega);exact⟨a,by rw[List.getElem?_append_left (List.getElem?_eq_some_iff.1 h1).1];exact h1,h2⟩
theorem d17(n:Nat):1≤(Lib.decDigits n).length:=by rw[Lib.decDigits];split<;>simp
theorem a86(n:Int)(h0:0≤n)(h1:n≤1000000):NumOk (Lib.itoa n)∧((a0d (Lib.itoa n):Nat):Int)=n:=by
 have hl:=a6l n h0 h1;have e:Lib.itoa n=Lib.decDigits n.toNat:=by unfold Lib.itoa;rw[if_neg (by omega)]
 rw[e]at hl⊢;refine⟨⟨d17 _,hl,?_,d62 _⟩,by rw[d61];omega⟩;by_cases hz:n.toNat=0
 ·left;rw[hz,Lib.decDigits,dif_pos (by decide)];rfl
 ·right;exact d18 _ (by omega)
theorem a85(w:List UInt8)(h:NumOk w):w≠[]∧∀b∈w,b≠32∧b≠10:=by refine⟨λe=>by have:=h.l1;rw[e]at this;simp at this,λb hb=>?_⟩;have hd:=h.d b hb;constructor<;>(intro e;subst e;have:=hd.1;simp at this)
theorem b2m{w:List UInt8}(h:a4d w=true):w≠[]∧∀b∈w,b≠32∧b≠10:=by
 cases w with
 |nil=>cases h
 |cons a r=>refine⟨by simp,λb hb=>?_⟩;simp only[a4d,Bool.and_eq_true,decide_eq_true_eq]at h;have hc:=List.all_eq_true.1 h.2.2 b hb;simp only[b1j,Bool.and_eq_true,decide_eq_true_eq]at hc;constructor<;>(intro e;subst e;have:=hc.1;simp at this)
theorem c22{S:List Sg}{cs:List UInt8}(h:a2b S cs=true):∀b∈cs,b≠32∧b≠10∧b≠45:=by
 intro b hb;obtain⟨i,hi⟩:=List.getElem?_of_mem hb;have hl:=a4p S cs h;have hlt:=(List.getElem?_eq_some_iff.1 hi).1;obtain⟨s,hs⟩:∃s,S[i]?=some s:=⟨_,z9e (by omega)⟩
 have hk:=a9t S cs h i s b hs hi;have key:∀x:UInt8,((a25 s.dir).contains x=true)→x≠32∧x≠10∧x≠45:=by
  intro x hx;unfold a25 at hx;split at hx
  ·rw[List.contains_iff_mem]at hx;simp only[List.mem_cons,List.not_mem_nil,or_false]at hx;rcases hx with rfl|rfl|rfl<;>decide
  ·rw[List.contains_iff_mem]at hx;simp only[List.mem_cons,List.not_mem_nil,or_false]at hx;rcases hx with rfl|rfl|rfl|rfl<;>decide
 exact key b hk
theorem c8r:∀(l:List (List UInt8)) (i:Nat) (n:List UInt8),l.Nodup→l[i]?=some n→fnd n l=i
 | [],i,n,_,h=>by simp at h
 |a::l,0,n,_,h=>by
  have:a=n:=by simpa using h
  unfold fnd;rw[if_pos this];rfl
 |a::l,i+1,n,hd,h=>by
  have h:l[i]?=some n:=by simpa using h
  have hd:=List.nodup_cons.1 hd;have ih:=c8r l i n hd.2 h;have hne:¬a=n:=λe=>hd.1 (by rw[e];exact List.mem_of_getElem? h);unfold fnd;rw[if_neg hne,ih,if_neg (by omega)];rfl
/-! the three kinds of lines -/
theorem c3v{α:Type}{f:α→List UInt8}{l:List α}{i:Nat}{x:α}(hd:(l.map f).Nodup)(h:l[i]?=some x):f x∉(l.take i).map f:=by
 intro hm;obtain⟨y,hy,e⟩:=List.mem_map.1 hm;obtain⟨j,hj⟩:=List.getElem?_of_mem hy;have hji:j<i:=by have:=(List.getElem?_eq_some_iff.1 hj).1;simp at this;omega
 rw[List.getElem?_take,if_pos hji]at hj;have h1:(l.map f)[j]?=some (f x):=by rw[List.getElem?_map,hj];simp[e]
 have h2:(l.map f)[i]?=some (f x):=by rw[List.getElem?_map,h];rfl
 obtain⟨a1,b1⟩:=List.getElem?_eq_some_iff.1 h1;obtain⟨a2,b2⟩:=List.getElem?_eq_some_iff.1 h2;exact List.pairwise_iff_getElem.1 hd j i a1 a2 hji (by rw[b1,b2])
section
variable {S:List Sg}{T:List Tm}{V:List Vc}(h:Valid S T V)
include h
theorem c90(rest:List UInt8):∀k,k≤S.length→a5g ⟨S.take (S.length-k),[],[],0⟩ (a00 10 ((S.drop (S.length-k)).flatMap (λs=>lnT (a6z s))++rest))=a5g ⟨S,[],[],0⟩ (a00 10 rest)
 |0,_=>by rw[Nat.sub_zero,List.drop_length,List.take_length];rfl
 |k+1,hk=>by
  obtain⟨s,hs⟩:∃s,S[S.length-(k+1)]?=some s:=⟨_,z9e (by omega)⟩
  have ih:=c90 rest k (by omega);have hd:S.drop (S.length-(k+1))=s::S.drop (S.length-k):=by obtain⟨hh,he⟩:=List.getElem?_eq_some_iff.1 hs;rw[List.drop_eq_getElem_cons hh,he,show S.length-(k+1)+1=S.length-k by omega]
  have hok:=h.sg s (List.mem_of_getElem? hs);have hl:=b1o hok;have hn:=c3v (f:=Sg.name) h.sn hs;have hS:=h.hS;simp only[a8k,Bool.and_eq_true,decide_eq_true_eq]at hok;have hst:rdW ⟨S.take (S.length-(k+1)),[],[],0⟩ (a6z s)=some ⟨S.take (S.length-k),[],[],0⟩:=by
   have ht:=a3y hs;rw[show S.length-(k+1)+1=S.length-k by omega]at ht;unfold a6z;rw[b69,if_neg (by decide),if_pos rfl];rw[d05 _ _ _ ⟨by split<;>simp,rfl,rfl,hok.1,hn,by simp only[List.length_take];omega⟩,ht];obtain⟨nm,dr⟩:=s;simp only at hok⊢;have hio:¬inK=c3t:=by decide
   rcases(show dr=0∨dr=1 by omega)with rfl|rfl
   ·rw[if_neg (show ¬(0:Nat)=1 by decide),if_neg hio]
   ·rw[if_pos rfl,if_pos rfl]
  have hw:d4r (a6z s):=by
   intro w hw;simp only[a6z,List.mem_cons,List.not_mem_nil,or_false]at hw;rcases hw with rfl|rfl|rfl
   ·exact⟨by decide,by decide⟩
   ·exact b2m hok.1
   ·split<;>exact⟨by decide,by decide⟩
  rw[hd,List.flatMap_cons,List.append_assoc];have:=b0e (r:=⟨S.take (S.length-(k+1)),[],[],0⟩) (rest:=(S.drop (S.length-k)).flatMap (λs=>lnT (a6z s))++rest) (w:=b3z) (ws:=[s.name,if s.dir=1 then c3t else inK]) hw (show(lnT (a6z s)).length≤4096 by omega) hst;exact this.trans ih
theorem c8z(rest:List UInt8):∀k,k≤T.length→a5g ⟨S,T.take (T.length-k),[],0⟩ (a00 10 ((T.drop (T.length-k)).flatMap (λt=>lnT (b02 t))++rest))=a5g ⟨S,T,[],0⟩ (a00 10 rest)
 |0,_=>by rw[Nat.sub_zero,List.drop_length,List.take_length];rfl
 |k+1,hk=>by
  obtain⟨t,hs⟩:∃t,T[T.length-(k+1)]?=some t:=⟨_,z9e (by omega)⟩
  have ih:=c8z rest k (by omega);have hd:T.drop (T.length-(k+1))=t::T.drop (T.length-k):=by obtain⟨hh,he⟩:=List.getElem?_eq_some_iff.1 hs;rw[List.drop_eq_getElem_cons hh,he,show T.length-(k+1)+1=T.length-k by omega]
  have hok:=h.tm t (List.mem_of_getElem? hs);have hl:=b1n hok;have hn:=c3v (f:=Tm.name) h.tn hs;have hT:=h.hT;have hin:=c33 hok;have i1:=hin.dr0;have i2:=hin.ri;have i3:=hin.fa;have i4:=hin.per;have i5:=hin.top;have i6:=hin.st0;have i7:=hin.st1;have a1:=a86 t.per (by omega) (by omega);have a2:=a86 t.dr (by omega) (by omega);have a3:=a86 t.ri (by omega) (by omega);have a4:=a86 t.fa (by omega) (by omega);have a5:=a86 t.st (by omega) (by omega);have hte:(⟨t.name,(a0d (Lib.itoa t.per):Nat),(a0d (Lib.itoa t.dr):Nat),(a0d (Lib.itoa t.ri):Nat),(a0d (Lib.itoa t.fa):Nat),(a0d (Lib.itoa t.st):Nat)⟩:Tm)=t:=by rw[a1.2,a2.2,a3.2,a4.2,a5.2]
  have hnm:a4d t.name=true:=by simp only[a4r,Bool.and_eq_true]at hok;exact hok.1
  have hst:rdW ⟨S,T.take (T.length-(k+1)),[],0⟩ (b02 t)=some ⟨S,T.take (T.length-k),[],0⟩:=by
   have ht:=a3y hs;rw[show T.length-(k+1)+1=T.length-k by omega]at ht;unfold b02 a57;simp only[List.map_cons,List.map_nil,List.cons_append,List.nil_append];rw[b69,if_neg (by decide),if_neg (by decide),if_pos rfl];rw[d04 _ _ _ _ _ _ _ ⟨rfl,by
    intro w hw;simp only[List.mem_cons,List.not_mem_nil,or_false]at hw;rcases hw with rfl|rfl|rfl|rfl|rfl
    ·exact a1.1
    ·exact a2.1
    ·exact a3.1
    ·exact a4.1
    ·exact a5.1,by rw[hte];exact hok,hn,by simp only[List.length_take];omega⟩,ht,hte]
  have hw:d4r (b02 t):=by
   intro w hw;simp only[b02,a57,List.map_cons,List.map_nil,List.cons_append,List.nil_append,List.mem_cons,List.not_mem_nil,or_false]at hw;rcases hw with rfl|rfl|rfl|rfl|rfl|rfl|rfl
   ·exact⟨by decide,by decide⟩
   ·exact b2m hnm
   ·exact a85 _ a1.1
   ·exact a85 _ a2.1
   ·exact a85 _ a3.1
   ·exact a85 _ a4.1
   ·exact a85 _ a5.1
  rw[hd,List.flatMap_cons,List.append_assoc];have:=b0e (r:=⟨S,T.take (T.length-(k+1)),[],0⟩) (rest:=(T.drop (T.length-k)).flatMap (λt=>lnT (b02 t))++rest) (w:=a4u) (ws:=t.name::(a57 t).map Lib.itoa) hw (show(lnT (b02 t)).length≤4096 by omega) hst;exact this.trans ih
theorem c8y:∀k,k≤V.length→a5g ⟨S,T,V.take (V.length-k),a19 (V.take (V.length-k))⟩ (a00 10 ((V.drop (V.length-k)).flatMap (λv=>lnT (a8i T v))))=some ⟨S,T,V,a19 V⟩
 |0,_=>by rw[Nat.sub_zero,List.drop_length,List.take_length];exact c3m _
 |k+1,hk=>by
  obtain⟨v,hs⟩:∃v,V[V.length-(k+1)]?=some v:=⟨_,z9e (by omega)⟩
  have ih:=c8y k (by omega);have hd:V.drop (V.length-(k+1))=v::V.drop (V.length-k):=by obtain⟨hh,he⟩:=List.getElem?_eq_some_iff.1 hs;rw[List.drop_eq_getElem_cons hh,he,show V.length-(k+1)+1=V.length-k by omega]
  have hvm:=List.mem_of_getElem? hs;have hok:=h.vc v hvm;have hl:=b1m h hvm;have hV:=h.hV;have hrs:=a81 V hs;rw[show V.length-(k+1)+1=V.length-k by omega]at hrs;have ht:=a3y hs;rw[show V.length-(k+1)+1=V.length-k by omega]at ht;have hnn:∀v∈V,0≤v.rep:=λv hv=>by have:=(h.rep v hv).1;omega
  have hsl:=a7d V hnn (V.length-k);have hsum:=h.sum;have hkk:=hok;simp only[a39,Bool.and_eq_true,decide_eq_true_eq]at hkk;obtain⟨b1,b2,b3,b4,b5⟩:=hkk;obtain⟨t,htm⟩:∃t,T[v.t.toNat]?=some t:=⟨_,z9e (by omega)⟩
  have hfn:fnd t.name (T.map Tm.name)=v.t:=by rw[c8r (T.map Tm.name) v.t.toNat t.name h.tn (by rw[List.getElem?_map,htm];rfl)];omega
  have hnm:a4d t.name=true:=by have:=h.tm t (List.mem_of_getElem? htm);simp only[a4r,Bool.and_eq_true]at this;exact this.1
  have hvl:=b92 T v t htm;have hcw:=c22 b5;have hcl:(if(if v.cells=[]then[45]else v.cells)=[45]then[]else(if v.cells=[]then[45]else v.cells))=v.cells:=by
   by_cases hc:v.cells=[]
   ·rw[if_pos hc,if_pos rfl,hc]
   ·rw[if_neg hc,if_neg ?_];intro e;exact(hcw 45 (by rw[e];simp)).2.2 rfl
  have a1:=a86 v.rep (by omega) (by omega);have hvk:∀kk:Nat,(kk:Int)=v.rep→c8c ⟨S,T,V.take (V.length-(k+1)),a19 (V.take (V.length-(k+1)))⟩ t.name (if v.cells=[]then[45]else v.cells) kk=some ⟨S,T,V.take (V.length-k),a19 (V.take (V.length-k))⟩:=by
   intro kk hkk;have hve:d7f ⟨S,T,V.take (V.length-(k+1)),a19 (V.take (V.length-(k+1)))⟩ t.name (if v.cells=[]then[45]else v.cells) kk=v:=by unfold d7f;rw[hcl];simp only;rw[hfn,hkk]
   unfold c8c;rw[hve,if_pos ⟨hok,by simp only[List.length_take];omega,by simp only;omega⟩,ht,hkk];simp only;rw[←hrs,ht]
  have hst:rdW ⟨S,T,V.take (V.length-(k+1)),a19 (V.take (V.length-(k+1)))⟩ (a8i T v)=some ⟨S,T,V.take (V.length-k),a19 (V.take (V.length-k))⟩:=by
   rw[hvl];simp only[List.cons_append,List.nil_append];rw[b69,if_neg (by decide),if_neg (by decide),if_neg (by decide),if_pos rfl];by_cases hr:v.rep=1
   ·rw[if_pos hr];unfold rdV;exact hvk 1 (by rw[hr];rfl)
   ·rw[if_neg hr];unfold rdV;simp only;rw[if_pos a1.1];exact hvk _ a1.2
  have hw:d4r (a8i T v):=by
   intro w hw;rw[hvl]at hw;rcases List.mem_append.1 hw with hw|hw
   ·simp only[List.mem_cons,List.not_mem_nil,or_false]at hw;rcases hw with rfl|rfl|rfl
    ·exact⟨by decide,by decide⟩
    ·exact b2m hnm
    ·by_cases hc:v.cells=[]
     ·rw[if_pos hc];exact⟨by decide,by decide⟩
     ·rw[if_neg hc];exact⟨hc,λb hb=>⟨(hcw b hb).1,(hcw b hb).2.1⟩⟩
   ·split at hw
    ·cases hw
    ·rw[List.mem_singleton.1 hw];exact a85 _ a1.1
  rw[hd,List.flatMap_cons];obtain⟨w0,ws,he⟩:∃w0 ws,a8i T v=w0::ws:=⟨_,_,hvl⟩
  rw[he]at hw hst hl⊢;rw[b0e hw (by omega) hst];exact ih
theorem c59:a5g ⟨[],[],[],0⟩ (a00 10 (b95 S T V))=some ⟨S,T,V,a19 V⟩:=by have h1:=c90 h (txT T++txV T V) S.length (Nat.le_refl _);have h2:=c8z h (txV T V) T.length (Nat.le_refl _);have h3:=c8y h V.length (Nat.le_refl _);rw[Nat.sub_self,List.take_zero,List.drop_zero]at h1 h2 h3;unfold b95;rw[List.append_assoc];exact h1.trans (h2.trans h3)
theorem c6g:(b95 S T V).length≤1000000:=by have hS:=h.hS;have hT:=h.hT;have hV:=h.hV;have bS:=b35 (λs=>lnT (a6z s)) 200 S λs hs=>Nat.le_trans (b1o (h.sg s hs)) (by decide);have bT:=b35 (λt=>lnT (b02 t)) 200 T λt ht=>Nat.le_trans (b1n (h.tm t ht)) (by decide);have bV:=b35 (λv=>lnT (a8i T v)) 200 V λv hv=>b1m h hv;unfold b95 txS txT txV;rw[List.length_append,List.length_append];omega
end
end Go.RInst
namespace Go.RInst
set_option maxHeartbeats 200000000
open Go.Proofs Go.Ax Go.Pc
noncomputable def prB:List AV→Option (AV×a09)
 | [.str s]=>bif s==soT then some (soV,[])else bif decide (s.length≤1048576)then(match a5g ⟨[],[],[],0⟩ (a00 10 s)with|some r=>some (b6a r,[])|none=>none)else none
 |_=>none
@[reducible] noncomputable def PR2:PR:=⟨prB⟩
theorem dr2:DrOk (@L PR2).env:=@dr PR2 (@c0r PR2 (λa r h0=>by
 have h:prB a=some r:=h0;clear h0;unfold prB at h;split at h
 ·rename_i s;rw[cond_eq_ite,cond_eq_ite]at h;split at h
  ·rename_i hs;have hs:s=soT:=by simpa using hs
   subst hs;cases h;refine⟨rfl,λI K ρ w cargs rel hn ha=>?_⟩;have h0:=@c9m PR0 dr0 I K ρ w cargs rel hn ha;rw[a3o (E:=(@L PR0).env) (by decide)]at h0;rw[a3o (E:=(@L PR2).env) (by decide)];refine Calls.mono h0 ?_
   rintro en w' ⟨c,I',ρ',h1,h2,h3⟩
   exact⟨c,I',ρ',h1,⟨h2.imm,h2.map,h2.ext,h2.rel,h2.nrel,h2.low⟩,h3⟩
  ·split at h
   ·rename_i hl;have hl:s.length≤1048576:=by simpa using hl
    split at h
    ·rename_i rf hrf;cases h;refine⟨rfl,λI K ρ w cargs rel hn ha=>?_⟩;have h0:=@c3l PR0 dr0 s hl (b6a rf) (@c3j PR0 s hl rf hrf) I K ρ w cargs rel hn ha;rw[a3o (E:=(@L PR0).env) (by decide)]at h0;rw[a3o (E:=(@L PR2).env) (by decide)];refine Calls.mono h0 ?_
     rintro en w' ⟨c,I',ρ',h1,h2,h3⟩
     exact⟨c,I',ρ',h1,⟨h2.imm,h2.map,h2.ext,h2.rel,h2.nrel,h2.low⟩,h3⟩
    ·cases h
   ·cases h
 ·cases h))
theorem c3p(s:List UInt8):prB [.str s]=bif s==soT then some (soV,[])else bif decide (s.length≤1048576)then(match a5g ⟨[],[],[],0⟩ (a00 10 s)with|some r=>some (b6a r,[])|none=>none)else none:=rfl
theorem pr2_so:PR2.pr [.str soT]=some (soV,[]):=by show prB [.str soT]=_;rw[c3p,show(soT==soT)=true from by simp];rfl
theorem d4n{s:List UInt8}{r:Rd}(hs:s≠soT)(hl:s.length≤1048576)(h:a5g ⟨[],[],[],0⟩ (a00 10 s)=some r):PR2.pr [.str s]=some (b6a r,[]):=by show prB [.str s]=_;rw[c3p,show(s==soT)=false from by simpa using hs,show decide (s.length≤1048576)=true from decide_eq_true hl];simp only[cond_false,cond_true,h]
end Go.RInst
namespace Go.RInst
open Go.Proofs Go.Ax Go.Pc
variable [PR]
set_option maxRecDepth 100000
theorem c9g(S:List Sg)(T:List Tm)(V:List Vc):b95 S T V≠soT:=by
 intro e;have h10:(10:UInt8)∉soT:=by decide
 have hne:soT≠[]:=by decide
 have hm:∀{α:Type} (f:α→List (List UInt8)) (l:List α),l.flatMap (λx=>lnT (f x))=[]∨(10:UInt8)∈l.flatMap (λx=>lnT (f x)):=by
  intro α f l;cases l with
  |nil=>left;rfl
  |cons a r=>right;simp[lnT]
 have h1:=hm a6z S;have h2:=hm b02 T;have h3:=hm (a8i T) V;rw[←e]at h10 hne;unfold b95 txS txT txV at h10 hne;simp only[List.mem_append,not_or]at h10;rw[h1.resolve_right h10.1.1,h2.resolve_right h10.1.2,h3.resolve_right h10.2]at hne;exact hne rfl
theorem c4z(R:List (List AV)):∃a,clA R=sl a R:=by
 cases R with
 |nil=>exact⟨none,rfl⟩
 |cons x l=>exact⟨some (some (x::l).length),by rw[b9b];rfl⟩
theorem e3c(z:Bool):a90 L.env .neq 56 (.agg [.int .i64 0,.int .i64 0]) (.agg [.int .i64 0,.int .i64 0]) z=some (.bool false):=by kernel_rfl
theorem c1v(r0 r1 r2:Option (Option Nat))(N:List (List UInt8))(X:List Tm)(Y:List Vc){d:Bool}(H:a09):a0n L.env d (sem L.env Mf) (.func (.func 16) [] []) [.agg [sl r0 (N.map stR),sl r1 (X.map Tm.enc),sl r2 (Y.map Vc.enc)]] H=some (.int .i64 (if 20<N.length∨20<X.length∨30<Y.length then 1 else 0),H,[]):=by
 refine a0h (by kernel_rfl) (by kernel_rfl) rfl (by simp+decide only[go_sem]<;>rfl) ?_ rfl;by_cases h1:20<N.length
 ·have d1:(20:Int)<N.length:=by omega
  rw[if_pos (.inl h1)]
  (refine sv Tryz.f16 ?_;simp only[Tryz.f16,gS])
  (repeat first|simp only[ww]|(apply xa;simp+decide only[go_sem,d1,List.length_map];rfl;kernel_rfl))
  (apply fqb;simp+decide only[go_sem]<;>rfl)
 have d1:¬(20:Int)<N.length:=by omega
 by_cases h2:20<X.length
 ·have d2:(20:Int)<X.length:=by omega
  rw[if_pos (.inr (.inl h2))]
  (refine sv Tryz.f16 ?_;simp only[Tryz.f16,gS])
  (repeat first|simp only[ww]|(apply xa;simp+decide only[go_sem,d1,d2,List.length_map];rfl;kernel_rfl))
  (apply fqb;simp+decide only[go_sem]<;>rfl)
 have d2:¬(20:Int)<X.length:=by omega
 by_cases h3:30<Y.length
 ·have d3:(30:Int)<Y.length:=by omega
  rw[if_pos (.inr (.inr h3))]
  (refine sv Tryz.f16 ?_;simp only[Tryz.f16,gS])
  (repeat first|simp only[ww]|(apply xa;simp+decide only[go_sem,d1,d2,d3,List.length_map];rfl;kernel_rfl))
  (apply fqb;simp+decide only[go_sem]<;>rfl)
 have d3:¬(30:Int)<Y.length:=by omega
 rw[if_neg (by omega)]
 (refine sv Tryz.f16 ?_;simp only[Tryz.f16,gS])
 (repeat first|simp only[ww]|(apply xa;simp+decide only[go_sem,d1,d2,d3,List.length_map];rfl;kernel_rfl))
 (apply fqb;simp+decide only[go_sem]<;>rfl)
theorem back_law(hso:PR.pr [.str soT]=some (soV,[]))(hpr:∀S T V,Valid S T V→PR.pr [.str (b95 S T V)]=some (b6a ⟨S,T,V,a19 V⟩,[]))(r0 r1 r2:Option (Option Nat))(N:List (List UInt8))(X:List Tm)(Y:List Vc)(hN:N.length<9223372036854775808)(hX:X.length<9223372036854775808)(hY:Y.length<9223372036854775808) :
 sem L.env Mf 4 [.agg [sl r0 (N.map stR),sl r1 (X.map Tm.enc),sl r2 (Y.map Vc.enc)]] []=some (.bool true,[]):=by
 have hlv:=λd H=>c1m hso (d:=d) H;have hgr:=λd H=>c1v r0 r1 r2 N X Y (d:=d) H;by_cases hg:20<N.length∨20<X.length∨30<Y.length
 ·rw[if_pos hg]at hgr
  (refine sv Tryz.f4 ?_;simp only[Tryz.f4,gS])
  (repeat first|simp only[ww]|(apply xa;simp+decide only[go_sem,hgr,hlv];rfl;kernel_rfl))
  (apply fqb;simp+decide only[go_sem]<;>rfl)
 rw[if_neg hg]at hgr;have hof:=λd H=>a0h (E:=L.env) (draw:=d) (call:=sem L.env Mf) (g:=17) (fs:=[]) (cs:=[]) (ar:=[.agg [sl r0 (N.map stR),sl r1 (X.map Tm.enc),sl r2 (Y.map Vc.enc)]]) (H:=H) (by kernel_rfl) (by kernel_rfl) rfl (by simp+decide only[go_sem]<;>rfl) (c6o r0 r1 r2 N X Y (by omega)) (by simp+decide only[go_sem]);have hSl:(ofS N N.length).length=N.length:=b6c N _ (Nat.le_refl _);generalize ofS N N.length=S at hof hSl;have kS:S.length≤100:=by omega
 have kT:X.length≤100:=by omega
 have kV:Y.length≤100:=by omega
 obtain⟨r,rfl,hgd⟩:=d0t r0 r1 r2 N X Y hN hX hY;have hvg:=c1w (min N.length 8) (by omega) X Y;have hgood:=λd H=>a0h (E:=L.env) (draw:=d) (call:=sem L.env Mf) (g:=9) (fs:=[]) (cs:=[]) (ar:=[.agg [sl r0 (N.map stR),sl r1 (X.map Tm.enc),sl r2 (Y.map Vc.enc)]]) (H:=H) (by kernel_rfl) (by kernel_rfl) rfl (by simp+decide only[go_sem]<;>rfl) hgd (by simp+decide only[go_sem]<;>rfl);generalize a6m (min N.length 8)=S2 at hvg hgood;generalize a2n X (min X.length 3)=T2 at hvg hgood;generalize(if X=[]then[]else a1e (min N.length 8) (min X.length 3) Y (min Y.length 12))=V2 at hvg hgood
 -- a valid program: a8g,read,the same
 have main:∀(a b c:Option (Option Nat)) (S:List Sg) (T:List Tm) (V:List Vc),Valid S T V→∃(t:List UInt8) (a' b' c':Option (Option Nat)),(∀d H,a0n L.env d (sem L.env Mf) (.func (.func 18) [] []) [.agg [sl a (S.map Sg.enc),sl b (T.map Tm.enc),sl c (V.map Vc.enc)]] H=some (.tuple [.str t,.int .i64 0],H,[]))∧
  (∀d H,a0n L.env d (sem L.env Mf) (.func (.func 19) [] []) [.str t] H=some (.tuple [.agg [sl a' (S.map Sg.enc),sl b' (T.map Tm.enc),sl c' (V.map Vc.enc)],.agg [.int .i64 0,.int .i64 0]],H,[]))∧
  (∀d H,a0n L.env d (sem L.env Mf) (.func (.func 20) [] []) [.agg [sl a' (S.map Sg.enc),sl b' (T.map Tm.enc),sl c' (V.map Vc.enc)],.agg [sl a (S.map Sg.enc),sl b (T.map Tm.enc),sl c (V.map Vc.enc)]] H=some (.bool true,H,[]))∧
  (∀d H,a0n L.env d (sem L.env Mf) (.func (.func 21) [] []) [.agg [sl a' (S.map Sg.enc),sl b' (T.map Tm.enc),sl c' (V.map Vc.enc)]] H=some (.int .i64 0,H,[])):=by
  intro a b c S T V hv;have hS:=hv.hS;have hT:=hv.hT;have hV:=hv.hV;obtain⟨a',ea⟩:=c4z (S.map Sg.enc);obtain⟨b',eb⟩:=c4z (T.map Tm.enc);obtain⟨c',ec⟩:=c4z (V.map Vc.enc);have hp:=hpr S T V hv;unfold b6a at hp;simp only[ea,eb,ec]at hp;refine⟨b95 S T V,a',b',c',λd H=>a0h (by kernel_rfl) (by kernel_rfl) rfl (by simp+decide only[go_sem]<;>rfl) (c65 a b c S T V hv) rfl,λd H=>a0h (by kernel_rfl) (by kernel_rfl) rfl rfl (c0c hp) (by simp+decide only[go_sem]),λd H=>a0h (by kernel_rfl) (by kernel_rfl) rfl (by simp+decide only[go_sem]<;>rfl) (c9t a' a b' b c' c S T V (by omega) (by omega) (by omega)) rfl,λd H=>b5j (d:=d) H a' b' c' S T V hv⟩
 obtain⟨t2,a2,b2,c2,w2,rd2,sm2,ck2⟩:=main none none none S2 T2 V2 hvg;have hfn:=e3c;have hHH:∀(i:Nat) (x:List AV) (y:List AV),True:=λ_ _ _=>trivial;by_cases he:b76 S X Y=0
 ·obtain⟨t1,a1,b1,c1,w1,rd1,sm1,ck1⟩:=main none r1 r2 S X Y (c50 S X Y kS kV he)
  (refine sv Tryz.f4 ?_;simp only[Tryz.f4,gS])
  (repeat first|simp only[ww]|(apply xa;simp+decide only[go_sem,hgr,hof,hgood];rfl;kernel_rfl))
  refine a0i (σ:=Nat) kp4_0 (λi=>[(3,.slice 0 0 2 (some 2)),(4,.int .i64 (i:Nat))]) (λ_=>[some (.row 3 [[sl none (S.map Sg.enc),sl r1 (X.map Tm.enc),sl r2 (Y.map Vc.enc)],[sl none (S2.map Sg.enc),sl none (T2.map Tm.enc),sl none (V2.map Vc.enc)]])]) (λi=>2-i) (λi=>i≤2) 0 ?_ (Nat.zero_le _) ?_
  ·(simp+decide only[go_sem,a08,a03]<;>rfl)
  ·intro i hi;rcases(show i=0∨i=1∨i=2 by omega)with rfl|rfl|rfl
   ·(repeat first|simp only[ww]|(apply xa;simp+decide only[go_sem,w1,rd1,sm1,ck1,hfn];rfl;kernel_rfl))
    refine a1s 1 ?_ (by omega) (by omega)
    (simp+decide only[go_sem,a08,a03]<;>rfl)
   ·(repeat first|simp only[ww]|(apply xa;simp+decide only[go_sem,w2,rd2,sm2,ck2,hfn];rfl;kernel_rfl))
    refine a1s 2 ?_ (by omega) (by omega)
    (simp+decide only[go_sem,a08,a03]<;>rfl)
   ·(repeat first|simp only[ww]|(apply xa;simp+decide only[go_sem,hlv];rfl;kernel_rfl))
    (apply fqb;simp+decide only[go_sem]<;>rfl)
 ·have w1:=λd H=>a0h (E:=L.env) (draw:=d) (call:=sem L.env Mf) (g:=18) (fs:=[]) (cs:=[]) (ar:=[.agg [sl none (S.map Sg.enc),sl r1 (X.map Tm.enc),sl r2 (Y.map Vc.enc)]]) (H:=H) (by kernel_rfl) (by kernel_rfl) rfl (by simp+decide only[go_sem]<;>rfl) (c2n none r1 r2 S X Y kS kT kV he) rfl;generalize b76 S X Y=e at *;have c0:¬e=0:=he
  (refine sv Tryz.f4 ?_;simp only[Tryz.f4,gS])
  (repeat first|simp only[ww]|(apply xa;simp+decide only[go_sem,hgr,hof,hgood];rfl;kernel_rfl))
  refine a0i (σ:=Nat) kp4_0 (λi=>[(3,.slice 0 0 2 (some 2)),(4,.int .i64 (i:Nat))]) (λ_=>[some (.row 3 [[sl none (S.map Sg.enc),sl r1 (X.map Tm.enc),sl r2 (Y.map Vc.enc)],[sl none (S2.map Sg.enc),sl none (T2.map Tm.enc),sl none (V2.map Vc.enc)]])]) (λi=>2-i) (λi=>i≤2) 0 ?_ (Nat.zero_le _) ?_
  ·(simp+decide only[go_sem,a08,a03]<;>rfl)
  ·intro i hi;rcases(show i=0∨i=1∨i=2 by omega)with rfl|rfl|rfl
   ·(repeat first|simp only[ww]|(apply xa;simp+decide only[go_sem,w1,c0];rfl;kernel_rfl))
    refine a1s 1 ?_ (by omega) (by omega)
    (simp+decide only[go_sem,a08,a03]<;>rfl)
   ·(repeat first|simp only[ww]|(apply xa;simp+decide only[go_sem,w2,rd2,sm2,ck2,hfn];rfl;kernel_rfl))
    refine a1s 2 ?_ (by omega) (by omega)
    (simp+decide only[go_sem,a08,a03]<;>rfl)
   ·(repeat first|simp only[ww]|(apply xa;simp+decide only[go_sem,hlv];rfl;kernel_rfl))
    (apply fqb;simp+decide only[go_sem]<;>rfl)
end Go.RInst
namespace Go.RInst
open Go.Proofs Go.Ax Go.Pc
theorem pr2_text(S:List Sg)(T:List Tm)(V:List Vc)(h:Valid S T V):PR2.pr [.str (b95 S T V)]=some (b6a ⟨S,T,V,a19 V⟩,[]):=d4n (@c9g PR0 S T V) (Nat.le_trans (@c6g PR0 S T V h) (by decide)) (@c59 PR0 S T V h)
end Go.RInst
