/- Part of a proof. No condition. -/
import Derived.Test.YtmbmjfjagololaaGreatDoorRRm
import Derived.Test.YtmbmjfjagololaaGreatDoorRRd
import Derived.Test.YtmbmjfjagololaaGreatDoorRPh
set_option linter.unusedSectionVars false
set_option linter.unusedSimpArgs false
set_option linter.unusedVariables false
namespace Go.RInst
set_option maxHeartbeats 200000000
open Go.Proofs Go.Ax Go.Pc
variable [PR]
set_option maxRecDepth 100000
theorem a9f:sem L.env Mf 42 [.nilslice] []=some (.nilslice,[]):=by
 (refine sv Tryz.f42 ?_;simp only[Tryz.f42,gS])
 (repeat first|simp only[ww]|(apply xa;simp+decide only[go_sem];rfl;kernel_rfl))
 (apply fqb;simp+decide only[go_sem]<;>rfl)
theorem b6g(n:Nat)(R:List (List AV))(hn:R.length=n)(hfl:FlatR R):sem L.env Mf 42 [.slice 0 0 n none] [some (.row 2 R)]=some (.slice 0 0 n (some n),[some (.row 2 R)]):=by
 have h1:=λπ=>a02 π hfl;have h2:=a01 hfl;have h3:=λq d=>a15 q d hfl
 (refine sv Tryz.f42 ?_;simp only[Tryz.f42,gS])
 (repeat first|simp only[ww]|(apply xa;simp+decide only[go_sem,hn,Nat.le_refl];rfl;kernel_rfl))
 (apply fqb;simp+decide only[go_sem,h1,h2,h3]<;>rfl)
theorem a9c:sem L.env Mf 43 [.nilslice] []=some (.nilslice,[]):=by
 (refine sv Tryz.f43 ?_;simp only[Tryz.f43,gS])
 (repeat first|simp only[ww]|(apply xa;simp+decide only[go_sem];rfl;kernel_rfl))
 (apply fqb;simp+decide only[go_sem]<;>rfl)
theorem b6c(n:Nat)(R:List (List AV))(hn:R.length=n)(hfl:FlatR R):sem L.env Mf 43 [.slice 0 0 n none] [some (.row 6 R)]=some (.slice 0 0 n (some n),[some (.row 6 R)]):=by
 have h1:=λπ=>a02 π hfl;have h2:=a01 hfl;have h3:=λq d=>a15 q d hfl
 (refine sv Tryz.f43 ?_;simp only[Tryz.f43,gS])
 (repeat first|simp only[ww]|(apply xa;simp+decide only[go_sem,hn,Nat.le_refl];rfl;kernel_rfl))
 (apply fqb;simp+decide only[go_sem,h1,h2,h3]<;>rfl)
theorem a94:sem L.env Mf 44 [.nilslice] []=some (.nilslice,[]):=by
 (refine sv Tryz.f44 ?_;simp only[Tryz.f44,gS])
 (repeat first|simp only[ww]|(apply xa;simp+decide only[go_sem];rfl;kernel_rfl))
 (apply fqb;simp+decide only[go_sem]<;>rfl)
theorem b68(n:Nat)(R:List (List AV))(hn:R.length=n)(hfl:FlatR R):sem L.env Mf 44 [.slice 0 0 n none] [some (.row 3 R)]=some (.slice 0 0 n (some n),[some (.row 3 R)]):=by
 have h1:=λπ=>a02 π hfl;have h2:=a01 hfl;have h3:=λq d=>a15 q d hfl
 (refine sv Tryz.f44 ?_;simp only[Tryz.f44,gS])
 (repeat first|simp only[ww]|(apply xa;simp+decide only[go_sem,hn,Nat.le_refl];rfl;kernel_rfl))
 (apply fqb;simp+decide only[go_sem,h1,h2,h3]<;>rfl)
theorem c07(r:Rd):(∃o0,a24 r=[some o0])∨(∃o0 o1,a24 r=[some o0,some o1])∨(∃o0 o1 o2,a24 r=[some o0,some o1,some o2])∨(∃o0 o1 o2 o3,a24 r=[some o0,some o1,some o2,some o3]):=by
 unfold a24;cases r.S.map Sg.enc<;>cases r.T.map Tm.enc<;>cases r.V.map Vc.enc<;>simp only[a0c,a1k,List.nil_append,List.cons_append,List.append_nil]
 ·exact .inl ⟨_,rfl⟩
 ·exact .inr (.inl ⟨_,_,rfl⟩)
 ·exact .inr (.inl ⟨_,_,rfl⟩)
 ·exact .inr (.inr (.inl ⟨_,_,_,rfl⟩))
 ·exact .inr (.inl ⟨_,_,rfl⟩)
 ·exact .inr (.inr (.inl ⟨_,_,_,rfl⟩))
 ·exact .inr (.inr (.inl ⟨_,_,_,rfl⟩))
 ·exact .inr (.inr (.inr ⟨_,_,_,_,rfl⟩))
theorem c5g(lo:Nat)(H:a08)(k:Nat):GsL lo H k .nilslice []:=.inl ⟨rfl,rfl⟩
theorem b70{lo:Nat}{H:a08}{k c n:Nat}{R:List (List AV)}(hne:R≠[])(hn:n=R.length)(h:a04 H c=some (.row k R))(hc:lo≤c):GsL lo H k (.slice c 0 n none) R:=.inr ⟨hne,c,by rw[hn],h,hc⟩
theorem d10(r:Rd)(a b c:Option AObj)(L:a08):RdL 3 ([a,b,c]++a24 r++L) 3 r:=by
 refine⟨_,_,_,rfl,?_,?_,?_⟩
 ·cases hS:r.S.map Sg.enc with
  |nil=>rw[a0a];exact c5g _ _ _
  |cons x l=>rw[a1q];exact b70 (by simp) rfl (by unfold a24;rw[hS,a1k];rfl) (by decide)
 ·cases hT:r.T.map Tm.enc with
  |nil=>rw[a0a];exact c5g _ _ _
  |cons x l=>rw[a1q];refine b70 (by simp) rfl ?_ (by omega);unfold a24;rw[hT,a1k];cases r.S.map Sg.enc<;>rfl
 ·cases hV:r.V.map Vc.enc with
  |nil=>rw[a0a];exact c5g _ _ _
  |cons x l=>rw[a1q];refine b70 (by simp) rfl ?_ (by omega);unfold a24;rw[hV,a1k];cases r.S.map Sg.enc<;>cases r.T.map Tm.enc<;>rfl
def clA:List (List AV)→AV
 | []=>.nilslice
 |R=>.islice R (some R.length)
theorem a4x:clA [] = .nilslice:=rfl
theorem a7b{R:List (List AV)}(h:R≠[]):clA R = .islice R (some R.length):=by
 cases R with
 |nil=>exact absurd rfl h
 |cons=>rfl
def b7v(r:Rd):AV:=.tuple [.agg [clA (r.S.map Sg.enc),clA (r.T.map Tm.enc),clA (r.V.map Vc.enc)],.agg [.int .i64 0,.int .i64 0]]
theorem c4e(s:List UInt8)(hl:s.length≤1048576)(rf:Rd)(hread:a2u ⟨[],[],[],0⟩ (a00 10 s)=some rf) :
 Wp (cx L.env Mf 3 49 19 0) b55 (rdF s) [clO,some (.row 2 [[.int .i64 0,.int .i64 0]]),clN 0] (λex F H=>ex = .ret∧a2k F 2 = .ptr 0 0 0∧a2k F 3 = .ptr 1 0 0∧∃vs,a1m L.env [(2,.ptr 0 0 0),(3,.ptr 1 0 0)] H [.cell 2 29,.cell 3 56]=some vs∧a5s false 0 (a7q vs) H=some (b7v rf,[])):=by
 have hNl:(a00 10 s).length≤2000000:=by rw[a0v];have:=List.count_le_length (a:=(10:UInt8)) (l:=s);omega
 have hsp:a0j L.env false (sem L.env Mf) (.func (.func 23) [] []) [.str s,.str [10]] [clO,some (.row 2 [[.int .i64 0,.int .i64 0]]),clN 0,some (.row 4 [[.nilslice,.nilslice,.nilslice,.int .i64 0]])]=some (.slice 4 0 (a00 10 s).length (some (a00 10 s).length),[clO,some (.row 2 [[.int .i64 0,.int .i64 0]]),clN 0,some (.row 4 [[.nilslice,.nilslice,.nilslice,.int .i64 0]]),some (.row 1 (sR (a00 10 s)))],[]):=a1u [clO,some (.row 2 [[.int .i64 0,.int .i64 0]]),clN 0,some (.row 4 [[.nilslice,.nilslice,.nilslice,.int .i64 0]])] s 10 hl;have hLf:=a10 (a00 10 s);have hLl:=b2r (a00 10 s);have hL1:=λπ=>a02 π hLf;have hL2:=a01 hLf;have hget:∀i w,(a00 10 s)[i]?=some w→(sR (a00 10 s))[i]?=some [AV.str w]:=λi w h=>b2s h;generalize hlines:a00 10 s=lines at *;generalize sR lines=LR at *;generalize hnl:lines.length=nl at *;unfold b55;simp only[Tryz.f19,gS];unfold rdF
 (repeat first|simp only[ww]|(apply xa;simp+decide only[go_sem,hsp];rfl;kernel_rfl))
 refine a0p (σ:=Nat×Rd) kp19_0 (λq=>[(2,.ptr 0 0 0),(3,.ptr 1 0 0),(4,.ptr 2 0 0),(5,.ptr 3 0 0),(17,.slice (3+(a24 q.2).length) 0 nl (some nl)),(18,.int .i64 nl),(19,.int .i64 (q.1:Nat))]) (λq=>[clO,some (.row 2 [[.int .i64 0,.int .i64 0]]),clN (q.1:Nat)]++a24 q.2++[some (.row 1 LR)]) (λq=>nl-q.1) (λq=>q.1≤nl∧RdWf q.2∧a2u q.2 (lines.drop q.1)=some rf) (0,⟨[],[],[],0⟩) ?_ ⟨Nat.zero_le _,e0o,hread⟩ ?_
 ·(simp+decide only[go_sem,a09,a05,hL1,hL2]<;>rfl)
 ·rintro⟨i,r⟩ ⟨hi,hw,hall⟩
  simp only at hi hw hall⊢;by_cases hlt:i<nl
  ·have l1:(i:Int)<nl:=by omega
   obtain⟨si,hsi⟩:∃si,lines[i]?=some si:=⟨_,z9e (by omega)⟩
   have hg:=hget i si hsi;have hdr:lines.drop i=si::lines.drop (i+1):=by obtain⟨hh,he⟩:=List.getElem?_eq_some_iff.1 hsi;rw[←he];exact List.drop_eq_getElem_cons hh
   rw[hdr]at hall;unfold a2u at hall;split at hall
   case h_2=>cases hall
   rename_i r1 hr1;have hwi:IntKind.i64.wrap ((i:Int)+1)=((i+1:Nat):Int):=by rw[w64 (by omega) (by omega)];omega
   obtain⟨H',σ,c1,c2,c3,c4,c5⟩:=d1f 3 ([clO,some (.row 2 [[.int .i64 0,.int .i64 0]]),clN ((i+1:Nat):Int)]++a24 r++[some (.row 1 LR)]) 3 r r1 si hw hr1 (d10 r _ _ _ _) (by decide);have p0:a04 H' 0=clO:=c4 0 (by simp<;>omega) (by decide);have p1:a04 H' 1=some (.row 2 [[.int .i64 0,.int .i64 0]]):=c4 1 (by simp<;>omega) (by decide);have p2:a04 H' 2=clN ((i+1:Nat):Int):=c4 2 (by simp<;>omega) (by decide);have pl:a04 H' (3+(a24 r).length)=some (.row 1 LR):=by
    have hx:a04 ([clO,some (.row 2 [[.int .i64 0,.int .i64 0]]),clN ((i+1:Nat):Int)]++a24 r++[some (.row 1 LR)]) (3+(a24 r).length)=some (.row 1 LR):=by unfold a04;rw[List.getElem?_append_right (by simp;omega)];simp[show 3+(a24 r).length-((a24 r).length+1+1+1)=0 by omega]
    exact(c5 _ LR hx).trans hx
   have hgc:=λ(F0:Frm) hF0=>e12 H' r1 (3+(a24 r).length) nl (i+1) ((i+1:Nat):Int) LR hLf p0 p1 p2 c2 pl (by omega) (F0:=F0) hF0;have hw1:RdWf r1:=by
    unfold a3w at hr1;split at hr1
    ·exact d5m hr1 hw
    ·cases hr1
   have hinv:(i+1,r1).1≤nl∧RdWf (i+1,r1).2∧a2u (i+1,r1).2 (lines.drop (i+1,r1).1)=some rf:=⟨by simp only;omega,hw1,hall⟩
   rcases c07 r with ⟨o0,e⟩|⟨o0,o1,e⟩|⟨o0,o1,o2,e⟩|⟨o0,o1,o2,o3,e⟩
   ·rw[e]at c1 hgc⊢;simp only[List.cons_append,List.nil_append,List.length_cons,List.length_nil]at c1 hgc⊢
    (repeat first|simp only[ww]|(apply xa;simp+decide only[go_sem,l1,hlt,hg,hLl,hwi,c1];rfl;kernel_rfl))
    refine a22 (i+1,r1) ?_ (by simp only;omega) hinv;rw[a09];exact hgc _ rfl
   ·rw[e]at c1 hgc⊢;simp only[List.cons_append,List.nil_append,List.length_cons,List.length_nil]at c1 hgc⊢
    (repeat first|simp only[ww]|(apply xa;simp+decide only[go_sem,l1,hlt,hg,hLl,hwi,c1];rfl;kernel_rfl))
    refine a22 (i+1,r1) ?_ (by simp only;omega) hinv;rw[a09];exact hgc _ rfl
   ·rw[e]at c1 hgc⊢;simp only[List.cons_append,List.nil_append,List.length_cons,List.length_nil]at c1 hgc⊢
    (repeat first|simp only[ww]|(apply xa;simp+decide only[go_sem,l1,hlt,hg,hLl,hwi,c1];rfl;kernel_rfl))
    refine a22 (i+1,r1) ?_ (by simp only;omega) hinv;rw[a09];exact hgc _ rfl
   ·rw[e]at c1 hgc⊢;simp only[List.cons_append,List.nil_append,List.length_cons,List.length_nil]at c1 hgc⊢
    (repeat first|simp only[ww]|(apply xa;simp+decide only[go_sem,l1,hlt,hg,hLl,hwi,c1];rfl;kernel_rfl))
    refine a22 (i+1,r1) ?_ (by simp only;omega) hinv;rw[a09];exact hgc _ rfl
  ·obtain rfl:i=nl:=by omega
   have l1:¬(i:Int)<i:=by omega
   have hre:r=rf:=by rw[List.drop_of_length_le (by omega)]at hall;unfold a2u at hall;exact z9o hall
   subst hre;have S1:=λπ=>a02 π (a0z r.S);have T1:=λπ=>a02 π (a0g r.T);have V1:=λπ=>a02 π (a0b r.V);have S3:=λq d=>a15 q d (a0z r.S);have T3:=λq d=>a15 q d (a0g r.T);have V3:=λq d=>a15 q d (a0b r.V);have fS:=a0z r.S;have fT:=a0g r.T;have fV:=a0b r.V;have hrv:b7v r = .tuple [.agg [clA (r.S.map Sg.enc),clA (r.T.map Tm.enc),clA (r.V.map Vc.enc)],.agg [.int .i64 0,.int .i64 0]]:=rfl;rw[hrv];have b94:Nat.beq 94 82=false:=by decide
   by_cases hS0:r.S.map Sg.enc=[]<;>by_cases hT0:r.T.map Tm.enc=[]<;>by_cases hV0:r.V.map Vc.enc=[]
   ·have hcan:a24 r=[some (.row 4 [[.nilslice,.nilslice,.nilslice,.int .i64 r.sum]])]:=by
     unfold a24;rw[hS0,a0a,a0c,hT0,a0a,a0c,hV0,a0a,a0c];rfl
    rw[hcan];simp only[List.cons_append,List.nil_append,List.length_cons,List.length_nil];have kS:∀d H,a0j L.env d (sem L.env Mf) (.func (.func 42) [] []) [.nilslice] H=some (.nilslice,H,[]):=λd H=>a0l (by kernel_rfl) (by kernel_rfl) rfl rfl a9f rfl;have kT:∀d H,a0j L.env d (sem L.env Mf) (.func (.func 43) [] []) [.nilslice] H=some (.nilslice,H,[]):=λd H=>a0l (by kernel_rfl) (by kernel_rfl) rfl rfl a9c rfl;have kV:∀d H,a0j L.env d (sem L.env Mf) (.func (.func 44) [] []) [.nilslice] H=some (.nilslice,H,[]):=λd H=>a0l (by kernel_rfl) (by kernel_rfl) rfl rfl a94 rfl;rw[hS0,a4x,hT0,a4x,hV0,a4x]
    (repeat first|simp only[ww]|(apply xa;simp+decide only[go_sem,l1,kS,kT,kV];rfl;kernel_rfl))
    refine⟨trivial,rfl,rfl,_,by(simp+decide only[go_sem]<;>rfl),?_⟩;simp+decide only[go_sem,S1,T1,V1,S3,T3,V3]<;>rfl
   ·have hcan:a24 r=[some (.row 4 [[.nilslice,.nilslice,.slice 4 0 (r.V.map Vc.enc).length none,.int .i64 r.sum]]),some (.row 3 (r.V.map Vc.enc))]:=by
     unfold a24;rw[hS0,a0a,a0c,hT0,a0a,a0c,a0k _ hV0,a0n _ hV0];rfl
    rw[hcan];simp only[List.cons_append,List.nil_append,List.length_cons,List.length_nil];have kS:∀d H,a0j L.env d (sem L.env Mf) (.func (.func 42) [] []) [.nilslice] H=some (.nilslice,H,[]):=λd H=>a0l (by kernel_rfl) (by kernel_rfl) rfl rfl a9f rfl;have kT:∀d H,a0j L.env d (sem L.env Mf) (.func (.func 43) [] []) [.nilslice] H=some (.nilslice,H,[]):=λd H=>a0l (by kernel_rfl) (by kernel_rfl) rfl rfl a9c rfl;have kV:∀d,a0j L.env d (sem L.env Mf) (.func (.func 44) [] []) [.slice 4 0 (r.V.map Vc.enc).length none] [clO,some (.row 2 [[.int .i64 0,.int .i64 0]]),clN (i:Nat),some (.row 4 [[.nilslice,.nilslice,.slice 4 0 (r.V.map Vc.enc).length none,.int .i64 r.sum]]),some (.row 3 (r.V.map Vc.enc)),some (.row 1 LR)]=some (.slice 4 0 (r.V.map Vc.enc).length (some (r.V.map Vc.enc).length),[clO,some (.row 2 [[.int .i64 0,.int .i64 0]]),clN (i:Nat),some (.row 4 [[.nilslice,.nilslice,.slice 4 0 (r.V.map Vc.enc).length none,.int .i64 r.sum]]),some (.row 3 (r.V.map Vc.enc)),some (.row 1 LR)],[4]):=λd=>a14 (by kernel_rfl) (by kernel_rfl) rfl (b:=4) (o:=.row 3 (r.V.map Vc.enc)) (o':=.row 3 (r.V.map Vc.enc)) rfl (a0r fV) (FlatO.row fV) rfl rfl (b68 _ _ rfl fV) (FlatO.row fV) rfl;rw[hS0,a4x,hT0,a4x,a7b hV0];have tV:(r.V.map Vc.enc).take (r.V.map Vc.enc).length=r.V.map Vc.enc:=List.take_of_length_le (Nat.le_refl _);generalize r.V.map Vc.enc=RV at *
    (repeat first|simp only[ww]|(apply xa;simp+decide only[go_sem,l1,kS,kT,kV];rfl;kernel_rfl))
    refine⟨trivial,rfl,rfl,_,by(simp+decide only[go_sem]<;>rfl),?_⟩;simp+decide only[go_sem,S1,T1,V1,S3,T3,V3,tV]<;>rfl
   ·have hcan:a24 r=[some (.row 4 [[.nilslice,.slice 4 0 (r.T.map Tm.enc).length none,.nilslice,.int .i64 r.sum]]),some (.row 6 (r.T.map Tm.enc))]:=by
     unfold a24;rw[hS0,a0a,a0c,a0k _ hT0,a0n _ hT0,hV0,a0a,a0c];rfl
    rw[hcan];simp only[List.cons_append,List.nil_append,List.length_cons,List.length_nil];have kS:∀d H,a0j L.env d (sem L.env Mf) (.func (.func 42) [] []) [.nilslice] H=some (.nilslice,H,[]):=λd H=>a0l (by kernel_rfl) (by kernel_rfl) rfl rfl a9f rfl;have kT:∀d,a0j L.env d (sem L.env Mf) (.func (.func 43) [] []) [.slice 4 0 (r.T.map Tm.enc).length none] [clO,some (.row 2 [[.int .i64 0,.int .i64 0]]),clN (i:Nat),some (.row 4 [[.nilslice,.slice 4 0 (r.T.map Tm.enc).length none,.nilslice,.int .i64 r.sum]]),some (.row 6 (r.T.map Tm.enc)),some (.row 1 LR)]=some (.slice 4 0 (r.T.map Tm.enc).length (some (r.T.map Tm.enc).length),[clO,some (.row 2 [[.int .i64 0,.int .i64 0]]),clN (i:Nat),some (.row 4 [[.nilslice,.slice 4 0 (r.T.map Tm.enc).length none,.nilslice,.int .i64 r.sum]]),some (.row 6 (r.T.map Tm.enc)),some (.row 1 LR)],[4]):=λd=>a14 (by kernel_rfl) (by kernel_rfl) rfl (b:=4) (o:=.row 6 (r.T.map Tm.enc)) (o':=.row 6 (r.T.map Tm.enc)) rfl (a0r fT) (FlatO.row fT) rfl rfl (b6c _ _ rfl fT) (FlatO.row fT) rfl;have kV:∀d H,a0j L.env d (sem L.env Mf) (.func (.func 44) [] []) [.nilslice] H=some (.nilslice,H,[]):=λd H=>a0l (by kernel_rfl) (by kernel_rfl) rfl rfl a94 rfl;rw[hS0,a4x,a7b hT0,hV0,a4x];have tT:(r.T.map Tm.enc).take (r.T.map Tm.enc).length=r.T.map Tm.enc:=List.take_of_length_le (Nat.le_refl _);generalize r.T.map Tm.enc=RT at *
    (repeat first|simp only[ww]|(apply xa;simp+decide only[go_sem,l1,kS,kT,kV];rfl;kernel_rfl))
    refine⟨trivial,rfl,rfl,_,by(simp+decide only[go_sem]<;>rfl),?_⟩;simp+decide only[go_sem,S1,T1,V1,S3,T3,V3,tT]<;>rfl
   ·have hcan:a24 r=[some (.row 4 [[.nilslice,.slice 4 0 (r.T.map Tm.enc).length none,.slice 5 0 (r.V.map Vc.enc).length none,.int .i64 r.sum]]),some (.row 6 (r.T.map Tm.enc)),some (.row 3 (r.V.map Vc.enc))]:=by
     unfold a24;rw[hS0,a0a,a0c,a0k _ hT0,a0n _ hT0,a0k _ hV0,a0n _ hV0];rfl
    rw[hcan];simp only[List.cons_append,List.nil_append,List.length_cons,List.length_nil];have kS:∀d H,a0j L.env d (sem L.env Mf) (.func (.func 42) [] []) [.nilslice] H=some (.nilslice,H,[]):=λd H=>a0l (by kernel_rfl) (by kernel_rfl) rfl rfl a9f rfl;have kT:∀d,a0j L.env d (sem L.env Mf) (.func (.func 43) [] []) [.slice 4 0 (r.T.map Tm.enc).length none] [clO,some (.row 2 [[.int .i64 0,.int .i64 0]]),clN (i:Nat),some (.row 4 [[.nilslice,.slice 4 0 (r.T.map Tm.enc).length none,.slice 5 0 (r.V.map Vc.enc).length none,.int .i64 r.sum]]),some (.row 6 (r.T.map Tm.enc)),some (.row 3 (r.V.map Vc.enc)),some (.row 1 LR)]=some (.slice 4 0 (r.T.map Tm.enc).length (some (r.T.map Tm.enc).length),[clO,some (.row 2 [[.int .i64 0,.int .i64 0]]),clN (i:Nat),some (.row 4 [[.nilslice,.slice 4 0 (r.T.map Tm.enc).length none,.slice 5 0 (r.V.map Vc.enc).length none,.int .i64 r.sum]]),some (.row 6 (r.T.map Tm.enc)),some (.row 3 (r.V.map Vc.enc)),some (.row 1 LR)],[4]):=λd=>a14 (by kernel_rfl) (by kernel_rfl) rfl (b:=4) (o:=.row 6 (r.T.map Tm.enc)) (o':=.row 6 (r.T.map Tm.enc)) rfl (a0r fT) (FlatO.row fT) rfl rfl (b6c _ _ rfl fT) (FlatO.row fT) rfl;have kV:∀d,a0j L.env d (sem L.env Mf) (.func (.func 44) [] []) [.slice 5 0 (r.V.map Vc.enc).length none] [clO,some (.row 2 [[.int .i64 0,.int .i64 0]]),clN (i:Nat),some (.row 4 [[.nilslice,.slice 4 0 (r.T.map Tm.enc).length none,.slice 5 0 (r.V.map Vc.enc).length none,.int .i64 r.sum]]),some (.row 6 (r.T.map Tm.enc)),some (.row 3 (r.V.map Vc.enc)),some (.row 1 LR)]=some (.slice 5 0 (r.V.map Vc.enc).length (some (r.V.map Vc.enc).length),[clO,some (.row 2 [[.int .i64 0,.int .i64 0]]),clN (i:Nat),some (.row 4 [[.nilslice,.slice 4 0 (r.T.map Tm.enc).length none,.slice 5 0 (r.V.map Vc.enc).length none,.int .i64 r.sum]]),some (.row 6 (r.T.map Tm.enc)),some (.row 3 (r.V.map Vc.enc)),some (.row 1 LR)],[5]):=λd=>a14 (by kernel_rfl) (by kernel_rfl) rfl (b:=5) (o:=.row 3 (r.V.map Vc.enc)) (o':=.row 3 (r.V.map Vc.enc)) rfl (a0r fV) (FlatO.row fV) rfl rfl (b68 _ _ rfl fV) (FlatO.row fV) rfl;rw[hS0,a4x,a7b hT0,a7b hV0];have tT:(r.T.map Tm.enc).take (r.T.map Tm.enc).length=r.T.map Tm.enc:=List.take_of_length_le (Nat.le_refl _);have tV:(r.V.map Vc.enc).take (r.V.map Vc.enc).length=r.V.map Vc.enc:=List.take_of_length_le (Nat.le_refl _);generalize r.T.map Tm.enc=RT at *;generalize r.V.map Vc.enc=RV at *
    (repeat first|simp only[ww]|(apply xa;simp+decide only[go_sem,l1,kS,kT,kV];rfl;kernel_rfl))
    refine⟨trivial,rfl,rfl,_,by(simp+decide only[go_sem]<;>rfl),?_⟩;simp+decide only[go_sem,S1,T1,V1,S3,T3,V3,tT,tV]<;>rfl
   ·have hcan:a24 r=[some (.row 4 [[.slice 4 0 (r.S.map Sg.enc).length none,.nilslice,.nilslice,.int .i64 r.sum]]),some (.row 2 (r.S.map Sg.enc))]:=by
     unfold a24;rw[a0k _ hS0,a0n _ hS0,hT0,a0a,a0c,hV0,a0a,a0c];rfl
    rw[hcan];simp only[List.cons_append,List.nil_append,List.length_cons,List.length_nil];have kS:∀d,a0j L.env d (sem L.env Mf) (.func (.func 42) [] []) [.slice 4 0 (r.S.map Sg.enc).length none] [clO,some (.row 2 [[.int .i64 0,.int .i64 0]]),clN (i:Nat),some (.row 4 [[.slice 4 0 (r.S.map Sg.enc).length none,.nilslice,.nilslice,.int .i64 r.sum]]),some (.row 2 (r.S.map Sg.enc)),some (.row 1 LR)]=some (.slice 4 0 (r.S.map Sg.enc).length (some (r.S.map Sg.enc).length),[clO,some (.row 2 [[.int .i64 0,.int .i64 0]]),clN (i:Nat),some (.row 4 [[.slice 4 0 (r.S.map Sg.enc).length none,.nilslice,.nilslice,.int .i64 r.sum]]),some (.row 2 (r.S.map Sg.enc)),some (.row 1 LR)],[4]):=λd=>a14 (by kernel_rfl) (by kernel_rfl) rfl (b:=4) (o:=.row 2 (r.S.map Sg.enc)) (o':=.row 2 (r.S.map Sg.enc)) rfl (a0r fS) (FlatO.row fS) rfl rfl (b6g _ _ rfl fS) (FlatO.row fS) rfl;have kT:∀d H,a0j L.env d (sem L.env Mf) (.func (.func 43) [] []) [.nilslice] H=some (.nilslice,H,[]):=λd H=>a0l (by kernel_rfl) (by kernel_rfl) rfl rfl a9c rfl;have kV:∀d H,a0j L.env d (sem L.env Mf) (.func (.func 44) [] []) [.nilslice] H=some (.nilslice,H,[]):=λd H=>a0l (by kernel_rfl) (by kernel_rfl) rfl rfl a94 rfl;rw[a7b hS0,hT0,a4x,hV0,a4x];have tS:(r.S.map Sg.enc).take (r.S.map Sg.enc).length=r.S.map Sg.enc:=List.take_of_length_le (Nat.le_refl _);generalize r.S.map Sg.enc=RS at *
    (repeat first|simp only[ww]|(apply xa;simp+decide only[go_sem,l1,kS,kT,kV];rfl;kernel_rfl))
    refine⟨trivial,rfl,rfl,_,by(simp+decide only[go_sem]<;>rfl),?_⟩;simp+decide only[go_sem,S1,T1,V1,S3,T3,V3,tS]<;>rfl
   ·have hcan:a24 r=[some (.row 4 [[.slice 4 0 (r.S.map Sg.enc).length none,.nilslice,.slice 5 0 (r.V.map Vc.enc).length none,.int .i64 r.sum]]),some (.row 2 (r.S.map Sg.enc)),some (.row 3 (r.V.map Vc.enc))]:=by
     unfold a24;rw[a0k _ hS0,a0n _ hS0,hT0,a0a,a0c,a0k _ hV0,a0n _ hV0];rfl
    rw[hcan];simp only[List.cons_append,List.nil_append,List.length_cons,List.length_nil];have kS:∀d,a0j L.env d (sem L.env Mf) (.func (.func 42) [] []) [.slice 4 0 (r.S.map Sg.enc).length none] [clO,some (.row 2 [[.int .i64 0,.int .i64 0]]),clN (i:Nat),some (.row 4 [[.slice 4 0 (r.S.map Sg.enc).length none,.nilslice,.slice 5 0 (r.V.map Vc.enc).length none,.int .i64 r.sum]]),some (.row 2 (r.S.map Sg.enc)),some (.row 3 (r.V.map Vc.enc)),some (.row 1 LR)]=some (.slice 4 0 (r.S.map Sg.enc).length (some (r.S.map Sg.enc).length),[clO,some (.row 2 [[.int .i64 0,.int .i64 0]]),clN (i:Nat),some (.row 4 [[.slice 4 0 (r.S.map Sg.enc).length none,.nilslice,.slice 5 0 (r.V.map Vc.enc).length none,.int .i64 r.sum]]),some (.row 2 (r.S.map Sg.enc)),some (.row 3 (r.V.map Vc.enc)),some (.row 1 LR)],[4]):=λd=>a14 (by kernel_rfl) (by kernel_rfl) rfl (b:=4) (o:=.row 2 (r.S.map Sg.enc)) (o':=.row 2 (r.S.map Sg.enc)) rfl (a0r fS) (FlatO.row fS) rfl rfl (b6g _ _ rfl fS) (FlatO.row fS) rfl;have kT:∀d H,a0j L.env d (sem L.env Mf) (.func (.func 43) [] []) [.nilslice] H=some (.nilslice,H,[]):=λd H=>a0l (by kernel_rfl) (by kernel_rfl) rfl rfl a9c rfl;have kV:∀d,a0j L.env d (sem L.env Mf) (.func (.func 44) [] []) [.slice 5 0 (r.V.map Vc.enc).length none] [clO,some (.row 2 [[.int .i64 0,.int .i64 0]]),clN (i:Nat),some (.row 4 [[.slice 4 0 (r.S.map Sg.enc).length none,.nilslice,.slice 5 0 (r.V.map Vc.enc).length none,.int .i64 r.sum]]),some (.row 2 (r.S.map Sg.enc)),some (.row 3 (r.V.map Vc.enc)),some (.row 1 LR)]=some (.slice 5 0 (r.V.map Vc.enc).length (some (r.V.map Vc.enc).length),[clO,some (.row 2 [[.int .i64 0,.int .i64 0]]),clN (i:Nat),some (.row 4 [[.slice 4 0 (r.S.map Sg.enc).length none,.nilslice,.slice 5 0 (r.V.map Vc.enc).length none,.int .i64 r.sum]]),some (.row 2 (r.S.map Sg.enc)),some (.row 3 (r.V.map Vc.enc)),some (.row 1 LR)],[5]):=λd=>a14 (by kernel_rfl) (by kernel_rfl) rfl (b:=5) (o:=.row 3 (r.V.map Vc.enc)) (o':=.row 3 (r.V.map Vc.enc)) rfl (a0r fV) (FlatO.row fV) rfl rfl (b68 _ _ rfl fV) (FlatO.row fV) rfl;rw[a7b hS0,hT0,a4x,a7b hV0];have tS:(r.S.map Sg.enc).take (r.S.map Sg.enc).length=r.S.map Sg.enc:=List.take_of_length_le (Nat.le_refl _);have tV:(r.V.map Vc.enc).take (r.V.map Vc.enc).length=r.V.map Vc.enc:=List.take_of_length_le (Nat.le_refl _);generalize r.S.map Sg.enc=RS at *;generalize r.V.map Vc.enc=RV at *
    (repeat first|simp only[ww]|(apply xa;simp+decide only[go_sem,l1,kS,kT,kV];rfl;kernel_rfl))
    refine⟨trivial,rfl,rfl,_,by(simp+decide only[go_sem]<;>rfl),?_⟩;simp+decide only[go_sem,S1,T1,V1,S3,T3,V3,tS,tV]<;>rfl
   ·have hcan:a24 r=[some (.row 4 [[.slice 4 0 (r.S.map Sg.enc).length none,.slice 5 0 (r.T.map Tm.enc).length none,.nilslice,.int .i64 r.sum]]),some (.row 2 (r.S.map Sg.enc)),some (.row 6 (r.T.map Tm.enc))]:=by
     unfold a24;rw[a0k _ hS0,a0n _ hS0,a0k _ hT0,a0n _ hT0,hV0,a0a,a0c];rfl
    rw[hcan];simp only[List.cons_append,List.nil_append,List.length_cons,List.length_nil];have kS:∀d,a0j L.env d (sem L.env Mf) (.func (.func 42) [] []) [.slice 4 0 (r.S.map Sg.enc).length none] [clO,some (.row 2 [[.int .i64 0,.int .i64 0]]),clN (i:Nat),some (.row 4 [[.slice 4 0 (r.S.map Sg.enc).length none,.slice 5 0 (r.T.map Tm.enc).length none,.nilslice,.int .i64 r.sum]]),some (.row 2 (r.S.map Sg.enc)),some (.row 6 (r.T.map Tm.enc)),some (.row 1 LR)]=some (.slice 4 0 (r.S.map Sg.enc).length (some (r.S.map Sg.enc).length),[clO,some (.row 2 [[.int .i64 0,.int .i64 0]]),clN (i:Nat),some (.row 4 [[.slice 4 0 (r.S.map Sg.enc).length none,.slice 5 0 (r.T.map Tm.enc).length none,.nilslice,.int .i64 r.sum]]),some (.row 2 (r.S.map Sg.enc)),some (.row 6 (r.T.map Tm.enc)),some (.row 1 LR)],[4]):=λd=>a14 (by kernel_rfl) (by kernel_rfl) rfl (b:=4) (o:=.row 2 (r.S.map Sg.enc)) (o':=.row 2 (r.S.map Sg.enc)) rfl (a0r fS) (FlatO.row fS) rfl rfl (b6g _ _ rfl fS) (FlatO.row fS) rfl;have kT:∀d,a0j L.env d (sem L.env Mf) (.func (.func 43) [] []) [.slice 5 0 (r.T.map Tm.enc).length none] [clO,some (.row 2 [[.int .i64 0,.int .i64 0]]),clN (i:Nat),some (.row 4 [[.slice 4 0 (r.S.map Sg.enc).length none,.slice 5 0 (r.T.map Tm.enc).length none,.nilslice,.int .i64 r.sum]]),some (.row 2 (r.S.map Sg.enc)),some (.row 6 (r.T.map Tm.enc)),some (.row 1 LR)]=some (.slice 5 0 (r.T.map Tm.enc).length (some (r.T.map Tm.enc).length),[clO,some (.row 2 [[.int .i64 0,.int .i64 0]]),clN (i:Nat),some (.row 4 [[.slice 4 0 (r.S.map Sg.enc).length none,.slice 5 0 (r.T.map Tm.enc).length none,.nilslice,.int .i64 r.sum]]),some (.row 2 (r.S.map Sg.enc)),some (.row 6 (r.T.map Tm.enc)),some (.row 1 LR)],[5]):=λd=>a14 (by kernel_rfl) (by kernel_rfl) rfl (b:=5) (o:=.row 6 (r.T.map Tm.enc)) (o':=.row 6 (r.T.map Tm.enc)) rfl (a0r fT) (FlatO.row fT) rfl rfl (b6c _ _ rfl fT) (FlatO.row fT) rfl;have kV:∀d H,a0j L.env d (sem L.env Mf) (.func (.func 44) [] []) [.nilslice] H=some (.nilslice,H,[]):=λd H=>a0l (by kernel_rfl) (by kernel_rfl) rfl rfl a94 rfl;rw[a7b hS0,a7b hT0,hV0,a4x];have tS:(r.S.map Sg.enc).take (r.S.map Sg.enc).length=r.S.map Sg.enc:=List.take_of_length_le (Nat.le_refl _);have tT:(r.T.map Tm.enc).take (r.T.map Tm.enc).length=r.T.map Tm.enc:=List.take_of_length_le (Nat.le_refl _);generalize r.S.map Sg.enc=RS at *;generalize r.T.map Tm.enc=RT at *
    (repeat first|simp only[ww]|(apply xa;simp+decide only[go_sem,l1,kS,kT,kV];rfl;kernel_rfl))
    refine⟨trivial,rfl,rfl,_,by(simp+decide only[go_sem]<;>rfl),?_⟩;simp+decide only[go_sem,S1,T1,V1,S3,T3,V3,tS,tT]<;>rfl
   ·have hcan:a24 r=[some (.row 4 [[.slice 4 0 (r.S.map Sg.enc).length none,.slice 5 0 (r.T.map Tm.enc).length none,.slice 6 0 (r.V.map Vc.enc).length none,.int .i64 r.sum]]),some (.row 2 (r.S.map Sg.enc)),some (.row 6 (r.T.map Tm.enc)),some (.row 3 (r.V.map Vc.enc))]:=by
     unfold a24;rw[a0k _ hS0,a0n _ hS0,a0k _ hT0,a0n _ hT0,a0k _ hV0,a0n _ hV0];rfl
    rw[hcan];simp only[List.cons_append,List.nil_append,List.length_cons,List.length_nil];have kS:∀d,a0j L.env d (sem L.env Mf) (.func (.func 42) [] []) [.slice 4 0 (r.S.map Sg.enc).length none] [clO,some (.row 2 [[.int .i64 0,.int .i64 0]]),clN (i:Nat),some (.row 4 [[.slice 4 0 (r.S.map Sg.enc).length none,.slice 5 0 (r.T.map Tm.enc).length none,.slice 6 0 (r.V.map Vc.enc).length none,.int .i64 r.sum]]),some (.row 2 (r.S.map Sg.enc)),some (.row 6 (r.T.map Tm.enc)),some (.row 3 (r.V.map Vc.enc)),some (.row 1 LR)]=some (.slice 4 0 (r.S.map Sg.enc).length (some (r.S.map Sg.enc).length),[clO,some (.row 2 [[.int .i64 0,.int .i64 0]]),clN (i:Nat),some (.row 4 [[.slice 4 0 (r.S.map Sg.enc).length none,.slice 5 0 (r.T.map Tm.enc).length none,.slice 6 0 (r.V.map Vc.enc).length none,.int .i64 r.sum]]),some (.row 2 (r.S.map Sg.enc)),some (.row 6 (r.T.map Tm.enc)),some (.row 3 (r.V.map Vc.enc)),some (.row 1 LR)],[4]):=λd=>a14 (by kernel_rfl) (by kernel_rfl) rfl (b:=4) (o:=.row 2 (r.S.map Sg.enc)) (o':=.row 2 (r.S.map Sg.enc)) rfl (a0r fS) (FlatO.row fS) rfl rfl (b6g _ _ rfl fS) (FlatO.row fS) rfl;have kT:∀d,a0j L.env d (sem L.env Mf) (.func (.func 43) [] []) [.slice 5 0 (r.T.map Tm.enc).length none] [clO,some (.row 2 [[.int .i64 0,.int .i64 0]]),clN (i:Nat),some (.row 4 [[.slice 4 0 (r.S.map Sg.enc).length none,.slice 5 0 (r.T.map Tm.enc).length none,.slice 6 0 (r.V.map Vc.enc).length none,.int .i64 r.sum]]),some (.row 2 (r.S.map Sg.enc)),some (.row 6 (r.T.map Tm.enc)),some (.row 3 (r.V.map Vc.enc)),some (.row 1 LR)]=some (.slice 5 0 (r.T.map Tm.enc).length (some (r.T.map Tm.enc).length),[clO,some (.row 2 [[.int .i64 0,.int .i64 0]]),clN (i:Nat),some (.row 4 [[.slice 4 0 (r.S.map Sg.enc).length none,.slice 5 0 (r.T.map Tm.enc).length none,.slice 6 0 (r.V.map Vc.enc).length none,.int .i64 r.sum]]),some (.row 2 (r.S.map Sg.enc)),some (.row 6 (r.T.map Tm.enc)),some (.row 3 (r.V.map Vc.enc)),some (.row 1 LR)],[5]):=λd=>a14 (by kernel_rfl) (by kernel_rfl) rfl (b:=5) (o:=.row 6 (r.T.map Tm.enc)) (o':=.row 6 (r.T.map Tm.enc)) rfl (a0r fT) (FlatO.row fT) rfl rfl (b6c _ _ rfl fT) (FlatO.row fT) rfl;have kV:∀d,a0j L.env d (sem L.env Mf) (.func (.func 44) [] []) [.slice 6 0 (r.V.map Vc.enc).length none] [clO,some (.row 2 [[.int .i64 0,.int .i64 0]]),clN (i:Nat),some (.row 4 [[.slice 4 0 (r.S.map Sg.enc).length none,.slice 5 0 (r.T.map Tm.enc).length none,.slice 6 0 (r.V.map Vc.enc).length none,.int .i64 r.sum]]),some (.row 2 (r.S.map Sg.enc)),some (.row 6 (r.T.map Tm.enc)),some (.row 3 (r.V.map Vc.enc)),some (.row 1 LR)]=some (.slice 6 0 (r.V.map Vc.enc).length (some (r.V.map Vc.enc).length),[clO,some (.row 2 [[.int .i64 0,.int .i64 0]]),clN (i:Nat),some (.row 4 [[.slice 4 0 (r.S.map Sg.enc).length none,.slice 5 0 (r.T.map Tm.enc).length none,.slice 6 0 (r.V.map Vc.enc).length none,.int .i64 r.sum]]),some (.row 2 (r.S.map Sg.enc)),some (.row 6 (r.T.map Tm.enc)),some (.row 3 (r.V.map Vc.enc)),some (.row 1 LR)],[6]):=λd=>a14 (by kernel_rfl) (by kernel_rfl) rfl (b:=6) (o:=.row 3 (r.V.map Vc.enc)) (o':=.row 3 (r.V.map Vc.enc)) rfl (a0r fV) (FlatO.row fV) rfl rfl (b68 _ _ rfl fV) (FlatO.row fV) rfl;rw[a7b hS0,a7b hT0,a7b hV0];have tS:(r.S.map Sg.enc).take (r.S.map Sg.enc).length=r.S.map Sg.enc:=List.take_of_length_le (Nat.le_refl _);have tT:(r.T.map Tm.enc).take (r.T.map Tm.enc).length=r.T.map Tm.enc:=List.take_of_length_le (Nat.le_refl _);have tV:(r.V.map Vc.enc).take (r.V.map Vc.enc).length=r.V.map Vc.enc:=List.take_of_length_le (Nat.le_refl _);generalize r.S.map Sg.enc=RS at *;generalize r.T.map Tm.enc=RT at *;generalize r.V.map Vc.enc=RV at *
    (repeat first|simp only[ww]|(apply xa;simp+decide only[go_sem,l1,kS,kT,kV];rfl;kernel_rfl))
    refine⟨trivial,rfl,rfl,_,by(simp+decide only[go_sem]<;>rfl),?_⟩;simp+decide only[go_sem,S1,T1,V1,S3,T3,V3,tS,tT,tV]<;>rfl
end Go.RInst
namespace Go.RInst
open Go.Proofs Go.Ax Go.Pc
variable [PR]
set_option maxRecDepth 100000
/-! ### a a5k that Write b9v is read back -/
theorem a65(c:UInt8):∀(u rest:List UInt8),(∀b∈u,b≠c)→a00 c (u++c::rest)=u::a00 c rest
 | [],rest,_=>by simp[a00]
 |b::u,rest,h=>by have hb:=h b (by simp);have ih:=a65 c u rest λx hx=>h x (by simp[hx]);rw[List.cons_append,a00,if_neg hb,ih]
theorem b7o(c:UInt8)(u:List UInt8)(h:∀b∈u,b≠c):a00 c u=[u]:=b0d c u (List.count_eq_zero.2 λhm=>h c hm rfl)
theorem b0c(c:UInt8):∀(w:List UInt8) (ws:List (List UInt8)),(∀x∈w::ws,∀b∈x,b≠c)→a00 c (Lib.join (w::ws) [c])=w::ws
 |w,[],h=>by rw[Lib.join_one];exact b7o c w (h w (by simp))
 |w,v::ws,h=>by
  have ih:=b0c c v ws λx hx=>h x (by simp[List.mem_cons.1 hx]);have e:Lib.join (w::v::ws) [c]=w++c::Lib.join (v::ws) [c]:=by rw[Lib.join_cons,Lib.join_cons];simp[Lib.joinTail]
  rw[e,a65 c w _ (h w (by simp)),ih]
theorem a6e(c:UInt8):∀(w:List UInt8) (ws:List (List UInt8)) (d:UInt8),d≠c→(∀x∈w::ws,∀b∈x,b≠c)→∀b∈Lib.join (w::ws) [d],b≠c
 |w,[],d,hd,h=>by rw[Lib.join_one];exact h w (by simp)
 |w,v::ws,d,hd,h=>by
  have ih:=a6e c v ws d hd λx hx=>h x (by simp[List.mem_cons.1 hx]);have e:Lib.join (w::v::ws) [d]=w++d::Lib.join (v::ws) [d]:=by rw[Lib.join_cons,Lib.join_cons];simp[Lib.joinTail]
  rw[e];intro b hb;rcases List.mem_append.1 hb with hb|hb
  ·exact h w (by simp) b hb
  ·rcases List.mem_cons.1 hb with rfl|hb
   ·exact hd
   ·exact ih b hb
def c9c(ws:List (List UInt8)):Prop:=∀w∈ws,w≠[]∧∀b∈w,b≠32∧b≠10
theorem c2e{w:List UInt8}{ws:List (List UInt8)}(h:c9c (w::ws)):a38 (a00 32 (Lib.join (w::ws) [32]))=w::ws:=by rw[b0c 32 w ws λx hx b hb=>((h x hx).2 b hb).1];exact b75 λx hx=>(h x hx).1
theorem a4e(r:Rd)(s:List UInt8)(l:List (List UInt8)):a2u r (s::l)=match a3w r s with
 |some r'=>a2u r' l
 |none=>none:=rfl
theorem a9j(r:Rd)(w0:List UInt8)(tl:List (List UInt8)):rdW r (w0::tl)=if w0.head?=some 35 then some r else if w0=b2o then rdS r tl else if w0=a4u then rdT r tl else if w0=a8g then rdV r tl else none:=rfl
theorem d12(r:Rd)(nm d:List UInt8)(hc:(d=inK∨d=c4q)∧r.T=[]∧r.V=[]∧a43 nm=true∧nm∉r.S.map Sg.name∧r.S.length<256):rdS r [nm,d]=some ⟨r.S++[⟨nm,if d=c4q then 1 else 0⟩],r.T,r.V,r.sum⟩:=by unfold rdS;exact if_pos hc
theorem d11(r:Rd)(nm w0 w1 w2 w3 w4:List UInt8)(hc:r.V=[]∧(∀w∈[w0,w1,w2,w3,w4],NumOk w)∧a5j ⟨nm,a0d w0,a0d w1,a0d w2,a0d w3,a0d w4⟩=true∧nm∉r.T.map Tm.name∧r.T.length<16):rdT r [nm,w0,w1,w2,w3,w4]=some ⟨r.S,r.T++[⟨nm,a0d w0,a0d w1,a0d w2,a0d w3,a0d w4⟩],r.V,r.sum⟩:=by unfold rdT;exact if_pos hc
theorem b0m{r r':Rd}{w:List UInt8}{ws:List (List UInt8)}{rest:List UInt8}(h:c9c (w::ws))(hl:(lnT (w::ws)).length≤4096)(hr:rdW r (w::ws)=some r'):a2u r (a00 10 (lnT (w::ws)++rest))=a2u r' (a00 10 rest):=by
 have e:lnT (w::ws)++rest=Lib.join (w::ws) [32]++10::rest:=by simp[lnT]
 rw[e,a65 10 _ rest (a6e 10 w ws 32 (by decide) λx hx b hb=>((h x hx).2 b hb).2)];have hll:(Lib.join (w::ws) [32]).length≤4096:=by simp only[lnT,List.length_append,List.length_singleton]at hl;omega
 have hln:a3w r (Lib.join (w::ws) [32])=some r':=by unfold a3w;rw[if_pos hll,c2e h,hr]
 rw[a4e,hln]
theorem b7w(r:Rd):a2u r (a00 10 [])=some r:=by have e:a38 (a00 32 [])=[]:=rfl;show a2u r [[]]=some r;unfold a2u a3w;rw[if_pos (by simp),e];rfl
/-! numbers -/
theorem d73:∀n:Nat,∀b∈Lib.decDigits n,d1m b:=by
 intro n
 induction n using Nat.strongRecOn with
 |_ n ih=>
  intro b hb;rw[Lib.decDigits]at hb;have key:∀k:Nat,k<10→48≤(UInt8.ofNat (48+k)).toNat∧(UInt8.ofNat (48+k)).toNat≤57:=by decide
  split at hb
  ·rename_i h;rw[List.mem_singleton.1 hb];exact key n h
  ·rename_i h;rcases List.mem_append.1 hb with hb|hb
   ·exact ih (n/10) (by omega) b hb
   ·rw[List.mem_singleton.1 hb];exact key _ (by omega)
theorem d72:∀n:Nat,a0d (Lib.decDigits n)=n:=by
 intro n
 induction n using Nat.strongRecOn with
 |_ n ih=>
  rw[Lib.decDigits];have key:∀k:Nat,k<10→(UInt8.ofNat (48+k)).toNat-48=k:=by decide
  split
  ·rename_i h;show 10*0+((UInt8.ofNat (48+n)).toNat-48)=n;rw[key n h];omega
  ·rename_i h;have e:a0d (Lib.decDigits (n/10)++[UInt8.ofNat (48+n%10)])=10*a0d (Lib.decDigits (n/10))+((UInt8.ofNat (48+n%10)).toNat-48):=by
    unfold a0d;rw[List.foldl_append];rfl
   rw[e,ih (n/10) (by omega),key _ (by omega)];omega
theorem d26:∀n:Nat,0<n→∃a,(Lib.decDigits n)[0]?=some a∧a.toNat≠48:=by
 intro n
 induction n using Nat.strongRecOn with
 |_ n ih=>
  intro h0;rw[Lib.decDigits];have key:∀k:Nat,k<10→0<k→(UInt8.ofNat (48+k)).toNat≠48:=by decide
  split
  ·rename_i h;exact⟨_,rfl,key n h h0⟩
  ·rename_i h;obtain⟨a,h1,h2⟩:=ih (n/10) (by omega) (by omega);exact⟨a,by rw[List.getElem?_append_left (List.getElem?_eq_some_iff.1 h1).1];exact h1,h2⟩
theorem d25(n:Nat):1≤(Lib.decDigits n).length:=by rw[Lib.decDigits];split<;>simp
theorem a3r(n:Int)(h0:0≤n)(h1:n≤1000000):NumOk (Lib.itoa n)∧((a0d (Lib.itoa n):Nat):Int)=n:=by
 have hl:=a6s n h0 h1;have e:Lib.itoa n=Lib.decDigits n.toNat:=by unfold Lib.itoa;rw[if_neg (by omega)]
 rw[e]at hl⊢;refine⟨⟨d25 _,hl,?_,d73 _⟩,by rw[d72];omega⟩;by_cases hz:n.toNat=0
 ·left;rw[hz,Lib.decDigits,dif_pos (by decide)];rfl
 ·right;exact d26 _ (by omega)
theorem a3q(w:List UInt8)(h:NumOk w):w≠[]∧∀b∈w,b≠32∧b≠10:=by refine⟨λe=>by have:=h.l1;rw[e]at this;simp at this,λb hb=>?_⟩;have hd:=h.d b hb;constructor<;>(intro e;subst e;have:=hd.1;simp at this)
theorem a6d{w:List UInt8}(h:a43 w=true):w≠[]∧∀b∈w,b≠32∧b≠10:=by
 cases w with
 |nil=>cases h
 |cons a r=>refine⟨by simp,λb hb=>?_⟩;simp only[a43,Bool.and_eq_true,decide_eq_true_eq]at h;have hc:=List.all_eq_true.1 h.2.2 b hb;simp only[b1t,Bool.and_eq_true,decide_eq_true_eq]at hc;constructor<;>(intro e;subst e;have:=hc.1;simp at this)
theorem b5v{S:List Sg}{cs:List UInt8}(h:a29 S cs=true):∀b∈cs,b≠32∧b≠10∧b≠45:=by
 intro b hb;obtain⟨i,hi⟩:=List.getElem?_of_mem hb;have hl:=a4t S cs h;have hlt:=(List.getElem?_eq_some_iff.1 hi).1;obtain⟨s,hs⟩:∃s,S[i]?=some s:=⟨_,z9e (by omega)⟩
 have hk:=a9z S cs h i s b hs hi;have key:∀x:UInt8,((a23 s.dir).contains x=true)→x≠32∧x≠10∧x≠45:=by
  intro x hx;unfold a23 at hx;split at hx
  ·rw[List.contains_iff_mem]at hx;simp only[List.mem_cons,List.not_mem_nil,or_false]at hx;rcases hx with rfl|rfl|rfl<;>decide
  ·rw[List.contains_iff_mem]at hx;simp only[List.mem_cons,List.not_mem_nil,or_false]at hx;rcases hx with rfl|rfl|rfl|rfl<;>decide
 exact key b hk
theorem c9o:∀(l:List (List UInt8)) (i:Nat) (n:List UInt8),l.Nodup→l[i]?=some n→fnd n l=i
 | [],i,n,_,h=>by simp at h
 |a::l,0,n,_,h=>by
  have:a=n:=by simpa using h
  unfold fnd;rw[if_pos this];rfl
 |a::l,i+1,n,hd,h=>by
  have h:l[i]?=some n:=by simpa using h
  have hd:=List.nodup_cons.1 hd;have ih:=c9o l i n hd.2 h;have hne:¬a=n:=λe=>hd.1 (by rw[e];exact List.mem_of_getElem? h);unfold fnd;rw[if_neg hne,ih,if_neg (by omega)];rfl
/-! the three kinds of lines -/
theorem c4s{α:Type}{f:α→List UInt8}{l:List α}{i:Nat}{x:α}(hd:(l.map f).Nodup)(h:l[i]?=some x):f x∉(l.take i).map f:=by
 intro hm;obtain⟨y,hy,e⟩:=List.mem_map.1 hm;obtain⟨j,hj⟩:=List.getElem?_of_mem hy;have hji:j<i:=by have:=(List.getElem?_eq_some_iff.1 hj).1;simp at this;omega
 rw[List.getElem?_take,if_pos hji]at hj;have h1:(l.map f)[j]?=some (f x):=by rw[List.getElem?_map,hj];simp[e]
 have h2:(l.map f)[i]?=some (f x):=by rw[List.getElem?_map,h];rfl
 obtain⟨a1,b1⟩:=List.getElem?_eq_some_iff.1 h1;obtain⟨a2,b2⟩:=List.getElem?_eq_some_iff.1 h2;exact List.pairwise_iff_getElem.1 hd j i a1 a2 hji (by rw[b1,b2])
section
variable {S:List Sg}{T:List Tm}{V:List Vc}(h:Valid S T V)
include h
theorem c9w(rest:List UInt8):∀k,k≤S.length→a2u ⟨S.take (S.length-k),[],[],0⟩ (a00 10 ((S.drop (S.length-k)).flatMap (λs=>lnT (a6j s))++rest))=a2u ⟨S,[],[],0⟩ (a00 10 rest)
 |0,_=>by rw[Nat.sub_zero,List.drop_length,List.take_length];rfl
 |k+1,hk=>by
  obtain⟨s,hs⟩:∃s,S[S.length-(k+1)]?=some s:=⟨_,z9e (by omega)⟩
  have ih:=c9w rest k (by omega);have hd:S.drop (S.length-(k+1))=s::S.drop (S.length-k):=by obtain⟨hh,he⟩:=List.getElem?_eq_some_iff.1 hs;rw[List.drop_eq_getElem_cons hh,he,show S.length-(k+1)+1=S.length-k by omega]
  have hok:=h.sg s (List.mem_of_getElem? hs);have hl:=a9e hok;have hn:=c4s (f:=Sg.name) h.sn hs;have hS:=h.hS;simp only[b1r,Bool.and_eq_true,decide_eq_true_eq]at hok;have hst:rdW ⟨S.take (S.length-(k+1)),[],[],0⟩ (a6j s)=some ⟨S.take (S.length-k),[],[],0⟩:=by
   have ht:=a59 hs;rw[show S.length-(k+1)+1=S.length-k by omega]at ht;unfold a6j;rw[a9j,if_neg (by decide),if_pos rfl];rw[d12 _ _ _ ⟨by split<;>simp,rfl,rfl,hok.1,hn,by simp only[List.length_take];omega⟩,ht];obtain⟨nm,dr⟩:=s;simp only at hok⊢;have hio:¬inK=c4q:=by decide
   rcases(show dr=0∨dr=1 by omega)with rfl|rfl
   ·rw[if_neg (show ¬(0:Nat)=1 by decide),if_neg hio]
   ·rw[if_pos rfl,if_pos rfl]
  have hw:c9c (a6j s):=by
   intro w hw;simp only[a6j,List.mem_cons,List.not_mem_nil,or_false]at hw;rcases hw with rfl|rfl|rfl
   ·exact⟨by decide,by decide⟩
   ·exact a6d hok.1
   ·split<;>exact⟨by decide,by decide⟩
  rw[hd,List.flatMap_cons,List.append_assoc];have:=b0m (r:=⟨S.take (S.length-(k+1)),[],[],0⟩) (rest:=(S.drop (S.length-k)).flatMap (λs=>lnT (a6j s))++rest) (w:=b2o) (ws:=[s.name,if s.dir=1 then c4q else inK]) hw (show(lnT (a6j s)).length≤4096 by omega) hst;exact this.trans ih
theorem c9v(rest:List UInt8):∀k,k≤T.length→a2u ⟨S,T.take (T.length-k),[],0⟩ (a00 10 ((T.drop (T.length-k)).flatMap (λt=>lnT (a91 t))++rest))=a2u ⟨S,T,[],0⟩ (a00 10 rest)
 |0,_=>by rw[Nat.sub_zero,List.drop_length,List.take_length];rfl
 |k+1,hk=>by
  obtain⟨t,hs⟩:∃t,T[T.length-(k+1)]?=some t:=⟨_,z9e (by omega)⟩
  have ih:=c9v rest k (by omega);have hd:T.drop (T.length-(k+1))=t::T.drop (T.length-k):=by obtain⟨hh,he⟩:=List.getElem?_eq_some_iff.1 hs;rw[List.drop_eq_getElem_cons hh,he,show T.length-(k+1)+1=T.length-k by omega]
  have hok:=h.tm t (List.mem_of_getElem? hs);have hl:=a9b hok;have hn:=c4s (f:=Tm.name) h.tn hs;have hT:=h.hT;have hin:=c0k hok;have i1:=hin.dr0;have i2:=hin.ri;have i3:=hin.fa;have i4:=hin.per;have i5:=hin.top;have i6:=hin.st0;have i7:=hin.st1;have a1:=a3r t.per (by omega) (by omega);have a2:=a3r t.dr (by omega) (by omega);have a3:=a3r t.ri (by omega) (by omega);have a4:=a3r t.fa (by omega) (by omega);have a5:=a3r t.st (by omega) (by omega);have hte:(⟨t.name,(a0d (Lib.itoa t.per):Nat),(a0d (Lib.itoa t.dr):Nat),(a0d (Lib.itoa t.ri):Nat),(a0d (Lib.itoa t.fa):Nat),(a0d (Lib.itoa t.st):Nat)⟩:Tm)=t:=by rw[a1.2,a2.2,a3.2,a4.2,a5.2]
  have hnm:a43 t.name=true:=by simp only[a5j,Bool.and_eq_true]at hok;exact hok.1
  have hst:rdW ⟨S,T.take (T.length-(k+1)),[],0⟩ (a91 t)=some ⟨S,T.take (T.length-k),[],0⟩:=by
   have ht:=a59 hs;rw[show T.length-(k+1)+1=T.length-k by omega]at ht;unfold a91 a56;simp only[List.map_cons,List.map_nil,List.cons_append,List.nil_append];rw[a9j,if_neg (by decide),if_neg (by decide),if_pos rfl];rw[d11 _ _ _ _ _ _ _ ⟨rfl,by
    intro w hw;simp only[List.mem_cons,List.not_mem_nil,or_false]at hw;rcases hw with rfl|rfl|rfl|rfl|rfl
    ·exact a1.1
    ·exact a2.1
    ·exact a3.1
    ·exact a4.1
    ·exact a5.1,by rw[hte];exact hok,hn,by simp only[List.length_take];omega⟩,ht,hte]
  have hw:c9c (a91 t):=by
   intro w hw;simp only[a91,a56,List.map_cons,List.map_nil,List.cons_append,List.nil_append,List.mem_cons,List.not_mem_nil,or_false]at hw;rcases hw with rfl|rfl|rfl|rfl|rfl|rfl|rfl
   ·exact⟨by decide,by decide⟩
   ·exact a6d hnm
   ·exact a3q _ a1.1
   ·exact a3q _ a2.1
   ·exact a3q _ a3.1
   ·exact a3q _ a4.1
   ·exact a3q _ a5.1
  rw[hd,List.flatMap_cons,List.append_assoc];have:=b0m (r:=⟨S,T.take (T.length-(k+1)),[],0⟩) (rest:=(T.drop (T.length-k)).flatMap (λt=>lnT (a91 t))++rest) (w:=a4u) (ws:=t.name::(a56 t).map Lib.itoa) hw (show(lnT (a91 t)).length≤4096 by omega) hst;exact this.trans ih
theorem c9u:∀k,k≤V.length→a2u ⟨S,T,V.take (V.length-k),a1d (V.take (V.length-k))⟩ (a00 10 ((V.drop (V.length-k)).flatMap (λv=>lnT (a8m T v))))=some ⟨S,T,V,a1d V⟩
 |0,_=>by rw[Nat.sub_zero,List.drop_length,List.take_length];exact b7w _
 |k+1,hk=>by
  obtain⟨v,hs⟩:∃v,V[V.length-(k+1)]?=some v:=⟨_,z9e (by omega)⟩
  have ih:=c9u k (by omega);have hd:V.drop (V.length-(k+1))=v::V.drop (V.length-k):=by obtain⟨hh,he⟩:=List.getElem?_eq_some_iff.1 hs;rw[List.drop_eq_getElem_cons hh,he,show V.length-(k+1)+1=V.length-k by omega]
  have hvm:=List.mem_of_getElem? hs;have hok:=h.vc v hvm;have hl:=a99 h hvm;have hV:=h.hV;have hrs:=a9h V hs;rw[show V.length-(k+1)+1=V.length-k by omega]at hrs;have ht:=a59 hs;rw[show V.length-(k+1)+1=V.length-k by omega]at ht;have hnn:∀v∈V,0≤v.rep:=λv hv=>by have:=(h.rep v hv).1;omega
  have hsl:=a7l V hnn (V.length-k);have hsum:=h.sum;have hkk:=hok;simp only[a55,Bool.and_eq_true,decide_eq_true_eq]at hkk;obtain⟨b1,b2,b3,b4,b5⟩:=hkk;obtain⟨t,htm⟩:∃t,T[v.t.toNat]?=some t:=⟨_,z9e (by omega)⟩
  have hfn:fnd t.name (T.map Tm.name)=v.t:=by rw[c9o (T.map Tm.name) v.t.toNat t.name h.tn (by rw[List.getElem?_map,htm];rfl)];omega
  have hnm:a43 t.name=true:=by have:=h.tm t (List.mem_of_getElem? htm);simp only[a5j,Bool.and_eq_true]at this;exact this.1
  have hvl:=b69 T v t htm;have hcw:=b5v b5;have hcl:(if(if v.cells=[]then[45]else v.cells)=[45]then[]else(if v.cells=[]then[45]else v.cells))=v.cells:=by
   by_cases hc:v.cells=[]
   ·rw[if_pos hc,if_pos rfl,hc]
   ·rw[if_neg hc,if_neg ?_];intro e;exact(hcw 45 (by rw[e];simp)).2.2 rfl
  have a1:=a3r v.rep (by omega) (by omega);have hvk:∀kk:Nat,(kk:Int)=v.rep→c99 ⟨S,T,V.take (V.length-(k+1)),a1d (V.take (V.length-(k+1)))⟩ t.name (if v.cells=[]then[45]else v.cells) kk=some ⟨S,T,V.take (V.length-k),a1d (V.take (V.length-k))⟩:=by
   intro kk hkk;have hve:d8i ⟨S,T,V.take (V.length-(k+1)),a1d (V.take (V.length-(k+1)))⟩ t.name (if v.cells=[]then[45]else v.cells) kk=v:=by unfold d8i;rw[hcl];simp only;rw[hfn,hkk]
   unfold c99;rw[hve,if_pos ⟨hok,by simp only[List.length_take];omega,by simp only;omega⟩,ht,hkk];simp only;rw[←hrs,ht]
  have hst:rdW ⟨S,T,V.take (V.length-(k+1)),a1d (V.take (V.length-(k+1)))⟩ (a8m T v)=some ⟨S,T,V.take (V.length-k),a1d (V.take (V.length-k))⟩:=by
   rw[hvl];simp only[List.cons_append,List.nil_append];rw[a9j,if_neg (by decide),if_neg (by decide),if_neg (by decide),if_pos rfl];by_cases hr:v.rep=1
   ·rw[if_pos hr];unfold rdV;exact hvk 1 (by rw[hr];rfl)
   ·rw[if_neg hr];unfold rdV;simp only;rw[if_pos a1.1];exact hvk _ a1.2
  have hw:c9c (a8m T v):=by
   intro w hw;rw[hvl]at hw;rcases List.mem_append.1 hw with hw|hw
   ·simp only[List.mem_cons,List.not_mem_nil,or_false]at hw;rcases hw with rfl|rfl|rfl
    ·exact⟨by decide,by decide⟩
    ·exact a6d hnm
    ·by_cases hc:v.cells=[]
     ·rw[if_pos hc];exact⟨by decide,by decide⟩
     ·rw[if_neg hc];exact⟨hc,λb hb=>⟨(hcw b hb).1,(hcw b hb).2.1⟩⟩
   ·split at hw
    ·cases hw
    ·rw[List.mem_singleton.1 hw];exact a3q _ a1.1
  rw[hd,List.flatMap_cons];obtain⟨w0,ws,he⟩:∃w0 ws,a8m T v=w0::ws:=⟨_,_,hvl⟩
  rw[he]at hw hst hl⊢;rw[b0m hw (by omega) hst];exact ih
theorem b8w:a2u ⟨[],[],[],0⟩ (a00 10 (a5k S T V))=some ⟨S,T,V,a1d V⟩:=by have h1:=c9w h (txT T++txV T V) S.length (Nat.le_refl _);have h2:=c9v h (txV T V) T.length (Nat.le_refl _);have h3:=c9u h V.length (Nat.le_refl _);rw[Nat.sub_self,List.take_zero,List.drop_zero]at h1 h2 h3;unfold a5k;rw[List.append_assoc];exact h1.trans (h2.trans h3)
end
end Go.RInst
