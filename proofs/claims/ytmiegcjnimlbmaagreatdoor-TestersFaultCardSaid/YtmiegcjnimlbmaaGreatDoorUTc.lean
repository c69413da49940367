/- Part of a proof. No condition. -/
import Derived.Test.YtmiegcjnimlbmaaGreatDoorUNe
import Derived.Test.YtmiegcjnimlbmaaGreatDoorUTa
import Derived.Test.YtmiegcjnimlbmaaGreatDoorAxD
import Derived.Test.YtmiegcjnimlbmaaGreatDoorUTb
import Derived.Test.YtmiegcjnimlbmaaGreatDoorUIn
set_option linter.unusedSimpArgs false
set_option linter.unusedVariables false
namespace Go.UInst
set_option maxHeartbeats 200000000
open Go.Proofs Go.Ax Go.Pc
set_option maxRecDepth 100000
def foQ(qs:List (List Nat)):List (List (List AV)):=qs.map λq=>q.map u8R
theorem a74(qs:List (List Nat)):(foQ qs).length=qs.length:=by simp[foQ]
inductive InS(c:Cir)(qs:List (List Nat))(V:AV)(cb:Nat)(H:a03):Prop
 |nil:qs=[]→V = .nilslice→cb=0→H=[some (.row 4 [[sl c.nc (c.nodes.map Nd.enc),sl c.mc (c.names.map a1c),.nilslice,sl c.oc (c.outs.map a0f)]])]→InS c qs V cb H
 |some (b:Nat) (aq:Nat→Nat):qs≠[]→V = .slice b 0 qs.length none→a02 H cb=some (.row 4 [[sl c.nc (c.nodes.map Nd.enc),sl c.mc (c.names.map a1c),.nilslice,sl c.oc (c.outs.map a0f)]])→Two H b 1 aq cpN (foQ qs)→InS c qs V cb H
theorem d8s(c:Cir)(hc:c.wf)(hk:kinds c.nodes 0≠[])(pr:Rep)(ps:List Pat)(iN:∀p∈ps,PxOk p)(cC:ps.length≤8) :
 ∃r:AV×a03,(∃qs:List (List Nat),qs.length=ps.length∧(∀q∈qs,q.length=(kinds c.nodes 0).length∧∀v∈q,v≤3)∧((qs=[]∧r=(.nilslice,[]))∨∃b aq L,qs≠[]∧r=(.slice b 0 qs.length none,L)∧Two L b 1 aq cpN (foQ qs)))∧
 sem L.env Mf 16 [.agg c.enc,sl pr (ps.map Pat.enc)] []=some r:=by
 have rG:=λp hp=>c88 c hc hk p (iN p hp);have cT:∀π:Nat→Option Nat,a0e π (.row 4 [[sl c.nc (c.nodes.map Nd.enc),sl c.mc (c.names.map a1c),.nilslice,sl c.oc (c.outs.map a0f)]]) = .row 4 [[sl c.nc (c.nodes.map Nd.enc),sl c.mc (c.names.map a1c),.nilslice,sl c.oc (c.outs.map a0f)]]:=λπ=>by simp+decide only[go_sem]
 have cS:a0y (some (.row 4 [[sl c.nc (c.nodes.map Nd.enc),sl c.mc (c.names.map a1c),.nilslice,sl c.oc (c.outs.map a0f)]]))=[]:=by simp+decide only[go_sem]
 simp only[Cir.enc,Pat.enc]at rG⊢
 (refine svE Tryz.f16 ?_;simp only[Tryz.f16,gS])
 (repeat first|simp only[ww]|(apply xa;simp+decide only[go_sem];rfl;kernel_rfl))
 refine a3j kp16_0 (λn F H=>∃(qs:List (List Nat)) (V:AV) (cb:Nat),n=ps.length-qs.length∧qs.length≤ps.length∧(∀q∈qs,q.length=(kinds c.nodes 0).length∧∀v∈q,v≤3)∧F=[(1,sl pr (ps.map Pat.enc)),(2,.ptr cb 0 0),(5,V),(6,.int .i64 qs.length)]∧InS c qs V cb H) ps.length ?_ ?_
 ·refine⟨_,[some (.row 4 [[sl c.nc (c.nodes.map Nd.enc),sl c.mc (c.names.map a1c),.nilslice,sl c.oc (c.outs.map a0f)]])],?_,[],.nilslice,0,rfl,e8e _,by simp,rfl,.nil rfl rfl rfl rfl⟩
  (simp+decide only[go_sem,a01,a00,cT,cS,Pat.enc]<;>rfl)<;>rfl
 ·rintro n F H ⟨qs,V,cb,rfl,kw,pP,rfl,hS⟩
  by_cases aj:qs.length<ps.length
  ·obtain⟨p,hp⟩:∃p,ps[qs.length]?=some p:=⟨_,z9e aj⟩
   obtain⟨a,b,bB,ai⟩:=rG p (c11 hp);have c1:(qs.length:Int)<ps.length:=by omega
   have hw:=wI1 (n:=qs.length) (by omega);have dZ:Pat.enc p=[sl p.ic (p.ins.map u8R),sl p.sc (p.sts.map u8R)]:=rfl;have tU:a≠[]:=by intro e;have:=bB.ins;rw[e]at this;exact hk (List.eq_nil_of_length_eq_zero this.symm)
   have pO:∀x∈qs++[a],x.length=(kinds c.nodes 0).length∧∀v∈x,v≤3:=by
    intro x hx;rcases e9s.1 hx with hx|hx
    ·exact pP x hx
    ·rw[e8k.1 hx];exact⟨bB.ins,bB.inv⟩
   have aw:a.map u8R≠[]:=by intro e;exact tU (List.map_eq_nil_iff.1 e)
   have eQ:FlatR (a.map u8R):=FlatR.map λ_=>rfl;have head:∀(mH b1:Nat) (mW:Nat→Nat) (H2:a03) (F1:Frm),a02 H2 mH=some (.row 4 [[sl c.nc (c.nodes.map Nd.enc),sl c.mc (c.names.map a1c),.nilslice,sl c.oc (c.outs.map a0f)]])→Two H2 b1 1 mW cpN (foQ (qs++[a]))→a0d ((a1o [1,2,5,6] F1).map (·.2))=[mH,b1]→
    (∀π,b5h π (a1o [1,2,5,6] F1)=[(1,sl pr (ps.map Pat.enc)),(2,ren π (.ptr mH 0 0)),(5,ren π (.slice b1 0 (qs.length+1) none)),(6,.int .i64 (qs.length+1:Nat))])→
    ∃F H,gcD 0 [1,2,5,6] F1 H2=some (F,H)∧∃(mM:List (List Nat)) (V:AV) (cb:Nat),ps.length-(qs.length+1)=ps.length-mM.length∧mM.length≤ps.length∧(∀q∈mM,q.length=(kinds c.nodes 0).length∧∀v∈q,v≤3)∧F=[(1,sl pr (ps.map Pat.enc)),(2,.ptr cb 0 0),(5,V),(6,.int .i64 mM.length)]∧InS c mM V cb H:=by
    intro mH b1 mW H2 F1 h1 hT gG mE;refine hT.headX [mH] (by intro x hx;rw[e8k]at hx;subst hx;rw[h1];exact cS) (by rw[gG];simp) (by rw[gG];simp) (by rw[gG];simp) (by rw[gG];simp) (by rw[a74,e8i];simp;omega) ?_;intro π b' aL H3 hb eG hX;obtain⟨l8,e1,e2⟩:=hX mH (by simp);refine⟨qs++[a],.slice b' 0 (qs.length+1) none,l8,by simp,by simp;omega,pO,?_,.some b' aL (by simp) (by simp) ?_ eG⟩
    ·rw[mE];simp+decide only[go_sem,e1,hb,e8i,List.length_singleton]<;>rfl
    ·rw[e2,h1];show some (a0e π _)=_;rw[cT]
   cases hS with
   |nil h1 h2 h3 h4=>
    subst h1 h2 h3 h4;simp only[e8c]at c1 hw aj hp head;cases b with
    |nil=>
     simp only[ptH,e7j,a0p,a0q,e7i]at ai
     (repeat first|simp only[ww]|(apply xa;simp+decide only[go_sem,c1,aj,hp,dZ,ai,hw,e8c,c10];rfl;kernel_rfl))
     exact a0x (ps.length-1) (by simp;omega) (head 0 6 (λ_=>4) _ _ rfl (Two.one aw eQ (by omega) (by rw[c10];rfl) rfl) (by simp+decide only[go_sem]<;>rfl) (λπ=>by simp+decide only[go_sem]<;>rfl))
    |cons y b'=>
     simp only[ptH,e12,a09,a0b,e9h,e7l,c10]at ai
     (repeat first|simp only[ww]|(apply xa;simp+decide only[go_sem,c1,aj,hp,dZ,ai,hw,e8c,c10];rfl;kernel_rfl))
     exact a0x (ps.length-1) (by simp;omega) (head 0 7 (λ_=>4) _ _ rfl (Two.one aw eQ (by omega) (by rw[c10];rfl) rfl) (by simp+decide only[go_sem]<;>rfl) (λπ=>by simp+decide only[go_sem]<;>rfl))
   |some b1 aq h1 h2 h3 hT=>
    subst h2;have cF:=a1a h3;have cj:=a1a hT.top;have cW:=hT.top;have bT:(a2b aq cpN (foQ qs)).length=qs.length:=by rw[a2j,a74]
    have cX:(a2b aq cpN (foQ qs)).take qs.length=a2b aq cpN (foQ qs):=e8b (by omega);have aK:qs.length+1≤1000000000:=by omega
    obtain⟨my,_⟩:=hT.apart h3 (by omega) (by omega);have oQ:∀(L:a03) (t:Nat),3<t→a02 L t=some (.row 1 (a2b aq cpN (foQ qs)++[[.slice (H.length+3) 0 a.length none]]))→a02 L 3=some (.row 1 (a.map u8R))→Two (H.set b1 none++L) (H.length+t) 1 (λj=>if j=(foQ qs).length then H.length+3 else aq j) cpN (foQ (qs++[a])):=by
     intro L t ht h5 h6;have e:foQ (qs++[a])=foQ qs++[a.map u8R]:=by simp[foQ]
     rw[e];exact hT.snoc aw eQ (by omega) (by omega) (by omega) (by rw[a5r,h5,c10];rfl) (by rw[a5r,h6]) (λj g hg hn=>by rw[a38 (a1a (hT.sub j g hg hn).1),e8g (f2x (hT.sub j g hg hn).2)])
    cases b with
    |nil=>
     simp only[ptH,e7j,a0p,a0q,e7i]at ai
     (repeat first|simp only[ww]|(apply xa;simp+decide only[go_sem,c1,c10];rfl;kernel_rfl))
     (repeat first|simp only[ww]|((with_reducible first|apply xs3|apply xI);(·simp+decide only[go_sem,c1,aj,hp,dZ,ai,hw,h3,cW,cF,cj,bT,cX,aK,a5r,a6l,a64,a73,b0c,b5b,b8v,a7w,a9o,c10,e7m,e9h,e7l];rfl);first|with_reducible apply xT|with_reducible apply xF|(·repeat' (first|exact c3d|exact c34|refine b9d ?_ ?_|refine c33 (by simp only[e7g,e8c];decide+kernel) ?_|refine c35 (c05 (by simp<;>omega) (by simp<;>omega) (by simp<;>omega)) ?_))))
     (repeat first|simp only[ww]|(apply xa;simp+decide only[go_sem,hw];rfl;kernel_rfl))
     exact a0x (ps.length-(qs.length+1)) (by omega) (head cb (H.length+5) _ _ _ (by rw[a38 cF,e8g (f2x my),h3]) (oQ _ 5 (by omega) rfl rfl) (by simp+decide only[go_sem]<;>rfl) (λπ=>by simp+decide only[go_sem]<;>rfl))
    |cons y b'=>
     simp only[ptH,e12,a09,a0b,e9h,e7l,c10]at ai
     (repeat first|simp only[ww]|(apply xa;simp+decide only[go_sem,c1,c10];rfl;kernel_rfl))
     (repeat first|simp only[ww]|((with_reducible first|apply xs3|apply xI);(·simp+decide only[go_sem,c1,aj,hp,dZ,ai,hw,h3,cW,cF,cj,bT,cX,aK,a5r,a6l,a64,a73,b0c,b5b,b8v,a7w,a9o,c10,e7m,e9h,e7l];rfl);first|with_reducible apply xT|with_reducible apply xF|(·repeat' (first|exact c3d|exact c34|refine b9d ?_ ?_|refine c33 (by simp only[e7g,e8c];decide+kernel) ?_|refine c35 (c05 (by simp<;>omega) (by simp<;>omega) (by simp<;>omega)) ?_))))
     (repeat first|simp only[ww]|(apply xa;simp+decide only[go_sem,hw];rfl;kernel_rfl))
     exact a0x (ps.length-(qs.length+1)) (by omega) (head cb (H.length+6) _ _ _ (by rw[a38 cF,e8g (f2x my),h3]) (oQ _ 6 (by omega) rfl rfl) (by simp+decide only[go_sem]<;>rfl) (λπ=>by simp+decide only[go_sem]<;>rfl))
  ·have e:qs.length=ps.length:=by omega
   have c1:¬(qs.length:Int)<ps.length:=by omega
   cases hS with
   |nil h1 h2 h3 h4=>
    subst h2 h3 h4
    (repeat first|simp only[ww]|(apply xa;simp+decide only[go_sem,c1,c10];rfl;kernel_rfl))
    refine a21 (vs:=[.nilslice]) (r:=(.nilslice,[])) (by simp+decide only[go_sem]<;>rfl) ?_ ⟨qs,e,pP,.inl ⟨h1,rfl⟩⟩;rfl
   |some b1 aq h1 h2 h3 hT=>
    subst h2
    (repeat first|simp only[ww]|(apply xa;simp+decide only[go_sem,c1,c10];rfl;kernel_rfl))
    refine a21 (vs:=[.slice b1 0 qs.length none]) (r:=(.slice b1 0 qs.length none,H)) (by simp+decide only[go_sem]<;>rfl) ?_ ⟨qs,e,pP,.inr ⟨b1,aq,H,h1,rfl,hT⟩⟩;rfl
theorem c9j(c:Cir)(hc:c.wf)(hk:kinds c.nodes 0≠[])(pr:Rep)(ps:List Pat)(iN:∀p∈ps,PxOk p)(cC:ps.length≤8) :
 ∃qs:List (List Nat),qs.length=ps.length∧(∀q∈qs,q.length=(kinds c.nodes 0).length∧∀v∈q,v≤3)∧((qs=[]∧∀(d:Bool) (H:a03),a0a L.env d (sem L.env Mf) (.func (.func 16) [] []) [.agg c.enc,sl pr (ps.map Pat.enc)] H=some (.nilslice,H,[]))∨
  ∃(b:Nat) (aq:Nat→Nat) (LL:a03→a03),qs≠[]∧(∀(d:Bool) (H:a03),a0a L.env d (sem L.env Mf) (.func (.func 16) [] []) [.agg c.enc,sl pr (ps.map Pat.enc)] H=some (.slice (H.length+b) 0 qs.length none,H++LL H,[]))∧∀H,Two (H++LL H) (H.length+b) 1 (λj=>H.length+aq j) cpN (foQ qs)):=by
 obtain⟨r,⟨qs,h1,h2,h3⟩,h⟩:=d8s c hc hk pr ps iN cC;refine⟨qs,h1,h2,?_⟩;have hr:a0d [.agg c.enc,sl pr (ps.map Pat.enc)]=[]:=by simp only[a06,a1b,a0z,e7i];exact a2i _
 have hh:=λ(d:Bool) (H:a03)=>a9e (E:=L.env) (d:=d) (H:=H) (fs:=[]) (cs:=[]) (ar:=[.agg c.enc,sl pr (ps.map Pat.enc)]) (by kernel_rfl) (by kernel_rfl) rfl (by simpa using hr) h;rcases h3 with ⟨e,rfl⟩|⟨b,aq,L',aw,rfl,hT⟩
 ·refine .inl ⟨e,λd H=>(hh d H).trans ?_⟩;simp[ren]
 ·exact .inr ⟨b,aq,λH=>L'.map (Option.map (a0e (a18 [] H.length))),aw,λd H=>by rw[hh];simp[ren,b4d],λH=>hT.shift H⟩
theorem d0l(FV I0 W C1 C2:AV)(i:List Nat)(ci:Option Nat)(hF:refs FV=[])(hW:refs W=[])(tX:AV.storable W=true)(ua:AV.cells W=[W])(tZ:AV.isJunk W=false)(s1:AV.storable C1=true)(s2:AV.storable C2=true)(r1:refs C1=[])(r2:refs C2=[])(c1:AV.cells C1=[C1])(c2:AV.cells C2=[C2])(j1:AV.isJunk C1=false)(j2:AV.isJunk C2=false)
 (hs:∀(d:Bool) (H:a03),a0a L.env d (sem L.env Mf) FV [.agg [.islice (i.map u8R) ci,W]] H=some (.agg [C1,C2],H,[])) :
 sem L.env Mf 70 [.ptr 0 0 0,.islice (i.map u8R) ci] [some (.row 3 [[FV,I0,W]])]=some (C1,[some (.row 3 [[FV,.islice (i.map u8R) ci,C2]])]):=by
 have f1:=λm t d=>a1h m t d _ r1;have f2:=λm t d=>a1h m t d _ r2;have w2:=λπ=>a0w π _ r2;have w0:=λπ=>a0w π _ hF
 (refine sv Tryz.f70 ?_;simp only[Tryz.f70,gS])
 (repeat first|simp only[ww]|(apply xa;simp+decide only[go_sem,hs,tX,ua,tZ,s1,s2,c1,c2,j1,j2];rfl;kernel_rfl))
 (apply fqb;simp+decide only[go_sem,f1,f2,w0,w2]<;>rfl)
theorem d36{FV I W:AV}(hf:refs FV=[])(hi:refs I=[])(hw:refs W=[]):FlatR [[FV,I,W]]:=FlatR.cons (by simp only[a06,hf,hi,hw,a0z,e7i]) FlatR.nil
theorem c27{d:Bool}{H:a03}{b:Nat}(FV I0 C1 C2:AV)(rs:Rep)(s i:List Nat)(ci:Option Nat)(hF:refs FV=[])(pg:refs I0=[])(s1:AV.storable C1=true)(s2:AV.storable C2=true)(r1:refs C1=[])(r2:refs C2=[])(c1:AV.cells C1=[C1])(c2:AV.cells C2=[C2])(j1:AV.isJunk C1=false)(j2:AV.isJunk C2=false)
 (hs:∀(d:Bool) (H:a03),a0a L.env d (sem L.env Mf) FV [.agg [.islice (i.map u8R) ci,sl rs (s.map u8R)]] H=some (.agg [C1,C2],H,[]))(hb:a02 H b=some (.row 3 [[FV,I0,sl rs (s.map u8R)]])) :
 a0a L.env d (sem L.env Mf) (.func (.func 70) [] []) [.ptr b 0 0,.islice (i.map u8R) ci] H=some (C1,H.set b (some (.row 3 [[FV,.islice (i.map u8R) ci,C2]])),[b]):=by
 have q1:∀(l:List Nat) n,refs (.islice (l.map u8R) n)=[]:=λl n=>rfl;have g1:AV.storable (sl rs (s.map u8R))=true:=by simp only[go_sem]
 have g2:AV.cells (sl rs (s.map u8R))=[sl rs (s.map u8R)]:=by simp only[go_sem]
 have g3:AV.isJunk (sl rs (s.map u8R))=false:=by simp only[go_sem]
 refine a2y (by kernel_rfl) (by kernel_rfl) rfl hb ?_ (FlatO.row (d36 hF pg (a1b _ _))) ?_ (au:=[.ptr 0 0 0,.islice (i.map u8R) ci]) ?_ (d0l FV I0 _ C1 C2 i ci hF (a1b _ _) g1 g2 g3 s1 s2 r1 r2 c1 c2 j1 j2 hs) (FlatO.row (d36 hF (q1 _ _) r2)) (a0w _ _ r1)
 ·simp only[a0y,e9v,f2s,a06,hF,pg,a1b,a0z,e7i]
 ·simp only[e7l,e7i,a06,d2p,q1,a0z]
 ·simp only[e7l,e7i,e12,e7j,a0w _ _ (q1 _ _)];simp[ren,a8o,f1b]
structure Stp(c:Cir)(A:List (Rep×List Nat))(k m:Nat)(FV:AV)(O S:Nat→List Nat)(R:Nat→Rep):Prop where
 fl:refs FV=[]
 sto:AV.storable FV=true
 st:∀i,i<A.length→∀(d:Bool) (H:a03),a0a L.env d (sem L.env Mf) FV [.agg [.islice ((inA (xA A) i).map u8R) (some k),sl (R i) ((S i).map u8R)]] H=some (.agg [a39 (O i),sl (R (i+1)) ((S (i+1)).map u8R)],H,[])
 ol:∀i,(O i).length=m
def c9g(w g:Nat):Bool:=(decide (w=0)&&decide (g=1))||(decide (w=1)&&decide (g=0))
def a7k(i q g:Nat):List AV:=[.int .i64 i,.int .i64 q,.int .u8 g]
def msQ(i:Nat)(W O:List Nat)(n:Nat):List (List AV):=(List.range n).flatMap λq=>if c9g (W.getD q 0) (O.getD q 0)then[a7k i q (O.getD q 0)]else[]
theorem c8o(i:Nat)(W O:List Nat):msQ i W O 0=[]:=rfl
theorem c8n(i:Nat)(W O:List Nat)(q:Nat):msQ i W O (q+1)=msQ i W O q++if c9g (W.getD q 0) (O.getD q 0)then[a7k i q (O.getD q 0)]else[]:=by simp[msQ,f2r]
def msI(W O:Nat→List Nat)(m n:Nat):List (List AV):=(List.range n).flatMap λi=>msQ i (W i) (O i) m
theorem d8b(W O:Nat→List Nat)(m n:Nat):msI W O m (n+1)=msI W O m n++msQ n (W n) (O n) m:=by simp[msI,f2r]
theorem a9s(i:Nat)(W O:List Nat)(n:Nat):FlatR (msQ i W O n):=by
 intro r hr;simp only[msQ,f3d]at hr;obtain⟨q,_,hr⟩:=hr;split at hr
 ·rw[e8k]at hr;subst hr;rfl
 ·cases hr
theorem b24(W O:Nat→List Nat)(m n:Nat):FlatR (msI W O m n):=by intro r hr;simp only[msI,f3d]at hr;obtain⟨i,_,hr⟩:=hr;exact a9s _ _ _ _ r hr
theorem b34(i:Nat)(W O:List Nat)(n:Nat):(msQ i W O n).length≤n:=by
 induction n with
 |zero=>simp[c8o]
 |succ n ih=>rw[c8n,e8i];split<;>simp<;>omega
theorem b79(W O:Nat→List Nat)(m n:Nat):(msI W O m n).length≤n*m:=by
 induction n with
 |zero=>simp[msI]
 |succ n ih=>rw[d8b,e8i,f4o];have:=b34 n (W n) (O n) m;omega
theorem d38(n:Nat)(aa:List (List AV))(hf:FlatR aa):sem L.env Mf 71 [.slice 0 0 n none] [some (.row 3 aa)]=some (.slice 0 0 n (some n),[some (.row 3 aa)]):=by
 have h1:=λπ=>a05 π hf
 (refine sv Tryz.f71 ?_;simp only[Tryz.f71,gS])
 (repeat first|simp only[ww]|(apply xa;simp+decide only[go_sem];rfl;kernel_rfl))
 (apply fqb;simp+decide only[go_sem,h1]<;>rfl)
theorem c5e{d:Bool}{H:a03}{b n:Nat}{aa:List (List AV)}(hf:FlatR aa)(hb:a02 H b=some (.row 3 aa)):a0a L.env d (sem L.env Mf) (.func (.func 71) [] []) [.slice b 0 n none] H=some (.slice b 0 n (some n),H,[b]):=by have h:=a2y (E:=L.env) (ag:=d) (call:=sem L.env Mf) (g:=71) (fs:=[]) (cs:=[]) (ar:=[.slice b 0 n none]) (H:=H) (b:=b) (by kernel_rfl) (by kernel_rfl) rfl hb (a0k hf) (FlatO.row hf) rfl (au:=[AV.slice 0 0 n none]) (by simp only[e7l,e7i,e12,e7j,a1p]) (d38 n aa hf) (FlatO.row hf) (a4r b 0 _ n _);rw[a6u hb]at h;exact h
def gI(c:Cir)(A:List (Rep×List Nat))(k:Nat):Nat→AV
 |0=>.islice ((List.replicate (kinds c.nodes 0).length 2).map u8R) (some (kinds c.nodes 0).length)
 |i+1=>.islice ((inA (xA A) i).map u8R) (some k)
theorem c1z(c:Cir)(A:List (Rep×List Nat))(k i:Nat):refs (gI c A k i)=[]:=by cases i<;>rfl
inductive Shp8(v:List AV)(M:Option AObj)(aa:List (List AV))(TV OV:AV)(H:a03):Prop
 |a:aa=[]→OV = .nilslice→TV = .ptr 1 0 0→H=[M,some (.row 3 [v])]→Shp8 v M aa TV OV H
 |b:aa≠[]→OV = .slice 1 0 aa.length none→TV = .ptr 2 0 0→H=[M,some (.row 3 aa),some (.row 3 [v])]→Shp8 v M aa TV OV H
 |c:aa≠[]→OV = .slice 1 0 aa.length none→TV = .iptr v→H=[M,some (.row 3 aa)]→Shp8 v M aa TV OV H
theorem c3c{w g:Nat}(hw:w≤3):(c9g w g=true∧(((a5c 76 72 w).toNat=76∧g=1)∨((a5c 76 72 w).toNat=72∧g=0)))∨(c9g w g=false∧(((a5c 76 72 w).toNat=76∧¬((g:Int)=1))∨((a5c 76 72 w).toNat=72∧¬((g:Int)=0))∨(¬(((a5c 76 72 w).toNat:Int)=76)∧¬(((a5c 76 72 w).toNat:Int)=72)))):=by
 have h4:w=0∨w=1∨w=2∨w=3:=by omega
 rcases h4 with rfl|rfl|rfl|rfl
 ·by_cases hg:g=1
  ·subst hg;exact .inl ⟨rfl,.inl ⟨by decide,rfl⟩⟩
  ·exact .inr ⟨by simp[c9g,hg],.inl ⟨by decide,by omega⟩⟩
 ·by_cases hg:g=0
  ·subst hg;exact .inl ⟨rfl,.inr ⟨by decide,rfl⟩⟩
  ·exact .inr ⟨by simp[c9g,hg],.inr (.inl ⟨by decide,by omega⟩)⟩
 ·exact .inr ⟨by simp[c9g],.inr (.inr ⟨by decide,by decide⟩)⟩
 ·exact .inr ⟨by simp[c9g],.inr (.inr ⟨by decide,by decide⟩)⟩
theorem d22(c:Cir)(hc:c.wf){k m:Nat}(ht:Tio c k m)(ord:List Nat)(aG:OrdOf c ord)(A:List (Rep×List Nat))(ec:A.length≤8)(hA:∀a∈A,a.2.length=k∧∀v∈a.2,v≤3)(e9:∀s∈gdC c ord A,VecOk (sgs k m) s)
 (f:Flt)(hf:FltOk c.nodes f)(FV:AV)(O S:Nat→List Nat)(R:Nat→Rep)(hs:Stp c A k m FV O S R)
 (aB:∀(d:Bool) (H:a03),a0a L.env d (sem L.env Mf) (.func (.func 68) [] []) [.agg [sl c.nc (c.nodes.map Nd.enc),sl c.mc (c.names.map a1c),.nilslice,sl c.oc (c.outs.map a0f)],.islice [[.int .u8 f.model,.int .i64 f.node,.int .i64 f.pin,.int .u8 f.value,.int .i64 f.other]] (some 1)] H=some (.ptr H.length 0 0,H++[some (.row 3 [[FV,gI c A k 0,sl (R 0) ((S 0).map u8R)]])],[])) :
 ∃r:AV×a03,(∃H1,(msI (ouA c ord A) O m A.length=[]∧r=(.tuple [.nilslice,.int .i64 0],H1))∨(msI (ouA c ord A) O m A.length≠[]∧r=(.tuple [.slice 1 0 (msI (ouA c ord A) O m A.length).length (some (msI (ouA c ord A) O m A.length).length),.int .i64 0],H1)∧a02 H1 1=some (.row 3 (msI (ouA c ord A) O m A.length))))∧
 sem L.env Mf 26 [.agg c.enc,.agg (a5x (sgs k m) (gdC c ord A)),.islice [[.int .u8 f.model,.int .i64 f.node,.int .i64 f.pin,.int .u8 f.value,.int .i64 f.other]] (some 1)] []=some r:=by
 have hO:c.outs≠[]:=by intro e;have:=ht.out;have:=ht.m1;rw[e]at *;simp at *;omega
 have ju:=λ(d:Bool) (H:a03)=>a7p (d:=d) H c hc ht;have bX:=λ(d:Bool) (H:a03)=>a3u (d:=d) H c (by have:=hc.len;omega);have fI:(gdC c ord A).length=A.length:=b7v (c1e c ord A).symm;have jA:=λ(d:Bool) (H:a03)=>b42 ht.k1 ht.k4 ht.m1 ht.m4 (vs:=gdC c ord A) (by omega) e9 (d:=d) H;have bY:=λ(d:Bool) (H:a03)=>d08 ht.k1 ht.k4 ht.m1 ht.m4 (vs:=gdC c ord A) (by omega) e9 (d:=d) H;rw[fI]at jA bY;have cE:=λ(d:Bool) (H:a03) (c1 c2:Option Nat)=>c14 (d:=d) H (sgs k m) c1 c2 (by have:=a3s k m;have:=ht.k4;have:=ht.m4;omega);have bA:=λ(d:Bool) (H:a03)=>a9b (d:=d) H c hc f hf;simp only[Flt.enc]at bA;obtain⟨r0,e0⟩:=a4d (kinds c.nodes 0);rw[e0,ht.ins]at bX;obtain⟨t1,t2,t3,t4,t5,t6⟩:=ht;have hn:=hc.len;have dC:=a3s k m;have cD:(kinds c.nodes 0).length=k:=by rw[t1];simp
 obtain⟨V,hV⟩:∃V,b0a (gdC c ord A)=V:=⟨_,rfl⟩
 have mA:refs V=[]:=by rw[←hV];exact a4k _
 have ji:V.storable=true:=by rw[←hV];cases gdC c ord A<;>rfl
 have jj:V.cells=[V]:=by rw[←hV];cases gdC c ord A<;>rfl
 have j4:V.isJunk=false:=by rw[←hV];cases gdC c ord A<;>rfl
 have eL:a5x (sgs k m) (gdC c ord A)=[.islice ((sgs k m).map Sgn.row) (some (k+m)),.islice [tmR] (some 1),V]:=by unfold a5x;rw[dC,hV]
 rw[eL]at jA bY;rw[eL];simp only[Cir.enc]at ju bX bA⊢;have c3:¬((1024:Int)<A.length):=by omega
 have uc:∀π,ren π V=V:=λπ=>a0w π _ mA;have cT:∀π:Nat→Option Nat,a0e π (.row 4 [[sl c.nc (c.nodes.map Nd.enc),sl c.mc (c.names.map a1c),.nilslice,sl c.oc (c.outs.map a0f)]]) = .row 4 [[sl c.nc (c.nodes.map Nd.enc),sl c.mc (c.names.map a1c),.nilslice,sl c.oc (c.outs.map a0f)]]:=λπ=>by simp+decide only[go_sem]
 have cS:a0y (some (.row 4 [[sl c.nc (c.nodes.map Nd.enc),sl c.mc (c.names.map a1c),.nilslice,sl c.oc (c.outs.map a0f)]]))=[]:=by simp+decide only[go_sem]
 have oh:∀π:Nat→Option Nat,a0e π (.row 3 [[.islice ((sgs k m).map Sgn.row) (some (k+m)),.islice [tmR] (some 1),V]]) = .row 3 [[.islice ((sgs k m).map Sgn.row) (some (k+m)),.islice [tmR] (some 1),V]]:=λπ=>by simp+decide only[go_sem,uc]
 have qN:a0y (some (.row 3 [[.islice ((sgs k m).map Sgn.row) (some (k+m)),.islice [tmR] (some 1),V]]))=[]:=by simp+decide only[go_sem,mA]
 have dl:=b79 (ouA c ord A) O m A.length
 (refine svE Tryz.f26 ?_;simp only[Tryz.f26,gS])
 (repeat first|simp only[ww]|(apply xa;simp+decide only[go_sem,ju,ji,jj,j4,c3];rfl;kernel_rfl))
 refine a0l (σ:=Nat) kp26_1 (λj=>[(2,.islice [[.int .u8 f.model,.int .i64 f.node,.int .i64 f.pin,.int .u8 f.value,.int .i64 f.other]] (some 1)),(3,.ptr 0 0 0),(4,.ptr 1 0 0),(8,.islice ((sgs k m).map Sgn.row) (some (k+m))),(39,.islice [[.int .u8 f.model,.int .i64 f.node,.int .i64 f.pin,.int .u8 f.value,.int .i64 f.other]] (some 1)),(40,.int .i64 1),(41,.int .i64 j)]) (λ_=>[some (.row 4 [[sl c.nc (c.nodes.map Nd.enc),sl c.mc (c.names.map a1c),.nilslice,sl c.oc (c.outs.map a0f)]]),some (.row 3 [[.islice ((sgs k m).map Sgn.row) (some (k+m)),.islice [tmR] (some 1),V]])]) (λj=>1-j) (λj=>j≤1) 0 ?_ (e8e _) ?_
 ·(simp+decide only[go_sem,a01,a00,cT,cS,oh,qN]<;>rfl)<;>rfl
 ·intro j hj;by_cases dP:j=0
  ·subst dP
   (repeat first|simp only[ww]|(apply xa;simp+decide only[go_sem,bA];rfl;kernel_rfl))
   refine a25 1 ?_ (by omega) (by omega)
   (simp+decide only[go_sem,a01,a00,cT,cS,oh,qN]<;>rfl)<;>rfl
  obtain rfl:j=1:=by omega
  (repeat first|simp only[ww]|(apply xa;simp+decide only[go_sem,jA,bY,cE,aB,bX,ji,jj,j4,c3,c10,f0o];rfl;kernel_rfl))
  have pm:=λi=>d36 hs.fl (c1z c A k i) (a1b (R i) ((S i).map u8R));have l4:=λi=>a0k (k:=3) (pm i);have mG:∀i π,a0e π (.row 3 [[FV,gI c A k i,sl (R i) ((S i).map u8R)]]) = .row 3 [[FV,gI c A k i,sl (R i) ((S i).map u8R)]]:=λi π=>z9o (FlatO.row (k:=3) (pm i) π);have sB:=λn=>b24 (ouA c ord A) O m n;have ui:=λn=>b79 (ouA c ord A) O m n;refine a0l (σ:=Nat) kp26_4 (λi=>[(16,.ptr 0 0 0),(17,.int .i64 k),(18,grV 1 (msI (ouA c ord A) O m i)),(82,.islice ((gdC c ord A).map vcR) (some A.length)),(83,.int .i64 A.length),(84,.int .i64 i)]) (λi=>some (.row 3 [[FV,gI c A k i,sl (R i) ((S i).map u8R)]])::grH 3 (msI (ouA c ord A) O m i)) (λi=>A.length-i) (λi=>i≤A.length) 0 ?_ (e8e _) ?_
  ·have e:msI (ouA c ord A) O m 0=[]:=rfl;have w1:=hs.fl;have w0:=λπ=>a0w π _ w1;rw[e,a0p,a0q]
   (simp+decide only[go_sem,a01,a00,cT,cS,oh,qN,l4,mG,fI]<;>rfl)<;>rfl
  ·intro i hi;by_cases aj:i<A.length
   ·obtain⟨a,ha⟩:∃a,A[i]?=some a:=⟨_,z9e aj⟩
    have oN:(gdC c ord A)[i]?=some (cyc a.2 (ouA c ord A i)):=b7w ha (c8b c ord A aj);obtain⟨qF,qE⟩:=hA a (c11 ha);have d1:(i:Int)<A.length:=by omega
    have cV:∀s,vcR s=[.int .i64 0,.str s,.int .i64 1]:=λs=>rfl;have aK:k≤1000000000:=by omega
    have cG:=l4 i;have eb:=mG i;have kR:=pm i;have qQ:=c1z c A k i;have uf:=hs.st i aj;have fB:=sB i;have fO:=ui i;have eN:=d8b (ouA c ord A) O m i;have gC:=λ(d:Bool) (H:a03) (b:Nat) (I0:AV) (pg:refs I0=[]) (hb:a02 H b=some (.row 3 [[FV,I0,sl (R i) ((S i).map u8R)]]))=>c27 (d:=d) (H:=H) (b:=b) FV I0 (a39 (O i)) (sl (R (i+1)) ((S (i+1)).map u8R)) (R i) (S i) (inA (xA A) i) (some k) hs.fl pg (a27 _) (by simp only[go_sem]) (a1x _) (a1b _ _) (d0r _) (by simp only[go_sem]) (d0q _) (by simp only[go_sem]) uf hb;have e3:AV.islice ((inA (xA A) i).map u8R) (some k)=gI c A k (i+1):=rfl;rw[b80 (hs.ol i) t5,e3]at gC;have sC:=pm (i+1);have bR:=l4 (i+1);have bM:=mG (i+1);have uh:=c1z c A k (i+1);have tY:(ouA c ord A i).length=m:=by unfold ouA;rw[a6h,t4]
    have qJ:∀w∈ouA c ord A i,w≤3:=c8c c ord A (i:=i) (λv hv=>by rw[a4c ha]at hv;exact qE v hv);have fu:=hs.ol i;obtain⟨MI,qP⟩:∃MI,gI c A k i=MI:=⟨_,rfl⟩
    obtain⟨MJ,fv⟩:∃MJ,gI c A k (i+1)=MJ:=⟨_,rfl⟩
    rw[qP]at cG eb kR qQ⊢;rw[fv]at gC sC bR bM uh;obtain⟨SI,ug⟩:∃SI,sl (R i) ((S i).map u8R)=SI:=⟨_,rfl⟩
    obtain⟨SJ,lZ⟩:∃SJ,sl (R (i+1)) ((S (i+1)).map u8R)=SJ:=⟨_,rfl⟩
    rw[ug]at cG eb kR gC⊢;rw[lZ]at gC sC bR bM;obtain⟨aa,az⟩:∃aa,msI (ouA c ord A) O m i=aa:=⟨_,rfl⟩
    rw[az]at fB eN fO⊢;obtain⟨z,mX⟩:∃z:List AV,[AV.int .u8 0]=z:=⟨_,rfl⟩
    have bZ:a0d z=[]:=by rw[←mX];rfl
    have gn:1≤z.length:=by rw[←mX];exact e9k 1
    have oH:z.drop 1=[]:=by rw[←mX];rfl
    obtain⟨g,hg⟩:∃g:Nat→List AV,g=λj=>u8R ((inA (xA A) i).getD j 0):=⟨_,rfl⟩
    have eh:∀j,a0d (g j)=[]:=λj=>by rw[hg];rfl
    have i3:=λj=>a2o (f:=g) (z:=z) (n:=k) (i:=j) bZ eh;have fY:=λj=>a08 (i3 j);have oK:=λj π=>a05 π (i3 j);have o7:FlatR [[AV.int .i64 0,AV.str (cyc a.2 (ouA c ord A i)),AV.int .i64 1]]:=FlatR.cons rfl FlatR.nil;have jI:upT g z k k=(inA (xA A) i).map u8R:=by
     rw[b6t,hg];have hl:(inA (xA A) i).length=k:=b9o (by rw[a4c ha];exact qF);apply e9p;intro q;rw[e8a,e8a];by_cases hq:q<k
     ·rw[f2d hq,z9e (by omega)];simp only[e8d,e9f,z9e (show q<(inA (xA A) i).length by omega),e9x]
     ·rw[e8m (by simp;omega),e8m (by omega)];rfl
    have iH:=a66 (f:=g) (z:=z) (n:=k) (i:=k);have m7:=i3 k;rw[jI]at iH m7;have cX:((inA (xA A) i).map u8R).take k=(inA (xA A) i).map u8R:=e8b (by omega);have dT:=λm d=>a12 (m:=m) (d:=d) m7;obtain⟨W,hW⟩:∃W,ouA c ord A i=W:=⟨_,rfl⟩
    obtain⟨OO,qO⟩:∃OO,O i=OO:=⟨_,rfl⟩
    rw[hW]at oN eN o7 tY qJ;rw[qO]at gC eN fu;obtain⟨cy,i8⟩:∃cy,cyc a.2 W=cy:=⟨_,rfl⟩
    rw[i8]at oN o7;cases aa with
    |nil=>
     rw[a0p,a0q];simp only[e7l]at eN
     (repeat first|simp only[ww]|(apply xa;simp+decide only[go_sem,d1,aj,oN,cV,aK,c10];rfl;kernel_rfl))
     rw[mX];refine b2c kp26_6 rfl 2 rfl (σ:=Nat) (λj=>[(16,.ptr 0 0 0),(17,.int .i64 k),(18,.nilslice),(19,.int .i64 i),(20,.ptr 1 0 0),(21,.slice 2 0 k (some k)),(82,.islice ((gdC c ord A).map vcR) (some A.length)),(83,.int .i64 A.length),(84,.int .i64 i),(92,.int .i64 k),(93,.int .i64 j),(1000002,.junk)])
      (λj=>[some (.row 3 [[FV,MI,SI]]),some (.row 3 [[AV.int .i64 0,AV.str cy,AV.int .i64 1]]),some (.row 1 (upT g z k j))]) (λj=>k-j) (λj=>j≤k) 0 ?_ (e8e _) ?_
     ·rw[←c72 (f:=g)]
      (simp+decide only[go_sem,a01,a00,cG,eb,fY,oK]<;>rfl)<;>rfl
     ·intro j hj;by_cases bg:j<k
      ·have d2:(j:Int)<k:=by omega
       have kY:=wI1 (n:=j) (by omega);obtain⟨v,hv⟩:∃v,a.2[j]?=some v:=⟨_,z9e (by omega)⟩
       have la:=qE v (c11 hv);have dW:cy[j]?=some (a5c 48 49 v):=by rw[←i8];unfold cyc;rw[e8f (by rw[c10];omega),e8a,hv];rfl
       have cO:=(e7k.1 dW).1;have gO:=λ(d:Bool) (H:a03)=>c2r (d:=d) H v la;have aE:=b2f (f:=g) (z:=z) bg;have br:=c2s (f:=g) (z:=z) bg;have eu:=a66 (f:=g) (z:=z) (n:=k) (i:=j);have jV:g j=[.int .u8 (xz v)]:=by rw[hg];show u8R _=_;rw[b9p,a4c ha,e9f,e8a,hv];rfl
       rw[jV]at aE
       (repeat first|simp only[ww]|(apply xa;simp+decide only[go_sem,d2,bg,dW,cO,gO,aE,br,eu,kY,gn,oH];rfl;kernel_rfl))
       refine a25 (j+1) ?_ (by omega) (by omega)
       (simp+decide only[go_sem,a01,a00,cG,eb,fY,oK]<;>rfl)<;>rfl
      ·obtain rfl:j=k:=by omega
       have d2:¬(j:Int)<j:=by omega
       rw[jI];have mD:∀Y:Option AObj,b3r 2 [some (.row 3 [[FV,MI,SI]]),some (.row 3 [[AV.int .i64 0,AV.str cy,AV.int .i64 1]]),Y]=[some (.row 3 [[FV,MI,SI]]),some (.row 3 [[AV.int .i64 0,AV.str cy,AV.int .i64 1]])]:=λY=>by unfold b3r;simp only[List.take_succ_cons,e9l,e12,e7j,e8d,b1q,a3l kR,a3l o7]
       (repeat first|simp only[ww]|(apply xa;simp+decide only[go_sem,d2];rfl;kernel_rfl))
       rw[c5t];simp only[e8c,e9y,mD];simp+decide only[go_sem,dT,cX,iH];rw[e3,fv];have jc:=λ(d:Bool)=>gC d [some (.row 3 [[FV,MI,SI]]),some (.row 3 [[AV.int .i64 0,AV.str cy,AV.int .i64 1]])] 0 MI qQ rfl;simp only[List.set_cons_zero]at jc
       (repeat first|simp only[ww]|(apply xa;simp+decide only[go_sem,jc,c10,fu];rfl;kernel_rfl))
       refine a3j kp26_8 (λN F Hx=>∃(q:Nat) (TV OV:AV),N=m-q∧q≤m∧F=[(16,.ptr 0 0 0),(17,.int .i64 j),(18,OV),(19,.int .i64 i),(20,TV),(82,.islice ((gdC c ord A).map vcR) (some A.length)),(83,.int .i64 A.length),(84,.int .i64 i),(107,.islice (OO.map u8R) (some m)),(108,.int .i64 m),(109,.int .i64 q)]∧Shp8 [AV.int .i64 0,AV.str cy,AV.int .i64 1] (some (.row 3 [[FV,MJ,SJ]])) (msQ i W OO q) TV OV Hx) m ?_ ?_
       ·refine⟨_,[some (.row 3 [[FV,MJ,SJ]]),some (.row 3 [[AV.int .i64 0,AV.str cy,AV.int .i64 1]])],?_,0,.ptr 1 0 0,.nilslice,rfl,e8e _,rfl,?_⟩
        rotate_left
        ·rw[c8o];exact .a rfl rfl rfl rfl
        ·(simp+decide only[go_sem,a01,a00,bR,bM,fu,c10]<;>rfl)<;>rfl
       ·rintro N F Hx ⟨q,TV,OV,rfl,hq,rfl,ef⟩
        have aM:FlatR (msQ i W OO q):=a9s i W OO q;have bT:(msQ i W OO q).length≤1000:=by have:=b34 i W OO q;have h8:i*m≤7*4:=Nat.mul_le_mul (by omega) (by omega);omega
        have dk:=c8n i W OO q;by_cases bm:q<m
        ·have d3:(q:Int)<m:=by omega
         have cI:=wI1 (n:=q) (by omega);have fZ:IntKind.i64.wrap ((j:Int)+q)=((j+q:Nat):Int):=by rw[w64 (by omega) (by omega)];omega
         obtain⟨gg,cM⟩:∃gg,OO[q]?=some gg:=⟨_,z9e (by omega)⟩
         obtain⟨w,hw⟩:∃w,W[q]?=some w:=⟨_,z9e (by omega)⟩
         have pD:=qJ w (c11 hw);rw[e9f,e9f,cM,hw]at dk;simp only[e9x]at dk;have dW:cy[j+q]?=some (a5c 76 72 w):=by rw[←i8];unfold cyc;rw[e8h (by rw[c10];omega),c10,qF,f2l,e8a,hw];rfl
         have cO:=(e7k.1 dW).1;have cQ:u8R gg=[.int .u8 gg]:=rfl;have cR:=c3c (w:=w) (g:=gg) pD;generalize a5c 76 72 w=cb at dW cR;rcases cR with ⟨hm,hb⟩|⟨hm,hb⟩
         ·rw[hm,e8j rfl]at dk;have ff:msQ i W OO (q+1)=(msQ i W OO q)++[a7k i q gg]:=dk;cases ef with
          |a h1 h2 h3 h4=>
           subst h2 h3 h4;rcases hb with ⟨b1,b2⟩|⟨b1,b2⟩
           all_goals
            subst b2
            (repeat first|simp only[ww]|(apply xa;simp+decide only[go_sem,d3,bm,cM,cQ,fZ,dW,cO,b1,cI];rfl;kernel_rfl))
            refine a0x (m-(q+1)) (by omega) ⟨_,_,?_,q+1,.ptr 2 0 0,.slice 1 0 1 none,rfl,bm,rfl,by rw[ff,h1];exact .b (by simp) rfl rfl rfl⟩
            (simp+decide only[go_sem,a01,a00,bR,bM,fu,c10,a7k]<;>rfl)<;>rfl
          |b h1 h2 h3 h4=>
           obtain⟨y,ys,hy⟩:∃y ys,msQ i W OO q=y::ys:=e9z h1;rw[hy]at h2 h4 ff aM bT;have fH:a0d y=[]:=aM y (f2o ..);have fG:FlatR ys:=λr hr=>aM r (f0w _ hr);have bu:=a08 fG;have bv:=λπ=>a05 π fG;have iC:∀π,y.map (ren π)=y:=λπ=>by have h:=a05 π (FlatR.cons fH FlatR.nil);simpa using h
           simp only[e7g]at h2 bT;have iB:ys.length+1+1≤1000000000:=by omega
           subst h2 h3 h4;rcases hb with ⟨b1,b2⟩|⟨b1,b2⟩
           all_goals
            subst b2
            (repeat first|simp only[ww]|(apply xa;simp+decide only[go_sem,d3,bm,cM,cQ,fZ,dW,cO,b1,cI,iB,e7g];rfl;kernel_rfl))
            refine a0x (m-(q+1)) (by omega) ⟨_,_,?_,q+1,.ptr 2 0 0,.slice 1 0 (ys.length+1+1) none,rfl,bm,rfl,by rw[ff];exact .b (by simp) (by simp) rfl rfl⟩
            (simp+decide only[go_sem,a01,a00,bR,bM,bu,bv,fH,iC,fu,e9h,e8l,e12,e7j,f2t,e9v,f2s,c10,a7k]<;>rfl)<;>rfl
          |c h1 h2 h3 h4=>
           obtain⟨y,ys,hy⟩:∃y ys,msQ i W OO q=y::ys:=e9z h1;rw[hy]at h2 h4 ff aM bT;have fH:a0d y=[]:=aM y (f2o ..);have fG:FlatR ys:=λr hr=>aM r (f0w _ hr);have bu:=a08 fG;have bv:=λπ=>a05 π fG;have iC:∀π,y.map (ren π)=y:=λπ=>by have h:=a05 π (FlatR.cons fH FlatR.nil);simpa using h
           simp only[e7g]at h2 bT;have iB:ys.length+1+1≤1000000000:=by omega
           subst h2 h3 h4;rcases hb with ⟨b1,b2⟩|⟨b1,b2⟩
           all_goals
            subst b2
            (repeat first|simp only[ww]|(apply xa;simp+decide only[go_sem,d3,bm,cM,cQ,fZ,dW,cO,b1,cI,iB,e7g];rfl;kernel_rfl))
            refine a0x (m-(q+1)) (by omega) ⟨_,_,?_,q+1,.iptr [AV.int .i64 0,AV.str cy,AV.int .i64 1],.slice 1 0 (ys.length+1+1) none,rfl,bm,rfl,by rw[ff];exact .c (by simp) (by simp) rfl rfl⟩
            (simp+decide only[go_sem,a01,a00,bR,bM,bu,bv,fH,iC,fu,e9h,e8l,e12,e7j,f2t,e9v,f2s,c10,a7k]<;>rfl)<;>rfl
         ·rw[hm,e8g (by decide),e7i]at dk;rw[←dk]at ef;cases ef with
          |a h1 h2 h3 h4=>
           subst h2 h3 h4;rcases hb with ⟨b1,b2⟩|⟨b1,b2⟩|⟨b1,b2⟩
           all_goals
            (repeat first|simp only[ww]|(apply xa;simp+decide only[go_sem,d3,bm,cM,cQ,fZ,dW,cO,b1,b2,cI];rfl;kernel_rfl))
            refine a0x (m-(q+1)) (by omega) ⟨_,_,?_,q+1,.ptr 1 0 0,.nilslice,rfl,bm,rfl,.a h1 rfl rfl rfl⟩
            (simp+decide only[go_sem,a01,a00,bR,bM,fu,c10]<;>rfl)<;>rfl
          |b h1 h2 h3 h4=>
           rw[←dk]at aM;obtain⟨RR,dL⟩:∃RR,msQ i W OO (q+1)=RR:=⟨_,rfl⟩
           rw[dL]at aM h1 h2 h4;have bu:=a08 aM;have bv:=λπ=>a05 π aM;subst h2 h3 h4;rcases hb with ⟨b1,b2⟩|⟨b1,b2⟩|⟨b1,b2⟩
           all_goals
            (repeat first|simp only[ww]|(apply xa;simp+decide only[go_sem,d3,bm,cM,cQ,fZ,dW,cO,b1,b2,cI];rfl;kernel_rfl))
            refine a0x (m-(q+1)) (by omega) ⟨_,_,?_,q+1,.ptr 2 0 0,_,rfl,bm,rfl,by rw[dL];exact .b h1 rfl rfl rfl⟩
            (simp+decide only[go_sem,a01,a00,bR,bM,bu,bv,fu,c10]<;>rfl)<;>rfl
          |c h1 h2 h3 h4=>
           rw[←dk]at aM;obtain⟨RR,dL⟩:∃RR,msQ i W OO (q+1)=RR:=⟨_,rfl⟩
           rw[dL]at aM h1 h2 h4;have bu:=a08 aM;have bv:=λπ=>a05 π aM;subst h2 h3 h4;rcases hb with ⟨b1,b2⟩|⟨b1,b2⟩|⟨b1,b2⟩
           all_goals
            (repeat first|simp only[ww]|(apply xa;simp+decide only[go_sem,d3,bm,cM,cQ,fZ,dW,cO,b1,b2,cI];rfl;kernel_rfl))
            refine a0x (m-(q+1)) (by omega) ⟨_,_,?_,q+1,.iptr [AV.int .i64 0,AV.str cy,AV.int .i64 1],_,rfl,bm,rfl,by rw[dL];exact .c h1 rfl rfl rfl⟩
            (simp+decide only[go_sem,a01,a00,bR,bM,bu,bv,fu,c10]<;>rfl)<;>rfl
        ·obtain rfl:q=m:=by omega
         have d3:¬(q:Int)<q:=by omega
         have aT:=wI1 (n:=i) (by omega);cases ef with
         |a h1 h2 h3 h4=>
          subst h2 h3 h4
          (repeat first|simp only[ww]|(apply xa;simp+decide only[go_sem,d3,aT];rfl;kernel_rfl))
          refine a25 (i+1) ?_ (by omega) (by omega);simp only[fv,lZ,eN,h1,a0p,a0q]
          (simp+decide only[go_sem,a01,a00,bR,bM]<;>rfl)<;>rfl
         |b h1 h2 h3 h4=>
          obtain⟨y,ys,hy⟩:∃y ys,msQ i W OO q=y::ys:=e9z h1;have bu:=a08 aM;have bv:=λπ=>a05 π aM;rw[hy]at h2 h4 bu bv;simp only[e9v,e12]at bu bv;simp only[e7g]at h2;subst h2 h3 h4
          (repeat first|simp only[ww]|(apply xa;simp+decide only[go_sem,d3,aT];rfl;kernel_rfl))
          refine a25 (i+1) ?_ (by omega) (by omega);simp only[fv,lZ,eN,hy,a09,a0b]
          (simp+decide only[go_sem,a01,a00,bR,bM,bu,bv]<;>rfl)<;>rfl
         |c h1 h2 h3 h4=>
          obtain⟨y,ys,hy⟩:∃y ys,msQ i W OO q=y::ys:=e9z h1;have bu:=a08 aM;have bv:=λπ=>a05 π aM;rw[hy]at h2 h4 bu bv;simp only[e9v,e12]at bu bv;simp only[e7g]at h2;subst h2 h3 h4
          (repeat first|simp only[ww]|(apply xa;simp+decide only[go_sem,d3,aT];rfl;kernel_rfl))
          refine a25 (i+1) ?_ (by omega) (by omega);simp only[fv,lZ,eN,hy,a09,a0b]
          (simp+decide only[go_sem,a01,a00,bR,bM,bu,bv]<;>rfl)<;>rfl
    |cons x rs=>
     have da:=a08 fB;have db:=λπ=>a05 π fB;simp only[e9v,e12]at da db;simp only[e7g]at fO;rw[a09,a0b]
     (repeat first|simp only[ww]|(apply xa;simp+decide only[go_sem,d1,aj,oN,cV,aK,c10];rfl;kernel_rfl))
     rw[mX];refine b2c kp26_6 rfl 2 rfl (σ:=Nat) (λj=>[(16,.ptr 0 0 0),(17,.int .i64 k),(18,.slice 1 0 (rs.length+1) none),(19,.int .i64 i),(20,.ptr 2 0 0),(21,.slice 3 0 k (some k)),(82,.islice ((gdC c ord A).map vcR) (some A.length)),(83,.int .i64 A.length),(84,.int .i64 i),(92,.int .i64 k),(93,.int .i64 j),(1000002,.junk)])
      (λj=>[some (.row 3 [[FV,MI,SI]]),some (.row 3 (x::rs)),some (.row 3 [[AV.int .i64 0,AV.str cy,AV.int .i64 1]]),some (.row 1 (upT g z k j))]) (λj=>k-j) (λj=>j≤k) 0 ?_ (e8e _) ?_
     ·rw[←c72 (f:=g)]
      (simp+decide only[go_sem,a01,a00,cG,eb,da,db,fY,oK]<;>rfl)<;>rfl
     ·intro j hj;by_cases bg:j<k
      ·have d2:(j:Int)<k:=by omega
       have kY:=wI1 (n:=j) (by omega);obtain⟨v,hv⟩:∃v,a.2[j]?=some v:=⟨_,z9e (by omega)⟩
       have la:=qE v (c11 hv);have dW:cy[j]?=some (a5c 48 49 v):=by rw[←i8];unfold cyc;rw[e8f (by rw[c10];omega),e8a,hv];rfl
       have cO:=(e7k.1 dW).1;have gO:=λ(d:Bool) (H:a03)=>c2r (d:=d) H v la;have aE:=b2f (f:=g) (z:=z) bg;have br:=c2s (f:=g) (z:=z) bg;have eu:=a66 (f:=g) (z:=z) (n:=k) (i:=j);have jV:g j=[.int .u8 (xz v)]:=by rw[hg];show u8R _=_;rw[b9p,a4c ha,e9f,e8a,hv];rfl
       rw[jV]at aE
       (repeat first|simp only[ww]|(apply xa;simp+decide only[go_sem,d2,bg,dW,cO,gO,aE,br,eu,kY,gn,oH];rfl;kernel_rfl))
       refine a25 (j+1) ?_ (by omega) (by omega)
       (simp+decide only[go_sem,a01,a00,cG,eb,da,db,fY,oK]<;>rfl)<;>rfl
      ·obtain rfl:j=k:=by omega
       have d2:¬(j:Int)<j:=by omega
       rw[jI];have mD:∀Y:Option AObj,b3r 2 [some (.row 3 [[FV,MI,SI]]),some (.row 3 (x::rs)),some (.row 3 [[AV.int .i64 0,AV.str cy,AV.int .i64 1]]),Y]=[some (.row 3 [[FV,MI,SI]]),some (.row 3 (x::rs))]:=λY=>by unfold b3r;simp only[List.take_succ_cons,e9l,e12,e7j,e8d,b1q,a3l kR,a3l o7,a3l fB]
       (repeat first|simp only[ww]|(apply xa;simp+decide only[go_sem,d2];rfl;kernel_rfl))
       rw[c5t];simp only[e8c,e9y,mD];simp+decide only[go_sem,dT,cX,iH];rw[e3,fv];have jc:=λ(d:Bool)=>gC d [some (.row 3 [[FV,MI,SI]]),some (.row 3 (x::rs))] 0 MI qQ rfl;simp only[List.set_cons_zero]at jc
       (repeat first|simp only[ww]|(apply xa;simp+decide only[go_sem,jc,c10,fu];rfl;kernel_rfl))
       refine a3j kp26_8 (λN F Hx=>∃(q:Nat) (TV OV:AV),N=m-q∧q≤m∧F=[(16,.ptr 0 0 0),(17,.int .i64 j),(18,OV),(19,.int .i64 i),(20,TV),(82,.islice ((gdC c ord A).map vcR) (some A.length)),(83,.int .i64 A.length),(84,.int .i64 i),(107,.islice (OO.map u8R) (some m)),(108,.int .i64 m),(109,.int .i64 q)]∧Shp8 [AV.int .i64 0,AV.str cy,AV.int .i64 1] (some (.row 3 [[FV,MJ,SJ]])) ((x::rs)++msQ i W OO q) TV OV Hx) m ?_ ?_
       ·refine⟨_,[some (.row 3 [[FV,MJ,SJ]]),some (.row 3 (x::rs))],?_,0,.iptr [AV.int .i64 0,AV.str cy,AV.int .i64 1],.slice 1 0 (rs.length+1) none,rfl,e8e _,rfl,?_⟩
        rotate_left
        ·rw[c8o];exact .c (by simp) (by simp) rfl (by simp)
        ·(simp+decide only[go_sem,a01,a00,bR,bM,da,db,fu,c10]<;>rfl)<;>rfl
       ·rintro N F Hx ⟨q,TV,OV,rfl,hq,rfl,ef⟩
        have aM:FlatR ((x::rs)++msQ i W OO q):=fB.append (a9s i W OO q);have bT:((x::rs)++msQ i W OO q).length≤1000:=by have:=b34 i W OO q;have h8:i*m≤7*4:=Nat.mul_le_mul (by omega) (by omega);rw[e8i];simp only[e7g,e8c];omega
        have dk:=c8n i W OO q;by_cases bm:q<m
        ·have d3:(q:Int)<m:=by omega
         have cI:=wI1 (n:=q) (by omega);have fZ:IntKind.i64.wrap ((j:Int)+q)=((j+q:Nat):Int):=by rw[w64 (by omega) (by omega)];omega
         obtain⟨gg,cM⟩:∃gg,OO[q]?=some gg:=⟨_,z9e (by omega)⟩
         obtain⟨w,hw⟩:∃w,W[q]?=some w:=⟨_,z9e (by omega)⟩
         have pD:=qJ w (c11 hw);rw[e9f,e9f,cM,hw]at dk;simp only[e9x]at dk;have dW:cy[j+q]?=some (a5c 76 72 w):=by rw[←i8];unfold cyc;rw[e8h (by rw[c10];omega),c10,qF,f2l,e8a,hw];rfl
         have cO:=(e7k.1 dW).1;have cQ:u8R gg=[.int .u8 gg]:=rfl;have cR:=c3c (w:=w) (g:=gg) pD;generalize a5c 76 72 w=cb at dW cR;rcases cR with ⟨hm,hb⟩|⟨hm,hb⟩
         ·rw[hm,e8j rfl]at dk;have ff:(x::rs)++msQ i W OO (q+1)=((x::rs)++msQ i W OO q)++[a7k i q gg]:=by rw[dk,e7m]
          cases ef with
          |a h1 h2 h3 h4=>
           subst h2 h3 h4;rcases hb with ⟨b1,b2⟩|⟨b1,b2⟩
           all_goals
            subst b2
            (repeat first|simp only[ww]|(apply xa;simp+decide only[go_sem,d3,bm,cM,cQ,fZ,dW,cO,b1,cI];rfl;kernel_rfl))
            refine a0x (m-(q+1)) (by omega) ⟨_,_,?_,q+1,.ptr 2 0 0,.slice 1 0 1 none,rfl,bm,rfl,by rw[ff,h1];exact .b (by simp) rfl rfl rfl⟩
            (simp+decide only[go_sem,a01,a00,bR,bM,fu,c10,a7k]<;>rfl)<;>rfl
          |b h1 h2 h3 h4=>
           obtain⟨y,ys,hy⟩:∃y ys,(x::rs)++msQ i W OO q=y::ys:=e9z h1;rw[hy]at h2 h4 ff aM bT;have fH:a0d y=[]:=aM y (f2o ..);have fG:FlatR ys:=λr hr=>aM r (f0w _ hr);have bu:=a08 fG;have bv:=λπ=>a05 π fG;have iC:∀π,y.map (ren π)=y:=λπ=>by have h:=a05 π (FlatR.cons fH FlatR.nil);simpa using h
           simp only[e7g]at h2 bT;have iB:ys.length+1+1≤1000000000:=by omega
           subst h2 h3 h4;rcases hb with ⟨b1,b2⟩|⟨b1,b2⟩
           all_goals
            subst b2
            (repeat first|simp only[ww]|(apply xa;simp+decide only[go_sem,d3,bm,cM,cQ,fZ,dW,cO,b1,cI,iB,e7g];rfl;kernel_rfl))
            refine a0x (m-(q+1)) (by omega) ⟨_,_,?_,q+1,.ptr 2 0 0,.slice 1 0 (ys.length+1+1) none,rfl,bm,rfl,by rw[ff];exact .b (by simp) (by simp) rfl rfl⟩
            (simp+decide only[go_sem,a01,a00,bR,bM,bu,bv,fH,iC,fu,e9h,e8l,e12,e7j,f2t,e9v,f2s,c10,a7k]<;>rfl)<;>rfl
          |c h1 h2 h3 h4=>
           obtain⟨y,ys,hy⟩:∃y ys,(x::rs)++msQ i W OO q=y::ys:=e9z h1;rw[hy]at h2 h4 ff aM bT;have fH:a0d y=[]:=aM y (f2o ..);have fG:FlatR ys:=λr hr=>aM r (f0w _ hr);have bu:=a08 fG;have bv:=λπ=>a05 π fG;have iC:∀π,y.map (ren π)=y:=λπ=>by have h:=a05 π (FlatR.cons fH FlatR.nil);simpa using h
           simp only[e7g]at h2 bT;have iB:ys.length+1+1≤1000000000:=by omega
           subst h2 h3 h4;rcases hb with ⟨b1,b2⟩|⟨b1,b2⟩
           all_goals
            subst b2
            (repeat first|simp only[ww]|(apply xa;simp+decide only[go_sem,d3,bm,cM,cQ,fZ,dW,cO,b1,cI,iB,e7g];rfl;kernel_rfl))
            refine a0x (m-(q+1)) (by omega) ⟨_,_,?_,q+1,.iptr [AV.int .i64 0,AV.str cy,AV.int .i64 1],.slice 1 0 (ys.length+1+1) none,rfl,bm,rfl,by rw[ff];exact .c (by simp) (by simp) rfl rfl⟩
            (simp+decide only[go_sem,a01,a00,bR,bM,bu,bv,fH,iC,fu,e9h,e8l,e12,e7j,f2t,e9v,f2s,c10,a7k]<;>rfl)<;>rfl
         ·rw[hm,e8g (by decide),e7i]at dk;rw[←dk]at ef;cases ef with
          |a h1 h2 h3 h4=>
           subst h2 h3 h4;rcases hb with ⟨b1,b2⟩|⟨b1,b2⟩|⟨b1,b2⟩
           all_goals
            (repeat first|simp only[ww]|(apply xa;simp+decide only[go_sem,d3,bm,cM,cQ,fZ,dW,cO,b1,b2,cI];rfl;kernel_rfl))
            refine a0x (m-(q+1)) (by omega) ⟨_,_,?_,q+1,.ptr 1 0 0,.nilslice,rfl,bm,rfl,.a h1 rfl rfl rfl⟩
            (simp+decide only[go_sem,a01,a00,bR,bM,fu,c10]<;>rfl)<;>rfl
          |b h1 h2 h3 h4=>
           rw[←dk]at aM;obtain⟨RR,dL⟩:∃RR,(x::rs)++msQ i W OO (q+1)=RR:=⟨_,rfl⟩
           rw[dL]at aM h1 h2 h4;have bu:=a08 aM;have bv:=λπ=>a05 π aM;subst h2 h3 h4;rcases hb with ⟨b1,b2⟩|⟨b1,b2⟩|⟨b1,b2⟩
           all_goals
            (repeat first|simp only[ww]|(apply xa;simp+decide only[go_sem,d3,bm,cM,cQ,fZ,dW,cO,b1,b2,cI];rfl;kernel_rfl))
            refine a0x (m-(q+1)) (by omega) ⟨_,_,?_,q+1,.ptr 2 0 0,_,rfl,bm,rfl,by rw[dL];exact .b h1 rfl rfl rfl⟩
            (simp+decide only[go_sem,a01,a00,bR,bM,bu,bv,fu,c10]<;>rfl)<;>rfl
          |c h1 h2 h3 h4=>
           rw[←dk]at aM;obtain⟨RR,dL⟩:∃RR,(x::rs)++msQ i W OO (q+1)=RR:=⟨_,rfl⟩
           rw[dL]at aM h1 h2 h4;have bu:=a08 aM;have bv:=λπ=>a05 π aM;subst h2 h3 h4;rcases hb with ⟨b1,b2⟩|⟨b1,b2⟩|⟨b1,b2⟩
           all_goals
            (repeat first|simp only[ww]|(apply xa;simp+decide only[go_sem,d3,bm,cM,cQ,fZ,dW,cO,b1,b2,cI];rfl;kernel_rfl))
            refine a0x (m-(q+1)) (by omega) ⟨_,_,?_,q+1,.iptr [AV.int .i64 0,AV.str cy,AV.int .i64 1],_,rfl,bm,rfl,by rw[dL];exact .c h1 rfl rfl rfl⟩
            (simp+decide only[go_sem,a01,a00,bR,bM,bu,bv,fu,c10]<;>rfl)<;>rfl
        ·obtain rfl:q=m:=by omega
         have d3:¬(q:Int)<q:=by omega
         have aT:=wI1 (n:=i) (by omega);cases ef with
         |a h1 h2 h3 h4=>
          subst h2 h3 h4
          (repeat first|simp only[ww]|(apply xa;simp+decide only[go_sem,d3,aT];rfl;kernel_rfl))
          refine a25 (i+1) ?_ (by omega) (by omega);simp only[fv,lZ,eN,h1,a0p,a0q]
          (simp+decide only[go_sem,a01,a00,bR,bM]<;>rfl)<;>rfl
         |b h1 h2 h3 h4=>
          obtain⟨y,ys,hy⟩:∃y ys,(x::rs)++msQ i W OO q=y::ys:=e9z h1;have bu:=a08 aM;have bv:=λπ=>a05 π aM;rw[hy]at h2 h4 bu bv;simp only[e9v,e12]at bu bv;simp only[e7g]at h2;subst h2 h3 h4
          (repeat first|simp only[ww]|(apply xa;simp+decide only[go_sem,d3,aT];rfl;kernel_rfl))
          refine a25 (i+1) ?_ (by omega) (by omega);simp only[fv,lZ,eN,hy,a09,a0b]
          (simp+decide only[go_sem,a01,a00,bR,bM,bu,bv]<;>rfl)<;>rfl
         |c h1 h2 h3 h4=>
          obtain⟨y,ys,hy⟩:∃y ys,(x::rs)++msQ i W OO q=y::ys:=e9z h1;have bu:=a08 aM;have bv:=λπ=>a05 π aM;rw[hy]at h2 h4 bu bv;simp only[e9v,e12]at bu bv;simp only[e7g]at h2;subst h2 h3 h4
          (repeat first|simp only[ww]|(apply xa;simp+decide only[go_sem,d3,aT];rfl;kernel_rfl))
          refine a25 (i+1) ?_ (by omega) (by omega);simp only[fv,lZ,eN,hy,a09,a0b]
          (simp+decide only[go_sem,a01,a00,bR,bM,bu,bv]<;>rfl)<;>rfl
   ·obtain rfl:i=A.length:=by omega
    have d1:¬(A.length:Int)<A.length:=by omega
    have jC:=λ(d:Bool) (H:a03)=>c1n (d:=d) H;have fB:=sB A.length;generalize msI (ouA c ord A) O m A.length=aa at fB⊢;cases aa with
    |nil=>
     rw[a0p,a0q]
     (repeat first|simp only[ww]|(apply xa;simp+decide only[go_sem,d1,jC];rfl;kernel_rfl))
     refine a21 (vs:=[.nilslice,.int .i64 0]) (r:=(.tuple [.nilslice,.int .i64 0],[some (.row 3 [[FV,gI c A k A.length,sl (R A.length) ((S A.length).map u8R)]])])) (by simp+decide only[go_sem]<;>rfl) ?_ (by first|exact⟨_,rfl⟩|exact⟨_,.inl ⟨rfl,rfl⟩⟩|exact⟨_,.inl rfl⟩|exact⟨_,.inl ⟨trivial,rfl⟩⟩);rfl
    |cons x rs=>
     have dK:=λ(d:Bool) (X:Option AObj)=>c5e (d:=d) (H:=[X,some (.row 3 (x::rs))]) (b:=1) (n:=rs.length+1) fB rfl;rw[a09,a0b]
     (repeat first|simp only[ww]|(apply xa;simp+decide only[go_sem,d1,dK];rfl;kernel_rfl))
     refine a21 (vs:=[.slice 1 0 (rs.length+1) (some (rs.length+1)),.int .i64 0]) (r:=(.tuple [.slice 1 0 (rs.length+1) (some (rs.length+1)),.int .i64 0],[some (.row 3 [[FV,gI c A k A.length,sl (R A.length) ((S A.length).map u8R)]]),some (.row 3 (x::rs))])) (by simp+decide only[go_sem]<;>rfl) ?_ (by first|exact⟨_,rfl,rfl⟩|exact⟨_,.inr ⟨by simp,rfl,rfl⟩⟩|exact⟨_,rfl,by rfl⟩);rfl
def b10(c:Cir)(ord:List Nat)(f:Flt)(p:Pat):List Nat:=a1f c.outs (b4c c ord (a8u c ord f p) p)
def a9f(c:Cir)(ord:List Nat)(f:Flt)(p:Pat):List Nat:=a7j c.nodes (a8u c ord f p) (b4c c ord (a8u c ord f p) p) (kinds c.nodes 14)
theorem d8r(c:Cir)(hc:c.wf)(hO:c.outs≠[])(p:Pat)(hp:PatOk c.nodes p)(f:Flt)(hf:FltOk c.nodes f)(ord:List Nat)(aG:OrdOf c ord) :
 sem L.env Mf 72 [.agg [sl c.nc (c.nodes.map Nd.enc),sl c.mc (c.names.map a1c),.nilslice,sl c.oc (c.outs.map a0f)],.agg [.int .u8 f.model,.int .i64 f.node,.int .i64 f.pin,.int .u8 f.value,.int .i64 f.other],.agg [sl p.ic (p.ins.map u8R),sl p.sc (p.sts.map u8R)]] []=some (.tuple [b0h (b10 c ord f p) (a9f c ord f p),.junk,.int .i64 0],[]):=by
 have hb:=λ(d:Bool) (H:a03)=>d10 (d:=d) H c hc hO p hp f hf ord aG;unfold b0h at hb⊢;unfold b10 a9f;have s1:=a27 (a1f c.outs (a5z c ord p));have s2:=a27 (a32 c.nodes (a5z c ord p));have s3:=a27 (a1f c.outs (b4c c ord (a8u c ord f p) p));have s4:=a27 (a7j c.nodes (a8u c ord f p) (b4c c ord (a8u c ord f p) p) (kinds c.nodes 14));have q3:=a1x (a1f c.outs (b4c c ord (a8u c ord f p) p));have q4:=a1x (a7j c.nodes (a8u c ord f p) (b4c c ord (a8u c ord f p) p) (kinds c.nodes 14));generalize a39 (a1f c.outs (a5z c ord p))=A1 at hb s1;generalize a39 (a32 c.nodes (a5z c ord p))=A2 at hb s2;generalize a39 (a1f c.outs (b4c c ord (a8u c ord f p) p))=B1 at hb s3 q3⊢;generalize a39 (a7j c.nodes (a8u c ord f p) (b4c c ord (a8u c ord f p) p) (kinds c.nodes 14))=B2 at hb s4 q4⊢
 (refine sv Tryz.f72 ?_;simp only[Tryz.f72,gS])
 (repeat first|simp only[ww]|(apply xa;simp+decide only[go_sem,hb,s1,s2,s3,s4];rfl;kernel_rfl))
 refine a6s (vs:=[.agg [B1,B2],.junk,.int .i64 0]) (by simp+decide only[go_sem]<;>rfl) (a9a (by simp only[a7i,go_sem,q3,q4,e7i]))
theorem b9k{d:Bool}(H:a03)(c:Cir)(hc:c.wf)(hO:c.outs≠[])(p:Pat)(hp:PatOk c.nodes p)(f:Flt)(hf:FltOk c.nodes f)(ord:List Nat)(aG:OrdOf c ord) :
 a0a L.env d (sem L.env Mf) (.func (.func 72) [] []) [.agg [sl c.nc (c.nodes.map Nd.enc),sl c.mc (c.names.map a1c),.nilslice,sl c.oc (c.outs.map a0f)],.agg [.int .u8 f.model,.int .i64 f.node,.int .i64 f.pin,.int .u8 f.value,.int .i64 f.other],.agg [sl p.ic (p.ins.map u8R),sl p.sc (p.sts.map u8R)]] H=some (.tuple [b0h (b10 c ord f p) (a9f c ord f p),.junk,.int .i64 0],H,[]):=
 a04 (by kernel_rfl) (by kernel_rfl) rfl (by simp only[e7l,e7i,go_sem]) (d8r c hc hO p hp f hf ord aG) (by simp only[a5f,a06,a0z,a5o,e7i];rfl)
def fn2(c:Cir)(f:Flt):AV:=.func (.func 122) [] [.iptr c.enc,.iptr [.islice [f.enc] (some 1)]]
theorem c3u(c:Cir)(f:Flt):refs (fn2 c f)=[]:=by unfold fn2;simp only[Cir.enc,Flt.enc,go_sem]<;>rfl
theorem d2c(c:Cir)(hc:c.wf)(hO:c.outs≠[])(ord:List Nat)(aG:OrdOf c ord)(f:Flt)(hf:FltOk c.nodes f)(p:Pat)(hp:PatOk c.nodes p):sem L.env Mf 122 [.agg p.enc,.iptr c.enc,.iptr [.islice [f.enc] (some 1)]] []=some (b0h (b10 c ord f p) (a9f c ord f p),[]):=by
 have hr:=λ(d:Bool) (H:a03)=>b9k (d:=d) H c hc hO p hp f hf ord aG;unfold b0h at hr⊢;simp only[Cir.enc,Pat.enc,Flt.enc]at hr⊢;have s1:=a27 (b10 c ord f p);have s2:=a27 (a9f c ord f p);have r1:=a1x (b10 c ord f p);have r2:=a1x (a9f c ord f p);generalize a39 (b10 c ord f p)=C1 at hr s1 r1⊢;generalize a39 (a9f c ord f p)=C2 at hr s2 r2⊢;have f1:=λm t d=>a1h m t d _ r1;have f2:=λm t d=>a1h m t d _ r2;have nk:∀(r:List AV) (rs:List (List AV)),Ax.rowAt (r::rs) 0=some r:=λ_ _=>rfl
 (refine sv Tryz.f122 ?_;simp only[Tryz.f122,gS])
 (repeat first|simp only[ww]|(apply xa;simp+decide only[go_sem,hr,s1,s2,nk];rfl;kernel_rfl))
 (apply fqb;simp+decide only[go_sem,f1,f2]<;>rfl)
theorem c4q(c:Cir)(hc:c.wf)(hO:c.outs≠[])(ord:List Nat)(aG:OrdOf c ord)(f:Flt)(hf:FltOk c.nodes f)(p:Pat)(hp:PatOk c.nodes p){d:Bool}(H:a03) :
 a0a L.env d (sem L.env Mf) (fn2 c f) [.agg p.enc] H=some (b0h (b10 c ord f p) (a9f c ord f p),H,[]):=
 a04 (by kernel_rfl) (by kernel_rfl) rfl (by simp only[e7l,e7i,e9h,a06,a0n,c81,Pat.enc,a1b,a0z,a2i,Flt.enc,go_sem]<;>rfl) (d2c c hc hO ord aG f hf p hp) (a5o _ _)
theorem c7j(c:Cir)(hc:c.wf)(f:Flt)(hf:f.model≠1):sem L.env Mf 68 [.agg c.enc,.islice [f.enc] (some 1)] []=some (.ptr 0 0 0,[some (.row 3 [[fn2 c f,.islice ((List.replicate (kinds c.nodes 0).length 2).map u8R) (some (kinds c.nodes 0).length),.islice ((List.replicate (kinds c.nodes 14).length 2).map u8R) (some (kinds c.nodes 14).length)]])]):=by
 have hb:∀(d:Bool) (H:a03),a0a L.env d (sem L.env Mf) (.func (.func 22) [] []) [.agg [sl c.nc (c.nodes.map Nd.enc),sl c.mc (c.names.map a1c),.nilslice,sl c.oc (c.outs.map a0f)]] H=some (.agg [.islice ((List.replicate (kinds c.nodes 0).length 2).map u8R) (some (kinds c.nodes 0).length),.islice ((List.replicate (kinds c.nodes 14).length 2).map u8R) (some (kinds c.nodes 14).length)],H,[]):=λd H=>a91 H c hc;have nk:∀(r:List AV) (rs:List (List AV)),Ax.rowAt (r::rs) 0=some r:=λ_ _=>rfl;have c1:¬(f.model:Int)=1:=by omega
 simp only[Cir.enc,fn2,Flt.enc]
 (refine sv Tryz.f68 ?_;simp only[Tryz.f68,gS])
 (repeat first|simp only[ww]|(apply xa;simp+decide only[go_sem,hb,c1,nk];rfl;kernel_rfl))
 (apply fqb;simp+decide only[go_sem]<;>rfl)
theorem c0w{d:Bool}(H:a03)(c:Cir)(hc:c.wf)(f:Flt)(hf:f.model≠1):a0a L.env d (sem L.env Mf) (.func (.func 68) [] []) [.agg c.enc,.islice [f.enc] (some 1)] H=some (.ptr H.length 0 0,H++[some (.row 3 [[fn2 c f,.islice ((List.replicate (kinds c.nodes 0).length 2).map u8R) (some (kinds c.nodes 0).length),.islice ((List.replicate (kinds c.nodes 14).length 2).map u8R) (some (kinds c.nodes 14).length)]])],[]):=c2d (by kernel_rfl) (by kernel_rfl) rfl (by simp only[e7l,e7i,a06,a0n,a2i,Flt.enc,go_sem]) (c7j c hc f hf) (d36 (c3u c f) (c2q _ _) (c2q _ _))
section
variable (c:Cir)(ord:List Nat)(A:List (Rep×List Nat))(f:Flt)
def bdS:Nat→List Nat
 |0=>List.replicate (kinds c.nodes 14).length 2
 |i+1=>a9f c ord f ⟨none,inA (xA A) i,none,bdS i⟩
def bdO(i:Nat):List Nat:=b10 c ord f ⟨none,inA (xA A) i,none,bdS c ord A f i⟩
def bdR:Nat→Rep
 |0=>some (some (kinds c.nodes 14).length)
 |i+1=>clR (bdS c ord A f (i+1))
end
theorem d51(c:Cir)(ord:List Nat)(f:Flt)(hf:FltOk c.nodes f)(p:Pat)(hp:PatOk c.nodes p):∀v∈a9f c ord f p,v≤3:=by
 have hk:=c9s c ord f hf p hp;have hN:∀v∈b4c c ord (a8u c ord f p) p,v≤3:=b78 hk _ _ _ _ _ hp.inv hp.stv;unfold a9f a7j;intro v hv;obtain⟨n,_,rfl⟩:=f0r.1 hv;split
 ·omega
 ·rw[e9f];cases h:(a1g nAlg c.nodes (a8u c ord f p) (b4c c ord (a8u c ord f p) p) n)[0]? with
  |none=>simp
  |some x=>exact c86 hk hN n _ _ x (c11 h)
theorem d12(c:Cir)(ord:List Nat)(A:List (Rep×List Nat))(f:Flt):∀i,(bdS c ord A f i).length=(kinds c.nodes 14).length
 |0=>by simp[bdS]
 |i+1=>by simp[bdS,a9f,a7j]
theorem d6j{c:Cir}{k:Nat}(ord:List Nat)(A:List (Rep×List Nat))(f:Flt)(hf:FltOk c.nodes f)(cD:(kinds c.nodes 0).length=k)(hA:∀a∈A,a.2.length=k)(r1 r2:Nat→Rep):∀i,i≤A.length→(∀v∈bdS c ord A f i,v≤3)∧(i<A.length→PatOk c.nodes ⟨r1 i,inA (xA A) i,r2 i,bdS c ord A f i⟩):=by
 have bX:∀i,i<A.length→(inA (xA A) i).length=k:=λi hi=>b9o (by rw[a4c (z9e hi)];exact hA _ (List.getElem_mem hi));have key:∀i,i≤A.length→(∀v∈bdS c ord A f i,v≤3):=by
  intro i
  induction i with
  |zero=>intro _ v hv;rw[f01 hv];omega
  |succ i ih=>intro hi;exact d51 c ord f hf ⟨none,inA (xA A) i,none,bdS c ord A f i⟩ ⟨by rw[cD];exact bX i hi,d12 c ord A f i,λv hv=>by have:=c3i A i v hv;omega,ih (by omega)⟩
 exact λi hi=>⟨key i hi,λaj=>⟨by rw[cD];exact bX i aj,d12 c ord A f i,λv hv=>by have:=c3i A i v hv;omega,key i hi⟩⟩
theorem f2y(c:Cir)(hc:c.wf){k m:Nat}(ht:Tio c k m)(ord:List Nat)(aG:OrdOf c ord)(A:List (Rep×List Nat))(hA:∀a∈A,a.2.length=k)(f:Flt)(hf:FltOk c.nodes f):Stp c A k m (fn2 c f) (bdO c ord A f) (bdS c ord A f) (bdR c ord A f):=by
 have hO:c.outs≠[]:=by intro e;have:=ht.out;have:=ht.m1;rw[e]at *;simp at *;omega
 have cD:(kinds c.nodes 0).length=k:=by rw[ht.ins];simp
 refine⟨c3u c f,rfl,λi hi d H=>?_,λi=>by unfold bdO b10;rw[a6h,ht.out]⟩;have h:=c4q (d:=d) (H:=H) c hc hO ord aG f hf _ ((d6j ord A f hf cD hA (λ_=>some (some k)) (bdR c ord A f) i (by omega)).2 hi);unfold b0h at h;rw[a84 (a9f c ord f _)]at h;exact h
def c1m:List (List AV)→AV|[]=>.nilslice|x::r=>.islice (x::r) (some (r.length+1))
theorem d87(i:Nat)(W O:List Nat)(n:Nat):∀r∈msQ i W O n,c0i r=true:=by
 intro r hr;simp only[msQ,f3d]at hr;obtain⟨q,_,hr⟩:=hr;split at hr
 ·rw[e8k]at hr;subst hr;rfl
 ·cases hr
theorem d88(W O:Nat→List Nat)(m n:Nat):(msI W O m n).all c0i=true:=by rw[e9r];intro r hr;simp only[msI,f3d]at hr;obtain⟨i,_,hr⟩:=hr;exact d87 _ _ _ _ r hr
section
variable (c:Cir)(hc:c.wf){k m:Nat}(ht:Tio c k m)(ord:List Nat)(aG:OrdOf c ord)(A:List (Rep×List Nat))(ec:A.length≤8)(hA:∀a∈A,a.2.length=k∧∀v∈a.2,v≤3)(e9:∀s∈gdC c ord A,VecOk (sgs k m) s)
 (f:Flt)(hf:FltOk c.nodes f)(FV:AV)(O S:Nat→List Nat)(R:Nat→Rep)(hs:Stp c A k m FV O S R)
 (aB:∀(d:Bool) (H:a03),a0a L.env d (sem L.env Mf) (.func (.func 68) [] []) [.agg [sl c.nc (c.nodes.map Nd.enc),sl c.mc (c.names.map a1c),.nilslice,sl c.oc (c.outs.map a0f)],.islice [[.int .u8 f.model,.int .i64 f.node,.int .i64 f.pin,.int .u8 f.value,.int .i64 f.other]] (some 1)] H=some (.ptr H.length 0 0,H++[some (.row 3 [[FV,gI c A k 0,sl (R 0) ((S 0).map u8R)]])],[]))
include hc ht aG ec hA e9 hf hs aB
theorem b56{d:Bool}(H:a03)(W:AV)(hW:a3e 0 false (a4e (a02 H) 0 12) W=some (.islice [f.enc] (some 1))) :
 a0a L.env d (sem L.env Mf) (.func (.func 26) [] []) [.agg c.enc,.agg (a5x (sgs k m) (gdC c ord A)),W] H=some (.tuple [c1m (msI (ouA c ord A) O m A.length),.int .i64 0],H,List.range H.length):=by
 obtain⟨r,⟨H1,h1⟩,hr⟩:=d22 c hc ht ord aG A ec hA e9 f hf FV O S R hs aB;have eQ:a54 0 false (a4e (a02 H) 0 12) [.agg c.enc,.agg (a5x (sgs k m) (gdC c ord A)),W]=some [.agg c.enc,.agg (a5x (sgs k m) (gdC c ord A)),.islice [f.enc] (some 1)]:=by rw[a3m,a1h _ _ _ (.agg c.enc) (by rw[a0n];exact a2i c),a3m,a1h _ _ _ (.agg (a5x (sgs k m) (gdC c ord A))) (by rw[a0n];exact a46 _ _),a3m,hW];rfl
 have bY:=b24 (ouA c ord A) O m A.length;have mj:=d88 (ouA c ord A) O m A.length;generalize msI (ouA c ord A) O m A.length=aa at h1 bY mj⊢;rcases h1 with ⟨rfl,rfl⟩|⟨aw,rfl,hb⟩
 ·exact a6p (args:=[.agg c.enc,.agg (a5x (sgs k m) (gdC c ord A)),W]) (by kernel_rfl) (by kernel_rfl) rfl eQ hr rfl rfl
 ·obtain⟨x,rs,rfl⟩:=e9z aw;have cF:a6o H1 1=some (.row 3 (x::rs)):=by
   unfold a6o;rw[hb];show(bif (x::rs).all c0i then _ else _)=_;rw[mj];rfl
  have h4:((x::rs).drop 0).take (rs.length+1)=x::rs:=by rw[f0u];exact e8b (by simp)
  have h5:=a12 (m:=0) (d:=a4e (a6o H1) 0 11) bY;refine a6p (args:=[.agg c.enc,.agg (a5x (sgs k m) (gdC c ord A)),W]) (by kernel_rfl) (by kernel_rfl) rfl eQ hr rfl ?_;simp+decide only[go_sem,a5s,a4p,cF,a95,a0g,h4,h5,c1m,e7g,e9y,e9k,f3b,decide_false,e9i,e9q]
theorem c55:sem L.env Mf 27 [.agg c.enc,.agg (a5x (sgs k m) (gdC c ord A)),.slice 0 0 1 (some 1)] [some (.row 5 [f.enc])]=some (.tuple [.bool (decide ((msI (ouA c ord A) O m A.length).length=0)),.int .i64 0],[some (.row 5 [f.enc])]):=by
 have hr:=λ(d:Bool) (H:a03) (W:AV) hW=>b56 c hc ht ord aG A ec hA e9 f hf FV O S R hs aB (d:=d) H W hW;have dC:=a3s k m;obtain⟨V,hV⟩:∃V,b0a (gdC c ord A)=V:=⟨_,rfl⟩
 have mA:refs V=[]:=by rw[←hV];exact a4k _
 have ji:V.storable=true:=by rw[←hV];cases gdC c ord A<;>rfl
 have jj:V.cells=[V]:=by rw[←hV];cases gdC c ord A<;>rfl
 have j4:V.isJunk=false:=by rw[←hV];cases gdC c ord A<;>rfl
 have eL:a5x (sgs k m) (gdC c ord A)=[.islice ((sgs k m).map Sgn.row) (some (k+m)),.islice [tmR] (some 1),V]:=by unfold a5x;rw[dC,hV]
 rw[eL]at hr;rw[eL];generalize msI (ouA c ord A) O m A.length=aa at hr⊢;simp only[Cir.enc,Flt.enc]at hr⊢;have dV:=λ(d:Bool) (X Y:Option AObj)=>hr d [some (.row 5 [[.int .u8 f.model,.int .i64 f.node,.int .i64 f.pin,.int .u8 f.value,.int .i64 f.other]]),X,Y] (.slice 0 0 1 (some 1)) (by simp+decide only[go_sem]<;>rfl);cases aa with
 |nil=>
  simp only[c1m]at dV
  (refine sv Tryz.f27 ?_;simp only[Tryz.f27,gS])
  (repeat first|simp only[ww]|(apply xa;simp+decide only[go_sem,dV,ji,jj,j4];rfl;kernel_rfl))
  (apply fqb;simp+decide only[go_sem]<;>rfl)
 |cons x rs=>
  simp only[c1m]at dV;have c1:¬((rs.length:Int)+1=0):=by omega
  (refine sv Tryz.f27 ?_;simp only[Tryz.f27,gS])
  (repeat first|simp only[ww]|(apply xa;simp+decide only[go_sem,dV,ji,jj,j4,e7g];rfl;kernel_rfl))
  (apply fqb;simp+decide only[go_sem,c1,e7g]<;>rfl)
theorem b95{d:Bool}{H:a03}{b:Nat}(hb:a02 H b=some (.row 5 [f.enc])) :
 a0a L.env d (sem L.env Mf) (.func (.func 27) [] []) [.agg c.enc,.agg (a5x (sgs k m) (gdC c ord A)),.slice b 0 1 (some 1)] H=some (.tuple [.bool (decide ((msI (ouA c ord A) O m A.length).length=0)),.int .i64 0],H,[b]):=by
 have eh:FlatR [f.enc]:=FlatR.cons rfl FlatR.nil;have bf:∀π,ren π (.agg c.enc) = .agg c.enc:=λπ=>a0w π _ (by rw[a0n];exact a2i c);have cZ:∀π,ren π (.agg (a5x (sgs k m) (gdC c ord A))) = .agg (a5x (sgs k m) (gdC c ord A)):=λπ=>a0w π _ (by rw[a0n];exact a46 _ _);have h:=a2y (E:=L.env) (ag:=d) (call:=sem L.env Mf) (g:=27) (fs:=[]) (cs:=[]) (ar:=[.agg c.enc,.agg (a5x (sgs k m) (gdC c ord A)),.slice b 0 1 (some 1)]) (H:=H) (b:=b) (by kernel_rfl) (by kernel_rfl) rfl hb (a0k eh) (FlatO.row eh) (by simp only[e7l,e7i,a06,a0n,a2i,a46,go_sem]) (au:=[.agg c.enc,.agg (a5x (sgs k m) (gdC c ord A)),.slice 0 0 1 (some 1)]) (by simp only[e7l,e7i,e12,e7j,bf,cZ,a1p]) (c55 c hc ht ord aG A ec hA e9 f hf FV O S R hs aB) (FlatO.row eh) rfl;rw[a6u hb]at h;exact h
end
theorem e1s{v:Nat}(h:v≤2):xz v=v:=by unfold xz;split<;>omega
theorem e38{A:List (Rep×List Nat)}(hA:∀a∈A,∀v∈a.2,v≤2)(i:Nat):inA (xA A) i=inA A i:=by
 rw[b9p];have:∀v∈inA A i,v≤2:=by
  unfold inA;rw[e9f];cases h:A[i]? with
  |none=>intro v hv;cases hv
  |some a=>exact hA a (c11 h)
 exact(f0i λv hv=>e1s (this v hv)).trans (List.map_id _)
theorem d67{w g:Nat}:(c9g w g=true∧(w:Int)≤1∧(g:Int)≤1∧¬(w:Int)=g)∨(c9g w g=false∧(¬(w:Int)≤1∨((w:Int)≤1∧¬(g:Int)≤1)∨((w:Int)≤1∧(g:Int)≤1∧(w:Int)=g))):=by
 unfold c9g;by_cases h1:w≤1<;>by_cases h2:g≤1
 ·by_cases h3:w=g
  ·subst h3;have:w=0∨w=1:=by omega
   rcases this with rfl|rfl
   ·exact .inr ⟨rfl,.inr (.inr ⟨by omega,by omega,rfl⟩)⟩
   ·exact .inr ⟨rfl,.inr (.inr ⟨by omega,by omega,rfl⟩)⟩
  ·refine .inl ⟨?_,by omega,by omega,by omega⟩;have:(w=0∧g=1)∨(w=1∧g=0):=by omega
   rcases this with ⟨rfl,rfl⟩|⟨rfl,rfl⟩<;>rfl
 ·exact .inr ⟨by simp;omega,.inr (.inl ⟨by omega,by omega⟩)⟩
 ·exact .inr ⟨by simp;omega,.inl (by omega)⟩
 ·exact .inr ⟨by simp;omega,.inl (by omega)⟩
def e0z:List (List AV)→AV|[]=>.nilslice|x::r=>.islice (x::r) none
inductive ShpM(X Y:Option AObj)(aa:List (List AV))(OV P1 P2:AV)(T:List (Option AObj))(H:a03):Prop
 |a:aa=[]→OV = .nilslice→P1 = .ptr 2 0 0→P2 = .ptr 3 0 0→H=X::Y::T→ShpM X Y aa OV P1 P2 T H
 |b:aa≠[]→OV = .slice 2 0 aa.length none→P1 = .ptr 3 0 0→P2 = .ptr 4 0 0→H=X::Y::some (.row 3 aa)::T→ShpM X Y aa OV P1 P2 T H
theorem c8p(c:Cir)(hc:c.wf){k m:Nat}(ht:Tio c k m)(ord:List Nat)(aG:OrdOf c ord)(ra:Rep)(A:List (Rep×List Nat))(ec:A.length≤8)(hA:∀a∈A,a.2.length=k∧∀v∈a.2,v≤2)(f:Flt)(hf:FltOk c.nodes f) :
 sem L.env Mf 28 [.agg c.enc,sl ra (A.map vlR),.agg f.enc] []=some (e0z (msI (ouA c ord A) (bdO c ord A f) m A.length),[]):=by
 have hO:c.outs≠[]:=by intro e;have:=ht.out;have:=ht.m1;rw[e]at *;simp at *;omega
 have cD:(kinds c.nodes 0).length=k:=by rw[ht.ins];simp
 have dF:∀i,(ouA c ord A i).length=m:=λi=>by unfold ouA;rw[a6h,ht.out]
 have cj:=λ(d:Bool) (H:a03)=>a91 (d:=d) H c hc;have qB:(a7g c).enc=[sl (a7g c).ic ((a7g c).ins.map u8R),sl (stR c ord A 0) ((stA c ord A 0).map u8R)]:=rfl;rw[qB]at cj;have nh:=λ(d:Bool) (H:a03) (p:Pat) (hp:PatOk c.nodes p)=>b8r (d:=d) H c hc hO p hp ord aG;have oZ:=λ(d:Bool) (H:a03) (p:Pat) (hp:PatOk c.nodes p)=>b9k (d:=d) H c hc hO p hp f hf ord aG;have gi:=λi hi=>d6j (k:=k) ord A f hf cD (λa ha=>(hA a ha).1) (λi=>(A.getD i (none,[])).1) (bdR c ord A f) i hi;have lG:=e38 (A:=A) λa ha=>(hA a ha).2;have pZ:=ht.m4;have tn:=ht.m1;have dl:=λn=>b79 (ouA c ord A) (bdO c ord A f) m n;simp only[Cir.enc,Flt.enc]at cj nh oZ⊢;have cT:∀π:Nat→Option Nat,a0e π (.row 4 [[sl c.nc (c.nodes.map Nd.enc),sl c.mc (c.names.map a1c),.nilslice,sl c.oc (c.outs.map a0f)]]) = .row 4 [[sl c.nc (c.nodes.map Nd.enc),sl c.mc (c.names.map a1c),.nilslice,sl c.oc (c.outs.map a0f)]]:=λπ=>by simp+decide only[go_sem]
 have cS:a0y (some (.row 4 [[sl c.nc (c.nodes.map Nd.enc),sl c.mc (c.names.map a1c),.nilslice,sl c.oc (c.outs.map a0f)]]))=[]:=by simp+decide only[go_sem]
 suffices kn:∃r:AV×a03,(r=(e0z (msI (ouA c ord A) (bdO c ord A f) m A.length),[]))∧sem L.env Mf 28 [.agg [sl c.nc (c.nodes.map Nd.enc),sl c.mc (c.names.map a1c),.nilslice,sl c.oc (c.outs.map a0f)],sl ra (A.map vlR),.agg [.int .u8 f.model,.int .i64 f.node,.int .i64 f.pin,.int .u8 f.value,.int .i64 f.other]] []=some r by obtain⟨r,rfl,h3⟩:=kn;exact h3
 (refine svE Tryz.f28 ?_;simp only[Tryz.f28,gS])
 (repeat first|simp only[ww]|(apply xa;simp+decide only[go_sem,cj];rfl;kernel_rfl))
 refine a0l (σ:=Nat) kp28_0 (λi=>[(1,sl ra (A.map vlR)),(3,.ptr 0 0 0),(5,.ptr 1 0 0),(7,sl (stR c ord A i) ((stA c ord A i).map u8R)),(8,sl (bdR c ord A f i) ((bdS c ord A f i).map u8R)),(9,grV 2 (msI (ouA c ord A) (bdO c ord A f) m i)),(10,.int .i64 i)])
  (λi=>some (.row 4 [[sl c.nc (c.nodes.map Nd.enc),sl c.mc (c.names.map a1c),.nilslice,sl c.oc (c.outs.map a0f)]])::some (.row 5 [[.int .u8 f.model,.int .i64 f.node,.int .i64 f.pin,.int .u8 f.value,.int .i64 f.other]])::grH 3 (msI (ouA c ord A) (bdO c ord A f) m i)) (λi=>A.length-i) (λi=>i≤A.length) 0 ?_ (e8e _) ?_
 ·have e:msI (ouA c ord A) (bdO c ord A f) m 0=[]:=rfl;rw[e,a0p,a0q]
  (simp+decide only[go_sem,a01,a00,cT,cS]<;>rfl)<;>rfl
 ·intro i hi;by_cases aj:i<A.length
  ·have d1:(i:Int)<A.length:=by omega
   have aT:=wI1 (n:=i) (by omega);obtain⟨a,ha⟩:∃a,A[i]?=some a:=⟨_,z9e aj⟩
   obtain⟨a1,a2⟩:=hA a (c11 ha);have jg:vlR a=[sl a.1 (a.2.map u8R)]:=rfl;have dA:A.getD i (none,[])=a:=by rw[e9f,ha];rfl
   have hp:PatOk c.nodes ⟨a.1,a.2,stR c ord A i,stA c ord A i⟩:=⟨by rw[cD];exact a1,c7l c ord A i,λv hv=>by have:=a2 v hv;omega,λv hv=>by have:=c7m c ord A i v hv;omega⟩
   have hr:=λ(d:Bool) (H:a03)=>nh d H _ hp;have e1:a1f c.outs (gN c ord a.2 (stA c ord A i))=ouA c ord A i:=by unfold ouA;rw[a4c ha]
   have e2:a32 c.nodes (gN c ord a.2 (stA c ord A i))=stA c ord A (i+1):=by show _=a32 c.nodes (gN c ord (inA A i) (stA c ord A i));rw[a4c ha]
   have hq:=(gi i (by omega)).2 aj;rw[lG,a4c ha]at hq;simp only[dA]at hq;have eo:=λ(d:Bool) (H:a03)=>oZ d H _ hq;have e4:b10 c ord f ⟨a.1,a.2,bdR c ord A f i,bdS c ord A f i⟩=bdO c ord A f i:=by show _=b10 c ord f ⟨none,inA (xA A) i,none,bdS c ord A f i⟩;rw[lG,a4c ha];rfl
   have e5:a9f c ord f ⟨a.1,a.2,bdR c ord A f i,bdS c ord A f i⟩=bdS c ord A f (i+1):=by show _=a9f c ord f ⟨none,inA (xA A) i,none,bdS c ord A f i⟩;rw[lG,a4c ha];rfl
   have eH:(bdO c ord A f i).length=m:=by unfold bdO b10;rw[a6h,ht.out]
   simp only[Pat.enc,e1,e2]at hr;rw[e4,e5]at eo;have e3:a39 (stA c ord A (i+1))=sl (stR c ord A (i+1)) ((stA c ord A (i+1)).map u8R):=a84 _;have e6:a39 (bdS c ord A f (i+1))=sl (bdR c ord A f (i+1)) ((bdS c ord A f (i+1)).map u8R):=a84 _;have eI:=dF i;unfold b0h at hr eo;rw[e3,b80 eI ht.m1]at hr;rw[e6,b80 eH ht.m1]at eo;have eN:=d8b (ouA c ord A) (bdO c ord A f) m i;have fB:=b24 (ouA c ord A) (bdO c ord A f) m i;have fO:=dl i;obtain⟨S1,j9⟩:∃S1,sl (stR c ord A (i+1)) ((stA c ord A (i+1)).map u8R)=S1:=⟨_,rfl⟩
   obtain⟨S2,j8⟩:∃S2,sl (bdR c ord A f (i+1)) ((bdS c ord A f (i+1)).map u8R)=S2:=⟨_,rfl⟩
   have q1:refs S1=[]:=by rw[←j9];exact a1b _ _
   have q2:refs S2=[]:=by rw[←j8];exact a1b _ _
   have q3:∀π,ren π S1=S1:=λπ=>a0w π _ q1;have q4:∀π,ren π S2=S2:=λπ=>a0w π _ q2;have q5:AV.storable S1=true:=by rw[←j9];simp only[go_sem]
   have q6:AV.storable S2=true:=by rw[←j8];simp only[go_sem]
   have q7:AV.cells S1=[S1]:=by rw[←j9];simp only[go_sem]
   have q8:AV.cells S2=[S2]:=by rw[←j8];simp only[go_sem]
   have q9:AV.isJunk S1=false:=by rw[←j9];simp only[go_sem]
   have rd:AV.isJunk S2=false:=by rw[←j8];simp only[go_sem]
   rw[j9]at hr;rw[j8]at eo;generalize(gN c ord a.2 (stA c ord A i)).map u8R=GN at hr;obtain⟨W,hW⟩:∃W,ouA c ord A i=W:=⟨_,rfl⟩
   obtain⟨OO,qO⟩:∃OO,bdO c ord A f i=OO:=⟨_,rfl⟩
   rw[hW]at hr eN eI;rw[qO]at eo eN eH;obtain⟨aa,az⟩:∃aa,msI (ouA c ord A) (bdO c ord A f) m i=aa:=⟨_,rfl⟩
   rw[az]at fB eN fO⊢;cases aa with
   |nil=>
    simp only[e7l]at eN;rw[a0p,a0q]
    (repeat first|simp only[ww]|(apply xa;simp+decide only[go_sem,d1,aj,ha,jg,hr,eo,q5,q6,q7,q8,q9,rd,c10];rfl;kernel_rfl))
    refine a3j kp28_2 (λN F Hx=>∃(q:Nat) (OV P1 P2:AV),N=m-q∧q≤m∧F=[(1,sl ra (A.map vlR)),(3,.ptr 0 0 0),(5,.ptr 1 0 0),(9,OV),(10,.int .i64 i),(11,P1),(14,P2),(17,.int .i64 q)]∧ShpM (some (.row 4 [[sl c.nc (c.nodes.map Nd.enc),sl c.mc (c.names.map a1c),.nilslice,sl c.oc (c.outs.map a0f)]])) (some (.row 5 [[.int .u8 f.model,.int .i64 f.node,.int .i64 f.pin,.int .u8 f.value,.int .i64 f.other]])) (msQ i W OO q) OV P1 P2 [some (.row 2 [[.islice (W.map u8R) (some m),S1]]),some (.row 2 [[.islice (OO.map u8R) (some m),S2]])] Hx) m ?_ ?_
    ·refine⟨_,[some (.row 4 [[sl c.nc (c.nodes.map Nd.enc),sl c.mc (c.names.map a1c),.nilslice,sl c.oc (c.outs.map a0f)]]),some (.row 5 [[.int .u8 f.model,.int .i64 f.node,.int .i64 f.pin,.int .u8 f.value,.int .i64 f.other]]),some (.row 2 [[.islice (W.map u8R) (some m),S1]]),some (.row 2 [[.islice (OO.map u8R) (some m),S2]])],?_,0,.nilslice,.ptr 2 0 0,.ptr 3 0 0,rfl,e8e _,rfl,?_⟩
     rotate_left
     ·rw[c8o];exact .a rfl rfl rfl rfl rfl
     ·(simp+decide only[go_sem,a01,a00,cT,cS,q1,q2,q3,q4,c10]<;>rfl)<;>rfl
    ·rintro N F Hx ⟨q,OV,P1,P2,rfl,hq,rfl,ef⟩
     have aM:FlatR (msQ i W OO q):=a9s i W OO q;have bT:(msQ i W OO q).length≤1000:=by have:=b34 i W OO q;have h8:i*m≤7*4:=Nat.mul_le_mul (by omega) (by omega);omega
     have dk:=c8n i W OO q;by_cases bm:q<m
     ·have d3:(q:Int)<m:=by omega
      have cI:=wI1 (n:=q) (by omega);obtain⟨gg,cM⟩:∃gg,OO[q]?=some gg:=⟨_,z9e (by omega)⟩
      obtain⟨w,hw⟩:∃w,W[q]?=some w:=⟨_,z9e (by omega)⟩
      rw[e9f,e9f,cM,hw]at dk;simp only[e9x]at dk;have cQ:∀v,u8R v=[.int .u8 v]:=λ_=>rfl;rcases d67 (w:=w) (g:=gg)with ⟨hm,b1,b2,b3⟩|⟨hm,hb⟩
      ·rw[hm,e8j rfl]at dk;have ff:msQ i W OO (q+1)=(msQ i W OO q)++[a7k i q gg]:=dk;cases ef with
       |a h1 h2 h3 h4 h5=>
        subst h2 h3 h4 h5
        (repeat first|simp only[ww]|(apply xa;simp+decide only[go_sem,d3,bm,cM,hw,cQ,b1,b2,b3,cI,eI,eH,c10];rfl;kernel_rfl))
        refine a0x (m-(q+1)) (by omega) ⟨_,_,?_,q+1,.slice 2 0 1 none,.ptr 3 0 0,.ptr 4 0 0,rfl,bm,rfl,by rw[ff,h1];exact .b (by simp) rfl rfl rfl rfl⟩
        (simp+decide only[go_sem,a01,a00,cT,cS,q1,q2,q3,q4,c10,a7k]<;>rfl)<;>rfl
       |b h1 h2 h3 h4 h5=>
        obtain⟨y,ys,hy⟩:∃y ys,msQ i W OO q=y::ys:=e9z h1;rw[hy]at h2 h5 ff aM bT;have fH:a0d y=[]:=aM y (f2o ..);have fG:FlatR ys:=λr hr=>aM r (f0w _ hr);have bu:=a08 fG;have bv:=λπ=>a05 π fG;have iC:∀π,y.map (ren π)=y:=λπ=>by have h:=a05 π (FlatR.cons fH FlatR.nil);simpa using h
        simp only[e7g]at h2 bT;have iB:ys.length+1+1≤1000000000:=by omega
        subst h2 h3 h4 h5
        (repeat first|simp only[ww]|(apply xa;simp+decide only[go_sem,d3,bm,cM,hw,cQ,b1,b2,b3,cI,iB,eI,eH,e7g,c10];rfl;kernel_rfl))
        refine a0x (m-(q+1)) (by omega) ⟨_,_,?_,q+1,.slice 2 0 (ys.length+1+1) none,.ptr 3 0 0,.ptr 4 0 0,rfl,bm,rfl,by rw[ff];exact .b (by simp) (by simp) rfl rfl rfl⟩
        (simp+decide only[go_sem,a01,a00,cT,cS,q1,q2,q3,q4,bu,bv,fH,iC,e9h,e8l,e12,e7j,f2t,e9v,f2s,c10,a7k]<;>rfl)<;>rfl
      ·rw[hm,e8g (by decide),e7i]at dk;rw[←dk]at ef aM;obtain⟨RR,dL⟩:∃RR,msQ i W OO (q+1)=RR:=⟨_,rfl⟩
       rw[dL]at ef aM;have bu:=a08 aM;have bv:=λπ=>a05 π aM;cases ef with
       |a h1 h2 h3 h4 h5=>
        subst h2 h3 h4 h5;rcases hb with b1|⟨b1,b2⟩|⟨b1,b2,b3⟩
        ·(repeat first|simp only[ww]|(apply xa;simp+decide only[go_sem,d3,bm,cM,hw,cQ,b1,cI,eI,eH,c10];rfl;kernel_rfl))
         refine a0x (m-(q+1)) (by omega) ⟨_,_,?_,q+1,.nilslice,.ptr 2 0 0,.ptr 3 0 0,rfl,bm,rfl,by rw[dL];exact .a h1 rfl rfl rfl rfl⟩
         (simp+decide only[go_sem,a01,a00,cT,cS,q1,q2,q3,q4,c10]<;>rfl)<;>rfl
        ·(repeat first|simp only[ww]|(apply xa;simp+decide only[go_sem,d3,bm,cM,hw,cQ,b1,b2,cI,eI,eH,c10];rfl;kernel_rfl))
         refine a0x (m-(q+1)) (by omega) ⟨_,_,?_,q+1,.nilslice,.ptr 2 0 0,.ptr 3 0 0,rfl,bm,rfl,by rw[dL];exact .a h1 rfl rfl rfl rfl⟩
         (simp+decide only[go_sem,a01,a00,cT,cS,q1,q2,q3,q4,c10]<;>rfl)<;>rfl
        ·obtain rfl:w=gg:=by omega
         (repeat first|simp only[ww]|(apply xa;simp+decide only[go_sem,d3,bm,cM,hw,cQ,b1,cI,eI,eH,c10];rfl;kernel_rfl))
         refine a0x (m-(q+1)) (by omega) ⟨_,_,?_,q+1,.nilslice,.ptr 2 0 0,.ptr 3 0 0,rfl,bm,rfl,by rw[dL];exact .a h1 rfl rfl rfl rfl⟩
         (simp+decide only[go_sem,a01,a00,cT,cS,q1,q2,q3,q4,c10]<;>rfl)<;>rfl
       |b h1 h2 h3 h4 h5=>
        subst h2 h3 h4 h5;rcases hb with b1|⟨b1,b2⟩|⟨b1,b2,b3⟩
        ·(repeat first|simp only[ww]|(apply xa;simp+decide only[go_sem,d3,bm,cM,hw,cQ,b1,cI,eI,eH,c10];rfl;kernel_rfl))
         refine a0x (m-(q+1)) (by omega) ⟨_,_,?_,q+1,_,.ptr 3 0 0,.ptr 4 0 0,rfl,bm,rfl,by rw[dL];exact .b h1 rfl rfl rfl rfl⟩
         (simp+decide only[go_sem,a01,a00,cT,cS,q1,q2,q3,q4,bu,bv,c10]<;>rfl)<;>rfl
        ·(repeat first|simp only[ww]|(apply xa;simp+decide only[go_sem,d3,bm,cM,hw,cQ,b1,b2,cI,eI,eH,c10];rfl;kernel_rfl))
         refine a0x (m-(q+1)) (by omega) ⟨_,_,?_,q+1,_,.ptr 3 0 0,.ptr 4 0 0,rfl,bm,rfl,by rw[dL];exact .b h1 rfl rfl rfl rfl⟩
         (simp+decide only[go_sem,a01,a00,cT,cS,q1,q2,q3,q4,bu,bv,c10]<;>rfl)<;>rfl
        ·obtain rfl:w=gg:=by omega
         (repeat first|simp only[ww]|(apply xa;simp+decide only[go_sem,d3,bm,cM,hw,cQ,b1,cI,eI,eH,c10];rfl;kernel_rfl))
         refine a0x (m-(q+1)) (by omega) ⟨_,_,?_,q+1,_,.ptr 3 0 0,.ptr 4 0 0,rfl,bm,rfl,by rw[dL];exact .b h1 rfl rfl rfl rfl⟩
         (simp+decide only[go_sem,a01,a00,cT,cS,q1,q2,q3,q4,bu,bv,c10]<;>rfl)<;>rfl
     ·obtain rfl:q=m:=by omega
      have d3:¬(q:Int)<q:=by omega
      cases ef with
      |a h1 h2 h3 h4 h5=>
       subst h2 h3 h4 h5
       (repeat first|simp only[ww]|(apply xa;simp+decide only[go_sem,d3,aT,eI,eH,c10];rfl;kernel_rfl))
       refine a25 (i+1) ?_ (by omega) (by omega);simp only[j9,j8,eN,h1,a0p,a0q]
       (simp+decide only[go_sem,a01,a00,cT,cS,q1,q2,q3,q4,c10]<;>rfl)<;>rfl
      |b h1 h2 h3 h4 h5=>
       obtain⟨y,ys,hy⟩:∃y ys,msQ i W OO q=y::ys:=e9z h1;have bu:=a08 aM;have bv:=λπ=>a05 π aM;rw[hy]at h2 h5 bu bv;simp only[e9v,e12]at bu bv;simp only[e7g]at h2;subst h2 h3 h4 h5
       (repeat first|simp only[ww]|(apply xa;simp+decide only[go_sem,d3,aT,eI,eH,c10];rfl;kernel_rfl))
       refine a25 (i+1) ?_ (by omega) (by omega);simp only[j9,j8,eN,hy,a09,a0b]
       (simp+decide only[go_sem,a01,a00,cT,cS,q1,q2,q3,q4,bu,bv,c10]<;>rfl)<;>rfl
   |cons x rs=>
    have da:=a08 fB;have db:=λπ=>a05 π fB;simp only[e9v,e12]at da db;simp only[e7g]at fO;rw[a09,a0b]
    (repeat first|simp only[ww]|(apply xa;simp+decide only[go_sem,d1,aj,ha,jg,hr,eo,q5,q6,q7,q8,q9,rd,c10];rfl;kernel_rfl))
    refine a3j kp28_2 (λN F Hx=>∃(q:Nat) (OV P1 P2:AV),N=m-q∧q≤m∧F=[(1,sl ra (A.map vlR)),(3,.ptr 0 0 0),(5,.ptr 1 0 0),(9,OV),(10,.int .i64 i),(11,P1),(14,P2),(17,.int .i64 q)]∧ShpM (some (.row 4 [[sl c.nc (c.nodes.map Nd.enc),sl c.mc (c.names.map a1c),.nilslice,sl c.oc (c.outs.map a0f)]])) (some (.row 5 [[.int .u8 f.model,.int .i64 f.node,.int .i64 f.pin,.int .u8 f.value,.int .i64 f.other]])) ((x::rs)++msQ i W OO q) OV P1 P2 [some (.row 2 [[.islice (W.map u8R) (some m),S1]]),some (.row 2 [[.islice (OO.map u8R) (some m),S2]])] Hx) m ?_ ?_
    ·refine⟨_,[some (.row 4 [[sl c.nc (c.nodes.map Nd.enc),sl c.mc (c.names.map a1c),.nilslice,sl c.oc (c.outs.map a0f)]]),some (.row 5 [[.int .u8 f.model,.int .i64 f.node,.int .i64 f.pin,.int .u8 f.value,.int .i64 f.other]]),some (.row 3 (x::rs)),some (.row 2 [[.islice (W.map u8R) (some m),S1]]),some (.row 2 [[.islice (OO.map u8R) (some m),S2]])],?_,0,.slice 2 0 (rs.length+1) none,.ptr 3 0 0,.ptr 4 0 0,rfl,e8e _,rfl,?_⟩
     rotate_left
     ·rw[c8o];exact .b (by simp) (by simp) rfl rfl (by simp)
     ·(simp+decide only[go_sem,a01,a00,cT,cS,q1,q2,q3,q4,da,db,c10]<;>rfl)<;>rfl
    ·rintro N F Hx ⟨q,OV,P1,P2,rfl,hq,rfl,ef⟩
     have aM:FlatR ((x::rs)++msQ i W OO q):=fB.append (a9s i W OO q);have bT:((x::rs)++msQ i W OO q).length≤1000:=by have:=b34 i W OO q;have h8:i*m≤7*4:=Nat.mul_le_mul (by omega) (by omega);rw[e8i];simp only[e7g,e8c];omega
     have dk:=c8n i W OO q;by_cases bm:q<m
     ·have d3:(q:Int)<m:=by omega
      have cI:=wI1 (n:=q) (by omega);obtain⟨gg,cM⟩:∃gg,OO[q]?=some gg:=⟨_,z9e (by omega)⟩
      obtain⟨w,hw⟩:∃w,W[q]?=some w:=⟨_,z9e (by omega)⟩
      rw[e9f,e9f,cM,hw]at dk;simp only[e9x]at dk;have cQ:∀v,u8R v=[.int .u8 v]:=λ_=>rfl;rcases d67 (w:=w) (g:=gg)with ⟨hm,b1,b2,b3⟩|⟨hm,hb⟩
      ·rw[hm,e8j rfl]at dk;have ff:(x::rs)++msQ i W OO (q+1)=((x::rs)++msQ i W OO q)++[a7k i q gg]:=by rw[dk,e7m]
       cases ef with
       |a h1 h2 h3 h4 h5=>
        subst h2 h3 h4 h5
        (repeat first|simp only[ww]|(apply xa;simp+decide only[go_sem,d3,bm,cM,hw,cQ,b1,b2,b3,cI,eI,eH,c10];rfl;kernel_rfl))
        refine a0x (m-(q+1)) (by omega) ⟨_,_,?_,q+1,.slice 2 0 1 none,.ptr 3 0 0,.ptr 4 0 0,rfl,bm,rfl,by rw[ff,h1];exact .b (by simp) rfl rfl rfl rfl⟩
        (simp+decide only[go_sem,a01,a00,cT,cS,q1,q2,q3,q4,c10,a7k]<;>rfl)<;>rfl
       |b h1 h2 h3 h4 h5=>
        obtain⟨y,ys,hy⟩:∃y ys,(x::rs)++msQ i W OO q=y::ys:=e9z h1;rw[hy]at h2 h5 ff aM bT;have fH:a0d y=[]:=aM y (f2o ..);have fG:FlatR ys:=λr hr=>aM r (f0w _ hr);have bu:=a08 fG;have bv:=λπ=>a05 π fG;have iC:∀π,y.map (ren π)=y:=λπ=>by have h:=a05 π (FlatR.cons fH FlatR.nil);simpa using h
        simp only[e7g]at h2 bT;have iB:ys.length+1+1≤1000000000:=by omega
        subst h2 h3 h4 h5
        (repeat first|simp only[ww]|(apply xa;simp+decide only[go_sem,d3,bm,cM,hw,cQ,b1,b2,b3,cI,iB,eI,eH,e7g,c10];rfl;kernel_rfl))
        refine a0x (m-(q+1)) (by omega) ⟨_,_,?_,q+1,.slice 2 0 (ys.length+1+1) none,.ptr 3 0 0,.ptr 4 0 0,rfl,bm,rfl,by rw[ff];exact .b (by simp) (by simp) rfl rfl rfl⟩
        (simp+decide only[go_sem,a01,a00,cT,cS,q1,q2,q3,q4,bu,bv,fH,iC,e9h,e8l,e12,e7j,f2t,e9v,f2s,c10,a7k]<;>rfl)<;>rfl
      ·rw[hm,e8g (by decide),e7i]at dk;rw[←dk]at ef aM;obtain⟨RR,dL⟩:∃RR,(x::rs)++msQ i W OO (q+1)=RR:=⟨_,rfl⟩
       rw[dL]at ef aM;have bu:=a08 aM;have bv:=λπ=>a05 π aM;cases ef with
       |a h1 h2 h3 h4 h5=>
        subst h2 h3 h4 h5;rcases hb with b1|⟨b1,b2⟩|⟨b1,b2,b3⟩
        ·(repeat first|simp only[ww]|(apply xa;simp+decide only[go_sem,d3,bm,cM,hw,cQ,b1,cI,eI,eH,c10];rfl;kernel_rfl))
         refine a0x (m-(q+1)) (by omega) ⟨_,_,?_,q+1,.nilslice,.ptr 2 0 0,.ptr 3 0 0,rfl,bm,rfl,by rw[dL];exact .a h1 rfl rfl rfl rfl⟩
         (simp+decide only[go_sem,a01,a00,cT,cS,q1,q2,q3,q4,c10]<;>rfl)<;>rfl
        ·(repeat first|simp only[ww]|(apply xa;simp+decide only[go_sem,d3,bm,cM,hw,cQ,b1,b2,cI,eI,eH,c10];rfl;kernel_rfl))
         refine a0x (m-(q+1)) (by omega) ⟨_,_,?_,q+1,.nilslice,.ptr 2 0 0,.ptr 3 0 0,rfl,bm,rfl,by rw[dL];exact .a h1 rfl rfl rfl rfl⟩
         (simp+decide only[go_sem,a01,a00,cT,cS,q1,q2,q3,q4,c10]<;>rfl)<;>rfl
        ·obtain rfl:w=gg:=by omega
         (repeat first|simp only[ww]|(apply xa;simp+decide only[go_sem,d3,bm,cM,hw,cQ,b1,cI,eI,eH,c10];rfl;kernel_rfl))
         refine a0x (m-(q+1)) (by omega) ⟨_,_,?_,q+1,.nilslice,.ptr 2 0 0,.ptr 3 0 0,rfl,bm,rfl,by rw[dL];exact .a h1 rfl rfl rfl rfl⟩
         (simp+decide only[go_sem,a01,a00,cT,cS,q1,q2,q3,q4,c10]<;>rfl)<;>rfl
       |b h1 h2 h3 h4 h5=>
        subst h2 h3 h4 h5;rcases hb with b1|⟨b1,b2⟩|⟨b1,b2,b3⟩
        ·(repeat first|simp only[ww]|(apply xa;simp+decide only[go_sem,d3,bm,cM,hw,cQ,b1,cI,eI,eH,c10];rfl;kernel_rfl))
         refine a0x (m-(q+1)) (by omega) ⟨_,_,?_,q+1,_,.ptr 3 0 0,.ptr 4 0 0,rfl,bm,rfl,by rw[dL];exact .b h1 rfl rfl rfl rfl⟩
         (simp+decide only[go_sem,a01,a00,cT,cS,q1,q2,q3,q4,bu,bv,c10]<;>rfl)<;>rfl
        ·(repeat first|simp only[ww]|(apply xa;simp+decide only[go_sem,d3,bm,cM,hw,cQ,b1,b2,cI,eI,eH,c10];rfl;kernel_rfl))
         refine a0x (m-(q+1)) (by omega) ⟨_,_,?_,q+1,_,.ptr 3 0 0,.ptr 4 0 0,rfl,bm,rfl,by rw[dL];exact .b h1 rfl rfl rfl rfl⟩
         (simp+decide only[go_sem,a01,a00,cT,cS,q1,q2,q3,q4,bu,bv,c10]<;>rfl)<;>rfl
        ·obtain rfl:w=gg:=by omega
         (repeat first|simp only[ww]|(apply xa;simp+decide only[go_sem,d3,bm,cM,hw,cQ,b1,cI,eI,eH,c10];rfl;kernel_rfl))
         refine a0x (m-(q+1)) (by omega) ⟨_,_,?_,q+1,_,.ptr 3 0 0,.ptr 4 0 0,rfl,bm,rfl,by rw[dL];exact .b h1 rfl rfl rfl rfl⟩
         (simp+decide only[go_sem,a01,a00,cT,cS,q1,q2,q3,q4,bu,bv,c10]<;>rfl)<;>rfl
     ·obtain rfl:q=m:=by omega
      have d3:¬(q:Int)<q:=by omega
      cases ef with
      |a h1 h2 h3 h4 h5=>
       subst h2 h3 h4 h5
       (repeat first|simp only[ww]|(apply xa;simp+decide only[go_sem,d3,aT,eI,eH,c10];rfl;kernel_rfl))
       refine a25 (i+1) ?_ (by omega) (by omega);simp only[j9,j8,eN,h1,a0p,a0q]
       (simp+decide only[go_sem,a01,a00,cT,cS,q1,q2,q3,q4,c10]<;>rfl)<;>rfl
      |b h1 h2 h3 h4 h5=>
       obtain⟨y,ys,hy⟩:∃y ys,(x::rs)++msQ i W OO q=y::ys:=e9z h1;have bu:=a08 aM;have bv:=λπ=>a05 π aM;rw[hy]at h2 h5 bu bv;simp only[e9v,e12]at bu bv;simp only[e7g]at h2;subst h2 h3 h4 h5
       (repeat first|simp only[ww]|(apply xa;simp+decide only[go_sem,d3,aT,eI,eH,c10];rfl;kernel_rfl))
       refine a25 (i+1) ?_ (by omega) (by omega);simp only[j9,j8,eN,hy,a09,a0b]
       (simp+decide only[go_sem,a01,a00,cT,cS,q1,q2,q3,q4,bu,bv,c10]<;>rfl)<;>rfl
  ·obtain rfl:i=A.length:=by omega
   have d1:¬(A.length:Int)<A.length:=by omega
   have fB:=b24 (ouA c ord A) (bdO c ord A f) m A.length;generalize msI (ouA c ord A) (bdO c ord A f) m A.length=aa at fB⊢;cases aa with
   |nil=>
    rw[a0p,a0q]
    (repeat first|simp only[ww]|(apply xa;simp+decide only[go_sem,d1,c10];rfl;kernel_rfl))
    refine a21 (vs:=[.nilslice]) (r:=(.nilslice,[])) (by simp+decide only[go_sem]<;>rfl) ?_ (by first|rfl|trivial);simp+decide only[go_sem]
   |cons x rs=>
    have h2:=λm d=>a12 (m:=m) (d:=d) fB;have h4:((x::rs).drop 0).take (rs.length+1)=x::rs:=by rw[f0u];exact e8b (by simp)
    rw[a09,a0b]
    (repeat first|simp only[ww]|(apply xa;simp+decide only[go_sem,d1,c10];rfl;kernel_rfl))
    refine a21 (vs:=[.slice 2 0 (rs.length+1) none]) (r:=(.islice (x::rs) none,[])) (by simp+decide only[go_sem]<;>rfl) ?_ (by first|rfl|trivial);show a1l false 0 (.slice 2 0 (rs.length+1) none) _=_;simp+decide only[go_sem,h2,h4,e7g]
theorem c1l{d:Bool}(H:a03)(c:Cir)(hc:c.wf){k m:Nat}(ht:Tio c k m)(ord:List Nat)(aG:OrdOf c ord)(ra:Rep)(A:List (Rep×List Nat))(ec:A.length≤8)(hA:∀a∈A,a.2.length=k∧∀v∈a.2,v≤2)(f:Flt)(hf:FltOk c.nodes f) :
 a0a L.env d (sem L.env Mf) (.func (.func 28) [] []) [.agg c.enc,sl ra (A.map vlR),.agg f.enc] H=some (e0z (msI (ouA c ord A) (bdO c ord A f) m A.length),H,[]):=
 a04 (by kernel_rfl) (by kernel_rfl) rfl (by simp only[e7l,e7i,a06,a0n,a2i,Flt.enc,go_sem]) (c8p c hc ht ord aG ra A ec hA f hf) (by cases msI (ouA c ord A) (bdO c ord A f) m A.length<;>rfl)
def xP(q:List Nat)(k:Nat):List Nat:=(q.take k).map xz++q.drop k
theorem f2k(q:List Nat):xP q 0=q:=by simp[xP]
theorem e1u(q:List Nat):xP q q.length=q.map xz:=by simp[xP]
theorem c2p(q:List Nat)(k:Nat):(xP q k).length=q.length:=by simp[xP];omega
theorem e6t{q:List Nat}{k v:Nat}(h:q[k]?=some v):(xP q k)[k]?=some v:=by have hk:=(e7k.1 h).1;unfold xP;rw[e8h (by simp;omega)];simp only[c10,f02,f1p];rw[←h];congr 1;omega
theorem f2j{q:List Nat}{k v:Nat}(h:q[k]?=some v):xP q (k+1)=(xP q k).set k (xz v):=by
 have hk:=(e7k.1 h).1;apply e9p;intro j;rw[e8n,c2p];by_cases hj:k=j
 ·subst hj;rw[e8j rfl,e8j hk];unfold xP;rw[e8f (by simp;omega),e8a,f0v,e8j (by omega),h];rfl
 ·rw[e8g hj];unfold xP;by_cases hl:j<k
  ·rw[e8f (by simp;omega),e8f (by simp;omega),e8a,e8a,f0v,f0v,e8j (by omega),e8j hl]
  ·rw[e8h (by simp;omega),e8h (by simp;omega)];simp only[c10,f02,f1p]
   congr 1;omega
def xQ(qs:List (List Nat))(i:Nat):List (List Nat):=(qs.take i).map (λq=>q.map xz)++qs.drop i
theorem f2i(qs:List (List Nat)):xQ qs 0=qs:=by simp[xQ]
theorem e1t(qs:List (List Nat)):xQ qs qs.length=qs.map (λq=>q.map xz):=by simp[xQ]
theorem a9j(qs:List (List Nat))(i:Nat):(xQ qs i).length=qs.length:=by simp[xQ];omega
theorem e6s{qs:List (List Nat)}{i:Nat}{q:List Nat}(h:qs[i]?=some q):(xQ qs i)[i]?=some q:=by have hk:=(e7k.1 h).1;unfold xQ;rw[e8h (by simp;omega)];simp only[c10,f02,f1p];rw[←h];congr 1;omega
theorem f2h{qs:List (List Nat)}{i:Nat}{q:List Nat}(h:qs[i]?=some q):xQ qs (i+1)=(xQ qs i).set i (q.map xz):=by
 have hk:=(e7k.1 h).1;apply e9p;intro j;rw[e8n,a9j];by_cases hj:i=j
 ·subst hj;rw[e8j rfl,e8j hk];unfold xQ;rw[e8f (by simp;omega),e8a,f0v,e8j (by omega),h];rfl
 ·rw[e8g hj];unfold xQ;by_cases hl:j<i
  ·rw[e8f (by simp;omega),e8f (by simp;omega),e8a,e8a,f0v,f0v,e8j (by omega),e8j hl]
  ·rw[e8h (by simp;omega),e8h (by simp;omega)];simp only[c10,f02,f1p]
   congr 1;omega
theorem d95{qs:List (List Nat)}{i:Nat}{q:List Nat}(h:qs[i]?=some q):(foQ qs)[i]?=some (q.map u8R):=by unfold foQ;rw[e8a,h];rfl
theorem d94(qs:List (List Nat))(i:Nat)(q:List Nat):(foQ qs).set i (q.map u8R)=foQ (qs.set i q):=by unfold foQ;rw[f1f]
def inF(qs:List (List Nat)):List (Rep×List Nat):=qs.map λq=>(some none,q.map xz)
theorem d8t(qs:List (List Nat))(h:∀q∈qs,q≠[]):((foQ (qs.map λq=>q.map xz)).mapIdx λj f=>[slF (cpN j) f])=(inF qs).map vlR:=by
 apply e9p;intro j;unfold foQ inF;rw[e9g,e8a,e8a,e8a,e8a];cases hj:qs[j]? with
 |none=>rfl
 |some q=>have hq:=h q (c11 hj);obtain⟨x,r,rfl⟩:=e9z hq;rfl
theorem d8a(W O:Nat→List Nat)(m n:Nat):∀r∈msI W O m n,∃a b g:Nat,r=a7k a b g:=by
 intro r hr;simp only[msI,msQ,f3d]at hr;obtain⟨i,_,q,_,hr⟩:=hr;split at hr
 ·rw[e8k]at hr;exact⟨_,_,_,hr⟩
 ·cases hr
theorem lawFault_ok(kD:∀H,a0a L.env false (sem L.env Mf) (.func (.func 12) [] []) [] H=some (.bool true,H,[]))(x:CX)(hx:x.ok)(pr:Rep)(ps:List Pat)(iN:∀p∈ps,PxOk p)(tg:ps.length<9223372036854775808)(y:FX)(hy:y.ok) :
 sem L.env Mf 7 [.agg x.enc,sl pr (ps.map Pat.enc),.agg y.enc] []=some (.bool true,[]):=by
 have bV:=λ(d:Bool) (H:a03)=>c5g (d:=d) H x hx;have ht:=e20 x;have hc:(a8p x).cir.wf:=CX.wf _;obtain⟨ord,aG⟩:=e2o _ hc;have mp:=ht.ins;generalize(a8p x).cir=c at bV ht hc aG mp;generalize(a8p x).k=k at ht mp;generalize(a8p x).outN.length=m at ht;have cD:(kinds c.nodes 0).length=k:=by rw[mp];simp
 have rR:kinds c.nodes 0≠[]:=by intro e;rw[e]at cD;have:=ht.k1;simp at cD;omega
 suffices kn:∃r:AV×a03,(r=(.bool true,[]))∧sem L.env Mf 7 [.agg x.enc,sl pr (ps.map Pat.enc),.agg y.enc] []=some r by obtain⟨r,rfl,h3⟩:=kn;exact h3
 by_cases cC:ps.length≤8
 ·have d0:¬((8:Int)<ps.length):=by omega
  by_cases hm:y.model%4=1
  ·obtain⟨nd,pin,val,i5,d9⟩:=d05 c hc y hy hm;simp only[Cir.enc,CX.enc,FX.enc,Flt.enc]at bV d9⊢
   (refine svE Tryz.f7 ?_;simp only[Tryz.f7,gS])
   (repeat first|simp only[ww]|(apply xa;simp+decide only[go_sem,bV,d9,d0,kD,c10];rfl;kernel_rfl))
   refine a21 (vs:=[.bool true]) (r:=(_,_)) (by simp+decide only[go_sem]) ?_ rfl;simp+decide only[go_sem,a1l]<;>rfl
  ·obtain⟨f,hf,d9⟩:=d46 c hc y hy hm;have m1:¬(f.model:Int)=1:=by have:=hf.model;omega
   have bA:=λ(d:Bool) (H:a03)=>a9b (d:=d) H c hc f hf;obtain⟨qs,rF,nq,il⟩:=c9j c hc rR pr ps iN cC;have np:∀q∈qs,q≠[]:=λq hq e=>by have:=(nq q hq).1;rw[e,cD]at this;have:=ht.k1;simp at *;omega
   obtain⟨A,hA⟩:∃A,inF qs=A:=⟨_,rfl⟩
   simp only[Cir.enc,CX.enc,FX.enc,Flt.enc]at bV d9 bA il⊢;have oz:FlatR [[sl c.nc (c.nodes.map Nd.enc),sl c.mc (c.names.map a1c),.nilslice,sl c.oc (c.outs.map a0f)]]:=FlatR.cons (a2i c) FlatR.nil;have oy:FlatR [[.int .u8 f.model,.int .i64 f.node,.int .i64 f.pin,.int .u8 f.value,.int .i64 f.other]]:=FlatR.cons rfl FlatR.nil;have qS:∀a∈A,a.2.length=k∧∀v∈a.2,v≤2:=by intro a ha;rw[←hA]at ha;obtain⟨q,hq,rfl⟩:=f0r.1 ha;refine⟨by rw[c10,(nq q hq).1,cD],λv hv=>?_⟩;obtain⟨w,_,rfl⟩:=f0r.1 hv;exact e1r w
   have oA:∀a∈A,a.2.length=k∧∀v∈a.2,v≤3:=λa ha=>⟨(qS a ha).1,λv hv=>by have:=(qS a ha).2 v hv;omega⟩
   have ec:A.length≤8:=by rw[←hA,inF,c10];omega
   have e9:=e1v c ht ord A oA;have nb:=f2y c hc ht ord aG A (λa ha=>(oA a ha).1) f hf;have aB:∀(d:Bool) (H:a03),a0a L.env d (sem L.env Mf) (.func (.func 68) [] []) [.agg [sl c.nc (c.nodes.map Nd.enc),sl c.mc (c.names.map a1c),.nilslice,sl c.oc (c.outs.map a0f)],.islice [[.int .u8 f.model,.int .i64 f.node,.int .i64 f.pin,.int .u8 f.value,.int .i64 f.other]] (some 1)] H=some (.ptr H.length 0 0,H++[some (.row 3 [[fn2 c f,gI c A k 0,sl (bdR c ord A f 0) ((bdS c ord A f 0).map u8R)]])],[]):=λd H=>c0w (d:=d) H c hc f (by omega);have gy:=λ(ra:Rep) (d:Bool) (H:a03)=>c9u (d:=d) H c hc ht ord aG ra A (by omega) oA;have ae:=λ(d:Bool) (X:Option AObj)=>b56 c hc ht ord aG A ec oA e9 f hf _ _ _ _ nb aB (d:=d) [X,some (.row 5 [[.int .u8 f.model,.int .i64 f.node,.int .i64 f.pin,.int .u8 f.value,.int .i64 f.other]])] (.slice 1 0 1 (some 1)) (by unfold Flt.enc;simp+decide only[go_sem]<;>rfl);have dH:=λ(ra:Rep) (d:Bool) (H:a03)=>c1l (d:=d) H c hc ht ord aG ra A ec qS f hf;have fh:=λ(d:Bool) (X Y:Option AObj)=>b95 c hc ht ord aG A ec oA e9 f hf _ _ _ _ nb aB (d:=d) (H:=[X,Y,some (.row 5 [[.int .u8 f.model,.int .i64 f.node,.int .i64 f.pin,.int .u8 f.value,.int .i64 f.other]])]) (b:=2) rfl;have dC:=a3s k m;obtain⟨V,hV⟩:∃V,b0a (gdC c ord A)=V:=⟨_,rfl⟩
   have mA:refs V=[]:=by rw[←hV];exact a4k _
   have ji:V.storable=true:=by rw[←hV];cases gdC c ord A<;>rfl
   have jj:V.cells=[V]:=by rw[←hV];cases gdC c ord A<;>rfl
   have j4:V.isJunk=false:=by rw[←hV];cases gdC c ord A<;>rfl
   have eL:a5x (sgs k m) (gdC c ord A)=[.islice ((sgs k m).map Sgn.row) (some (k+m)),.islice [tmR] (some 1),V]:=by unfold a5x;rw[dC,hV]
   rw[eL]at gy ae fh;have fc:=d8a (ouA c ord A) (bdO c ord A f) m A.length;have iK:=b79 (ouA c ord A) (bdO c ord A f) m A.length;have te:A.length*m≤8*4:=Nat.mul_le_mul ec ht.m4;generalize msI (ouA c ord A) (bdO c ord A f) m A.length=aa at ae dH fh fc iK;simp only[Cir.enc,Flt.enc]at gy ae dH fh;rcases il with ⟨rfl,bX⟩|⟨b0,sQ,LL,aw,bX,ue⟩
   ·obtain rfl:A=[]:=by rw[←hA];rfl
    have gy:=gy none;have dH:=dH none;simp only[e7j,c0y]at gy dH
    (refine svE Tryz.f7 ?_;simp only[Tryz.f7,gS])
    (repeat first|simp only[ww]|(apply xa;simp+decide only[go_sem,bV,d9,d0,bA,m1,bX,c10,e7g,e8c];rfl;kernel_rfl))
    refine d5j kp7_0 rfl (λN F H=>N=0∧F=[(7,.ptr 0 0 0),(8,.ptr 1 0 0),(9,.nilslice),(10,.int .i64 0),(1000000,.junk)]∧H=[some (.row 4 [[sl c.nc (c.nodes.map Nd.enc),sl c.mc (c.names.map a1c),.nilslice,sl c.oc (c.outs.map a0f)]]),some (.row 5 [[.int .u8 f.model,.int .i64 f.node,.int .i64 f.pin,.int .u8 f.value,.int .i64 f.other]])]) 0 ?_ ?_
    ·refine⟨_,_,?_,rfl,rfl,rfl⟩
     (simp+decide only[go_sem,a01,a00,a2i]<;>rfl)<;>rfl
    ·rintro N F H ⟨rfl,rfl,rfl⟩
     (repeat first|simp only[ww]|(apply xa;simp+decide only[go_sem];rfl;kernel_rfl))
     rw[c5t];simp+decide only[go_sem];cases aa with
     |nil=>
      simp only[c1m,e0z,e8c]at ae dH fh
      (repeat first|simp only[ww]|(apply xa;simp+decide only[go_sem,gy,ae,dH,fh,ji,jj,j4];rfl;kernel_rfl))
      refine a0l (σ:=Unit) kp7_4 (λ_=>[(14,.nilslice),(16,.nilslice),(19,.int .i64 0)]) (λ_=>[]) (λ_=>0) (λ_=>True) () ?_ trivial ?_
      ·(simp+decide only[go_sem,a01,a00]<;>rfl)<;>rfl
      ·intro _ _
       (repeat first|simp only[ww]|(apply xa;simp+decide only[go_sem,kD];rfl;kernel_rfl))
       refine a21 (vs:=[.bool true]) (r:=(_,_)) (by simp+decide only[go_sem]) ?_ rfl;simp+decide only[go_sem,a1l]<;>rfl
     |cons r0 rs=>simp only[e8c,e7g,Nat.zero_mul]at iK;omega
   ·(refine svE Tryz.f7 ?_;simp only[Tryz.f7,gS])
    (repeat first|simp only[ww]|(apply xa;simp+decide only[go_sem,bV,d9,d0,bA,m1,bX,c10,e7g,e8c];rfl;kernel_rfl))
    refine d5j kp7_0 rfl (λN F H=>∃(i cb fb b:Nat) (aq:Nat→Nat),N=qs.length-i∧i≤qs.length∧F=[(7,.ptr cb 0 0),(8,.ptr fb 0 0),(9,.slice b 0 qs.length none),(10,.int .i64 i),(1000000,.junk)]∧a02 H cb=some (.row 4 [[sl c.nc (c.nodes.map Nd.enc),sl c.mc (c.names.map a1c),.nilslice,sl c.oc (c.outs.map a0f)]])∧a02 H fb=some (.row 5 [[.int .u8 f.model,.int .i64 f.node,.int .i64 f.pin,.int .u8 f.value,.int .i64 f.other]])∧Two H b 1 aq cpN (foQ (xQ qs i))) qs.length ?_ ?_
    ·refine b3x (Two.head3 (ue [_,_,_,_]) (x:=2) (y:=3) rfl oz rfl oy (by simp+decide only[go_sem]<;>rfl) (by rw[a74];omega) (λcb fb b=>[(7,.ptr cb 0 0),(8,.ptr fb 0 0),(9,.slice b 0 qs.length none),(10,.int .i64 0),(1000000,.junk)]) (λπ x' y' b' h1 h2 h3=>by have h3:π (4+b0)=some b':=h3;simp+decide only[go_sem,h1,h2,h3]<;>rfl)) ?_
     rintro F H ⟨cb,fb,b,aq,rfl,e1,e2,e3⟩
     exact⟨0,cb,fb,b,aq,rfl,e8e _,rfl,e1,e2,by rw[f2i];exact e3⟩
    ·rintro N F H ⟨i,cb,fb,b,aq,rfl,hi,rfl,bO,lJ,hT⟩
     by_cases aj:i<qs.length
     ·obtain⟨q,hq⟩:∃q,qs[i]?=some q:=⟨_,z9e aj⟩
      obtain⟨jK,tf⟩:=nq q (c11 hq);rw[cD]at jK;have c1:(i:Int)<qs.length:=by omega
      have aT:=wI1 (n:=i) (by omega);have sY:=e6s hq;have tc:(xQ qs i).set i (xP q 0)=xQ qs i:=by
       rw[f2k];apply e9p;intro j;rw[e8n];split
       ·rename_i h;subst h;rw[sY,a9j,e8j aj]
       ·rfl
      have dC:((xQ qs i).set i q).length=qs.length:=by rw[f0l,a9j]
      (repeat first|simp only[ww]|(apply xa;simp+decide only[go_sem,c1];rfl;kernel_rfl))
      refine a3j kp7_2 (λN F H=>∃(k' cb fb b:Nat) (aq:Nat→Nat),N=k-k'∧k'≤k∧F=[(7,.ptr cb 0 0),(8,.ptr fb 0 0),(9,.slice b 0 qs.length none),(10,.int .i64 i),(11,.int .i64 k')]∧a02 H cb=some (.row 4 [[sl c.nc (c.nodes.map Nd.enc),sl c.mc (c.names.map a1c),.nilslice,sl c.oc (c.outs.map a0f)]])∧a02 H fb=some (.row 5 [[.int .u8 f.model,.int .i64 f.node,.int .i64 f.pin,.int .u8 f.value,.int .i64 f.other]])∧Two H b 1 aq cpN (foQ ((xQ qs i).set i (xP q k')))) k ?_ ?_
      ·refine b3x (Two.head3 hT bO oz lJ oy (by simp+decide only[go_sem]<;>rfl) (by rw[a74,a9j];omega) (λcb fb b=>[(7,.ptr cb 0 0),(8,.ptr fb 0 0),(9,.slice b 0 qs.length none),(10,.int .i64 i),(11,.int .i64 0)]) (λπ x' y' b' h1 h2 h3=>by simp+decide only[go_sem,h1,h2,h3]<;>rfl)) ?_
       rintro F H ⟨cb,fb,b,aq,rfl,e1,e2,e3⟩
       exact⟨0,cb,fb,b,aq,rfl,e8e _,rfl,e1,e2,by rw[tc];exact e3⟩
      ·rintro N F H ⟨k',cb,fb,b,aq,rfl,eX,rfl,bO,lJ,hT⟩
       have jW:((xQ qs i).set i (xP q k'))[i]?=some (xP q k'):=by rw[e8n,e8j rfl,a9j,e8j aj]
       have d9:=d95 jW;have bC:(xP q k').map u8R≠[]:=by intro e;have:=congrArg List.length e;rw[c10,c2p,jK]at this;have:=ht.k1;simp at *;omega
       have hU:(xP q k').length=k:=by rw[c2p,jK]
       have aO:=a50 (aq:=aq) (cp:=cpN) d9;rw[b5a _ _ bC,c10,hU]at aO;obtain⟨ig,kq⟩:=hT.sub i _ d9 bC;have lG:=a1a ig;have cW:=hT.top;have cj:=a1a cW;have bT:(a2b aq cpN (foQ ((xQ qs i).set i (xP q k')))).length=qs.length:=by rw[a2j,a74,f0l,a9j]
       obtain⟨tN,qy⟩:=hT.apart bO (by omega) (by omega);obtain⟨tC,qn⟩:=hT.apart lJ (by omega) (by omega);by_cases iU:k'<k
       ·obtain⟨v,hv⟩:∃v,q[k']?=some v:=⟨_,z9e (by omega)⟩
        have pE:=tf v (c11 hv);have d1:(k':Int)<k:=by omega
        have fZ:=wI1 (n:=k') (by have:=ht.k4;omega);have ga:=e6t hv;have eD:=f2j hv;have cQ:∀v,u8R v=[.int .u8 v]:=λ_=>rfl;by_cases lb:v=3
        ·subst lb;have aB:((xP q k').map u8R).set k' [AV.int .u8 2]=(xP q (k'+1)).map u8R:=by rw[eD,f1f];rfl
         have o8:=hT.upd d9 bC (f':=(xP q (k'+1)).map u8R) (by simp[c2p]) (FlatR.map λ_=>rfl) lG;rw[d94,List.set_set]at o8
         (repeat first|simp only[ww]|(apply xa;simp+decide only[go_sem,d1,aj,iU,cW,aO,ig,bT,ga,cQ,aB,lG,hU,fZ,cj,c10];rfl;kernel_rfl))
         refine a0x (k-(k'+1)) (by omega) (b3x (Two.head3 o8 (by rw[a37 (f2x (qy i _ d9 bC)),bO]) oz (by rw[a37 (f2x (qn i _ d9 bC)),lJ]) oy (by simp+decide only[go_sem]<;>rfl) (by rw[a74,f0l,a9j];omega) (λcb fb b=>[(7,.ptr cb 0 0),(8,.ptr fb 0 0),(9,.slice b 0 qs.length none),(10,.int .i64 i),(11,.int .i64 (k'+1:Nat))]) (λπ x' y' b' h1 h2 h3=>by simp+decide only[go_sem,h1,h2,h3]<;>rfl)) ?_)
         rintro F H ⟨cb,fb,b,aq,rfl,e1,e2,e3⟩
         exact⟨k'+1,cb,fb,b,aq,rfl,iU,rfl,e1,e2,e3⟩
        ·have c3:¬(v:Int)=3:=by omega
         have sW:xz v=v:=e1s (by omega);rw[sW]at eD;have aB:(xP q k').set k' v=xP q k':=by
          apply e9p;intro j;rw[e8n];split
          ·rename_i h;subst h;rw[ga,hU,e8j iU]
          ·rfl
         rw[aB]at eD
         (repeat first|simp only[ww]|(apply xa;simp+decide only[go_sem,d1,aj,iU,cW,aO,ig,bT,ga,cQ,lG,hU,fZ,cj,c3,c10];rfl;kernel_rfl))
         refine a0x (k-(k'+1)) (by omega) (b3x (Two.head3 hT bO oz lJ oy (by simp+decide only[go_sem]<;>rfl) (by rw[a74,f0l,a9j];omega) (λcb fb b=>[(7,.ptr cb 0 0),(8,.ptr fb 0 0),(9,.slice b 0 qs.length none),(10,.int .i64 i),(11,.int .i64 (k'+1:Nat))]) (λπ x' y' b' h1 h2 h3=>by simp+decide only[go_sem,h1,h2,h3]<;>rfl)) ?_)
         rintro F H ⟨cb,fb,b,aq,rfl,e1,e2,e3⟩
         exact⟨k'+1,cb,fb,b,aq,rfl,iU,rfl,e1,e2,by rw[eD];exact e3⟩
       ·obtain rfl:k'=k:=by omega
        have d1:¬(k':Int)<k':=by omega
        have pB:(xQ qs i).set i (xP q k')=xQ qs (i+1):=by rw[f2h hq,←jK,e1u]
        rw[pB]at hT;rw[pB]at aO cW bT
        (repeat first|simp only[ww]|(apply xa;simp+decide only[go_sem,d1,aj,cW,aO,bT,cj,aT,c10];rfl;kernel_rfl))
        refine a0x (qs.length-(i+1)) (by omega) (b3x (Two.head3 hT bO oz lJ oy (by simp+decide only[go_sem]<;>rfl) (by rw[a74,a9j];omega) (λcb fb b=>[(7,.ptr cb 0 0),(8,.ptr fb 0 0),(9,.slice b 0 qs.length none),(10,.int .i64 (i+1:Nat)),(1000000,.junk)]) (λπ x' y' b' h1 h2 h3=>by simp+decide only[go_sem,h1,h2,h3]<;>rfl)) ?_)
        rintro F H ⟨cb,fb,b,aq,rfl,e1,e2,e3⟩
        exact⟨i+1,cb,fb,b,aq,rfl,aj,rfl,e1,e2,e3⟩
     ·obtain rfl:i=qs.length:=by omega
      have c1:¬(qs.length:Int)<qs.length:=by omega
      rw[e1t]at hT;have hz:=hT.frz none;rw[a74,c10,d8t qs np,hA]at hz
      (repeat first|simp only[ww]|(apply xa;simp+decide only[go_sem,c1];rfl;kernel_rfl))
      rw[c5t];simp+decide only[go_sem,hz,bO,lJ,f4b,e9x];have gy:=gy (some none);have dH:=dH (some none);simp only[a68]at gy dH;cases aa with
      |nil=>
       simp only[c1m,e0z,e8c]at ae dH fh
       (repeat first|simp only[ww]|(apply xa;simp+decide only[go_sem,gy,ae,dH,fh,ji,jj,j4];rfl;kernel_rfl))
       refine a0l (σ:=Unit) kp7_4 (λ_=>[(14,.nilslice),(16,.nilslice),(19,.int .i64 0)]) (λ_=>[]) (λ_=>0) (λ_=>True) () ?_ trivial ?_
       ·(simp+decide only[go_sem,a01,a00]<;>rfl)<;>rfl
       ·intro _ _
        (repeat first|simp only[ww]|(apply xa;simp+decide only[go_sem,kD];rfl;kernel_rfl))
        refine a21 (vs:=[.bool true]) (r:=(_,_)) (by simp+decide only[go_sem]) ?_ rfl;simp+decide only[go_sem,a1l]<;>rfl
      |cons r0 rs=>
       simp only[c1m,e0z,e7g]at ae dH fh iK;have e0:¬((rs.length:Int)+1=0):=by omega
       (repeat first|simp only[ww]|(apply xa;simp+decide only[go_sem,gy,ae,dH,fh,ji,jj,j4,e0,e7g,bne_self_eq_false];rfl;kernel_rfl))
       refine a0l (σ:=Nat) kp7_4 (λi=>[(14,.islice (r0::rs) (some (rs.length+1))),(16,.islice (r0::rs) none),(19,.int .i64 i)]) (λ_=>[]) (λi=>(r0::rs).length-i) (λi=>i≤(r0::rs).length) 0 ?_ (e8e _) ?_
       ·(simp+decide only[go_sem,a01,a00]<;>rfl)<;>rfl
       ·intro i hi;by_cases aj:i<(r0::rs).length
        ·obtain⟨r,hr⟩:∃r,(r0::rs)[i]?=some r:=⟨_,z9e aj⟩
         obtain⟨n1,n2,n3,rfl⟩:=fc r (c11 hr);have aT:=wI1 (n:=i) (by simp at *;omega);have da:a7k n1 n2 n3=[.int .i64 n1,.int .i64 n2,.int .u8 n3]:=rfl;rw[da]at hr;have b9:i<rs.length+1:=aj;have c1:(i:Int)<((rs.length+1:Nat):Int):=by omega
         (repeat first|simp only[ww]|((with_reducible first|apply xs2|apply xI);(·simp+decide only[go_sem,c1,aj,b9,hr,aT,beq_self_eq_true,bne_self_eq_false,f1e,f2n,e7g];rfl);with_reducible first|apply xT|apply xF|(·kernel_rfl)))
         (repeat first|simp only[ww]|(apply xa;simp+decide only[go_sem,aT];rfl;kernel_rfl))
         refine a25 (i+1) ?_ (by omega) aj
         (simp+decide only[go_sem,a01,a00]<;>rfl)<;>rfl
        ·obtain rfl:i=(r0::rs).length:=by omega
         have c1:¬(((r0::rs).length:Nat):Int)<(r0::rs).length:=by omega
         simp only[e7g]at c1⊢
         (repeat first|simp only[ww]|(apply xa;simp+decide only[go_sem,c1,kD,e7g];rfl;kernel_rfl))
         refine a21 (vs:=[.bool true]) (r:=(_,_)) (by simp+decide only[go_sem]) ?_ rfl;simp+decide only[go_sem,a1l]<;>rfl
 ·have d0:((8:Int)<ps.length):=by omega
  simp only[CX.enc,FX.enc]
  (refine svE Tryz.f7 ?_;simp only[Tryz.f7,gS])
  (repeat first|simp only[ww]|(apply xa;simp+decide only[go_sem,d0,kD,c10];rfl;kernel_rfl))
  refine a21 (vs:=[.bool true]) (r:=(_,_)) (by simp+decide only[go_sem]) ?_ rfl;simp+decide only[go_sem,a1l]<;>rfl
end Go.UInst
