/- Part of a proof. No condition. -/
import Derived.Test.YtmiegcjnimlbmaaGreatDoorUNe
import Derived.Test.YtmiegcjnimlbmaaGreatDoorPcB
import Derived.Test.YtmiegcjnimlbmaaGreatDoorAxD
import Derived.Test.YtmiegcjnimlbmaaGreatDoorUPa
set_option linter.unusedSectionVars false
set_option linter.unusedSimpArgs false
set_option linter.unusedVariables false
namespace Go.UInst
open Go.Proofs Go.Ax Go.Pc
variable [ZC]
set_option maxRecDepth 100000
inductive RA(l:List Nat):AV->a03->Prop
 |imm (r:Rep):RA l (sl r (l.map u8R)) []
 |blk (c:Option Nat) (al:List (List AV)) (hf:FlatR (l.map u8R++al)):RA l (.slice 0 0 l.length c) [some (.row 1 (l.map u8R++al))]
theorem a2t(l:List Nat):FlatR (l.map u8R):=FlatR.map λ_=>rfl
theorem c18{l:List Nat}{V:AV}{H:a03}(h:RA l V H):c07 L.env (a02 H) 52 V=some (.int .i64 l.length):=by
 cases h with
 |imm r=>simp+decide only[go_sem]
 |blk c al hf=>simp+decide only[go_sem]
theorem c19{l:List Nat}{V:AV}{H:a03}(h:RA l V H){i v:Nat}(hi:l[i]?=some v):∃p,a15 L.env (a02 H) 52 V (.int .i64 i)=some p∧a6q L.env (a02 H) 53 p=some (.int .u8 v):=by
 have ai:=(f1i.1 hi).1;cases h with
 |imm r=>exact⟨_,by simp+decide only[go_sem,hi,ai]<;>rfl,by simp+decide only[go_sem,hi,ai]⟩
 |blk c al hf=>
  have hg:(l.map u8R++al)[i]?=some [.int .u8 v]:=by rw[f2l (by simpa using ai),f1l,hi];rfl
  have eT:i<(l.map u8R++al).length:=by simp;omega
  exact⟨_,by simp+decide only[go_sem,hg,ai,eT]<;>rfl,by simp+decide only[go_sem,hg,ai,eT]⟩
theorem a1w{l:List Nat}{V v:AV}{H:a03}(h:RA l V H)(hv:refs v=[]):a22 false H.length v H=some (v,H):=by
 cases h with
 |imm r=>exact a5b hv
 |blk c al hf=>have h1:=λπ=>a05 π hf;have hr:∀π,ren π v=v:=λπ=>a0b π v hv;simp+decide only[go_sem,a22,a0i _ _ _ _ hv,h1]
theorem e13{l:List Nat}{V:AV}{H:a03}(h:RA l V H)(b:Nat):a12 (a02 H b)=[]:=by
 cases h with
 |imm r=>rfl
 |blk c al hf=>
  cases b with
  |zero=>exact a0p hf
  |succ b=>rfl
theorem d97{l:List Nat}{V:AV}{H:a03}(h:RA l V H):(∀b∈refs V,b<H.length)∧(refs V).length<=1:=by
 cases h with
 |imm r=>rw[a16];exact⟨λb hb=>by simp at hb,by simp⟩
 |blk c al hf=>exact⟨λb hb=>by simp[refs]at hb;subst hb;simp,by simp[refs]⟩
theorem b91{l:List Nat}{V:AV}{H:a03}(h:RA l V H){keep:List Nat}{F F':Frm}(hk:a2c keep F=F')(hF:a0d (F'.map (·.2))=refs V∨a0d (F'.map (·.2))=[]):gcD H.length keep F H=some (F',H):=by
 obtain⟨h1,h2⟩:=d97 h;refine e6y hk ?_ ?_ (e13 h)
 ·rcases hF with e|e<;>rw[e]
  ·exact h1
  ·intro b hb;simp at hb
 ·rcases hF with e|e<;>rw[e]
  ·omega
  ·simp
theorem a6i{l:List Nat}{V:AV}{H:a03}(h:RA l V H){d:Bool}{g:FuncId}{pre post:List AV}{v:AV}(hx:L.env.ext g=false)(hf:(L.env.fn g).isSome=true)(hp:a0d pre=[])(hq:a0d post=[])(hv:refs v=[])
 (hr:∀V H,RA l V H->sM g (pre++V::post) H=some (v,H)):a20 L.env d sM (.func (.func g) [] []) (pre++V::post) H=some (v,H,refs V):=by
 have hr:=hr V H h;cases h with
 |imm r=>rw[a16];exact a0v hx hf rfl (by simp only[f1e,f1b,b2j,a04,a16,hp,hq]) (by simpa using hr) hv
 |blk c al bh=>refine a2g (b:=0) (fs:=[]) (cs:=[]) (args:=pre ++ .slice 0 0 l.length c::post) hx hf (by simp) rfl (a0p bh) (FlatO.row bh) (by simp only[b2j,a04,hp,hq,c7r,f1e,f1b]) (au:=pre ++ .slice 0 0 l.length c::post) ?_ hr hv;rw[f2t,f1a,a2b];have e:∀l:List AV,a0d l=[]->l.map (ren (a78 [0]))=l:=λl hl=>a31 _ hl;rw[e _ hp,e _ hq]
/-! ### scalars -/
theorem d25(v:Nat):sM 148 [.int .u8 v] []=some (.bool (decide (v<=1)),[]):=by
 have e:decide ((v:Int)<=1)=decide (v<=1):=by rw[decide_eq_decide];omega
 (refine sv Tryz.f148 ?_;simp only[Tryz.f148,gS])
 (repeat first|simp only[ww]|apply xa;simp+decide only[go_sem,e];rfl;kernel_rfl)
 (apply fqb;simp+decide only[go_sem]<;>rfl)
theorem b4x{d:Bool}(H:a03)(v:Nat):cl d 148 [.int .u8 v] H=some (.bool (decide (v<=1)),H,[]):=cf rfl (d25 v) rfl
theorem d6p(v:Nat):sM 107 [.int .u8 v] []=some (.int .u8 (a5u v:Nat),[]):=by
 have e:d9t (.int .u8 v) [.int .u8 2]=some (.int .u8 ((a5u v:Nat):Int)):=by
  simp only[d9t,a5u];by_cases h:(2:Int)<v
  ·rw[f2w h];congr 2;omega
  ·rw[f2m h];congr 2;omega
 generalize a5u v=w at e
 (refine sv Tryz.f107 ?_;simp only[Tryz.f107,gS])
 (repeat first|simp only[ww]|apply xa;simp+decide only[go_sem,e];rfl;kernel_rfl)
 (apply fqb;simp+decide only[go_sem]<;>rfl)
theorem a7c{d:Bool}(H:a03)(v:Nat):cl d 107 [.int .u8 v] H=some (.int .u8 (a5u v:Nat),H,[]):=cf rfl (d6p v) rfl
theorem e1q(v:Nat):sM 108 [.int .u8 v] []=some (.int .u8 (b3e v:Nat),[]):=by
 have hk:=λH=>b4x (d:=false) H v;by_cases h:v<=1
 ·have hw:IntKind.u8.wrap (1-(v:Int))=((1-v:Nat):Int):=by rw[IntWalk.u8_in _ ⟨by omega,by omega⟩];omega
  rw[show b3e v=1-v by simp[b3e,h]]
  (refine sv Tryz.f108 ?_;simp only[Tryz.f108,gS])
  (repeat first|simp only[ww]|apply xa;simp+decide only[go_sem,hk,h,hw];rfl;kernel_rfl)
  (apply fqb;simp+decide only[go_sem]<;>rfl)
 ·rw[show b3e v=2 by simp[b3e,h]]
  (refine sv Tryz.f108 ?_;simp only[Tryz.f108,gS])
  (repeat first|simp only[ww]|apply xa;simp+decide only[go_sem,hk,h];rfl;kernel_rfl)
  (apply fqb;simp+decide only[go_sem]<;>rfl)
theorem d23{d:Bool}(H:a03)(v:Nat):cl d 108 [.int .u8 v] H=some (.int .u8 (b3e v:Nat),H,[]):=cf rfl (e1q v) rfl
theorem e1r(s a b:Nat):sM 112 [.int .u8 s,.int .u8 a,.int .u8 b] []=some (.int .u8 (c1j s a b:Nat),[]):=by
 have ha:=λH=>a7c (d:=false) H a;have hb:=λH=>a7c (d:=false) H b;by_cases h0:s=0
 ·have c0:(s:Int)=0:=by omega
  rw[show c1j s a b=a5u a by simp[c1j,h0]]
  (refine sv Tryz.f112 ?_;simp only[Tryz.f112,gS])
  (repeat first|simp only[ww]|apply xa;simp+decide only[go_sem,ha,c0];rfl;kernel_rfl)
  (apply fqb;simp+decide only[go_sem]<;>rfl)
 have c0:¬(s:Int)=0:=by omega
 by_cases h1:s=1
 ·have c1:(s:Int)=1:=by omega
  rw[show c1j s a b=a5u b by simp[c1j,h1]]
  (refine sv Tryz.f112 ?_;simp only[Tryz.f112,gS])
  (repeat first|simp only[ww]|apply xa;simp+decide only[go_sem,hb,c1];rfl;kernel_rfl)
  (apply fqb;simp+decide only[go_sem]<;>rfl)
 have c1:¬(s:Int)=1:=by omega
 by_cases h2:a=b
 ·have c2:(a:Int)=b:=by omega
  rw[show c1j s a b=a5u a by simp[c1j,h0,h1,h2]]
  (refine sv Tryz.f112 ?_;simp only[Tryz.f112,gS])
  (repeat first|simp only[ww]|apply xa;simp+decide only[go_sem,ha,c0,c1,c2];rfl;kernel_rfl)
  subst h2
  (repeat first|simp only[ww]|apply xa;simp+decide only[go_sem,ha];rfl;kernel_rfl)
  (apply fqb;simp+decide only[go_sem]<;>rfl)
 ·have c2:¬(a:Int)=b:=by omega
  rw[show c1j s a b=2 by simp[c1j,h0,h1,h2]]
  (refine sv Tryz.f112 ?_;simp only[Tryz.f112,gS])
  (repeat first|simp only[ww]|apply xa;simp+decide only[go_sem,c0,c1,c2];rfl;kernel_rfl)
  (apply fqb;simp+decide only[go_sem]<;>rfl)
theorem d24{d:Bool}(H:a03)(s a b:Nat):cl d 112 [.int .u8 s,.int .u8 a,.int .u8 b] H=some (.int .u8 (c1j s a b:Nat),H,[]):=cf rfl (e1r s a b) rfl
theorem e1p(e v:Nat):sM 113 [.int .u8 e,.int .u8 v] []=some (.int .u8 (c3z e v:Nat),[]):=by
 have ha:=λH=>a7c (d:=false) H v;by_cases h0:e=0
 ·have c0:(e:Int)=0:=by omega
  rw[show c3z e v=3 by simp[c3z,h0]]
  (refine sv Tryz.f113 ?_;simp only[Tryz.f113,gS])
  (repeat first|simp only[ww]|apply xa;simp+decide only[go_sem,c0];rfl;kernel_rfl)
  (apply fqb;simp+decide only[go_sem]<;>rfl)
 have c0:¬(e:Int)=0:=by omega
 by_cases h1:e=1
 ·have c1:(e:Int)=1:=by omega
  rw[show c3z e v=a5u v by simp[c3z,h1]]
  (refine sv Tryz.f113 ?_;simp only[Tryz.f113,gS])
  (repeat first|simp only[ww]|apply xa;simp+decide only[go_sem,ha,c1];rfl;kernel_rfl)
  (apply fqb;simp+decide only[go_sem]<;>rfl)
 have c1:¬(e:Int)=1:=by omega
 rw[show c3z e v=2 by simp[c3z,h0,h1]]
 (refine sv Tryz.f113 ?_;simp only[Tryz.f113,gS])
 (repeat first|simp only[ww]|apply xa;simp+decide only[go_sem,c0,c1];rfl;kernel_rfl)
 (apply fqb;simp+decide only[go_sem]<;>rfl)
theorem d20{d:Bool}(H:a03)(e v:Nat):cl d 113 [.int .u8 e,.int .u8 v] H=some (.int .u8 (c3z e v:Nat),H,[]):=cf rfl (e1p e v) rfl
/-! ### lists -/
theorem c8w(l:List Nat)(V:AV)(H:a03)(hV:RA l V H)(hl:l.length<1000000)(low cq:Nat):sM 149 [V,.int .u8 low,.int .u8 cq] H=some (.int .u8 (a71 low cq cq l:Nat),H):=by
 have ak:=c18 hV;have dz:=d97 hV
 suffices hs:∃r:AV×a03,(r=(.int .u8 (a71 low cq cq l:Nat),H))∧sM 149 [V,.int .u8 low,.int .u8 cq] H=some r by obtain⟨r,rfl,h3⟩:=hs;exact h3
 (refine svE Tryz.f149 ?_;simp only[Tryz.f149,gS])
 (repeat first|simp only[ww]|apply xa;simp+decide only[go_sem,ak];rfl;kernel_rfl)
 refine a3i kp149_0 (λn F H1=>∃(i out:Nat),n=l.length-i∧i<=l.length∧F=[(1,.int .u8 low),(2,.int .u8 cq),(7,.int .u8 out),(11,V),(12,.int .i64 l.length),(13,.int .i64 i)]∧H1=H∧a71 low cq out (l.drop i)=a71 low cq cq l) l.length ?_ ?_
 ·exact⟨_,_,b91 hV (by simp+decide only[go_sem]<;>rfl) (.inl (by simp+decide only[go_sem])),0,cq,rfl,f2i _,rfl,rfl,rfl⟩
 ·rintro n F H1 ⟨i,out,rfl,hi,rfl,rfl,aU⟩
  by_cases ai:i<l.length
  ·obtain⟨v,hv⟩:∃v,l[i]?=some v:=⟨_,z9e ai⟩
   obtain⟨p,dw,cB⟩:=c19 hV hv;have hd:l.drop i=v::l.drop (i+1):=by rw[<-List.getElem_cons_drop ai,(f1i.1 hv).2]
   rw[hd]at aU;have c1:(i:Int)<l.length:=by omega
   have hw:=wI1 (n:=i) (by omega);by_cases h1:v=low
   ·have c2:(v:Int)=low:=by omega
    simp only[a71,h1,f7i]at aU
    (repeat first|simp only[ww]|apply xa;simp+decide only[go_sem,c1,dw,cB,c2];rfl;kernel_rfl)
    refine a44 (vs:=[.int .u8 low]) (r:=(_,_)) (by simp+decide only[go_sem]) (a1w hV rfl) ?_;rw[<-aU];rfl
   ·have c2:¬(v:Int)=low:=by omega
    by_cases h2:v=cq
    ·subst h2;simp only[a71,f2m h1,f7i]at aU
     (repeat first|simp only[ww]|apply xa;simp+decide only[go_sem,c1,dw,cB,c2,hw];rfl;kernel_rfl)
     refine a0y (l.length-(i+1)) (by omega) ⟨_,_,b91 hV (by simp+decide only[go_sem]<;>rfl) (.inl (by simp+decide only[go_sem])),i+1,out,rfl,ai,rfl,rfl,aU⟩
    ·have c3:¬(v:Int)=cq:=by omega
     simp only[a71,f2m h1,f2m h2]at aU
     (repeat first|simp only[ww]|apply xa;simp+decide only[go_sem,c1,dw,cB,c2,c3,hw];rfl;kernel_rfl)
     refine a0y (l.length-(i+1)) (by omega) ⟨_,_,b91 hV (by simp+decide only[go_sem]<;>rfl) (.inl (by simp+decide only[go_sem])),i+1,2,rfl,ai,rfl,rfl,aU⟩
  ·obtain rfl:i=l.length:=by omega
   have c1:¬(l.length:Int)<l.length:=by omega
   rw[List.drop_length]at aU;simp only[a71]at aU
   (repeat first|simp only[ww]|apply xa;simp+decide only[go_sem,c1];rfl;kernel_rfl)
   refine b6h (vs:=[.int .u8 out]) (r:=(_,_)) (by simp+decide only[go_sem]) (a1w hV rfl) ?_;rw[<-aU];rfl
theorem b2s{l:List Nat}{V:AV}{H:a03}(hV:RA l V H)(hl:l.length<1000000){d:Bool}(low cq:Nat){a b:Int}(ha:a=low)(hb:b=cq):cl d 149 [V,.int .u8 a,.int .u8 b] H=some (.int .u8 (a71 low cq cq l:Nat),H,refs V):=by subst ha;subst hb;exact a6i hV (pre:=[]) (post:=[.int .u8 low,.int .u8 cq]) (by kernel_rfl) (by kernel_rfl) rfl rfl rfl (λV H hV=>c8w l V H hV hl low cq)
theorem e1v(l:List Nat)(V:AV)(H:a03)(hV:RA l V H)(hl:l.length<1000000):sM 109 [V] H=some (.int .u8 (a71 0 1 1 l:Nat),H):=by
 have hc:=b2s hV hl (d:=false) 0 1 (a:=0) (b:=1) rfl rfl;generalize a71 0 1 1 l=w at hc
 (refine sv Tryz.f109 ?_;simp only[Tryz.f109,gS])
 (repeat first|simp only[ww]|apply xa;simp+decide only[go_sem,hc];rfl;kernel_rfl)
 refine a6p (vs:=[.int .u8 w]) (by simp+decide only[go_sem]) (a1w hV rfl)
theorem d2a{l:List Nat}{V:AV}{H:a03}(hV:RA l V H)(hl:l.length<1000000){d:Bool}:cl d 109 [V] H=some (.int .u8 (a71 0 1 1 l:Nat),H,refs V):=a6i hV (pre:=[]) (post:=[]) (by kernel_rfl) (by kernel_rfl) rfl rfl rfl (λV H hV=>e1v l V H hV hl)
theorem e6g(l:List Nat)(V:AV)(H:a03)(hV:RA l V H)(hl:l.length<1000000):sM 110 [V] H=some (.int .u8 (a71 1 0 0 l:Nat),H):=by
 have hc:=b2s hV hl (d:=false) 1 0 (a:=1) (b:=0) rfl rfl;generalize a71 1 0 0 l=w at hc
 (refine sv Tryz.f110 ?_;simp only[Tryz.f110,gS])
 (repeat first|simp only[ww]|apply xa;simp+decide only[go_sem,hc];rfl;kernel_rfl)
 refine a6p (vs:=[.int .u8 w]) (by simp+decide only[go_sem]) (a1w hV rfl)
theorem d6q{l:List Nat}{V:AV}{H:a03}(hV:RA l V H)(hl:l.length<1000000){d:Bool}:cl d 110 [V] H=some (.int .u8 (a71 1 0 0 l:Nat),H,refs V):=a6i hV (pre:=[]) (post:=[]) (by kernel_rfl) (by kernel_rfl) rfl rfl rfl (λV H hV=>e6g l V H hV hl)
theorem f0d{a b:Nat}(ha:a<=1)(hb:b<=1):f1v .u8 (a:Int) (b:Int)=((a^^^b:Nat):Int)∧a^^^b<=1:=by
 have ha:a=0∨a=1:=by omega
 have hb:b=0∨b=1:=by omega
 rcases ha with rfl|rfl<;>rcases hb with rfl|rfl<;>exact⟨by decide,by decide⟩
theorem e1o(l:List Nat)(V:AV)(H:a03)(hV:RA l V H)(hl:l.length<1000000):sM 111 [V] H=some (.int .u8 (b6p 0 l:Nat),H):=by
 have ak:=c18 hV
 suffices hs:∃r:AV×a03,(r=(.int .u8 (b6p 0 l:Nat),H))∧sM 111 [V] H=some r by obtain⟨r,rfl,h3⟩:=hs;exact h3
 (refine svE Tryz.f111 ?_;simp only[Tryz.f111,gS])
 (repeat first|simp only[ww]|apply xa;simp+decide only[go_sem,ak];rfl;kernel_rfl)
 refine a3i kp111_0 (λn F H1=>∃(i out:Nat),n=l.length-i∧i<=l.length∧out<=1∧F=[(3,.int .u8 out),(6,V),(7,.int .i64 l.length),(8,.int .i64 i)]∧H1=H∧b6p out (l.drop i)=b6p 0 l) l.length ?_ ?_
 ·exact⟨_,_,b91 hV (by simp+decide only[go_sem]<;>rfl) (.inl (by simp+decide only[go_sem])),0,0,rfl,f2i _,by omega,rfl,rfl,rfl⟩
 ·rintro n F H1 ⟨i,out,rfl,hi,ho,rfl,rfl,aU⟩
  by_cases ai:i<l.length
  ·obtain⟨v,hv⟩:∃v,l[i]?=some v:=⟨_,z9e ai⟩
   obtain⟨p,dw,cB⟩:=c19 hV hv;have hd:l.drop i=v::l.drop (i+1):=by rw[<-List.getElem_cons_drop ai,(f1i.1 hv).2]
   rw[hd]at aU;have c1:(i:Int)<l.length:=by omega
   have hw:=wI1 (n:=i) (by omega);have hk:=λH=>b4x (d:=false) H v;by_cases h1:v<=1
   ·obtain⟨hx,fD⟩:=f0d ho h1;simp only[b6p,f2w h1]at aU
    (repeat first|simp only[ww]|apply xa;simp+decide only[go_sem,c1,dw,cB,hk,h1,hx,hw];rfl;kernel_rfl)
    refine a0y (l.length-(i+1)) (by omega) ⟨_,_,b91 hV (by simp+decide only[go_sem]<;>rfl) (.inl (by simp+decide only[go_sem])),i+1,out^^^v,rfl,ai,fD,rfl,rfl,aU⟩
   ·simp only[b6p,f2m h1]at aU
    (repeat first|simp only[ww]|apply xa;simp+decide only[go_sem,c1,dw,cB,hk,h1];rfl;kernel_rfl)
    refine a44 (vs:=[.int .u8 2]) (r:=(_,_)) (by simp+decide only[go_sem]) (a1w hV rfl) ?_;rw[<-aU];rfl
  ·obtain rfl:i=l.length:=by omega
   have c1:¬(l.length:Int)<l.length:=by omega
   rw[List.drop_length]at aU;simp only[b6p]at aU
   (repeat first|simp only[ww]|apply xa;simp+decide only[go_sem,c1];rfl;kernel_rfl)
   refine b6h (vs:=[.int .u8 out]) (r:=(_,_)) (by simp+decide only[go_sem]) (a1w hV rfl) ?_;rw[<-aU];rfl
theorem d1z{l:List Nat}{V:AV}{H:a03}(hV:RA l V H)(hl:l.length<1000000){d:Bool}:cl d 111 [V] H=some (.int .u8 (b6p 0 l:Nat),H,refs V):=a6i hV (pre:=[]) (post:=[]) (by kernel_rfl) (by kernel_rfl) rfl rfl rfl (λV H hV=>e1o l V H hV hl)
set_option maxHeartbeats 200000000
def b6f(p:Nat->Bool)(l:List Nat):Int:=match l.findIdx? p with
 |some i=>i
 |none=>-1
theorem c5y{p:Nat->Bool}{l:List Nat}{i v:Nat}(hv:l[i]?=some v)(hp:p v=true)(hb:∀(j w:Nat),j<i->l[j]?=some w->p w=false):b6f p l=i:=by
 have ai:=(f1i.1 hv).1;have:l.findIdx? p=some i:=by rw[List.findIdx?_eq_some_iff_getElem];refine⟨ai,by rw[(f1i.1 hv).2];exact hp,λj hj=>?_⟩;have:=hb j _ hj (z9e (by omega));simp[this]
 unfold b6f;rw[this]
theorem c23{p:Nat->Bool}{l:List Nat}(hb:∀(j w:Nat),j<l.length->l[j]?=some w->p w=false):b6f p l = -1:=by
 have:l.findIdx? p=none:=by rw[List.findIdx?_eq_none_iff];intro x hx;obtain⟨j,hj⟩:=f7p.1 hx;exact hb j x (f1i.1 hj).1 hj
 unfold b6f;rw[this]
theorem d2t(p:Nat->Bool)(l:List Nat):decide (0<=b6f p l)=l.any p:=by
 unfold b6f;cases h:l.findIdx? p with
 |none=>
  have:=List.findIdx?_eq_none_iff.1 h;have e:l.any p=false:=by rw[List.any_eq_false];intro x hx;simp[this x hx]
  rw[e];rfl
 |some i=>obtain⟨hi,hp,_⟩:=List.findIdx?_eq_some_iff_getElem.1 h;have e:l.any p=true:=List.any_eq_true.2 ⟨_,g0l hi,hp⟩;rw[e];simp
theorem d6s(l:List Nat)(V:AV)(H:a03)(hV:RA l V H)(hl:l.length<1000000)(f:AV)(p:Nat->Bool)(kW:refs f=[])(hf:∀(d:Bool) (H:a03) (v:Nat),a20 L.env d sM f [.int .u8 v] H=some (.bool (p v),H,[])) :
 sM 139 [V,f] H=some (.int .i64 (b6f p l),H):=by
 have ak:=c18 hV
 suffices hs:∃r:AV×a03,(r=(.int .i64 (b6f p l),H))∧sM 139 [V,f] H=some r by obtain⟨r,rfl,h3⟩:=hs;exact h3
 (refine svE Tryz.f139 ?_;simp only[Tryz.f139,gS])
 (repeat first|simp only[ww]|apply xa;simp+decide only[go_sem,ak];rfl;kernel_rfl)
 refine a3i kp139_0 (λn F H1=>∃(i:Nat),n=l.length-i∧i<=l.length∧F=[(0,V),(1,f),(7,.int .i64 l.length),(8,.int .i64 i)]∧H1=H∧∀(j w:Nat),j<i->l[j]?=some w->p w=false) l.length ?_ ?_
 ·exact⟨_,_,b91 hV (by simp+decide only[go_sem]<;>rfl) (.inl (by simp+decide only[go_sem,kW])),0,rfl,f2i _,rfl,rfl,λj w hj=>by omega⟩
 ·rintro n F H1 ⟨i,rfl,hi,rfl,rfl,hb⟩
  by_cases ai:i<l.length
  ·obtain⟨v,hv⟩:∃v,l[i]?=some v:=⟨_,z9e ai⟩
   obtain⟨q,dw,cB⟩:=c19 hV hv;have c1:(i:Int)<l.length:=by omega
   have hw:=wI1 (n:=i) (by omega);have hc:=λd H=>hf d H v;cases hpv:p v with
   |true=>
    rw[hpv]at hc
    (repeat first|simp only[ww]|apply xa;simp+decide only[go_sem,c1,dw,cB,hc];rfl;kernel_rfl)
    refine a44 (vs:=[.int .i64 i]) (r:=(_,_)) (by simp+decide only[go_sem]) (a1w hV rfl) ?_;rw[c5y hv hpv hb];rfl
   |false=>
    rw[hpv]at hc
    (repeat first|simp only[ww]|apply xa;simp+decide only[go_sem,c1,dw,cB,hc,hw];rfl;kernel_rfl)
    refine a0y (l.length-(i+1)) (by omega) ⟨_,_,b91 hV (by simp+decide only[go_sem]<;>rfl) (.inl (by simp+decide only[go_sem,kW])),i+1,rfl,ai,rfl,rfl,λj w hj rK=>?_⟩;by_cases jb:j=i
    ·subst jb;rw[hv]at rK;cases rK;exact hpv
    ·exact hb j w (by omega) rK
  ·obtain rfl:i=l.length:=by omega
   have c1:¬(l.length:Int)<l.length:=by omega
   (repeat first|simp only[ww]|apply xa;simp+decide only[go_sem,c1];rfl;kernel_rfl)
   refine a44 (vs:=[.int .i64 (-1)]) (r:=(_,_)) (by simp+decide only[go_sem]) (a1w hV rfl) ?_;rw[c23 hb];rfl
theorem b7j{l:List Nat}{V:AV}{H:a03}(hV:RA l V H)(hl:l.length<1000000){d:Bool}(f:AV)(p:Nat->Bool)(kW:refs f=[])(hf:∀(d:Bool) (H:a03) (v:Nat),a20 L.env d sM f [.int .u8 v] H=some (.bool (p v),H,[])) :
 cl d 139 [V,f] H=some (.int .i64 (b6f p l),H,refs V):=
 a6i hV (pre:=[]) (post:=[f]) (by kernel_rfl) (by kernel_rfl) rfl (by simp only[a04,a0t,kW,f1b]) rfl (λV H hV=>d6s l V H hV hl f p kW hf)
theorem d28(l:List Nat)(V:AV)(H:a03)(hV:RA l V H)(hl:l.length<1000000)(f:AV)(p:Nat->Bool)(kW:refs f=[])(hf:∀(d:Bool) (H:a03) (v:Nat),a20 L.env d sM f [.int .u8 v] H=some (.bool (p v),H,[])) :
 sM 92 [V,f] H=some (.bool (l.any p),H):=by
 have hc:=λd=>b7j hV hl (d:=d) f p kW hf;have he:=d2t p l;generalize b6f p l=x at hc he;rw[<-he]
 (refine sv Tryz.f92 ?_;simp only[Tryz.f92,gS])
 (repeat first|simp only[ww]|apply xa;simp+decide only[go_sem,hc];rfl;kernel_rfl)
 refine a6p (vs:=[.bool _]) (by simp+decide only[go_sem]<;>rfl) (a1w hV rfl)
theorem c44{l:List Nat}{V:AV}{H:a03}(hV:RA l V H)(hl:l.length<1000000){d:Bool}(f:AV)(p:Nat->Bool)(kW:refs f=[])(hf:∀(d:Bool) (H:a03) (v:Nat),a20 L.env d sM f [.int .u8 v] H=some (.bool (p v),H,[])) :
 cl d 92 [V,f] H=some (.bool (l.any p),H,refs V):=
 a6i hV (pre:=[]) (post:=[f]) (by kernel_rfl) (by kernel_rfl) rfl (by simp only[a04,a0t,kW,f1b]) rfl (λV H hV=>d28 l V H hV hl f p kW hf)
theorem e1t(l:List Nat)(V:AV)(H:a03)(hV:RA l V H)(hl:l.length<1000000)(w:Nat):sM 223 [V,.int .u8 w] H=some (.int .i64 (b6f (λv=>decide (w=v)) l),H):=by
 have ak:=c18 hV
 suffices hs:∃r:AV×a03,(r=(.int .i64 (b6f (λv=>decide (w=v)) l),H))∧sM 223 [V,.int .u8 w] H=some r by obtain⟨r,rfl,h3⟩:=hs;exact h3
 (refine svE Tryz.f223 ?_;simp only[Tryz.f223,gS])
 (repeat first|simp only[ww]|apply xa;simp+decide only[go_sem,ak];rfl;kernel_rfl)
 refine a3i kp223_0 (λn F H1=>∃(i:Nat),n=l.length-i∧i<=l.length∧F=[(0,V),(1,.int .u8 w),(7,.int .i64 l.length),(8,.int .i64 i)]∧H1=H∧∀(j v:Nat),j<i->l[j]?=some v->decide (w=v)=false) l.length ?_ ?_
 ·exact⟨_,_,b91 hV (by simp+decide only[go_sem]<;>rfl) (.inl (by simp+decide only[go_sem])),0,rfl,f2i _,rfl,rfl,λj w hj=>by omega⟩
 ·rintro n F H1 ⟨i,rfl,hi,rfl,rfl,hb⟩
  by_cases ai:i<l.length
  ·obtain⟨v,hv⟩:∃v,l[i]?=some v:=⟨_,z9e ai⟩
   obtain⟨q,dw,cB⟩:=c19 hV hv;have c1:(i:Int)<l.length:=by omega
   have hw:=wI1 (n:=i) (by omega);by_cases fZ:w=v
   ·subst fZ
    (repeat first|simp only[ww]|apply xa;simp+decide only[go_sem,c1,dw,cB];rfl;kernel_rfl)
    refine a44 (vs:=[.int .i64 i]) (r:=(_,_)) (by simp+decide only[go_sem]) (a1w hV rfl) ?_;rw[c5y hv (by simp) hb];rfl
   ·have c2:¬(w:Int)=v:=by omega
    (repeat first|simp only[ww]|apply xa;simp+decide only[go_sem,c1,dw,cB,c2,hw];rfl;kernel_rfl)
    refine a0y (l.length-(i+1)) (by omega) ⟨_,_,b91 hV (by simp+decide only[go_sem]<;>rfl) (.inl (by simp+decide only[go_sem])),i+1,rfl,ai,rfl,rfl,λj u hj rL=>?_⟩;by_cases jb:j=i
    ·subst jb;rw[hv]at rL;cases rL;simpa using fZ
    ·exact hb j u (by omega) rL
  ·obtain rfl:i=l.length:=by omega
   have c1:¬(l.length:Int)<l.length:=by omega
   (repeat first|simp only[ww]|apply xa;simp+decide only[go_sem,c1];rfl;kernel_rfl)
   refine a44 (vs:=[.int .i64 (-1)]) (r:=(_,_)) (by simp+decide only[go_sem]) (a1w hV rfl) ?_;rw[c23 hb];rfl
theorem d26{l:List Nat}{V:AV}{H:a03}(hV:RA l V H)(hl:l.length<1000000){d:Bool}(w:Nat):cl d 223 [V,.int .u8 w] H=some (.int .i64 (b6f (λv=>decide (w=v)) l),H,refs V):=a6i hV (pre:=[]) (post:=[.int .u8 w]) (by kernel_rfl) (by kernel_rfl) rfl rfl rfl (λV H hV=>e1t l V H hV hl w)
theorem d6t(l:List Nat)(V:AV)(H:a03)(hV:RA l V H)(hl:l.length<1000000)(w:Nat):sM 195 [V,.int .u8 w] H=some (.bool (decide (w∈l)),H):=by
 have hc:=λd=>d26 hV hl (d:=d) w;have he:=d2t (λv=>decide (w=v)) l;have hm:(l.any λv=>decide (w=v))=decide (w∈l):=by rw[g0i,List.any_eq_true,f2y];exact⟨λ⟨x,hx,h⟩=>by rw[of_decide_eq_true h];exact hx,λh=>⟨w,h,by simp⟩⟩
 rw[hm]at he;generalize b6f (λv=>decide (w=v)) l=x at hc he;rw[<-he]
 (refine sv Tryz.f195 ?_;simp only[Tryz.f195,gS])
 (repeat first|simp only[ww]|apply xa;simp+decide only[go_sem,hc];rfl;kernel_rfl)
 refine a6p (vs:=[.bool _]) (by simp+decide only[go_sem]<;>rfl) (a1w hV rfl)
theorem b7k{l:List Nat}{V:AV}{H:a03}(hV:RA l V H)(hl:l.length<1000000){d:Bool}(w:Nat){a:Int}(ha:a=w):cl d 195 [V,.int .u8 a] H=some (.bool (decide (w∈l)),H,refs V):=by subst ha;exact a6i hV (pre:=[]) (post:=[.int .u8 w]) (by kernel_rfl) (by kernel_rfl) rfl rfl rfl (λV H hV=>d6t l V H hV hl w)
theorem d6u(l:List Nat)(V:AV)(H:a03)(hV:RA l V H)(hl:l.length<1000000):sM 153 [V] H=some (.bool (decide (0∈l)&&decide (1∈l)),H):=by
 have h0:=λd=>b7k hV hl (d:=d) 0 (a:=0) rfl;have h1:=λd=>b7k hV hl (d:=d) 1 (a:=1) rfl;generalize decide (1∈l)=y at h1;cases hx:decide (0∈l)with
 |true=>
  rw[hx]at h0
  (refine sv Tryz.f153 ?_;simp only[Tryz.f153,gS])
  (repeat first|simp only[ww]|apply xa;simp+decide only[go_sem,h0,h1];rfl;kernel_rfl)
  refine a6p (vs:=[.bool y]) (by simp+decide only[go_sem]) (a1w hV rfl)
 |false=>
  rw[hx]at h0
  (refine sv Tryz.f153 ?_;simp only[Tryz.f153,gS])
  (repeat first|simp only[ww]|apply xa;simp+decide only[go_sem,h0,h1];rfl;kernel_rfl)
  refine a6p (vs:=[.bool false]) (by simp+decide only[go_sem]) (a1w hV rfl)
theorem c8h{l:List Nat}{V:AV}{H:a03}(hV:RA l V H)(hl:l.length<1000000){d:Bool}:cl d 153 [V] H=some (.bool (decide (0∈l)&&decide (1∈l)),H,refs V):=a6i hV (pre:=[]) (post:=[]) (by kernel_rfl) (by kernel_rfl) rfl rfl rfl (λV H hV=>d6u l V H hV hl)
theorem c2l(v:Nat):sM 151 [.int .u8 v] []=some (.int .u8 (a51 v:Nat),[]):=by
 by_cases h:3<v
 ·have c:(3:Int)<v:=by omega
  rw[show a51 v=2 by simp[a51,h]]
  (refine sv Tryz.f151 ?_;simp only[Tryz.f151,gS])
  (repeat first|simp only[ww]|apply xa;simp+decide only[go_sem,c];rfl;kernel_rfl)
  (apply fqb;simp+decide only[go_sem]<;>rfl)
 ·have c:¬(3:Int)<v:=by omega
  rw[show a51 v=v by simp[a51,h]]
  (refine sv Tryz.f151 ?_;simp only[Tryz.f151,gS])
  (repeat first|simp only[ww]|apply xa;simp+decide only[go_sem,c];rfl;kernel_rfl)
  (apply fqb;simp+decide only[go_sem]<;>rfl)
theorem d6w(v:Nat):sM 150 [.int .u8 v] []=some (.bool (decide (a51 v=2)),[]):=by
 have hc:∀(d:Bool) H,cl d 151 [.int .u8 v] H=some (.int .u8 (a51 v:Nat),H,[]):=λd H=>cf rfl (c2l v) rfl;have e:decide (((a51 v:Nat):Int)=2)=decide (a51 v=2):=by rw[decide_eq_decide];omega
 generalize a51 v=w at hc e
 (refine sv Tryz.f150 ?_;simp only[Tryz.f150,gS])
 (repeat first|simp only[ww]|apply xa;simp+decide only[go_sem,hc,e];rfl;kernel_rfl)
 (apply fqb;simp+decide only[go_sem]<;>rfl)
theorem d6v(v:Nat):sM 152 [.int .u8 v] []=some (.bool (decide (v≠3)),[]):=by
 have e:(!decide ((v:Int)=3))=decide (v≠3):=by
  by_cases h:v=3
  ·subst h;rfl
  ·have:¬(v:Int)=3:=by omega
   simp[h,this]
 (refine sv Tryz.f152 ?_;simp only[Tryz.f152,gS])
 (repeat first|simp only[ww]|apply xa;simp+decide only[go_sem,e];rfl;kernel_rfl)
 (apply fqb;simp+decide only[go_sem]<;>rfl)
theorem e1u(l:List Nat)(V:AV)(H:a03)(hV:RA l V H)(hl:l.length<1000000):sM 114 [V] H=some (.int .u8 (d9d l:Nat),H):=by
 have h1:∀(d:Bool) (H:a03) (v:Nat),cl d 150 [.int .u8 v] H=some (.bool (decide (a51 v=2)),H,[]):=λd H v=>cf rfl (d6w v) rfl;have h2:∀(d:Bool) (H:a03) (v:Nat),cl d 152 [.int .u8 v] H=some (.bool (decide (v≠3)),H,[]):=λd H v=>cf rfl (d6v v) rfl;have c1:=λd=>b7j hV hl (d:=d) _ (λv=>decide (v≠3)) rfl h2;have c2:=λd=>c44 hV hl (d:=d) _ (λv=>decide (a51 v=2)) rfl h1;have c3:=λd=>c8h hV hl (d:=d);unfold d9d;unfold b6f at c1;cases hf:l.findIdx? (λv=>decide (v≠3))with
 |none=>
  rw[hf]at c1;dsimp only at c1⊢
  (refine sv Tryz.f114 ?_;simp only[Tryz.f114,gS])
  (repeat first|simp only[ww]|apply xa;simp+decide only[go_sem,c1];rfl;kernel_rfl)
  refine a6p (vs:=[.int .u8 3]) (by simp+decide only[go_sem]) (a1w hV rfl)
 |some i=>
  rw[hf]at c1;dsimp only at c1⊢;have hi:=(List.findIdx?_eq_some_iff_getElem.1 hf).1;obtain⟨v,hv⟩:∃v,l[i]?=some v:=⟨_,z9e hi⟩
  obtain⟨q,dw,cB⟩:=c19 hV hv;have hg:l.getD i 0=v:=by rw[List.getD,hv];rfl
  have c0:¬(i:Int)<0:=by omega
  rw[hg];generalize(decide (0∈l)&&decide (1∈l))=x at c3⊢;generalize(l.any λv=>decide (a51 v=2))=y at c2⊢;cases x with
  |true=>
   (refine sv Tryz.f114 ?_;simp only[Tryz.f114,gS])
   (repeat first|simp only[ww]|apply xa;simp+decide only[go_sem,c1,c2,c3,c0];rfl;kernel_rfl)
   refine a6p (vs:=[.int .u8 2]) (by simp+decide only[go_sem]) (a1w hV rfl)
  |false=>cases y with
   |true=>
    (refine sv Tryz.f114 ?_;simp only[Tryz.f114,gS])
    (repeat first|simp only[ww]|apply xa;simp+decide only[go_sem,c1,c2,c3,c0];rfl;kernel_rfl)
    refine a6p (vs:=[.int .u8 2]) (by simp+decide only[go_sem]) (a1w hV rfl)
   |false=>
    (refine sv Tryz.f114 ?_;simp only[Tryz.f114,gS])
    (repeat first|simp only[ww]|apply xa;simp+decide only[go_sem,c1,c2,c3,c0,dw,cB];rfl;kernel_rfl)
    refine a6p (vs:=[.int .u8 v]) (by simp+decide only[go_sem]) (a1w hV rfl)
theorem d29{l:List Nat}{V:AV}{H:a03}(hV:RA l V H)(hl:l.length<1000000){d:Bool}:cl d 114 [V] H=some (.int .u8 (d9d l:Nat),H,refs V):=a6i hV (pre:=[]) (post:=[]) (by kernel_rfl) (by kernel_rfl) rfl rfl rfl (λV H hV=>e1u l V H hV hl)
theorem d96{l:List Nat}{V:AV}{H:a03}(h:RA l V H):a0l V=[]∨a0l V=[0]:=by
 cases h with
 |imm r=>exact .inl (by simp only[go_sem])
 |blk c al hf=>exact .inr rfl
theorem e11{l:List Nat}{V:AV}{H:a03}(h:RA l V H){i v:Nat}(hi:l[i]?=some v):∃p,a15 L.env (a02 H) 52 V (.int .i64 i)=some p∧a6q L.env (a02 H) 53 p=some (.int .u8 v)∧a0l p=a0l V:=by
 have ai:=(f1i.1 hi).1;cases h with
 |imm r=>exact⟨_,by simp+decide only[go_sem,hi,ai]<;>rfl,by simp+decide only[go_sem,hi,ai],by simp+decide only[go_sem]⟩
 |blk c al hf=>
  have hg:(l.map u8R++al)[i]?=some [.int .u8 v]:=by rw[f2l (by simpa using ai),f1l,hi];rfl
  have eT:i<(l.map u8R++al).length:=by simp;omega
  exact⟨_,by simp+decide only[go_sem,hg,ai,eT]<;>rfl,by simp+decide only[go_sem,hg,ai,eT],by simp+decide only[go_sem]⟩
theorem b9a(k:Nat)(hk:k<16)(l:List Nat)(V:AV)(H:a03)(hV:RA l V H)(hl:l.length<1000000):sM 62 [.int .u8 k,V] H=some (.int .u8 (a3p k l:Nat),H):=by
 have hf:=λd H=>b22 (d:=d) H k hk;have ak:=c18 hV;by_cases bX:l.length<a27 k
 ·have c1:(l.length:Int)<a27 k:=by omega
  rw[show a3p k l=2 by simp[a3p,bX]]
  (refine sv Tryz.f62 ?_;simp only[Tryz.f62,gS])
  (repeat first|simp only[ww]|apply xa;simp+decide only[go_sem,hf,c1,ak];rfl;kernel_rfl)
  refine a6p (vs:=[.int .u8 2]) (by simp+decide only[go_sem]) (a1w hV rfl)
 have c1:¬(l.length:Int)<a27 k:=by omega
 by_cases my:a23 k<l.length
 ·have c2:(a23 k:Int)<l.length:=by omega
  rw[show a3p k l=2 by simp[a3p,my]]
  (refine sv Tryz.f62 ?_;simp only[Tryz.f62,gS])
  (repeat first|simp only[ww]|apply xa;simp+decide only[go_sem,hf,c1,c2,ak];rfl;kernel_rfl)
  refine a6p (vs:=[.int .u8 2]) (by simp+decide only[go_sem]) (a1w hV rfl)
 have c2:¬(a23 k:Int)<l.length:=by omega
 rw[show a3p k l=a4u k l by unfold a3p;rw[f2m (by omega)]];have lo:a27 k<=l.length:=by omega
 clear bX my;have g:∀(i:Nat) (j:Int),j=i->i<a27 k->∃v p,l.getD i 2=v∧a15 L.env (a02 H) 52 V (.int .i64 j)=some p∧a6q L.env (a02 H) 53 p=some (.int .u8 v)∧a0l p=a0l V:=by
  intro i j hj hi;subst hj;obtain⟨v,hv⟩:∃v,l[i]?=some v:=⟨_,z9e (by omega)⟩
  obtain⟨p,h1,h2,h3⟩:=e11 hV hv;exact⟨v,p,by rw[List.getD,hv];rfl,h1,h2,h3⟩
 have ca:=λ(d:Bool)=>d2a hV hl (d:=d);have co:=λ(d:Bool)=>d6q hV hl (d:=d);have cx:=λ(d:Bool)=>d1z hV hl (d:=d);have cb:=λ(d:Bool)=>d29 hV hl (d:=d);have cn:=λ(d:Bool) (H:a03) (v:Nat)=>d23 (d:=d) H v;have cr:=λ(d:Bool) (H:a03) (v:Nat)=>a7c (d:=d) H v;have cm:=λ(d:Bool) (H:a03) (s a b:Nat)=>d24 (d:=d) H s a b;have ct:=λ(d:Bool) (H:a03) (a b:Nat)=>d20 (d:=d) H a b;have mr:k=0∨k=1∨k=2∨k=3∨k=4∨k=5∨k=6∨k=7∨k=8∨k=9∨k=10∨k=11∨k=12∨k=13∨k=14∨k=15:=by omega
 (refine sv Tryz.f62 ?_;simp only[Tryz.f62,gS])
 (repeat first|simp only[ww]|apply xa;simp+decide only[go_sem,hf,c1,c2,ak];rfl;kernel_rfl)
 rcases mr with rfl|rfl|rfl|rfl|rfl|rfl|rfl|rfl|rfl|rfl|rfl|rfl|rfl|rfl|rfl|rfl
 ·rw[show a4u 0 l=2 from rfl]
  (repeat first|simp only[ww]|apply xa;simp+decide only[go_sem];rfl;kernel_rfl)
  exact a6p (vs:=[.int .u8 _]) (by simp+decide only[go_sem]<;>rfl) (a1w hV rfl)
 ·rw[show a4u 1 l=0 from rfl]
  (repeat first|simp only[ww]|apply xa;simp+decide only[go_sem];rfl;kernel_rfl)
  exact a6p (vs:=[.int .u8 _]) (by simp+decide only[go_sem]<;>rfl) (a1w hV rfl)
 ·rw[show a4u 2 l=1 from rfl]
  (repeat first|simp only[ww]|apply xa;simp+decide only[go_sem];rfl;kernel_rfl)
  exact a6p (vs:=[.int .u8 _]) (by simp+decide only[go_sem]<;>rfl) (a1w hV rfl)
 ·obtain⟨v0,p0,e0,a0,b0,t0⟩:=g 0 0 rfl (by decide);rw[show a4u 3 l=a5u (l.getD 0 2)from rfl,e0]
  (repeat first|simp only[ww]|apply xa;simp+decide only[go_sem,cr,a0,b0];rfl;kernel_rfl)
  exact a6p (vs:=[.int .u8 _]) (by simp+decide only[go_sem]<;>rfl) (a1w hV rfl)
 ·obtain⟨v0,p0,e0,a0,b0,t0⟩:=g 0 0 rfl (by decide);rw[show a4u 4 l=b3e (l.getD 0 2)from rfl,e0]
  (repeat first|simp only[ww]|apply xa;simp+decide only[go_sem,cn,a0,b0];rfl;kernel_rfl)
  exact a6p (vs:=[.int .u8 _]) (by simp+decide only[go_sem]<;>rfl) (a1w hV rfl)
 ·rw[show a4u 5 l=a71 0 1 1 l from rfl]
  (repeat first|simp only[ww]|apply xa;simp+decide only[go_sem,ca];rfl;kernel_rfl)
  exact a6p (vs:=[.int .u8 _]) (by simp+decide only[go_sem]<;>rfl) (a1w hV rfl)
 ·rw[show a4u 6 l=b3e (a71 0 1 1 l)from rfl]
  (repeat first|simp only[ww]|apply xa;simp+decide only[go_sem,ca,cn];rfl;kernel_rfl)
  exact a6p (vs:=[.int .u8 _]) (by simp+decide only[go_sem]<;>rfl) (a1w hV rfl)
 ·rw[show a4u 7 l=a71 1 0 0 l from rfl]
  (repeat first|simp only[ww]|apply xa;simp+decide only[go_sem,co];rfl;kernel_rfl)
  exact a6p (vs:=[.int .u8 _]) (by simp+decide only[go_sem]<;>rfl) (a1w hV rfl)
 ·rw[show a4u 8 l=b3e (a71 1 0 0 l)from rfl]
  (repeat first|simp only[ww]|apply xa;simp+decide only[go_sem,co,cn];rfl;kernel_rfl)
  exact a6p (vs:=[.int .u8 _]) (by simp+decide only[go_sem]<;>rfl) (a1w hV rfl)
 ·rw[show a4u 9 l=b6p 0 l from rfl]
  (repeat first|simp only[ww]|apply xa;simp+decide only[go_sem,cx];rfl;kernel_rfl)
  exact a6p (vs:=[.int .u8 _]) (by simp+decide only[go_sem]<;>rfl) (a1w hV rfl)
 ·rw[show a4u 10 l=b3e (b6p 0 l)from rfl]
  (repeat first|simp only[ww]|apply xa;simp+decide only[go_sem,cx,cn];rfl;kernel_rfl)
  exact a6p (vs:=[.int .u8 _]) (by simp+decide only[go_sem]<;>rfl) (a1w hV rfl)
 ·obtain⟨v0,p0,e0,a0,b0,t0⟩:=g 0 0 rfl (by decide);obtain⟨v1,p1,e1,a1,b1,t1⟩:=g 1 1 rfl (by decide);obtain⟨v2,p2,e2,a2,b2,t2⟩:=g 2 2 rfl (by decide);rw[show a4u 11 l=c1j (l.getD 0 2) (l.getD 1 2) (l.getD 2 2)from rfl,e0,e1,e2];rcases d96 hV with htp|htp
  ·(repeat first|simp only[ww]|apply xa;simp+decide only[go_sem,cm,a0,b0,a1,b1,a2,b2,t0,t1,t2,htp];rfl;kernel_rfl)
   exact a6p (vs:=[.int .u8 _]) (by simp+decide only[go_sem]<;>rfl) (a1w hV rfl)
  ·(repeat first|simp only[ww]|apply xa;simp+decide only[go_sem,cm,a0,b0,a1,b1,a2,b2,t0,t1,t2,htp];rfl;kernel_rfl)
   exact a6p (vs:=[.int .u8 _]) (by simp+decide only[go_sem]<;>rfl) (a1w hV rfl)
 ·obtain⟨v0,p0,e0,a0,b0,t0⟩:=g 0 0 rfl (by decide);obtain⟨v1,p1,e1,a1,b1,t1⟩:=g 1 1 rfl (by decide);rw[show a4u 12 l=c3z (l.getD 0 2) (l.getD 1 2)from rfl,e0,e1];rcases d96 hV with htp|htp
  ·(repeat first|simp only[ww]|apply xa;simp+decide only[go_sem,ct,a0,b0,a1,b1,t0,t1,htp];rfl;kernel_rfl)
   exact a6p (vs:=[.int .u8 _]) (by simp+decide only[go_sem]<;>rfl) (a1w hV rfl)
  ·(repeat first|simp only[ww]|apply xa;simp+decide only[go_sem,ct,a0,b0,a1,b1,t0,t1,htp];rfl;kernel_rfl)
   exact a6p (vs:=[.int .u8 _]) (by simp+decide only[go_sem]<;>rfl) (a1w hV rfl)
 ·rw[show a4u 13 l=d9d l from rfl]
  (repeat first|simp only[ww]|apply xa;simp+decide only[go_sem,cb];rfl;kernel_rfl)
  exact a6p (vs:=[.int .u8 _]) (by simp+decide only[go_sem]<;>rfl) (a1w hV rfl)
 ·rw[show a4u 14 l=2 from rfl]
  (repeat first|simp only[ww]|apply xa;simp+decide only[go_sem];rfl;kernel_rfl)
  exact a6p (vs:=[.int .u8 _]) (by simp+decide only[go_sem]<;>rfl) (a1w hV rfl)
 ·rw[show a4u 15 l=2 from rfl]
  (repeat first|simp only[ww]|apply xa;simp+decide only[go_sem];rfl;kernel_rfl)
  exact a6p (vs:=[.int .u8 _]) (by simp+decide only[go_sem]<;>rfl) (a1w hV rfl)
theorem c8f{l:List Nat}{V:AV}{H:a03}(hV:RA l V H)(hl:l.length<1000000){d:Bool}(k:Nat)(hk:k<16):cl d 62 [.int .u8 k,V] H=some (.int .u8 (a3p k l:Nat),H,refs V):=a6i hV (pre:=[.int .u8 k]) (post:=[]) (by kernel_rfl) (by kernel_rfl) rfl rfl rfl (λV H hV=>b9a k hk l V H hV hl)
theorem a3b(π:Nat->Option Nat)(l:List Nat):(l.map u8R).map (λr=>r.map (ren π))=l.map u8R:=a05 π (a2t l)
theorem a32(l:List Nat):(l.map u8R).flatMap a0d=[]:=a06 (a2t l)
theorem d5p(c:Cir)(hc:c.wf)(p:Pat)(hp:PatOk c.nodes p)(N0:List Nat)(hN:N0.length=c.nodes.length) :
 sM 60 [.agg (cz c [.slice 0 0 c.nodes.length (some c.nodes.length)]),.agg p.enc] [some (.row 1 (N0.map u8R))]=some (.tuple [],[some (.row 1 ((a25 (a25 N0 (kinds c.nodes 0) p.ins) (kinds c.nodes 14) p.sts).map u8R))]):=by
 have dH:=hc.len;obtain⟨r0,e3⟩:=a4g (kinds c.nodes 0);obtain⟨r1,e4⟩:=a4g (kinds c.nodes 14);have hk0:=a4d c.nodes 0;have lF:=a4d c.nodes 14;have hi:=λ(d:Bool) H=>a3q (d:=d) H c (by omega);have hs:=λ(d:Bool) H=>a6d (d:=d) H c (by omega);have oY:=hp.ins;have dV:=hp.sts;rw[e3]at hi;rw[e4]at hs;have fi:Pat.enc p=[sl p.ic (p.ins.map u8R),sl p.sc (p.sts.map u8R)]:=rfl;rw[fi];simp only[Cir.enc]at hi hs
 suffices hs:∃r:AV×a03,(r=(.tuple [],[some (.row 1 ((a25 (a25 N0 (kinds c.nodes 0) p.ins) (kinds c.nodes 14) p.sts).map u8R))]))∧sM 60 [.agg (cz c [.slice 0 0 c.nodes.length (some c.nodes.length)]),.agg [sl p.ic (p.ins.map u8R),sl p.sc (p.sts.map u8R)]] [some (.row 1 (N0.map u8R))]=some r by obtain⟨r,rfl,h3⟩:=hs;exact h3
 (refine svE Tryz.f60 ?_;simp only[Tryz.f60,gS])
 (repeat first|simp only[ww]|apply xa;simp+decide only[go_sem,hi];rfl;kernel_rfl)
 refine a0m (σ:=Nat) kp60_0 (λi=>[(2,.ptr 1 0 0),(3,.ptr 2 0 0),(10,sl r0 ((kinds c.nodes 0).map a13)),(11,.int .i64 (kinds c.nodes 0).length),(12,.int .i64 i)])
  (λi=>[some (.row 1 ((a25 N0 ((kinds c.nodes 0).take i) (p.ins.take i)).map u8R)),some (.row 5 [cz c [.slice 0 0 c.nodes.length (some c.nodes.length)]]),some (.row 2 [[sl p.ic (p.ins.map u8R),sl p.sc (p.sts.map u8R)]])]) (λi=>(kinds c.nodes 0).length-i) (λi=>i<=(kinds c.nodes 0).length) 0 ?_ (f2i _) ?_
 ·rw[f2j,f2j,show a25 N0 [] []=N0 from rfl]
  (simp+decide only[go_sem,a01,a00,a3b,a32]<;>rfl)<;>rfl
 ·intro i hi;have a7:=a4w ((kinds c.nodes 0).take i) (p.ins.take i) N0;rw[hN]at a7;by_cases ai:i<(kinds c.nodes 0).length
  ·obtain⟨n,hn⟩:∃n,(kinds c.nodes 0)[i]?=some n:=⟨_,z9e ai⟩
   obtain⟨w,hw⟩:∃w,p.ins[i]?=some w:=⟨_,z9e (by omega)⟩
   have bG:=(a7d hn).1;have az:=a9n (ag:=N0) hn hw;have c1:(i:Int)<(kinds c.nodes 0).length:=by omega
   have aS:=wI1 (n:=i) (by omega);have ns:i<p.ins.length:=by omega
   generalize a25 N0 ((kinds c.nodes 0).take i) (p.ins.take i)=N at az a7;obtain⟨w0,cA⟩:∃w,N[n]?=some w:=⟨_,z9e (by omega)⟩
   have j8:(N.map u8R).set n [AV.int .u8 w]=(N.set n w).map u8R:=by rw[f6y];rfl
   (repeat first|simp only[ww]|apply xa;simp+decide only[go_sem,c1,ai,hn,hw,bG,aS,ns,a7,cA,j8];rfl;kernel_rfl)
   refine a1m (i+1) ?_ (by omega) (by omega);rw[az]
   (simp+decide only[go_sem,a01,a00,a3b,a32]<;>rfl)<;>rfl
  have dA:i=(kinds c.nodes 0).length:=by omega
  subst dA;have c1:¬((kinds c.nodes 0).length:Int)<(kinds c.nodes 0).length:=by omega
  rw[f6p,f1k (by omega)]at a7⊢;generalize a25 N0 (kinds c.nodes 0) p.ins=N1 at a7⊢
  (repeat first|simp only[ww]|apply xa;simp+decide only[go_sem,c1,hs];rfl;kernel_rfl)
  refine a0m (σ:=Nat) kp60_2 (λi=>[(2,.ptr 1 0 0),(3,.ptr 2 0 0),(29,sl r1 ((kinds c.nodes 14).map a13)),(30,.int .i64 (kinds c.nodes 14).length),(31,.int .i64 i)])
   (λi=>[some (.row 1 ((a25 N1 ((kinds c.nodes 14).take i) (p.sts.take i)).map u8R)),some (.row 5 [cz c [.slice 0 0 c.nodes.length (some c.nodes.length)]]),some (.row 2 [[sl p.ic (p.ins.map u8R),sl p.sc (p.sts.map u8R)]])]) (λi=>(kinds c.nodes 14).length-i) (λi=>i<=(kinds c.nodes 14).length) 0 ?_ (f2i _) ?_
  ·rw[f2j,f2j,show a25 N1 [] []=N1 from rfl]
   (simp+decide only[go_sem,a01,a00,a3b,a32]<;>rfl)<;>rfl
  ·intro i hi;have nk:=a4w ((kinds c.nodes 14).take i) (p.sts.take i) N1;rw[a7]at nk;by_cases ai:i<(kinds c.nodes 14).length
   ·obtain⟨n,hn⟩:∃n,(kinds c.nodes 14)[i]?=some n:=⟨_,z9e ai⟩
    obtain⟨w,hw⟩:∃w,p.sts[i]?=some w:=⟨_,z9e (by omega)⟩
    have bG:=(a7d hn).1;have az:=a9n (ag:=N1) hn hw;have c1:(i:Int)<(kinds c.nodes 14).length:=by omega
    have aS:=wI1 (n:=i) (by omega);have ns:i<p.sts.length:=by omega
    generalize a25 N1 ((kinds c.nodes 14).take i) (p.sts.take i)=N at az nk;obtain⟨w0,cA⟩:∃w,N[n]?=some w:=⟨_,z9e (by omega)⟩
    have j8:(N.map u8R).set n [AV.int .u8 w]=(N.set n w).map u8R:=by rw[f6y];rfl
    (repeat first|simp only[ww]|apply xa;simp+decide only[go_sem,c1,ai,hn,hw,bG,aS,ns,nk,cA,j8];rfl;kernel_rfl)
    refine a1m (i+1) ?_ (by omega) (by omega);rw[az]
    (simp+decide only[go_sem,a01,a00,a3b,a32]<;>rfl)<;>rfl
   have dA:i=(kinds c.nodes 14).length:=by omega
   subst dA;have c1:¬((kinds c.nodes 14).length:Int)<(kinds c.nodes 14).length:=by omega
   rw[f6p,f1k (by omega)]
   (repeat first|simp only[ww]|apply xa;simp+decide only[go_sem,c1];rfl;kernel_rfl)
   refine b6h (vs:=[]) (r:=(_,[_])) (by simp+decide only[go_sem]) ?_ rfl;simp+decide only[go_sem,a3b]<;>rfl
def a29:List Nat->AV
 | []=>.nilslice
 |v::r=>.islice ((v::r).map u8R) (some (r.length+1))
theorem a0w(l:List Nat):refs (a29 l)=[]:=by cases l<;>rfl
def a7j(o x:List Nat):AV:=.agg [a29 o,a29 x]
theorem a3c(o x:List Nat):refs (a7j o x)=[]:=by simp only[a7j,a0n,a04,a0w,a0t,f1b]
theorem d07(c:Cir)(ag:List Nat)(hl:ag.length=c.nodes.length)(hv:∀v∈ag,v<=3)(n v:Nat)(hn:ag[n]?=some v):sM 115 [.agg (cz c [.slice 0 0 c.nodes.length (some c.nodes.length)]),.int .i64 n] [some (.row 1 (ag.map u8R))]=some (.int .u8 v,[some (.row 1 (ag.map u8R))]):=by
 have ai:=(f1i.1 hn).1;have h0:¬(n:Int)<0:=by omega
 have h1:¬(c.nodes.length:Int)<=n:=by omega
 have h2:n<c.nodes.length:=by omega
 have hc:∀(d:Bool) H,cl d 151 [.int .u8 v] H=some (.int .u8 v,H,[]):=λd H=>by have:=a0v (E:=L.env) (ah:=d) (call:=sM) (fs:=[]) (cs:=[]) (ar:=[.int .u8 v]) (v:=.int .u8 (a51 v:Nat)) (H:=H) (g:=151) (by kernel_rfl) (by kernel_rfl) rfl rfl (c2l v) rfl;rw[c6m (hv v (c11 hn))]at this;exact this
 (refine sv Tryz.f115 ?_;simp only[Tryz.f115,gS])
 (repeat first|simp only[ww]|apply xa;simp+decide only[go_sem,h0,h1,h2,hl,hn,hc];rfl;kernel_rfl)
 refine a6p (vs:=[.int .u8 v]) (by simp+decide only[go_sem]) ?_;simp+decide only[go_sem,a3b]<;>rfl
theorem c3a{d:Bool}{H:a03}{b:Nat}(c:Cir)(ag:List Nat)(hl:ag.length=c.nodes.length)(hv:∀v∈ag,v<=3)(n v:Nat)(hn:ag[n]?=some v)(hb:a02 H b=some (.row 1 (ag.map u8R))) :
 cl d 115 [.agg (cz c [.slice b 0 c.nodes.length (some c.nodes.length)]),.int .i64 n] H=some (.int .u8 v,H,[b]):=
 a2g (fs:=[]) (cs:=[]) (ar:=[.agg (cz c [.slice b 0 c.nodes.length (some c.nodes.length)]),.int .i64 n]) (by kernel_rfl) (by kernel_rfl) rfl hb (a0p (a2t ag)) (FlatO.row (a2t ag)) (by simp only[f1e,f1b,go_sem]) (au:=[.agg (cz c [.slice 0 0 c.nodes.length (some c.nodes.length)]),.int .i64 n]) (by simp only[f1e,f1b,f1a,f1g,c3r,a2b,b49,a8o,b8y]) (d07 c ag hl hv n v hn) rfl
theorem d7w(n:Nat)(aa:List (List AV))(hf:FlatR aa):sM 116 [.slice 0 0 n none] [some (.row 1 aa)]=some (.slice 0 0 n (some n),[some (.row 1 aa)]):=by
 have h1:=λπ=>a05 π hf
 (refine sv Tryz.f116 ?_;simp only[Tryz.f116,gS])
 (repeat first|simp only[ww]|apply xa;simp+decide only[go_sem];rfl;kernel_rfl)
 (apply fqb;simp+decide only[go_sem,h1]<;>rfl)
theorem a9q{d:Bool}{H:a03}{b n:Nat}{aa:List (List AV)}(hf:FlatR aa)(hb:a02 H b=some (.row 1 aa)):cl d 116 [.slice b 0 n none] H=some (.slice b 0 n (some n),H,[b]):=by have h:=a3h (E:=L.env) (ah:=d) (call:=sM) (g:=116) (fs:=[]) (cs:=[]) (ar:=[.slice b 0 n none]) (H:=H) (b:=b) (by kernel_rfl) (by kernel_rfl) rfl hb (a0p hf) (FlatO.row hf) rfl (au:=[AV.slice 0 0 n none]) (by simp only[f1e,f1b,f1a,f1g,a2b]) (d7w n aa hf) (FlatO.row hf) (a5c b 0 _ n _);rw[a9c hb]at h;exact h
theorem d3r:sM 116 [.nilslice] []=some (.nilslice,[]):=by
 (refine sv Tryz.f116 ?_;simp only[Tryz.f116,gS])
 (repeat first|simp only[ww]|apply xa;simp+decide only[go_sem];rfl;kernel_rfl)
 (apply fqb;simp+decide only[go_sem]<;>rfl)
theorem b5p{d:Bool}(H:a03):cl d 116 [.nilslice] H=some (.nilslice,H,[]):=cf rfl d3r rfl
def a1x(nodes:List Nd)(ag:List Nat):List Nat:=(kinds nodes 14).map λn=>a5u (ag.getD ((a28 nodes n).getD 0 0) 0)
def a17(outs ag:List Nat):List Nat:=outs.map λn=>ag.getD n 0
theorem e0g(c:Cir)(hc:c.wf)(hO:c.outs≠[])(ag:List Nat)(hl:ag.length=c.nodes.length)(hv:∀v∈ag,v<=3):sM 63 [.agg (cz c [.slice 0 0 c.nodes.length (some c.nodes.length)])] [some (.row 1 (ag.map u8R))]=some (a7j (a17 c.outs ag) (a1x c.nodes ag),[some (.row 1 (ag.map u8R))]):=by
 have dH:=hc.len;have cE:=hc.outl;obtain⟨r1,e4⟩:=a4g (kinds c.nodes 14);have lF:=a4d c.nodes 14;have hs:=λ(d:Bool) H=>a6d (d:=d) H c (by omega);rw[e4]at hs;simp only[Cir.enc]at hs;have cD:=λ(d:Bool) (H:a03) (n v:Nat) (hn:ag[n]?=some v) (hb:a02 H 0=some (.row 1 (ag.map u8R)))=>c3a (d:=d) (H:=H) (b:=0) c ag hl hv n v hn hb;have kH:=a2t ag;have n1:=a06 kH;have n2:=λπ=>a05 π kH
 suffices hs:∃r:AV×a03,(r=(a7j (a17 c.outs ag) (a1x c.nodes ag),[some (.row 1 (ag.map u8R))]))∧sM 63 [.agg (cz c [.slice 0 0 c.nodes.length (some c.nodes.length)])] [some (.row 1 (ag.map u8R))]=some r by obtain⟨r,rfl,h3⟩:=hs;exact h3
 (refine svE Tryz.f63 ?_;simp only[Tryz.f63,gS])
 generalize hNR:ag.map u8R=NR at cD kH n1 n2
 (repeat first|simp only[ww]|apply xa;simp+decide only[go_sem];rfl;kernel_rfl)
 refine a3i kp63_0 (λn F H=>∃i,n=c.outs.length-i∧i<=c.outs.length∧F=[(1,.ptr 1 0 0),(2,.ptr 2 0 0),(3,.ptr 3 0 0),(12,sl c.oc (c.outs.map a13)),(13,.int .i64 c.outs.length),(14,.int .i64 i)]∧H=[some (.row 1 NR),some (.row 5 [cz c [.slice 0 0 c.nodes.length (some c.nodes.length)]]),some (.row 2 [[.nilslice,.nilslice]]),some (.row 2 [[grV 4 ((a17 (c.outs.take i) ag).map u8R),.nilslice]])]++grH 1 ((a17 (c.outs.take i) ag).map u8R)) c.outs.length ?_ ?_
 ·refine⟨_,_,?_,0,rfl,f2i _,rfl,rfl⟩;rw[f2j,show a17 [] ag=[]from rfl]
  (simp+decide only[go_sem,a01,a00,a0r,a0s,f1g,n1,n2]<;>rfl)<;>rfl
 ·rintro n F H ⟨i,rfl,hi,rfl,rfl⟩
  have ib:((a17 (c.outs.take i) ag).map u8R).length=i:=by simp[a17];omega
  have gn:=a2t (a17 (c.outs.take i) ag);by_cases ai:i<c.outs.length
  ·obtain⟨o,ho⟩:∃o,c.outs[i]?=some o:=⟨_,z9e ai⟩
   have om:=hc.outs o (c11 ho);obtain⟨v,ml⟩:∃v,ag[o]?=some v:=⟨_,z9e (by omega)⟩
   have c1:(i:Int)<c.outs.length:=by omega
   have aS:=wI1 (n:=i) (by omega);have eU:(a17 (c.outs.take (i+1)) ag).map u8R=(a17 (c.outs.take i) ag).map u8R++[[.int .u8 v]]:=by unfold a17;rw[a1b ho,f2t,f2t];simp only[f1a,f1g,List.getD,ml,f4v];rfl
   have dk:=λ(d:Bool) (H:a03) (hb:a02 H 0=some (.row 1 NR))=>cD d H o v ml hb;generalize(a17 (c.outs.take i) ag).map u8R=T at ib gn eU;have eW:=a06 gn;have fM:=λπ=>a05 π gn;cases T with
   |nil=>
    have dk:=λ(d:Bool) (x1 x2 x3:Option AObj)=>dk d [some (.row 1 NR),x1,x2,x3] rfl
    (repeat first|simp only[ww]|apply xa;simp+decide only[go_sem,c1,ai,ho,aS,dk,a0r,a0s];rfl;kernel_rfl)
    refine a0y (c.outs.length-(i+1)) (by omega) ⟨_,_,?_,i+1,rfl,ai,rfl,rfl⟩;rw[eU]
    (simp+decide only[go_sem,a01,a00,a09,a0a,f1e,f1h,n1,n2]<;>rfl)<;>rfl
   |cons a r=>
    simp only[f1c]at ib;have aD:r.length+1+1<=1000000000:=by omega
    simp only[f4k]at eW;simp only[f1a,List.cons.injEq]at fM;have dk:=λ(d:Bool) (x1 x2 x3 x4:Option AObj)=>dk d [some (.row 1 NR),x1,x2,x3,x4] rfl
    (repeat first|simp only[ww]|apply xa;simp+decide only[go_sem,c1,ai,ho,aS,dk,a09,a0a,aD];rfl;kernel_rfl)
    refine a0y (c.outs.length-(i+1)) (by omega) ⟨_,_,?_,i+1,rfl,ai,rfl,rfl⟩;rw[eU]
    (simp+decide only[go_sem,a01,a00,a09,a0a,f2o,eW,fM,n1,n2]<;>rfl)<;>rfl
  ·obtain rfl:i=c.outs.length:=by omega
   have c1:¬(c.outs.length:Int)<c.outs.length:=by omega
   rw[f6p]at ib gn⊢;have di:0<c.outs.length:=List.length_pos_iff.2 hO;have sH:a29 (a17 c.outs ag) = .islice ((a17 c.outs ag).map u8R) (some c.outs.length):=by
    have fj:(a17 c.outs ag).length=c.outs.length:=by simp[a17]
    cases ho:a17 c.outs ag with
    |nil=>rw[ho]at fj;simp at fj;omega
    |cons v q=>rw[ho]at fj;simp only[f1c]at fj;rw[<-fj];rfl
   unfold a7j;rw[sH];generalize(a17 c.outs ag).map u8R=T at ib gn;cases T with
   |nil=>simp at ib;omega
   |cons a r=>
    have io:r.length+1=c.outs.length:=by simpa using ib
    have eW:=a06 gn;have fM:=λπ=>a05 π gn;have nX:=λ(m:Nat) (q:AV->Option AV)=>a0z m q gn;simp only[f4k]at eW;simp only[f1a,List.cons.injEq]at fM
    (repeat first|simp only[ww]|apply xa;simp+decide only[go_sem,c1,hs,a09,a0a];rfl;kernel_rfl)
    refine a3i kp63_2 (λn F H=>∃i,n=(kinds c.nodes 14).length-i∧i<=(kinds c.nodes 14).length∧F=[(1,.ptr 1 0 0),(2,.ptr 2 0 0),(3,.ptr 3 0 0),(29,sl r1 ((kinds c.nodes 14).map a13)),(30,.int .i64 (kinds c.nodes 14).length),(31,.int .i64 i)]∧H=[some (.row 1 NR),some (.row 5 [cz c [.slice 0 0 c.nodes.length (some c.nodes.length)]]),some (.row 2 [[.nilslice,.nilslice]]),some (.row 2 [[.slice 4 0 (r.length+1) none,grV 5 (((a1x c.nodes ag).take i).map u8R)]]),some (.row 1 (a::r))]++grH 1 (((a1x c.nodes ag).take i).map u8R)) (kinds c.nodes 14).length ?_ ?_
    ·refine⟨_,_,?_,0,rfl,f2i _,rfl,rfl⟩;rw[f2j]
     (simp+decide only[go_sem,a01,a00,a0r,a0s,f1g,n1,n2,eW,fM]<;>rfl)<;>rfl
    ·rintro n F H ⟨i,rfl,hi,rfl,rfl⟩
     have qL:(a1x c.nodes ag).length=(kinds c.nodes 14).length:=by simp[a1x]
     have jd:(((a1x c.nodes ag).take i).map u8R).length=i:=by simp;omega
     have fL:=a2t ((a1x c.nodes ag).take i);by_cases ai:i<(kinds c.nodes 14).length
     ·obtain⟨q,hq⟩:∃q,(kinds c.nodes 14)[i]?=some q:=⟨_,z9e ai⟩
      obtain⟨oe,rv⟩:=a7d hq;obtain⟨x,hx⟩:∃x,c.nodes[q]?=some x:=⟨_,z9e oe⟩
      have fe:x.kind=14:=by rw[<-a0x hx];exact rv
      have fD:x.ins.length=1:=by have h1:=hc.lo x (c11 hx);have h2:=hc.hi x (c11 hx);rw[fe]at h1 h2;have e1:a27 14=1:=rfl;have e2:a23 14=1:=rfl;omega
      obtain⟨m,hm⟩:∃m,x.ins[0]?=some m:=⟨_,z9e (by omega)⟩
      have bW:=hc.ins x (c11 hx) m (c11 hm);obtain⟨v,ml⟩:∃v,ag[m]?=some v:=⟨_,z9e (by omega)⟩
      have je:((a1x c.nodes ag).take (i+1)).map u8R=((a1x c.nodes ag).take i).map u8R++[[.int .u8 (a5u v)]]:=by
       have:(a1x c.nodes ag)[i]?=some (a5u v):=by unfold a1x;rw[f1l,hq];simp only[f2k,a1s hx,List.getD,hm,ml,f4v]
       rw[a1b this,f2t];rfl
      have c1:(i:Int)<(kinds c.nodes 14).length:=by omega
      have aS:=wI1 (n:=i) (by omega);have dc:decide ((x.ins.length:Int)=1)=true:=f4m (by omega);have l3:Ax.rowAt (x.ins.map a13) 0=some [AV.int .i64 m]:=by have:=d0y (x.ins.map a13) 0;rw[Int.natCast_zero]at this;rw[this,f1l,hm];rfl
      have dk:=λ(d:Bool) (H:a03) (hb:a02 H 0=some (.row 1 NR))=>cD d H m v ml hb;have kc:=λ(d:Bool) (H:a03)=>a7c (d:=d) H v;generalize a5u v=w at je kc;generalize((a1x c.nodes ag).take i).map u8R=X at jd fL je;have nZ:=a06 fL;have nY:=λπ=>a05 π fL;cases X with
      |nil=>
       have dk:=λ(d:Bool) (x1 x2 x3 x4:Option AObj)=>dk d [some (.row 1 NR),x1,x2,x3,x4] rfl
       (repeat first|simp only[ww]|apply xa;simp+decide only[go_sem,c1,ai,hq,oe,hx,dc,l3,hm,aS,dk,kc,a0r,a0s];rfl;kernel_rfl)
       refine a0y ((kinds c.nodes 14).length-(i+1)) (by omega) ⟨_,_,?_,i+1,rfl,ai,rfl,rfl⟩;rw[je]
       (simp+decide only[go_sem,a01,a00,a09,a0a,f1e,f1h,n1,n2,eW,fM]<;>rfl)<;>rfl
      |cons a2 r2=>
       simp only[f1c]at jd;have aD:r2.length+1+1<=1000000000:=by omega
       simp only[f4k]at nZ;simp only[f1a,List.cons.injEq]at nY;have dk:=λ(d:Bool) (x1 x2 x3 x4 x5:Option AObj)=>dk d [some (.row 1 NR),x1,x2,x3,x4,x5] rfl
       (repeat first|simp only[ww]|apply xa;simp+decide only[go_sem,c1,ai,hq,oe,hx,dc,l3,hm,aS,dk,kc,a09,a0a,aD];rfl;kernel_rfl)
       refine a0y ((kinds c.nodes 14).length-(i+1)) (by omega) ⟨_,_,?_,i+1,rfl,ai,rfl,rfl⟩;rw[je]
       (simp+decide only[go_sem,a01,a00,a09,a0a,f2o,nZ,nY,n1,n2,eW,fM]<;>rfl)<;>rfl
     ·obtain rfl:i=(kinds c.nodes 14).length:=by omega
      have c1:¬((kinds c.nodes 14).length:Int)<(kinds c.nodes 14).length:=by omega
      have kX:=λ(d:Bool) (x0 x1 x2 x3:Option AObj) (R:a03)=>a9q (d:=d) (H:=x0::x1::x2::x3::some (.row 1 (a::r))::R) (b:=4) (n:=r.length+1) gn rfl;rw[f1k (by omega)]at jd fL⊢;cases hX:a1x c.nodes ag with
      |nil=>
       have g8:=λ(d:Bool) (H:a03)=>b5p (d:=d) H
       (repeat first|simp only[ww]|apply xa;simp+decide only[go_sem,c1,kX,g8,f1g,a0r,a0s];rfl;kernel_rfl)
       refine a44 (vs:=[.agg [.slice 4 0 (r.length+1) (some (r.length+1)),.nilslice]]) (r:=(_,_)) (by simp+decide only[go_sem]) ?_ rfl;show a22 false 1 (.agg [.slice 4 0 (r.length+1) (some (r.length+1)),.nilslice]) _=_;have dF:List.take (r.length+1) (a::r)=a::r:=f6p (l:=a::r);rw[<-io];unfold a29;simp+decide only[go_sem,nX,n2,dF]<;>rfl
      |cons a2 r2=>
       rw[hX]at jd fL;have kB:=λ(d:Bool) (x0 x1 x2 x3 x4:Option AObj)=>a9q (d:=d) (H:=[x0,x1,x2,x3,x4,some (.row 1 ((a2::r2).map u8R))]) (b:=5) (n:=r2.length+1) fL rfl;have ql:=λ(m:Nat) (q:AV->Option AV)=>a0z m q fL;have d5:(r2.map u8R).length=r2.length:=c10 ..;simp only[f1a,u8R]at kB ql fL⊢
       (repeat first|simp only[ww]|apply xa;simp+decide only[go_sem,c1,kX,kB,a09,a0a,d5];rfl;kernel_rfl)
       refine a44 (vs:=[.agg [.slice 4 0 (r.length+1) (some (r.length+1)),.slice 5 0 (r2.length+1) (some (r2.length+1))]]) (r:=(_,_)) (by simp+decide only[go_sem]) ?_ rfl;show a22 false 1 (.agg [.slice 4 0 (r.length+1) (some (r.length+1)),.slice 5 0 (r2.length+1) (some (r2.length+1))]) _=_;have dF:List.take (r.length+1) (a::r)=a::r:=f6p (l:=a::r);have mY:List.take (r2.length+1) ([AV.int .u8 a2]::r2.map u8R)=[AV.int .u8 a2]::r2.map u8R:=f1k (by simp);rw[<-io];unfold a29;simp only[f1a,u8R];simp+decide only[go_sem,nX,ql,n2,dF,mY]<;>rfl
theorem c7g{d:Bool}{H:a03}{b:Nat}(c:Cir)(hc:c.wf)(p:Pat)(hp:PatOk c.nodes p)(N0:List Nat)(hN:N0.length=c.nodes.length)(hb:a02 H b=some (.row 1 (N0.map u8R))) :
 cl d 60 [.agg (cz c [.slice b 0 c.nodes.length (some c.nodes.length)]),.agg [sl p.ic (p.ins.map u8R),sl p.sc (p.sts.map u8R)]] H=some (.tuple [],H.set b (some (.row 1 ((a25 (a25 N0 (kinds c.nodes 0) p.ins) (kinds c.nodes 14) p.sts).map u8R))),[b]):=
 a3h (fs:=[]) (cs:=[]) (ar:=[.agg (cz c [.slice b 0 c.nodes.length (some c.nodes.length)]),.agg [sl p.ic (p.ins.map u8R),sl p.sc (p.sts.map u8R)]]) (by kernel_rfl) (by kernel_rfl) rfl hb (a0p (a2t N0)) (FlatO.row (a2t N0)) (by simp only[f1e,f1b,go_sem]) (au:=[.agg (cz c [.slice 0 0 c.nodes.length (some c.nodes.length)]),.agg [sl p.ic (p.ins.map u8R),sl p.sc (p.sts.map u8R)]]) (by simp only[f1e,f1b,f1a,f1g,c3r,a2b,b49,a8o]) (d5p c hc p hp N0 hN) (FlatO.row (a2t _)) rfl
theorem d0o{d:Bool}{H:a03}{b:Nat}(c:Cir)(hc:c.wf)(hO:c.outs≠[])(ag:List Nat)(hl:ag.length=c.nodes.length)(hv:∀v∈ag,v<=3)(hb:a02 H b=some (.row 1 (ag.map u8R))) :
 cl d 63 [.agg (cz c [.slice b 0 c.nodes.length (some c.nodes.length)])] H=some (a7j (a17 c.outs ag) (a1x c.nodes ag),H,[b]):=
 a2g (fs:=[]) (cs:=[]) (ar:=[.agg (cz c [.slice b 0 c.nodes.length (some c.nodes.length)])]) (by kernel_rfl) (by kernel_rfl) rfl hb (a0p (a2t ag)) (FlatO.row (a2t ag)) (by simp only[f1e,f1b,go_sem]) (au:=[.agg (cz c [.slice 0 0 c.nodes.length (some c.nodes.length)])]) (by simp only[f1e,f1b,f1a,f1g,c3r,a2b,b49,a8o]) (e0g c hc hO ag hl hv) (a3c _ _)
theorem c1p{d:Bool}{H:a03}{b:Nat}(k:Nat)(hk:k<16)(l:List Nat)(hl:l.length<1000000)(cp:Option Nat)(X:List (List AV))(hX:FlatR X)(jd:X.take l.length=l.map u8R)(hb:a02 H b=some (.row 1 X)){m:Nat}(hm:m=l.length) :
 cl d 62 [.int .u8 k,.slice b 0 m cp] H=some (.int .u8 (a3p k l:Nat),H,[b]):=by
 subst hm;have hs:X=l.map u8R++X.drop l.length:=by rw[<-jd,f9j]
 have hr:=b9a k hk l (.slice 0 0 l.length cp) [some (.row 1 (l.map u8R++X.drop l.length))] (.blk cp _ (by rw[<-hs];exact hX)) hl;rw[<-hs]at hr;exact a2g (fs:=[]) (cs:=[]) (ar:=[.int .u8 k,.slice b 0 l.length cp]) (by kernel_rfl) (by kernel_rfl) rfl hb (a0p hX) (FlatO.row hX) (by simp only[f1e,f1b,go_sem]) (au:=[.int .u8 k,.slice 0 0 l.length cp]) (by simp only[f1e,f1b,f1a,f1g,a2b,b8y]) hr rfl
theorem c7j{d:Bool}(H:a03)(c:Cir)(h:c.wf)(p:Pat)(hp:PatOk c.nodes p):cl d 59 [.agg c.enc,.agg p.enc] H=some (.int .i64 0,H,[]):=cf (by simp only[a04,a0n,Cir.enc,Pat.enc,go_sem]) (e2b c h p hp) rfl
theorem a11(l:List Nat):(a29 l).storable=true:=by cases l<;>rfl
def a2s(c:Cir)(ord:List Nat)(p:Pat):List Nat:=c84 nAlg c.nodes hk0 ord (kinds c.nodes 0) (kinds c.nodes 14) p.ins p.sts
theorem g0t{X:List (List AV)}{j n:Nat}{x:List AV}(hl:X.length=n)(hj:j<n):(X.take j++[x]++X.drop (j+1)).length=n∧(X.take j++[x]++X.drop (j+1)).take (j+1)=X.take j++[x]:=by refine⟨by simp;omega,?_⟩;rw[List.take_append_of_le_length (by simp;omega),f1k (by simp;omega)]
theorem d2m{X:List (List AV)}{j:Nat}{x:List AV}(hX:FlatR X)(hx:a0d x=[]):FlatR (X.take j++[x]++X.drop (j+1)):=by
 intro r hr;simp only[f4s,f2x]at hr;rcases hr with (hr|rfl)|hr
 ·exact hX r (List.mem_of_mem_take hr)
 ·exact hx
 ·exact hX r (List.mem_of_mem_drop hr)
theorem b99:∀(is vs N:List Nat),(∀v∈N,v<=3)->(∀v∈vs,v<=3)->∀v∈a25 N is vs,v<=3
 | [],vs,N,h,_=>by cases vs<;>exact h
 |_::_,[],N,h,_=>h
 |i::is,w::vs,N,h,hv=>by
  simp only[a25];refine b99 is vs _ (λv hm=>?_) (λv hm=>hv v (f6r _ hm));rcases f8d hm with h1|h1
  ·exact h v h1
  ·rw[h1];exact hv w (f7l ..)
theorem e10{nodes:List Nd}{N:List Nat}{n:Nat}(h:∀v∈N,v<=3):∀v∈a1o nAlg nodes hk0 N n,v<=3:=by
 have key:∀(l:List Nat) (p:Nat),∀v∈a5t nAlg hk0 n N p l,v<=3:=by
  intro l
  induction l with
  |nil=>intro p v hv;simp[a5t]at hv
  |cons m l ih=>
   intro p v hv;simp only[a5t,f4h]at hv;rcases hv with rfl|hv
   ·show N.getD m 0<=3;rw[List.getD];cases hm:N[m]? with
    |none=>decide
    |some w=>exact h w (c11 hm)
   ·exact ih _ v hv
 exact key _ _
theorem c3h(c:Cir)(hc:c.wf)(hO:c.outs≠[])(p:Pat)(hp:PatOk c.nodes p)(ord:List Nat)(aH:OrdOf c ord):sM 23 [.agg c.enc,.agg p.enc] []=some (.tuple [a7j (a17 c.outs (a2s c ord p)) (a1x c.nodes (a2s c ord p)),.islice ((a2s c ord p).map u8R) (some c.nodes.length),.int .i64 0],[]):=by
 have dH:=hc.len;have aD:c.nodes.length<=1000000000:=by omega
 have ho:=aH.call;have bM:∀n∈ord,n<c.nodes.length:=λn hn=>by have:=aH.perm.mem_iff.1 hn;simpa using this
 have cE:ord.length=c.nodes.length:=by rw[aH.perm.length_eq];simp
 have jG:=λ(d:Bool) H=>c7j (d:=d) H c hc p hp;have sm:c.enc=(ce c):=rfl;have fi:Pat.enc p=[sl p.ic (p.ins.map u8R),sl p.sc (p.sts.map u8R)]:=rfl;rw[sm,fi]at jG;rw[sm]at ho;rw[sm,fi];have rI:=λ(d:Bool) (x0 x1 x2 x4:Option AObj)=>c7g (d:=d) (H:=[x0,x1,x2,some (.row 1 ((List.replicate c.nodes.length 0).map u8R)),x4]) (b:=3) c hc p hp (List.replicate c.nodes.length 0) (by simp) rfl;have ek:=λ(d:Bool) (x0 x1 x3:Option AObj) (N:List Nat) (hl:N.length=c.nodes.length) (hv:∀v∈N,v<=3)=>d0o (d:=d) (H:=[x0,x1,some (.row 1 (N.map u8R)),x3]) (b:=2) c hc hO N hl hv rfl;have qi:(a25 (a25 (List.replicate c.nodes.length 0) (kinds c.nodes 0) p.ins) (kinds c.nodes 14) p.sts).length=c.nodes.length:=by rw[a4w,a4w];simp
 have iZ:∀v∈a25 (a25 (List.replicate c.nodes.length 0) (kinds c.nodes 0) p.ins) (kinds c.nodes 14) p.sts,v<=3:=b99 _ _ _ (b99 _ _ _ (λv hv=>by rw[f4t hv];omega) hp.inv) hp.stv;have hG:a2s c ord p=ord.foldl (Pc.stepG nAlg c.nodes hk0) (a25 (a25 (List.replicate c.nodes.length 0) (kinds c.nodes 0) p.ins) (kinds c.nodes 14) p.sts):=rfl;rw[hG];have rj:(List.replicate c.nodes.length 0).map u8R=List.replicate c.nodes.length [AV.int .u8 0]:=by rw[f8y];rfl
 rw[rj]at rI;generalize a25 (a25 (List.replicate c.nodes.length 0) (kinds c.nodes 0) p.ins) (kinds c.nodes 14) p.sts=N1 at rI qi iZ⊢
 suffices hs:∃r:AV×a03,(r=(.tuple [a7j (a17 c.outs (ord.foldl (Pc.stepG nAlg c.nodes hk0) N1)) (a1x c.nodes (ord.foldl (Pc.stepG nAlg c.nodes hk0) N1)),.islice ((ord.foldl (Pc.stepG nAlg c.nodes hk0) N1).map u8R) (some c.nodes.length),.int .i64 0],[]))∧sM 23 [.agg (ce c),.agg [sl p.ic (p.ins.map u8R),sl p.sc (p.sts.map u8R)]] []=some r by obtain⟨r,rfl,h3⟩:=hs;exact h3
 have kT:c8a L.env 53 0 16=true:=by kernel_rfl
 (refine svE Tryz.f23 ?_;simp only[Tryz.f23,gS])
 (repeat first|simp only[ww]|apply xa;simp+decide only[go_sem,ho,jG,aD,rI,kT];rfl;kernel_rfl)
 refine a3i kp23_0 (λn F H=>∃(i q:Nat) (X:List (List AV)),n=ord.length-i∧i<=ord.length∧q<=16∧X.length=16∧FlatR X∧(∀v∈(ord.take i).foldl (Pc.stepG nAlg c.nodes hk0) N1,v<=3)∧F=[(4,.ptr 0 0 0),(9,.ptr 1 0 0),(10,.slice 3 0 q (some 16)),(40,.islice (ord.map a13) (some c.nodes.length)),(41,.int .i64 ord.length),(42,.int .i64 i)]∧H=[some (.row 2 [[.nilslice,.nilslice]]),some (.row 5 [cz c [.slice 2 0 c.nodes.length (some c.nodes.length)]]),some (.row 1 (((ord.take i).foldl (Pc.stepG nAlg c.nodes hk0) N1).map u8R)),some (.row 1 X)]) ord.length ?_ ?_
 ·refine⟨_,_,?_,0,0,List.replicate 16 [.int .u8 0],rfl,f2i _,by omega,rfl,λr hr=>by rw[f4t hr];rfl,by rw[f2j];exact iZ,rfl,rfl⟩;rw[f2j,List.foldl_nil]
  (simp+decide only[go_sem,a01,a00,a3b,a32]<;>rfl)<;>rfl
 ·rintro n F H ⟨i,q,X,rfl,hi,hq,jd,fL,jz,rfl,rfl⟩
  have a7:=b9q (A:=nAlg) (nodes:=c.nodes) (h:=hk0) (ord.take i) N1;rw[qi]at a7;have x1:=a06 fL;have x2:=λπ=>a05 π fL;by_cases ai:i<ord.length
  ·obtain⟨n,hn⟩:∃n,ord[i]?=some n:=⟨_,z9e ai⟩
   have bG:=bM n (c11 hn);obtain⟨x,hx⟩:∃x,c.nodes[n]?=some x:=⟨_,z9e bG⟩
   have ep:=c11 hx;have k14:=hc.kind x ep;have bQ:=hc.insl ep;have ox:=a0x hx;have hs:=c27 (A:=nAlg) (nodes:=c.nodes) (h:=hk0) (ag:=N1) hn;have c1:(i:Int)<ord.length:=by omega
   have aS:=wI1 (n:=i) (by omega);have bZ:=λ(d:Bool) H=>a91 (d:=d) H x.kind (by omega);have vM:x.enc=[.int .u8 x.kind,sl x.c (x.ins.map a13),.int .i64 x.mem,.int .i64 x.bit]:=rfl;generalize(ord.take i).foldl (Pc.stepG nAlg c.nodes hk0) N1=N at hs a7 jz;obtain⟨w0,cA⟩:∃w,N[n]?=some w:=⟨_,z9e (by omega)⟩
   by_cases bv:a1r x.kind=true
   ·have aw:a0u c.nodes n≠0∧a0u c.nodes n≠14:=by
     rw[ox];constructor<;>(intro e;rw[e]at bv;exact absurd bv (by decide))
    have mr:x.kind<16:=by omega
    have tX:a28 c.nodes n=x.ins:=a1s hx;have mM:(a1o nAlg c.nodes hk0 N n).length=x.ins.length:=by rw[a9i,tX]
    have qI:=e10 (nodes:=c.nodes) (n:=n) jz
    (repeat first|simp only[ww]|apply xa;simp+decide only[go_sem,c1,ai,hn,hx,bG,bZ,bv];rfl;kernel_rfl)
    refine a3i kp23_2 (λm F H=>∃(j:Nat) (Y:List (List AV)),m=x.ins.length-j∧j<=x.ins.length∧Y.length=16∧FlatR Y∧Y.take j=((a1o nAlg c.nodes hk0 N n).take j).map u8R∧F=[(4,.ptr 0 0 0),(9,.ptr 1 0 0),(10,.slice 3 0 j (some 16)),(12,.int .i64 n),(13,.ptr 4 0 0),(40,.islice (ord.map a13) (some c.nodes.length)),(41,.int .i64 ord.length),(42,.int .i64 i),(59,sl x.c (x.ins.map a13)),(60,.int .i64 x.ins.length),(61,.int .i64 j)]∧H=[some (.row 2 [[.nilslice,.nilslice]]),some (.row 5 [cz c [.slice 2 0 c.nodes.length (some c.nodes.length)]]),some (.row 1 (N.map u8R)),some (.row 1 Y),some (.row 4 [[.int .u8 x.kind,sl x.c (x.ins.map a13),.int .i64 x.mem,.int .i64 x.bit]])]) x.ins.length ?_ ?_
    ·refine⟨_,_,?_,0,X,rfl,f2i _,jd,fL,rfl,rfl,rfl⟩
     (simp+decide only[go_sem,a01,a00,a3b,a32,x1,x2]<;>rfl)<;>rfl
    ·rintro m F H ⟨j,Y,rfl,hj,sD,nL,tU,rfl,rfl⟩
     have y1:=a06 nL;have y2:=λπ=>a05 π nL;by_cases bg:j<x.ins.length
     ·obtain⟨u,hu⟩:∃u,x.ins[j]?=some u:=⟨_,z9e bg⟩
      have qx:=hc.ins x ep u (c11 hu);obtain⟨v,hv⟩:∃v,N[u]?=some v:=⟨_,z9e (by omega)⟩
      have d1:(j:Int)<x.ins.length:=by omega
      have jV:=wI1 (n:=j) (by omega);have bS:=b74 (A:=nAlg) (h:=hk0) (nodes:=c.nodes) (ag:=N) (n:=n) (i:=j) (by rw[tX];exact hu) hv;obtain⟨z1,z2⟩:=g0t (x:=[AV.int .u8 v]) sD (show j<16 by omega);have z3:=d2m (j:=j) (x:=[AV.int .u8 v]) nL rfl;generalize hZ:Y.take j++[[AV.int .u8 v]]++Y.drop (j+1)=Z at z1 z2 z3;rw[tU]at z2;have w1:=a06 z3;have w2:=λπ=>a05 π z3;have rO:j<=16:=by omega
      have rN:j+1<=16:=by omega
      (repeat first|simp only[ww]|apply xa;simp+decide only[go_sem,d1,bg,hu,qx,hv,a7,jV,sD,rO,rN,hZ,f2u];rfl;kernel_rfl)
      refine a0y (x.ins.length-(j+1)) (by omega) ⟨_,_,?_,j+1,Z,rfl,bg,z1,z3,?_,rfl,rfl⟩
      ·(simp+decide only[go_sem,a01,a00,a3b,a32,w1,w2,hZ]<;>rfl)<;>rfl
      ·rw[z2,bS,f2t];rfl
     ·obtain rfl:j=x.ins.length:=by omega
      have d1:¬(x.ins.length:Int)<x.ins.length:=by omega
      have iR:=λ(d:Bool) (x0 x1 x2 x4:Option AObj)=>c1p (d:=d) (H:=[x0,x1,x2,some (.row 1 Y),x4]) (b:=3) x.kind mr (a1o nAlg c.nodes hk0 N n) (by omega) (some 16) Y nL (by rw[mM,tU,f1k (by omega)]) rfl (m:=x.ins.length) mM.symm;have bF:Pc.stepG nAlg c.nodes hk0 N n=N.set n (a3p x.kind (a1o nAlg c.nodes hk0 N n)):=by unfold Pc.stepG;rw[f2w aw,ox];show N.set n (a3p x.kind ((a1o nAlg c.nodes hk0 N n).map a51))=_;rw[b4u qI]
      have bf:=b93 x.kind _ qI;rw[bF]at hs;generalize a3p x.kind (a1o nAlg c.nodes hk0 N n)=w at iR hs bf;have j8:(N.map u8R).set n [AV.int .u8 w]=(N.set n w).map u8R:=by rw[f6y];rfl
      (repeat first|simp only[ww]|apply xa;simp+decide only[go_sem,d1,iR,bG,a7,cA,j8,aS];rfl;kernel_rfl)
      refine a0y (ord.length-(i+1)) (by omega) ⟨_,_,?_,i+1,x.ins.length,Y,rfl,ai,by omega,sD,nL,?_,rfl,rfl⟩
      ·rw[hs]
       (simp+decide only[go_sem,a01,a00,a3b,a32,y1,y2]<;>rfl)<;>rfl
      ·rw[hs];intro v hv;rcases f8d hv with h1|h1
       ·exact jz v h1
       ·rw[h1];exact bf
   ·have bv:a1r x.kind=false:=by simpa using bv
    have bF:Pc.stepG nAlg c.nodes hk0 N n=N:=by
     have aw:¬(a0u c.nodes n≠0∧a0u c.nodes n≠14):=by rw[ox];intro hh;simp[a1r]at bv;omega
     unfold Pc.stepG;rw[f2m aw];show N.set n (N.getD n 0)=N;rw[List.getD,cA,f4v];have:=(f1i.1 cA)
     rw[<-this.2];exact List.set_getElem_self this.1
    rw[bF]at hs
    (repeat first|simp only[ww]|apply xa;simp+decide only[go_sem,c1,ai,hn,hx,bG,bZ,bv,aS];rfl;kernel_rfl)
    refine a0y (ord.length-(i+1)) (by omega) ⟨_,_,?_,i+1,q,X,rfl,ai,hq,jd,fL,by rw[hs];exact jz,rfl,rfl⟩;rw[hs]
    (simp+decide only[go_sem,a01,a00,a3b,a32,x1,x2]<;>rfl)<;>rfl
  ·obtain rfl:i=ord.length:=by omega
   have c1:¬(ord.length:Int)<ord.length:=by omega
   rw[f6p]at a7 jz⊢;generalize ord.foldl (Pc.stepG nAlg c.nodes hk0) N1=N at a7 jz⊢;have ek:=λ(d:Bool) (x0 x1 x3:Option AObj)=>ek d x0 x1 x3 N a7 jz;unfold a7j at ek⊢;have q1:=a0w (a17 c.outs N);have iC:=a11 (a17 c.outs N);have o5:=a11 (a1x c.nodes N);have q2:=a0w (a1x c.nodes N);generalize a29 (a17 c.outs N)=V1 at ek q1 iC⊢;generalize a29 (a1x c.nodes N)=V2 at ek q2 o5⊢;have s1:V1.storable=true:=iC;have s2:V2.storable=true:=o5;have kH:=a2t N;have r1:∀π,ren π V1=V1:=λπ=>a0b π _ q1;have r2:∀π,ren π V2=V2:=λπ=>a0b π _ q2;have f1:=λm t d=>a0i m t d V1 q1;have f2:=λm t d=>a0i m t d V2 q2;have f3:=λm d=>a0z m d kH;have dF:(N.map u8R).take c.nodes.length=N.map u8R:=f1k (by simp;omega)
   (repeat first|simp only[ww]|apply xa;simp+decide only[go_sem,c1,ek,s1,s2];rfl;kernel_rfl)
   refine a44 (vs:=[.agg [V1,V2],.slice 2 0 c.nodes.length (some c.nodes.length),.int .i64 0]) (r:=(_,_)) (by simp+decide only[go_sem]) ?_ rfl;show a22 false 0 (.tuple [.agg [V1,V2],.slice 2 0 c.nodes.length (some c.nodes.length),.int .i64 0]) _=_;simp+decide only[go_sem,f1,f2,f3,dF,a7]<;>rfl
end Go.UInst
