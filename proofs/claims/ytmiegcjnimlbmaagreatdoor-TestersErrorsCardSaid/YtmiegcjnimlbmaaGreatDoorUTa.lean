/- Part of a proof. No condition. -/
import Derived.Test.YtmiegcjnimlbmaaGreatDoorUGa
import Derived.Test.YtmiegcjnimlbmaaGreatDoorUNe
import Derived.Test.YtmiegcjnimlbmaaGreatDoorULi
import Derived.Test.YtmiegcjnimlbmaaGreatDoorAxD
import Derived.Test.YtmiegcjnimlbmaaGreatDoorAxA
import Derived.Test.YtmiegcjnimlbmaaGreatDoorUIn
set_option linter.unusedSectionVars false
set_option linter.unusedSimpArgs false
set_option linter.unusedVariables false
namespace Go.UInst
set_option maxHeartbeats 200000000
open Go.Proofs Go.Ax Go.Pc
variable [ZC]
set_option maxRecDepth 100000
/- a circuit a4f memory -/
theorem d6r(x:CX)(hx:x.ok):sM 15 [.agg x.enc] []=some (.agg (a7a x).cir.enc,[]):=by
 have fY:(a7a x).ok:=⟨hx.1,hx.2,hx.3,hx.4,hx.5,hx.6⟩
 have hc:=λH=>d1g (d:=false) H (a7a x) fY rfl;generalize(a7a x).cir=c at hc;simp only[go_sem,a7a]at hc;simp only[Cir.enc]at hc
 (refine sv Tryz.f15 ?_;simp only[Tryz.f15,gS])
 (repeat first|simp only[ww]|apply xa;simp+decide only[go_sem,hc];rfl;kernel_rfl)
 (apply fqb;simp+decide only[go_sem,Cir.enc]<;>rfl)
theorem c8d{d:Bool}(H:a03)(x:CX)(hx:x.ok):cl d 15 [.agg x.enc] H=some (.agg (a7a x).cir.enc,H,[]):=cf (by simp only[go_sem]) (d6r x hx) (a4c _)
/- the inputs of a sequence of patterns -/
def inR(q:Pat):List AV:=[sl q.ic (q.ins.map u8R)]
theorem b9f(q:Pat):a0d (inR q)=[]:=by simp only[inR,a04,a16,a0t,f1b]
theorem c4c(l:List Pat):FlatR (l.map inR):=FlatR.map b9f
theorem e21(π:Nat->Option Nat)(q:Pat):(inR q).map (ren π)=inR q:=by have h:=a05 π (FlatR.cons (b9f q) FlatR.nil);simpa using h
attribute [go_sem] List.getElem?_map
theorem e6o(c:Cir)(hc:c.wf)(pr:Rep)(ps:List Pat)(jp:∀p∈ps,PxOk p)(bU:ps.length<=8):∃r:AV×a03,(∃qs:List Pat,qs.length=ps.length∧(∀q∈qs,PatOk c.nodes q)∧r=(sl none (qs.map inR),[]))∧
 sM 16 [.agg c.enc,sl pr (ps.map Pat.enc)] []=some r:=by
 have tq:=λp hp=>d66 c hc p (jp p hp);have i4:∀π:Nat->Option Nat,a0g π (.row 4 [ce c]) = .row 4 [ce c]:=λπ=>by simp+decide only[go_sem]
 simp only[Cir.enc,Pat.enc]at tq⊢
 (refine svE Tryz.f16 ?_;simp only[Tryz.f16,gS])
 (repeat first|simp only[ww]|apply xa;simp+decide only[go_sem];rfl;kernel_rfl)
 refine a3i kp16_0 (λn F H=>∃qs:List Pat,n=ps.length-qs.length∧qs.length<=ps.length∧(∀q∈qs,PatOk c.nodes q)∧F=[(1,sl pr (ps.map Pat.enc)),(2,.ptr 0 0 0),(5,grV 1 (qs.map inR)),(6,.int .i64 qs.length)]∧
  H=some (.row 4 [ce c])::grH 1 (qs.map inR)) ps.length ?_ ?_
 ·refine⟨_,_,?_,[],rfl,f2i _,by simp,rfl,rfl⟩
  (simp+decide only[go_sem,a01,a00,f1g,a0r,a0s,Pat.enc]<;>rfl)<;>rfl
 ·rintro n F H ⟨qs,rfl,gK,tn,rfl,rfl⟩
  by_cases ai:qs.length<ps.length
  ·obtain⟨p,hp⟩:∃p,ps[qs.length]?=some p:=⟨_,z9e ai⟩
   obtain⟨q,hq,af⟩:=tq p (c11 hp);have c1:(qs.length:Int)<ps.length:=by omega
   have hw:=wI1 (n:=qs.length) (by omega);have hf:=c4c qs;have h1:=a06 hf;have h2:=λπ=>a05 π hf;have fi:Pat.enc p=[sl p.ic (p.ins.map u8R),sl p.sc (p.sts.map u8R)]:=rfl;have pe:∀x∈qs++[q],PatOk c.nodes x:=by
    intro x hx;rcases f4s.1 hx with hx|hx
    ·exact tn x hx
    ·rw[f2x.1 hx];exact hq
   cases qs with
   |nil=>
    simp only[f1h]at c1 hw ai hp
    (repeat first|simp only[ww]|apply xa;simp+decide only[go_sem,c1,ai,hp,fi,af,hw,f1g,a0r,a0s,f1h,c10];rfl;kernel_rfl)
    refine a0y (ps.length-1) (by simp at ai⊢;omega) ⟨_,_,?_,[q],rfl,by simp;omega,pe,rfl,rfl⟩
    (simp+decide only[go_sem,a01,a00,f1a,f1g,a09,a0a,f1h,f1c,inR]<;>rfl)<;>rfl
   |cons a r=>
    simp only[f1c]at c1 hw ai hp gK;have aD:r.length+1+1<=1000000000:=by omega
    have kV:=c4c r;have h3:=a06 kV;have h4:=λπ=>a05 π kV;have h5:=b9f a;have h6:=λπ=>e21 π a
    (repeat first|simp only[ww]|apply xa;simp+decide only[go_sem,c1,ai,hp,fi,af,hw,f1a,a09,a0a,aD,f1c,c10];rfl;kernel_rfl)
    refine a0y (ps.length-(r.length+1+1)) (by simp;omega) ⟨_,_,?_,(a::r)++[q],by simp,by simp;omega,pe,rfl,rfl⟩
    (simp+decide only[go_sem,a01,a00,f2o,f1a,f2t,f1g,a09,a0a,f1c,f2n,f1h,c10,h3,h4,h5,h6,f1b]<;>rfl)<;>rfl
  ·obtain e:ps.length=qs.length:=by omega
   have c1:¬(qs.length:Int)<ps.length:=by omega
   have hf:=c4c qs;have h2:=λm d=>a0z (m:=m) (d:=d) hf;cases qs with
   |nil=>
    simp only[f1h]at c1
    (repeat first|simp only[ww]|apply xa;simp+decide only[go_sem,c1,f1g,a0r,a0s,f1h,c10];rfl;kernel_rfl)
    refine a44 (vs:=[.nilslice]) (r:=(.nilslice,[])) (by simp+decide only[go_sem]) ?_ ⟨[],by simpa using e.symm,by simp,rfl⟩;simp+decide only[go_sem]
   |cons a r=>
    simp only[f1c]at c1
    (repeat first|simp only[ww]|apply xa;simp+decide only[go_sem,c1,f1a,a09,a0a,f1c,c10];rfl;kernel_rfl)
    refine a44 (vs:=[.slice 1 0 (r.length+1) none]) (r:=(sl none ((a::r).map inR),[])) (by simp+decide only[go_sem]) ?_ ⟨a::r,e.symm,tn,rfl⟩;show a22 false 0 (.slice 1 0 (r.length+1) none) _=_;simp only[f1a]at h2;simp+decide only[go_sem,h2,f1a,a8m,c10]
theorem d75(c:Cir)(hc:c.wf)(pr:Rep)(ps:List Pat)(jp:∀p∈ps,PxOk p)(bU:ps.length<=8):∃qs:List Pat,qs.length=ps.length∧(∀q∈qs,PatOk c.nodes q)∧
 ∀(d:Bool) (H:a03),cl d 16 [.agg c.enc,sl pr (ps.map Pat.enc)] H=some (sl none (qs.map inR),H,[]):=by
 obtain⟨r,⟨qs,h1,h2,rfl⟩,h⟩:=e6o c hc pr ps jp bU;exact⟨qs,h1,h2,λd H=>cf (by simp only[f1e,f1b,a04,a16,a0t];exact a4c _) h (a16 _ _)⟩
def oS(j:Nat):List UInt8:=[111,UInt8.ofNat (48+j)]
/- names -/
theorem e9g{P:Nat->Prop}(h0:P 0)(h1:P 1)(h2:P 2)(h3:P 3):∀i,i<4->P i:=by
 intro i hi;have:i=0∨i=1∨i=2∨i=3:=by omega
 rcases this with rfl|rfl|rfl|rfl<;>assumption
theorem e17:∀i:Nat,i<4->sM 14 [.str (a1l i)] []=some (.bool true,[]):=e9g (a0h (E:=L.env) a0q 60 (by kernel_rfl)) (a0h (E:=L.env) a0q 60 (by kernel_rfl)) (a0h (E:=L.env) a0q 60 (by kernel_rfl)) (a0h (E:=L.env) a0q 60 (by kernel_rfl))
theorem e16:∀i:Nat,i<4->sM 14 [.str (oS i)] []=some (.bool true,[]):=e9g (a0h (E:=L.env) a0q 60 (by kernel_rfl)) (a0h (E:=L.env) a0q 60 (by kernel_rfl)) (a0h (E:=L.env) a0q 60 (by kernel_rfl)) (a0h (E:=L.env) a0q 60 (by kernel_rfl))
theorem e1z:∀i:Nat,i<4->sM 36 [.int .i64 i] []=some (.str [UInt8.ofNat (48+i)],[]):=e9g (a0h (E:=L.env) a0q 60 (by kernel_rfl)) (a0h (E:=L.env) a0q 60 (by kernel_rfl)) (a0h (E:=L.env) a0q 60 (by kernel_rfl)) (a0h (E:=L.env) a0q 60 (by kernel_rfl))
theorem d2d{d:Bool}(H:a03)(i:Nat)(hi:i<4):cl d 36 [.int .i64 i] H=some (.str [UInt8.ofNat (48+i)],H,[]):=cf rfl (e1z i hi) rfl
def c0f(s:List UInt8):Prop:=sM 14 [.str s] []=some (.bool true,[])
theorem b78{d:Bool}{s:List UInt8}(h:c0f s)(H:a03):cl d 14 [.str s] H=some (.bool true,H,[]):=cf rfl h rfl
/- signals -/
structure Sgn where
 nm:List UInt8
 dir:Nat
def Sgn.row(s:Sgn):List AV:=[.str s.nm,.int .u8 s.dir]
def c53:AV:=.func (.func 38) [] []
theorem e0l(s:Sgn)(h:c0f s.nm):sM 38 [.agg s.row] []=some (.bool false,[]):=by
 have hn:=λH=>b78 (d:=false) h H;simp only[Sgn.row]
 (refine sv Tryz.f38 ?_;simp only[Tryz.f38,gS])
 (repeat first|simp only[ww]|apply xa;simp+decide only[go_sem,hn];rfl;kernel_rfl)
 (apply fqb;simp+decide only[go_sem]<;>rfl)
theorem d0r{d:Bool}(H:a03)(s:Sgn)(h:c0f s.nm):cl d 38 [.agg s.row] H=some (.bool false,H,[]):=cf rfl (e0l s h) rfl
theorem a5w(l:List Sgn):FlatR (l.map Sgn.row):=FlatR.map λ_=>rfl
theorem d2o(cp:Option Nat)(l:List Sgn)(hl:l.length<1000000)(hc:∀v∈l,c0f v.nm) :
 sM 88 [.islice (l.map Sgn.row) cp,c53] []=some (.int .i64 (-1),[]):=by
 unfold c53
 (refine sv Tryz.f88 ?_;simp only[Tryz.f88,gS])
 (repeat first|simp only[ww]|apply xa;simp+decide only[go_sem];rfl;kernel_rfl)
 refine a0m (σ:=Nat) kp88_0 (λi=>[(0,.islice (l.map Sgn.row) cp),(1,c53),(7,.int .i64 l.length),(8,.int .i64 i)])
  (λ_=>[]) (λi=>l.length-i) (λi=>i<=l.length) 0 ?_ (f2i _) ?_
 ·unfold c53
  (simp+decide only[go_sem,a01,a00,c10]<;>rfl)
 ·intro i hi;unfold c53;by_cases ai:i<l.length
  ·obtain⟨x,hx⟩:∃x,l[i]?=some x:=⟨_,z9e ai⟩
   have c1:(i:Int)<l.length:=by omega
   have hw:=wI1 (n:=i) (by omega);have gk:=λH=>d0r (d:=false) H x (hc x (c11 hx));have hr:x.row=[.str x.nm,.int .u8 x.dir]:=rfl;rw[hr]at gk
   (repeat first|simp only[ww]|apply xa;simp+decide only[go_sem,c1,ai,hx,hr,hw,gk,c10];rfl;kernel_rfl)
   refine a1m (i+1) ?_ (by omega) (by omega)
   (simp+decide only[go_sem,a01,a00,c53]<;>rfl)
  ·obtain rfl:i=l.length:=by omega
   have c1:¬(l.length:Int)<l.length:=by omega
   (repeat first|simp only[ww]|apply xa;simp+decide only[go_sem,c1];rfl;kernel_rfl)
   (apply fqb;simp+decide only[go_sem]<;>rfl)
theorem c8z(cp:Option Nat)(l:List Sgn)(hl:l.length<1000000)(hc:∀v∈l,c0f v.nm) :
 sM 37 [.islice (l.map Sgn.row) cp,c53] []=some (.bool false,[]):=by
 have h:=λH=>a0v (E:=L.env) (ah:=false) (call:=sM) (g:=88) (fs:=[]) (cs:=[]) (ar:=[.islice (l.map Sgn.row) cp,c53]) (H:=H) (by kernel_rfl) (by kernel_rfl) rfl (by rfl) (d2o cp l hl hc) rfl;have c1:¬(0:Int)<= -1:=by omega
 unfold c53 at h⊢
 (refine sv Tryz.f37 ?_;simp only[Tryz.f37,gS])
 (repeat first|simp only[ww]|apply xa;simp+decide only[go_sem,h,c1];rfl;kernel_rfl)
 (apply fqb;simp+decide only[go_sem]<;>rfl)
theorem c90{d:Bool}{H:a03}{b:Nat}(l:List Sgn)(hl:l.length<1000000)(hc:∀v∈l,c0f v.nm)(hb:a02 H b=some (.row 2 (l.map Sgn.row))) :
 cl d 37 [.slice b 0 l.length none,c53] H=some (.bool false,H,List.range H.length):=by
 refine a69 (args:=[.slice b 0 l.length none,c53]) (au:=[.islice (l.map Sgn.row) none,c53]) (by kernel_rfl) (by kernel_rfl) rfl ?_ (v:=.bool false) (H1:=[]) (c8z none l hl hc) rfl rfl;have h2:=a0z (m:=0) (d:=a3k (a02 H) 0 11) (a5w l);have h4:((l.map Sgn.row).drop 0).take l.length=l.map Sgn.row:=by rw[f6s];exact f1k (by simp)
 unfold c53;simp+decide only[a3r,a46,a3g,hb,a9g,a0j,h4,h2,c10,f2u,f2q,f8k,g0o,f2v,f4i];rfl
theorem d5t(n:Nat)(aa:List (List AV))(hf:FlatR aa):sM 39 [.slice 0 0 n none] [some (.row 2 aa)]=some (.slice 0 0 n (some n),[some (.row 2 aa)]):=by
 have h1:=λπ=>a05 π hf
 (refine sv Tryz.f39 ?_;simp only[Tryz.f39,gS])
 (repeat first|simp only[ww]|apply xa;simp+decide only[go_sem];rfl;kernel_rfl)
 (apply fqb;simp+decide only[go_sem,h1]<;>rfl)
theorem c7l{d:Bool}{H:a03}{b n:Nat}{aa:List (List AV)}(hf:FlatR aa)(hb:a02 H b=some (.row 2 aa)):cl d 39 [.slice b 0 n none] H=some (.slice b 0 n (some n),H,[b]):=by have h:=a3h (E:=L.env) (ah:=d) (call:=sM) (g:=39) (fs:=[]) (cs:=[]) (ar:=[.slice b 0 n none]) (H:=H) (b:=b) (by kernel_rfl) (by kernel_rfl) rfl hb (a0p hf) (FlatO.row hf) rfl (au:=[AV.slice 0 0 n none]) (by simp only[f1e,f1b,f1a,f1g,a2b]) (d5t n aa hf) (FlatO.row hf) (a5c b 0 _ n _);rw[a9c hb]at h;exact h
/- a set of names -/
def stO(l:List (List UInt8)):AObj:=.map (l.map .str) (List.replicate l.length (.bool true)) (List.range l.length) l.length
theorem c3g(s:List UInt8):∀(l:List (List UInt8)) (b:Nat),s∉l->a1t (aeq L.env 6 9) (.str s) (l.map .str) b=some none
 | [],b,_=>rfl
 |t::l,b,h=>by
  simp only[f4h,not_or]at h;have aw:(s==t)=false:=by rw[f6o];exact h.1
  simp only[f1a,a1t,eqS,aw,f4i];exact c3g s l (b+1) h.2
theorem e0e{h:FHeap}{b:Nat}{l:List (List UInt8)}{s:List UInt8}(hb:h b=some (stO l))(hs:s∉l):a5e L.env h 122 (.map b) (.str s) false=some (.bool false):=by
 have hu:L.env.und 122=some (.map 9 4):=by kernel_rfl
 have hk:(c1u L.env 9&&b7m L.env 9 (.str s))=true:=by kernel_rfl
 have hz:L.env.zero 4=some [.bool false]:=by kernel_rfl
 have nB:(L.env.und 4).map a2m=some false:=by kernel_rfl
 obtain⟨d,hd,u9⟩:=a08 nB;have hm:b2x h (.map b)=some (l.map .str,List.replicate l.length (.bool true)):=by simp only[b2x,hb,stO]
 unfold a5e;simp only[hu,hk,f2v,hz,hd,hm,c3g s l 0 hs,u9,f4i]
theorem d8v{h:FHeap}{b:Nat}{l:List (List UInt8)}{s:List UInt8}(hb:h b=some (stO l))(hs:s∉l):a21 L.env h 122 (.map b) (.str s) (.bool true)=some (.set b (stO (l++[s]))):=by
 have hu:L.env.und 122=some (.map 9 4):=by kernel_rfl
 have hk:(c1u L.env 9&&b7m L.env 9 (.str s))=true:=by kernel_rfl
 have hp:a97 L.env h 122 (.map b) (.str s)=some (b,l.map .str,List.replicate l.length (.bool true),List.range l.length,l.length,none):=by unfold a97;simp only[hu,hk,f2v,hb,stO,c3g s l 0 hs]
 unfold a21;rw[hp];simp only[stO,f2t,f1a,f1g,f2n,f1c,f1h,f8o,List.replicate_succ']
theorem b07(l:List (List UInt8)):a12 (some (stO l))=[]:=by
 simp only[stO,a12];have h1:∀l:List (List UInt8),a0d (l.map AV.str)=[]:=by intro l;induction l with|nil=>rfl|cons a l ih=>simp[a0d,refs,ih]
 have h2:∀n,a0d (List.replicate n (AV.bool true))=[]:=by intro n;induction n with|zero=>rfl|succ n ih=>simp[f8i,a0d,refs,ih]
 rw[h1,h2];rfl
theorem b6x(π:Nat->Option Nat)(l:List (List UInt8)):a0g π (stO l)=stO l:=by have h:=b07 l;simp only[stO,a12,f8e]at h;simp only[stO,a0g,a31 π h.1,a31 π h.2]
structure Tio(c:Cir)(k m:Nat):Prop where
 ins:kinds c.nodes 0=List.range k
 k1:1<=k
 k4:k<=4
 out:c.outs.length=m
 m1:1<=m
 m4:m<=4
def sgI(j:Nat):Sgn:=⟨a1l j,0⟩
def sgO(j:Nat):Sgn:=⟨oS j,1⟩
def sgs(k m:Nat):List Sgn:=(List.range k).map sgI++(List.range m).map sgO
theorem a30(k m:Nat):(sgs k m).length=k+m:=by simp[sgs]
theorem f0t(k:Nat):sgs k 0=(List.range k).map sgI:=by simp[sgs]
theorem e5g(k j:Nat):sgs k (j+1)=sgs k j++[sgO j]:=by simp[sgs,f8o]
def nms(k m:Nat):List (List UInt8):=(sgs k m).map Sgn.nm
theorem f1r(k j:Nat):nms k (j+1)=nms k j++[oS j]:=by simp[nms,e5g,sgO]
theorem e6d(i:Nat):nms (i+1) 0=nms i 0++[a1l i]:=by simp[nms,sgs,sgI,f8o]
theorem e5h(i:Nat):sgs (i+1) 0=sgs i 0++[sgI i]:=by simp[sgs,f8o]
theorem d6f{i:Nat}(hi:i<14):a1l i∉nms i 0:=by unfold nms;rw[f0t,f7c];intro h;obtain⟨j,hj,e⟩:=f6q.1 h;have hj:=f7n.1 hj;have:=c1i (i:=j) (j:=i) (by omega) hi e;omega
theorem e6a{i j:Nat}(hi:i<14)(hj:j<14)(h:oS i=oS j):i=j:=by unfold oS at h;simp only[List.cons.injEq,f8s,f9h]at h;have h1:=congrArg UInt8.toNat h;simp only[UInt8.toNat_ofNat']at h1;omega
theorem d1k{k j:Nat}(hj:j<14):oS j∉nms k j:=by
 unfold nms sgs;rw[f2t,f7c,f7c];intro h;rcases f4s.1 h with h|h
 ·obtain⟨i,_,e⟩:=f6q.1 h;have:a1l i=oS j:=e;unfold a1l oS at this;simp at this
 ·obtain⟨i,hi,e⟩:=f6q.1 h;have hi:=f7n.1 hi;have:=e6a (i:=i) (j:=j) (by omega) hj e;omega
theorem c52{k m:Nat}(hk:k<=4)(hm:m<=4):∀s∈sgs k m,c0f s.nm:=by
 intro s hs;unfold sgs at hs;rcases f4s.1 hs with h|h
 ·obtain⟨i,hi,rfl⟩:=f6q.1 h;exact e17 i (by have:=f7n.1 hi;omega)
 ·obtain⟨i,hi,rfl⟩:=f6q.1 h;exact e16 i (by have:=f7n.1 hi;omega)
theorem e6b(j:Nat):([111]++[UInt8.ofNat (48+j)]:List UInt8)=oS j:=rfl
theorem c7h(c:Cir)(hc:c.wf){k m:Nat}(ht:Tio c k m):sM 11 [.agg c.enc] []=some (.tuple [.islice ((sgs k m).map Sgn.row) (some (k+m)),.int .i64 0],[]):=by
 obtain⟨t1,t2,t3,t4,t5,t6⟩:=ht;have hn:=hc.len;have aR:=λ(d:Bool) (H:a03)=>b4p (d:=d) H c hc;have bw:=λ(d:Bool) (H:a03)=>a3q (d:=d) H c (by omega);have h15:kinds c.nodes 15=[]:=by unfold kinds a40;rw[List.filter_eq_nil_iff];intro i hi;have bQ:=f7n.1 hi;have:=hc.kind _ (g0l bQ);rw[a0x (z9e bQ)];simp only[f2y];omega
 have jB:=λ(d:Bool) (X:Option AObj)=>b3b (d:=d) (H:=[X,some (.row 1 [[.int .u8 15]])]) (b:=1) c (k:=15) rfl (by omega) rfl;rw[h15]at jB;have vT:k<=c.nodes.length:=by have:=a4d c.nodes 0;rw[t1]at this;simpa using this
 have jt:∀i,i<k->c.names[i]?=some (a1l i):=λi hi=>by rw[hc.names,f1l,f6v (by omega)];rfl
 have dH:c.names.length=c.nodes.length:=by rw[hc.names];simp
 obtain⟨r0,e0⟩:=a4g (kinds c.nodes 0);rw[e0,t1]at bw;have i4:∀π:Nat->Option Nat,a0g π (.row 4 [ce c]) = .row 4 [ce c]:=λπ=>by simp+decide only[go_sem]
 have jg:a12 (some (.row 4 [ce c]))=[]:=by simp+decide only[go_sem]
 have dA:d2s [] = .nilslice:=rfl;rw[dA]at jB;simp only[Cir.enc]at aR bw jB⊢;have c1:¬((256:Int)<k+m):=by omega
 have hw:=w64 (n:=(k:Int)+m) (by omega) (by omega)
 (refine sv Tryz.f11 ?_;simp only[Tryz.f11,gS])
 (repeat first|simp only[ww]|apply xa;simp+decide only[go_sem,aR,jB,bw,t4,c1,hw,c10,f3b];rfl;kernel_rfl)
 refine a0m (σ:=Nat) kp11_0 (λi=>[(1,.ptr 0 0 0),(6,.map 1),(7,grV 2 ((sgs i 0).map Sgn.row)),(38,sl r0 ((List.range k).map a13)),(39,.int .i64 k),(40,.int .i64 i)])
  (λi=>some (.row 4 [ce c])::some (stO (nms i 0))::grH 2 ((sgs i 0).map Sgn.row)) (λi=>k-i) (λi=>i<=k) 0 ?_ (f2i _) ?_
 ·have e1:sgs 0 0=[]:=rfl;have e2:nms 0 0=[]:=rfl;have e3:b4o L.env 122=stO []:=by kernel_rfl
  (simp+decide only[go_sem,a01,a00,e1,e2,f1g,a0r,a0s,b07,b6x,e3]<;>rfl)<;>rfl
 ·intro i hi;by_cases ai:i<k
  ·have d1:(i:Int)<k:=by omega
   have aS:=wI1 (n:=i) (by omega);have hx:=jt i ai;have lm:i<c.names.length:=by omega
   have mi:(List.range k)[i]?=some i:=f6v ai;have kS:=λ(X:Option AObj) (R:a03)=>d8v (h:=a02 (X::some (stO (nms i 0))::R)) (b:=1) (l:=nms i 0) (s:=a1l i) rfl (d6f (by omega));rw[<-e6d]at kS;have fG:=a30 i 0;cases i with
   |zero=>
    have e1:sgs 0 0=[]:=rfl;rw[e1]
    (repeat first|simp only[ww]|apply xa;simp+decide only[go_sem,d1,ai,mi,hx,lm,aS,kS,f1g,a0r,a0s,c10,f3b];rfl;kernel_rfl)
    refine a1m 1 ?_ (by omega) (by omega);have e2:(sgs 1 0).map Sgn.row=[[.str (a1l 0),.int .u8 0]]:=rfl;rw[e2]
    (simp+decide only[go_sem,a01,a00,a09,a0a,b07,b6x,f1h]<;>rfl)<;>rfl
   |succ i=>
    have hs:=e5h (i+1);have eP:(sgs (i+1+1) 0).map Sgn.row=(sgs (i+1) 0).map Sgn.row++[[.str (a1l (i+1)),.int .u8 0]]:=by rw[hs,f2t];rfl
    have aw:(sgs (i+1) 0).map Sgn.row≠[]:=by intro e;have:=congrArg List.length e;rw[c10,fG]at this;simp at this
    have ju:(sgs (i+1+1) 0).map Sgn.row≠[]:=by rw[eP];simp
    have nr:((sgs (i+1) 0).map Sgn.row).length=i+1:=by rw[c10,fG]
    have eT:((sgs (i+1+1) 0).map Sgn.row).length=i+1+1:=by rw[c10,a30]
    have aD:i+1+1<=1000000000:=by omega
    rw[a4z 2 aw,a50 2 aw,nr];have hf:=a5w (sgs (i+1) 0);have h3:=a06 (a5w (sgs (i+1+1) 0));have h4:=λπ=>a05 π (a5w (sgs (i+1+1) 0));have qE:=a4z 2 ju;have rQ:=a50 2 ju;rw[eT]at qE;rw[eP]at h3 h4 qE rQ;generalize(sgs (i+1) 0).map Sgn.row=R0 at nr h3 h4 eP qE rQ
    (repeat first|simp only[ww]|apply xa;simp+decide only[go_sem,d1,ai,mi,hx,lm,aS,kS,nr,aD,c10,f3b];rfl;kernel_rfl)
    refine a1m (i+1+1) ?_ (by omega) (by omega);rw[eP,qE,rQ]
    (simp+decide only[go_sem,a01,a00,b07,b6x,h3,h4]<;>rfl)<;>rfl
  ·obtain rfl:i=k:=by omega
   have d1:¬(i:Int)<i:=by omega
   have aw:(sgs i 0).map Sgn.row≠[]:=by intro e;have:=congrArg List.length e;rw[c10,a30]at this;simp at this;omega
   have nr:((sgs i 0).map Sgn.row).length=i:=by rw[c10,a30];omega
   rw[a4z 2 aw,a50 2 aw,nr];have h3:=a06 (a5w (sgs i 0));have h4:=λπ=>a05 π (a5w (sgs i 0))
   (repeat first|simp only[ww]|apply xa;simp+decide only[go_sem,d1,t4,c10];rfl;kernel_rfl)
   refine a0m (σ:=Nat) kp11_2 (λj=>[(6,.map 0),(7,.slice 1 0 (i+j) none),(62,.int .i64 m),(63,.int .i64 j)])
    (λj=>[some (stO (nms i j)),some (.row 2 ((sgs i j).map Sgn.row))]) (λj=>m-j) (λj=>j<=m) 0 ?_ (f2i _) ?_
   ·(simp+decide only[go_sem,a01,a00,b07,b6x,h3,h4,f8z]<;>rfl)<;>rfl
   ·intro j hj;by_cases vU:j<m
    ·have d2:(j:Int)<m:=by omega
     have jV:=wI1 (n:=j) (by omega);have mw:=λ(d:Bool) (H:a03)=>d2d (d:=d) H j (by omega);have pC:=λ(R:a03)=>e0e (h:=a02 (some (stO (nms i j))::R)) (b:=0) (l:=nms i j) (s:=oS j) rfl (d1k (by omega));have kS:=λ(R:a03)=>d8v (h:=a02 (some (stO (nms i j))::R)) (b:=0) (l:=nms i j) (s:=oS j) rfl (d1k (by omega));rw[<-f1r]at kS;have eP:(sgs i (j+1)).map Sgn.row=(sgs i j).map Sgn.row++[[.str (oS j),.int .u8 1]]:=by rw[e5g,f2t];rfl
     have eT:((sgs i j).map Sgn.row).length=i+j:=by rw[c10,a30]
     have aD:i+j+1<=1000000000:=by omega
     have h3:=a06 (a5w (sgs i j));have h4:=λπ=>a05 π (a5w (sgs i j));have h5:=a06 (a5w (sgs i (j+1)));have h6:=λπ=>a05 π (a5w (sgs i (j+1)));rw[eP]at h5 h6;have ho:=e6b j
     (repeat first|simp only[ww]|apply xa;simp+decide only[go_sem,d2,mw,ho];rfl;kernel_rfl)
     refine a0m (σ:=Nat) kp11_4 (λ_=>[(6,.map 0),(7,.slice 1 0 (i+j) none),(11,.str (oS j)),(62,.int .i64 m),(63,.int .i64 j)])
      (λ_=>[some (stO (nms i j)),some (.row 2 ((sgs i j).map Sgn.row))]) (λ_=>0) (λ_=>True) 0 ?_ trivial ?_
     ·(simp+decide only[go_sem,a01,a00,b07,b6x,h3,h4]<;>rfl)<;>rfl
     ·intro _ _;generalize(sgs i j).map Sgn.row=R0 at eT h3 h4 h5 h6 eP
      (repeat first|simp only[ww]|apply xa;simp+decide only[go_sem,pC,kS,eT,aD,jV];rfl;kernel_rfl)
      refine a1m (j+1) ?_ (by omega) (by omega);rw[eP]
      (simp+decide only[go_sem,a01,a00,b07,b6x,h5,h6]<;>rfl)<;>rfl
    ·obtain rfl:j=m:=by omega
     have d2:¬(j:Int)<j:=by omega
     have eT:((sgs i j).map Sgn.row).length=i+j:=by rw[c10,a30]
     have ak:=a30 i j;have cL:=λ(d:Bool) (X:Option AObj)=>c90 (d:=d) (H:=[X,some (.row 2 ((sgs i j).map Sgn.row))]) (b:=1) (sgs i j) (by omega) (c52 t3 t6) rfl;have cM:=λ(d:Bool) (X:Option AObj)=>c7l (d:=d) (H:=[X,some (.row 2 ((sgs i j).map Sgn.row))]) (b:=1) (n:=i+j) (a5w (sgs i j)) rfl;rw[ak]at cL;have dS:=λm d=>a0z (m:=m) (d:=d) (a5w (sgs i j));have dF:((sgs i j).map Sgn.row).take (i+j)=(sgs i j).map Sgn.row:=f1k (by omega);unfold c53 at cL;generalize(sgs i j).map Sgn.row=R0 at eT cL cM dS dF
     (repeat first|simp only[ww]|apply xa;simp+decide only[go_sem,d2,cL,cM];rfl;kernel_rfl)
     (apply fqb;simp+decide only[go_sem,dS,eT,dF]<;>rfl)
theorem a3l{d:Bool}(H:a03)(c:Cir)(hc:c.wf){k m:Nat}(ht:Tio c k m):cl d 11 [.agg c.enc] H=some (.tuple [.islice ((sgs k m).map Sgn.row) (some (k+m)),.int .i64 0],H,[]):=cf (by simp only[f1e,f1b];exact a4t c) (c7h c hc ht) rfl
theorem d7g(l:List Nat):FlatR (l.map u8R):=FlatR.map λ_=>rfl
theorem e5x(l:List Nat):(l.map u8R).flatMap a0d=[]:=a06 (d7g l)
theorem f4f(π:Nat->Option Nat)(l:List Nat):(l.map u8R).map (λr=>r.map (ren π))=l.map u8R:=a05 π (d7g l)
theorem f5u(l:List Nat):((l.map u8R).all λr=>decide (r.length=1))=true:=by rw[f4l];intro r hr;obtain⟨x,_,rfl⟩:=f6q.1 hr;rfl
theorem f3y(l:List Nat):((l.map u8R).all λr=>r.all AV.storable)=true:=by rw[f4l];intro r hr;obtain⟨x,_,rfl⟩:=f6q.1 hr;rfl
theorem e6v:sM 140 [.nilslice,.int .i64 0] []=some (.nilslice,[]):=by
 have w0:IntKind.i64.wrap ((0:Int)-0)=0:=by decide
 (refine sv Tryz.f140 ?_;simp only[Tryz.f140,gS])
 (repeat first|simp only[ww]|apply xa;simp+decide only[go_sem,w0];rfl;kernel_rfl)
 (apply fqb;simp+decide only[go_sem]<;>rfl)
theorem f0b(k n:Nat)(h0:0<n)(hn:n<=100000):a39 L.env k 52 3 .nilslice (.int .i64 n)=some (.slice k 0 n none,.new (.row 1 (List.replicate n [.int .u8 0]))):=by
 obtain⟨m,rfl⟩:∃m,n=m+1:=⟨n-1,by omega⟩
 have hu:L.env.und 52=some (.slice 53):=by kernel_rfl
 have qw:(L.env.und 3).any a34=true:=by kernel_rfl
 obtain⟨dx,hx,hd⟩:∃dx,L.env.und 3=some dx∧a34 dx=true:=by
  cases h:L.env.und 3 with
  |none=>rw[h]at qw;cases qw
  |some dx=>rw[h]at qw;exact⟨dx,rfl,qw⟩
 have hz:L.env.zero 53=some [.int .u8 0]:=by kernel_rfl
 have hs:L.env.sz 53=1:=by kernel_rfl
 have hr:a2j L.env 53 (m+1)=true:=a6h (by omega) (of_decide_eq_true (by kernel_rfl));unfold a39;simp only[hu,hx,hd,hz,hs,f8f];have h1:decide (0<=((m+1:Nat):Int))=true:=f4m (by omega);have h2:(((m+1:Nat):Int)).toNat=m+1:=by omega
 have h3:Nat.blt 0 1=true:=rfl;simp only[h1,h2,h3,hr,f2v]
theorem e6u(n:Nat)(h0:0<n)(hn:n<=100000):sM 140 [.nilslice,.int .i64 n] []=some (.slice 0 0 0 none,[some (.row 1 (List.replicate n [.int .u8 0]))]):=by
 have c1:¬(n:Int)<0:=by omega
 have c2:(0:Int)<n:=by omega
 have w0:IntKind.i64.wrap ((0:Int)-0)=0:=by decide
 have hw:IntKind.i64.wrap ((n:Int)-0)=n:=by rw[w64 (by omega) (by omega)];omega
 have hz:=λk=>f0b k n h0 hn;have ha:apT L.env 52 3=none:=by kernel_rfl
 have hs:∀hp,a5z L.env hp 52 .nilslice none (some (.int .i64 0)) none=some .nilslice:=λhp=>by kernel_rfl
 (refine sv Tryz.f140 ?_;simp only[Tryz.f140,gS])
 (repeat first|simp only[ww]|apply xa;simp+decide only[go_sem,c1,c2,w0,hw,hz,ha,hs];rfl;kernel_rfl)
 (apply fqb;simp+decide only[go_sem]<;>rfl)
def slU(l:List Nat):AV:=slF none (l.map u8R)
theorem d92{l:List Nat}(h:l≠[]):slU l = .islice (l.map u8R) none:=by
 cases l with
 |nil=>exact absurd rfl h
 |cons a r=>rfl
theorem d5r(l:List Nat):refs (slU l)=[]:=by cases l<;>rfl
theorem c8n(H:a03):cl false 140 [.nilslice,.int .i64 0] H=some (.nilslice,H,[]):=cf rfl e6v rfl
theorem d2w(H:a03)(n:Nat)(h0:0<n)(hn:n<=100000):cl false 140 [.nilslice,.int .i64 n] H=some (.slice H.length 0 0 none,H++[some (.row 1 (List.replicate n [.int .u8 0]))],[]):=by
 have hc:=a1v (sM 140) [.nilslice,.int .i64 n] H (σ:=[]) rfl rfl rfl (au:=[.nilslice,.int .i64 n]) rfl (H0:=[]) rfl (e6u n h0 hn);have hf:FlatR (List.replicate n [AV.int .u8 0]):=λr hr=>by rw[(List.mem_replicate.1 hr).2];rfl
 refine a93 (by kernel_rfl) (by kernel_rfl) rfl (hc.trans ?_);have hr:=λπ=>a05 π hf;simp only[a7p,ren,a1d,f1h,f6s,f1a,f1g,f2k,a0g,hr];simp[Nat.blt];rfl
theorem d3o(ca cb:Option (Option Nat))(a b:List Nat)(hl:a.length+b.length<=100000):sM 93 [.slice 0 0 2 (some 2)] [some (.row 1 [[sl ca (a.map u8R)],[sl cb (b.map u8R)]])]=some (slU (a++b),[some (.row 1 [[sl ca (a.map u8R)],[sl cb (b.map u8R)]])]):=by
 suffices hs:∃r:AV×a03,(r=(slU (a++b),[some (.row 1 [[sl ca (a.map u8R)],[sl cb (b.map u8R)]])]))∧sM 93 [.slice 0 0 2 (some 2)] [some (.row 1 [[sl ca (a.map u8R)],[sl cb (b.map u8R)]])]=some r by obtain⟨r,rfl,h3⟩:=hs;exact h3
 have w1:IntKind.i64.wrap ((0:Int)+(a.length:Int))=(a.length:Int):=by rw[w64 (by omega) (by omega)];omega
 have w2:IntKind.i64.wrap ((a.length:Int)+(b.length:Int))=((a.length+b.length:Nat):Int):=by rw[w64 (by omega) (by omega)];omega
 have c1:¬(a.length:Int)<0:=by omega
 have c2:¬((a.length+b.length:Nat):Int)<0:=by omega
 (refine svE Tryz.f93 ?_;simp only[Tryz.f93,gS])
 (repeat first|simp only[ww]|apply xa;simp+decide only[go_sem];rfl;kernel_rfl)
 refine a3i kp93_0 (λq F H1=>∃(i x:Int),((i=0∧x=0∧q=2)∨(i=1∧x=a.length∧q=1)∨(i=2∧x=(a.length+b.length:Nat)∧q=0))∧F=[(0,.slice 0 0 2 (some 2)),(3,.int .i64 x),(9,.slice 0 0 2 (some 2)),(10,.int .i64 2),(11,.int .i64 i)]∧H1=[some (.row 1 [[sl ca (a.map u8R)],[sl cb (b.map u8R)]])]) 2 ?_ ?_
 ·refine⟨_,_,?_,0,0,.inl ⟨rfl,rfl,rfl⟩,rfl,rfl⟩
  (simp+decide only[go_sem,a01,a00]<;>rfl)<;>rfl
 ·rintro q F H1 ⟨i,x,h,rfl,rfl⟩
  rcases h with ⟨rfl,rfl,rfl⟩|⟨rfl,rfl,rfl⟩|⟨rfl,rfl,rfl⟩
  ·(repeat first|simp only[ww]|apply xa;simp+decide only[go_sem,w1,c1,c10];rfl;kernel_rfl)
   refine a0y 1 (by omega) ⟨_,_,?_,1,a.length,.inr (.inl ⟨rfl,rfl,rfl⟩),rfl,rfl⟩
   (simp+decide only[go_sem,a01,a00]<;>rfl)<;>rfl
  ·(repeat first|simp only[ww]|apply xa;simp+decide only[go_sem,w2,c2,c10];rfl;kernel_rfl)
   refine a0y 0 (by omega) ⟨_,_,?_,2,(a.length+b.length:Nat),.inr (.inr ⟨rfl,rfl,rfl⟩),rfl,rfl⟩
   (simp+decide only[go_sem,a01,a00]<;>rfl)<;>rfl
  ·rcases Nat.eq_zero_or_pos (a.length+b.length)with hz|hz
   ·have ha:a=[]:=List.eq_nil_of_length_eq_zero (by omega);have hb:b=[]:=List.eq_nil_of_length_eq_zero (by omega);subst ha hb;have hg:=λH=>c8n H;simp only[f1h,f8z,Int.natCast_zero]
    (repeat first|simp only[ww]|apply xa;simp+decide only[go_sem,hg];rfl;kernel_rfl)
    refine a3i kp93_2 (λq F H1=>∃(i:Int),((i=0∧q=2)∨(i=1∧q=1)∨(i=2∧q=0))∧F=[(6,.nilslice),(25,.slice 0 0 2 (some 2)),(26,.int .i64 2),(27,.int .i64 i)]∧H1=[some (.row 1 [[sl ca (([]:List Nat).map u8R)],[sl cb (([]:List Nat).map u8R)]])]) 2 ?_ ?_
    ·refine⟨_,_,?_,0,.inl ⟨rfl,rfl⟩,rfl,rfl⟩
     (simp+decide only[go_sem,a01,a00]<;>rfl)<;>rfl
    ·rintro q F H1 ⟨i,h,rfl,rfl⟩
     rcases h with ⟨rfl,rfl⟩|⟨rfl,rfl⟩|⟨rfl,rfl⟩
     ·(repeat first|simp only[ww]|apply xa;simp+decide only[go_sem,f1g];rfl;kernel_rfl)
      refine a0y 1 (by omega) ⟨_,_,?_,1,.inr (.inl ⟨rfl,rfl⟩),rfl,rfl⟩
      (simp+decide only[go_sem,a01,a00,f1g]<;>rfl)<;>rfl
     ·(repeat first|simp only[ww]|apply xa;simp+decide only[go_sem,f1g];rfl;kernel_rfl)
      refine a0y 0 (by omega) ⟨_,_,?_,2,.inr (.inr ⟨rfl,rfl⟩),rfl,rfl⟩
      (simp+decide only[go_sem,a01,a00,f1g]<;>rfl)<;>rfl
     ·(repeat first|simp only[ww]|apply xa;simp+decide only[go_sem];rfl;kernel_rfl)
      refine b6h (vs:=[.nilslice]) (r:=(_,_)) (by simp+decide only[go_sem]) ?_ rfl;simp+decide only[go_sem,a22]<;>rfl
   ·have hg:=λH=>d2w H (a.length+b.length) hz hl;have aw:a++b≠[]:=by intro e;rw[f8e]at e;rw[e.1,e.2]at hz;simp at hz
    generalize hR:List.replicate (a.length+b.length) [AV.int .u8 0]=R at hg;have mM:R.length=a.length+b.length:=by rw[<-hR];simp
    have tW:FlatR R:=λr hr=>by rw[<-hR]at hr;rw[(List.mem_replicate.1 hr).2];rfl
    have dM:a.length<=1000000000:=by omega
    have iH:a.length+b.length<=1000000000:=by omega
    have bD:¬0=a.length+b.length:=by omega
    (repeat first|simp only[ww]|apply xa;simp+decide only[go_sem,hg];rfl;kernel_rfl)
    refine a3i kp93_2 (λq F H1=>∃(i:Int) (n:Nat) (Q:List (List AV)),((i=0∧q=2∧n=0∧Q=R)∨(i=1∧q=1∧n=a.length∧Q=a.map u8R)∨(i=2∧q=0∧n=a.length+b.length∧Q=a.map u8R++b.map u8R))∧F=[(6,.slice 1 0 n none),(25,.slice 0 0 2 (some 2)),(26,.int .i64 2),(27,.int .i64 i)]∧H1=[some (.row 1 [[sl ca (a.map u8R)],[sl cb (b.map u8R)]]),some (.row 1 Q)]) 2 ?_ ?_
    ·refine⟨_,_,?_,0,0,R,.inl ⟨rfl,rfl,rfl,rfl⟩,rfl,rfl⟩
     (simp+decide only[go_sem,a01,a00,a06 tW,a05 _ tW]<;>rfl)<;>rfl
    ·rintro q F H1 ⟨i,n,Q,h,rfl,rfl⟩
     rcases h with ⟨rfl,rfl,rfl,rfl⟩|⟨rfl,rfl,rfl,rfl⟩|⟨rfl,rfl,rfl,rfl⟩
     ·(repeat first|simp only[ww]|apply xa;simp+decide only[go_sem,f5u,f3y,mM,dM,bD,f2u,c10,f2i];rfl;kernel_rfl)
      refine a0y 1 (by omega) ⟨_,_,?_,1,a.length,a.map u8R,.inr (.inl ⟨rfl,rfl,rfl,rfl⟩),rfl,rfl⟩
      (simp+decide only[go_sem,a01,a00,e5x,f4f]<;>rfl)<;>rfl
     ·(repeat first|simp only[ww]|apply xa;simp+decide only[go_sem,f5u,f3y,iH,c10];rfl;kernel_rfl)
      refine a0y 0 (by omega) ⟨_,_,?_,2,a.length+b.length,a.map u8R++b.map u8R,.inr (.inr ⟨rfl,rfl,rfl,rfl⟩),rfl,rfl⟩
      (simp+decide only[go_sem,a01,a00,e5x,f4f,f7r,f2t]<;>rfl)<;>rfl
     ·(repeat first|simp only[ww]|apply xa;simp+decide only[go_sem];rfl;kernel_rfl)
      refine b6h (vs:=[.slice 1 0 (a.length+b.length) none]) (r:=(_,_)) (by simp+decide only[go_sem]) ?_ rfl;rw[d92 aw];have ht:List.take (a.length+b.length) (a.map u8R++b.map u8R)=a.map u8R++b.map u8R:=f1k (by simp);have jF:∀m d,a9t m d (a.map u8R++b.map u8R)=some (a.map u8R++b.map u8R):=λm d=>a0z m d ((d7g a).append (d7g b));have dO:a.length+b.length<=a.length+b.length:=f2q _;simp+decide only[go_sem,a22,ht,jF,c10,f2n,f2t]<;>rfl
/- a list that is filled from its first element on -/
def upT(f:Nat->List AV)(z:List AV)(n i:Nat):List (List AV):=(List.range n).map λj=>if j<i then f j else z
section
variable {f:Nat->List AV}{z:List AV}{n i:Nat}
theorem c36:upT f z n 0=List.replicate n z:=by unfold upT;rw[show(λj:Nat=>if j<0 then f j else z)=λ_=>z from by funext j;rw[f2m (f8l j)],List.map_const',f3b]
theorem a57:(upT f z n i).length=n:=by simp[upT]
theorem c35{j:Nat}(hj:j<n):(upT f z n i)[j]?=some (if j<i then f j else z):=by unfold upT;rw[f1l,f6v hj];rfl
theorem b6t(hi:i<n):(upT f z n i)[i]?=some z:=by rw[c35 hi,f2m (Nat.lt_irrefl i)]
theorem b05(hi:i<n):(upT f z n i).set i (f i)=upT f z n (i+1):=by
 apply f4x;intro j;rw[f3a];by_cases hj:j<n
 ·rw[c35 hj,c35 hj,a57];by_cases h:i=j
  ·subst h;rw[f2w rfl,f2w hi,f2w (by omega)]
  ·rw[f2m h];by_cases h2:j<i
   ·rw[f2w h2,f2w (by omega)]
   ·rw[f2m h2,f2m (by omega)]
 ·have e:∀i,(upT f z n i)[j]?=none:=λi=>f2s (by rw[a57];omega);rw[e,e,f2m (by omega)]
theorem b3v:upT f z n n=(List.range n).map f:=by unfold upT;exact f4y λj hj=>by rw[f2w (f7n.1 hj)]
theorem a2y(hz:a0d z=[])(hf:∀j,a0d (f j)=[]):FlatR (upT f z n i):=FlatR.map λj=>by split;exact hf j;exact hz
end
theorem b75{α:Type}(l:List α)(d:α):(List.range l.length).map (λj=>l.getD j d)=l:=by
 apply f4x;intro j;rw[f1l];by_cases h:j<l.length
 ·rw[f6v h,z9e h];simp[f2p,z9e h]
 ·rw[f2s (by simpa using h),f2s (by simpa using h)];rfl
/- cells -/
def b5t(z o v:Nat):Nat:=if v=0 then z else if v=1 then o else 88
def a4o(z o v:Nat):UInt8:=UInt8.ofNat (b5t z o v)
theorem b8h(f:Nat->Nat):∀(l:List Nat),a60 (l.map λv=>[.int .u8 (f v:Nat)])=some (l.map λv=>UInt8.ofNat (f v))
 | []=>rfl
 |v::l=>by simp only[f1a,a60,b8h f l,Int.toNat_natCast]
theorem d7z(r:Rep)(vs:List Nat)(z o:Nat)(hl:vs.length<1000000):sM 45 [sl r (vs.map u8R),.int .u8 z,.int .u8 o] []=some (.str (vs.map (a4o z o)),[]):=by
 obtain⟨f,hf⟩:∃f:Nat->List AV,f=λj=>[.int .u8 (b5t z o (vs.getD j 0):Nat)]:=⟨_,rfl⟩
 have eK:∀j,a0d (f j)=[]:=λj=>by rw[hf];rfl
 have aD:vs.length<=1000000000:=by omega
 (refine sv Tryz.f45 ?_;simp only[Tryz.f45,gS])
 (repeat first|simp only[ww]|apply xa;simp+decide only[go_sem,aD,c10];rfl;kernel_rfl)
 refine a0m (σ:=Nat) kp45_0 (λi=>[(1,.int .u8 z),(2,.int .u8 o),(7,.slice 0 0 vs.length (some vs.length)),(13,sl r (vs.map u8R)),(14,.int .i64 vs.length),(15,.int .i64 i)])
  (λi=>[some (.row 1 (upT f [.int .u8 0] vs.length i))]) (λi=>vs.length-i) (λi=>i<=vs.length) 0 ?_ (f2i _) ?_
 ·rw[<-c36 (f:=f)];have h1:=a06 (a2y (f:=f) (z:=[.int .u8 0]) (n:=vs.length) (i:=0) rfl eK);have h2:=λπ=>a05 π (a2y (f:=f) (z:=[.int .u8 0]) (n:=vs.length) (i:=0) rfl eK)
  (simp+decide only[go_sem,a01,a00,h1,h2]<;>rfl)<;>rfl
 ·intro i hi;by_cases ai:i<vs.length
  ·obtain⟨v,hv⟩:∃v,vs[i]?=some v:=⟨_,z9e ai⟩
   have c1:(i:Int)<vs.length:=by omega
   have hw:=wI1 (n:=i) (by omega);have h1:=a06 (a2y (f:=f) (z:=[.int .u8 0]) (n:=vs.length) (i:=i+1) rfl eK);have h2:=λπ=>a05 π (a2y (f:=f) (z:=[.int .u8 0]) (n:=vs.length) (i:=i+1) rfl eK);have bO:=b6t (f:=f) (z:=[.int .u8 0]) ai;have dO:=a57 (f:=f) (z:=[.int .u8 0]) (n:=vs.length) (i:=i);have aF:=b05 (f:=f) (z:=[.int .u8 0]) ai;have nv:f i=[.int .u8 (b5t z o v:Nat)]:=by rw[hf];simp only[f2p,hv,f4v]
   rw[nv]at aF;unfold b5t at aF;by_cases h0:v=0
   ·rw[f2w h0]at aF;have e0:(v:Int)=0:=by omega
    (repeat first|simp only[ww]|apply xa;simp+decide only[go_sem,c1,ai,hv,hw,e0,bO,dO,aF,c10];rfl;kernel_rfl)
    refine a1m (i+1) ?_ (by omega) (by omega)
    (simp+decide only[go_sem,a01,a00,h1,h2]<;>rfl)<;>rfl
   ·rw[f2m h0]at aF;have e0:¬(v:Int)=0:=by omega
    by_cases l3:v=1
    ·rw[f2w l3]at aF;have e1:(v:Int)=1:=by omega
     (repeat first|simp only[ww]|apply xa;simp+decide only[go_sem,c1,ai,hv,hw,e0,e1,bO,dO,aF,c10];rfl;kernel_rfl)
     refine a1m (i+1) ?_ (by omega) (by omega)
     (simp+decide only[go_sem,a01,a00,h1,h2]<;>rfl)<;>rfl
    ·rw[f2m l3]at aF;have e1:¬(v:Int)=1:=by omega
     rw[show((88:Nat):Int)=88 from rfl]at aF
     (repeat first|simp only[ww]|apply xa;simp+decide only[go_sem,c1,ai,hv,hw,e0,e1,bO,dO,aF,c10];rfl;kernel_rfl)
     refine a1m (i+1) ?_ (by omega) (by omega)
     (simp+decide only[go_sem,a01,a00,h1,h2]<;>rfl)<;>rfl
  ·obtain rfl:i=vs.length:=by omega
   have c1:¬(vs.length:Int)<vs.length:=by omega
   have he:upT f [.int .u8 0] vs.length vs.length=vs.map λv=>[.int .u8 (b5t z o v:Nat)]:=by rw[b3v,hf];have:=congrArg (List.map λv=>[AV.int .u8 (b5t z o v:Nat)]) (b75 vs 0);rw[f7c]at this;exact this
   have cP:=b8h (b5t z o) vs;have dO:(vs.map λv=>[AV.int .u8 (b5t z o v:Nat)]).length=vs.length:=c10 ..;rw[he];have dF:(vs.map λv=>[AV.int .u8 (b5t z o v:Nat)]).take vs.length=vs.map λv=>[AV.int .u8 (b5t z o v:Nat)]:=f1k (by simp);generalize(vs.map λv=>[AV.int .u8 (b5t z o v:Nat)])=R0 at cP dO dF
   (repeat first|simp only[ww]|apply xa;simp+decide only[go_sem,c1,cP,dO,dF];rfl;kernel_rfl)
   (apply fqb;simp+decide only[go_sem]<;>rfl)
theorem b89{d:Bool}(H:a03)(r:Rep)(vs:List Nat)(z o:Nat)(zi oi:Int)(hz:zi=z)(ho:oi=o)(hl:vs.length<1000000):cl d 45 [sl r (vs.map u8R),.int .u8 zi,.int .u8 oi] H=some (.str (vs.map (a4o z o)),H,[]):=by subst hz;subst ho;exact cf (by simp only[f1e,f1b,a04,a16,b8z,a0t]) (d7z r vs z o hl) rfl
/- values that may be given -/
def b5h:AV:=.func (.func 94) [] []
theorem d7i(v:Nat)(hv:v<=3):sM 94 [.int .u8 v] []=some (.bool false,[]):=by
 have c1:¬(3:Int)<v:=by omega
 (refine sv Tryz.f94 ?_;simp only[Tryz.f94,gS])
 (repeat first|simp only[ww]|apply xa;simp+decide only[go_sem,c1];rfl;kernel_rfl)
 (apply fqb;simp+decide only[go_sem]<;>rfl)
theorem c8q{d:Bool}(H:a03)(v:Nat)(hv:v<=3):cl d 94 [.int .u8 v] H=some (.bool false,H,[]):=cf rfl (d7i v hv) rfl
theorem c46(r:Rep)(l:List Nat)(hl:l.length<1000000)(hc:∀v∈l,v<=3) :
 sM 139 [sl r (l.map u8R),b5h] []=some (.int .i64 (-1),[]):=by
 unfold b5h
 (refine sv Tryz.f139 ?_;simp only[Tryz.f139,gS])
 (repeat first|simp only[ww]|apply xa;simp+decide only[go_sem];rfl;kernel_rfl)
 refine a0m (σ:=Nat) kp139_0 (λi=>[(0,sl r (l.map u8R)),(1,b5h),(7,.int .i64 l.length),(8,.int .i64 i)])
  (λ_=>[]) (λi=>l.length-i) (λi=>i<=l.length) 0 ?_ (f2i _) ?_
 ·unfold b5h
  (simp+decide only[go_sem,a01,a00]<;>rfl)
 ·intro i hi;unfold b5h;by_cases ai:i<l.length
  ·obtain⟨x,hx⟩:∃x,l[i]?=some x:=⟨_,z9e ai⟩
   have c1:(i:Int)<l.length:=by omega
   have hw:=wI1 (n:=i) (by omega);have gk:=λH=>c8q (d:=false) H x (hc x (c11 hx))
   (repeat first|simp only[ww]|apply xa;simp+decide only[go_sem,c1,ai,hx,hw,gk];rfl;kernel_rfl)
   refine a1m (i+1) ?_ (by omega) (by omega)
   (simp+decide only[go_sem,a01,a00,b5h]<;>rfl)
  ·obtain rfl:i=l.length:=by omega
   have c1:¬(l.length:Int)<l.length:=by omega
   (repeat first|simp only[ww]|apply xa;simp+decide only[go_sem,c1];rfl;kernel_rfl)
   (apply fqb;simp+decide only[go_sem]<;>rfl)
theorem d3n(r:Rep)(l:List Nat)(hl:l.length<1000000)(hc:∀v∈l,v<=3) :
 sM 92 [sl r (l.map u8R),b5h] []=some (.bool false,[]):=by
 have h:=λH=>a0v (E:=L.env) (ah:=false) (call:=sM) (g:=139) (fs:=[]) (cs:=[]) (ar:=[sl r (l.map u8R),b5h]) (H:=H) (by kernel_rfl) (by kernel_rfl) rfl (by simp only[f1e,f1b,a04,a16];rfl) (c46 r l hl hc) rfl;have c1:¬(0:Int)<= -1:=by omega
 unfold b5h at h⊢
 (refine sv Tryz.f92 ?_;simp only[Tryz.f92,gS])
 (repeat first|simp only[ww]|apply xa;simp+decide only[go_sem,h,c1];rfl;kernel_rfl)
 (apply fqb;simp+decide only[go_sem]<;>rfl)
theorem c4i{d:Bool}(H:a03)(r:Rep)(l:List Nat)(hl:l.length<1000000)(hc:∀v∈l,v<=3):cl d 92 [sl r (l.map u8R),b5h] H=some (.bool false,H,[]):=cf (by simp only[f1e,f1b,a04,a16];rfl) (d3n r l hl hc) rfl
def vlR(x:Rep×List Nat):List AV:=[sl x.1 (x.2.map u8R)]
theorem d57(x:Rep×List Nat):a0d (vlR x)=[]:=by simp only[vlR,a04,a16,a0t,f1b]
theorem e29(l:List (Rep×List Nat)):FlatR (l.map vlR):=FlatR.map d57
theorem c4j{d:Bool}(ca cb:Rep)(a b:List Nat)(hl:a.length+b.length<=100000):cl d 93 [.slice 0 0 2 (some 2)] [some (.row 1 [[sl ca (a.map u8R)],[sl cb (b.map u8R)]])]=some (slU (a++b),[some (.row 1 [[sl ca (a.map u8R)],[sl cb (b.map u8R)]])],[0]):=by have hf:FlatR [[sl ca (a.map u8R)],[sl cb (b.map u8R)]]:=FlatR.cons (by simp only[a04,a16,a0t,f1b]) (FlatR.cons (by simp only[a04,a16,a0t,f1b]) FlatR.nil);exact a2g (E:=L.env) (ah:=d) (call:=sM) (g:=93) (fs:=[]) (cs:=[]) (ar:=[.slice 0 0 2 (some 2)]) (H:=[some (.row 1 [[sl ca (a.map u8R)],[sl cb (b.map u8R)]])]) (b:=0) (by kernel_rfl) (by kernel_rfl) rfl rfl (a0p hf) (FlatO.row hf) rfl (au:=[.slice 0 0 2 (some 2)]) (by simp only[f1e,f1b,f1a,f1g,a2b]) (d3o ca cb a b hl) (d5r _)
theorem d5g(c:Cir)(hc:c.wf){k m:Nat}(ht:Tio c k m)(ra rb:Rep)(A B:List (Rep×List Nat))(gp:A.length<=1000)(lZ:A.length=B.length)(hA:∀a∈A,a.2.length=k∧∀v∈a.2,v<=3)(hB:∀a∈B,a.2.length=m∧∀v∈a.2,v<=3) :
 sM 44 [.agg c.enc,sl ra (A.map vlR),sl rb (B.map vlR)] []=some (.int .i64 0,[]):=by
 obtain⟨t1,t2,t3,t4,t5,t6⟩:=ht;have hn:=hc.len;have bw:=λ(d:Bool) (H:a03)=>a3q (d:=d) H c (by omega);obtain⟨r0,e0⟩:=a4g (kinds c.nodes 0);rw[e0,t1]at bw;simp only[Cir.enc]at bw⊢;have c1:¬(1024:Int)<A.length:=by omega
 have c2:B.length=A.length:=lZ.symm;have i4:∀π:Nat->Option Nat,a0g π (.row 4 [ce c]) = .row 4 [ce c]:=λπ=>by simp+decide only[go_sem]
 (refine sv Tryz.f44 ?_;simp only[Tryz.f44,gS])
 (repeat first|simp only[ww]|apply xa;simp+decide only[go_sem,bw,c1,c2,c10,f3b];rfl;kernel_rfl)
 refine a0m (σ:=Nat) kp44_1 (λi=>[(1,sl ra (A.map vlR)),(2,sl rb (B.map vlR)),(3,.ptr 0 0 0),(7,.int .i64 k),(24,.int .i64 A.length),(25,.int .i64 i)])
  (λi=>[some (.row 4 [ce c])]) (λi=>A.length-i) (λi=>i<=A.length) 0 ?_ (f2i _) ?_
 ·(simp+decide only[go_sem,a01,a00]<;>rfl)<;>rfl
 ·intro i hi;by_cases ai:i<A.length
  ·have d1:(i:Int)<A.length:=by omega
   have aS:=wI1 (n:=i) (by omega);have dy:i<B.length:=by omega
   obtain⟨a,ha⟩:∃a,A[i]?=some a:=⟨_,z9e ai⟩
   obtain⟨b,hb⟩:∃b,B[i]?=some b:=⟨_,z9e dy⟩
   obtain⟨a1,a2⟩:=hA a (c11 ha);obtain⟨b1,b2⟩:=hB b (c11 hb);have mJ:vlR a=[sl a.1 (a.2.map u8R)]:=rfl;have oz:vlR b=[sl b.1 (b.2.map u8R)]:=rfl
   (repeat first|simp only[ww]|apply xa;simp+decide only[go_sem,d1,ai,dy,ha,hb,mJ,oz,a1,b1,t4,aS,c10];rfl;kernel_rfl)
   refine a1m (i+1) ?_ (by omega) (by omega)
   (simp+decide only[go_sem,a01,a00]<;>rfl)<;>rfl
  ·obtain rfl:i=A.length:=by omega
   have d1:¬(A.length:Int)<A.length:=by omega
   (repeat first|simp only[ww]|apply xa;simp+decide only[go_sem,d1,c10];rfl;kernel_rfl)
   refine a0m (σ:=Nat) kp44_3 (λi=>[(1,sl ra (A.map vlR)),(2,sl rb (B.map vlR)),(48,.int .i64 A.length),(49,.int .i64 i)])
    (λi=>[]) (λi=>A.length-i) (λi=>i<=A.length) 0 ?_ (f2i _) ?_
   ·(simp+decide only[go_sem,a01,a00]<;>rfl)<;>rfl
   ·intro i hi;by_cases ai:i<A.length
    ·have d1:(i:Int)<A.length:=by omega
     have aS:=wI1 (n:=i) (by omega);have dy:i<B.length:=by omega
     obtain⟨a,ha⟩:∃a,A[i]?=some a:=⟨_,z9e ai⟩
     obtain⟨b,hb⟩:∃b,B[i]?=some b:=⟨_,z9e dy⟩
     obtain⟨a1,a2⟩:=hA a (c11 ha);obtain⟨b1,b2⟩:=hB b (c11 hb);have mJ:vlR a=[sl a.1 (a.2.map u8R)]:=rfl;have oz:vlR b=[sl b.1 (b.2.map u8R)]:=rfl;have tN:=λ(d:Bool)=>c4j (d:=d) a.1 b.1 a.2 b.2 (by omega);have aw:a.2++b.2≠[]:=by intro e;have h2:=(f8e.1 e).1;rw[h2,f1h]at a1;omega
     rw[d92 aw]at tN;have mF:=λ(d:Bool) (H:a03)=>c4i (d:=d) H (some none) (a.2++b.2) (by rw[f2n];omega) (λv hv=>by rcases f4s.1 hv with h|h;exact a2 v h;exact b2 v h);simp only[a5s,b5h,f2t]at mF
     (repeat first|simp only[ww]|apply xa;simp+decide only[go_sem,d1,ai,dy,ha,hb,mJ,oz,tN,mF,aS,c10];rfl;kernel_rfl)
     refine a1m (i+1) ?_ (by omega) (by omega)
     (simp+decide only[go_sem,a01,a00]<;>rfl)<;>rfl
    ·obtain rfl:i=A.length:=by omega
     have d1:¬(A.length:Int)<A.length:=by omega
     (repeat first|simp only[ww]|apply xa;simp+decide only[go_sem,d1,c10];rfl;kernel_rfl)
     (apply fqb;simp+decide only[go_sem]<;>rfl)
theorem b6v{d:Bool}{H:a03}(c:Cir)(hc:c.wf){k m:Nat}(ht:Tio c k m){ra rb:Rep}{A B:List (Rep×List Nat)}(gp:A.length<=1000)(lZ:A.length=B.length)(hA:∀a∈A,a.2.length=k∧∀v∈a.2,v<=3)(hB:∀a∈B,a.2.length=m∧∀v∈a.2,v<=3){V W:AV}
 (hV:a36 0 false (a3k (a02 H) 0 12) V=some (sl ra (A.map vlR)))(hW:a36 0 false (a3k (a02 H) 0 12) W=some (sl rb (B.map vlR))) :
 cl d 44 [.agg c.enc,V,W] H=some (.int .i64 0,H,List.range H.length):=
 a69 (args:=[.agg c.enc,V,W]) (au:=[.agg c.enc,sl ra (A.map vlR),sl rb (B.map vlR)]) (by kernel_rfl) (by kernel_rfl) rfl (by rw[a3r,a0i _ _ _ (.agg c.enc) (by rw[a0n];exact a4c c),a3r,hV,a3r,hW];rfl) (d5g c hc ht ra rb A B gp lZ hA hB) rfl rfl
def tmR:List AV:=[.str [116],.int .i64 100,.int .i64 0,.int .i64 30,.int .i64 60,.int .i64 90]
def vcR(s:List UInt8):List AV:=[.int .i64 0,.str s,.int .i64 1]
def c0q(vs:List (List UInt8)):AV:=match vs with|[]=>.nilslice|v::r=>.islice ((v::r).map vcR) (some (r.length+1))
def b67(sg:List Sgn)(vs:List (List UInt8)):List AV:=[.islice (sg.map Sgn.row) (some sg.length),.islice [tmR] (some 1),c0q vs]
def cyc(a b:List Nat):List UInt8:=a.map (a4o 48 49)++b.map (a4o 76 72)
def d3j(A B:List (Rep×List Nat)):List (List UInt8):=List.zipWith (λa b=>cyc a.2 b.2) A B
theorem b9w{A B:List (Rep×List Nat)}{i:Nat}{a b:Rep×List Nat}(ha:A[i]?=some a)(hb:B[i]?=some b):(d3j A B)[i]?=some (cyc a.2 b.2):=by unfold d3j;rw[List.getElem?_zipWith,ha,hb]
theorem b9v{A B:List (Rep×List Nat)}(h:A.length=B.length):(d3j A B).length=A.length:=by unfold d3j;rw[List.length_zipWith];omega
theorem b0i(l:List (List UInt8)):FlatR (l.map vcR):=FlatR.map λ_=>rfl
theorem b1h(l:List (List UInt8)):refs (c0q l)=[]:=by cases l<;>rfl
theorem b4f(sg:List Sgn)(vs:List (List UInt8)):a0d (b67 sg vs)=[]:=by simp only[b67,a04,b1h,b4b,a0t,f1b]
theorem c9w:sM 46 [.nilslice] []=some (.nilslice,[]):=by
 (refine sv Tryz.f46 ?_;simp only[Tryz.f46,gS])
 (repeat first|simp only[ww]|apply xa;simp+decide only[go_sem];rfl;kernel_rfl)
 (apply fqb;simp+decide only[go_sem]<;>rfl)
theorem d58(n:Nat)(aa:List (List AV))(hf:FlatR aa):sM 46 [.slice 0 0 n none] [some (.row 3 aa)]=some (.slice 0 0 n (some n),[some (.row 3 aa)]):=by
 have h1:=λπ=>a05 π hf
 (refine sv Tryz.f46 ?_;simp only[Tryz.f46,gS])
 (repeat first|simp only[ww]|apply xa;simp+decide only[go_sem];rfl;kernel_rfl)
 (apply fqb;simp+decide only[go_sem,h1]<;>rfl)
theorem c76{d:Bool}{H:a03}{b n:Nat}{aa:List (List AV)}(hf:FlatR aa)(hb:a02 H b=some (.row 3 aa)):cl d 46 [.slice b 0 n none] H=some (.slice b 0 n (some n),H,[b]):=by have h:=a3h (E:=L.env) (ah:=d) (call:=sM) (g:=46) (fs:=[]) (cs:=[]) (ar:=[.slice b 0 n none]) (H:=H) (b:=b) (by kernel_rfl) (by kernel_rfl) rfl hb (a0p hf) (FlatO.row hf) rfl (au:=[AV.slice 0 0 n none]) (by simp only[f1e,f1b,f1a,f1g,a2b]) (d58 n aa hf) (FlatO.row hf) (a5c b 0 _ n _);rw[a9c hb]at h;exact h
theorem c33{d:Bool}(H:a03):cl d 46 [.nilslice] H=some (.nilslice,H,[]):=cf rfl c9w rfl
theorem e2d{P:Nat->Prop}(h:P 0∧P 1∧P 2∧P 3∧P 4∧P 5∧P 6∧P 7∧P 8∧P 9∧P 10∧P 11∧P 12∧P 13∧P 14):∀i,i<15->P i:=by
 intro i hi;have:i=0∨i=1∨i=2∨i=3∨i=4∨i=5∨i=6∨i=7∨i=8∨i=9∨i=10∨i=11∨i=12∨i=13∨i=14:=by omega
 rcases this with rfl|rfl|rfl|rfl|rfl|rfl|rfl|rfl|rfl|rfl|rfl|rfl|rfl|rfl|rfl<;>simp only[h]
theorem d40:∀n:Nat,n<15->sM 55 [.int .i64 n] []=some (.islice (List.replicate n [.int .u8 2]) (some n),[]):=e2d (by refine⟨?_,?_,?_,?_,?_,?_,?_,?_,?_,?_,?_,?_,?_,?_,?_⟩<;>exact a0h (E:=L.env) a0q 60 (by kernel_rfl))
theorem c4o{d:Bool}(H:a03)(n:Nat)(hn:n<15):cl d 55 [.int .i64 n] H=some (.islice (List.replicate n [.int .u8 2]) (some n),H,[]):=cf rfl (d40 n hn) rfl
def b19(c:Cir):Pat:=⟨some (some (kinds c.nodes 0).length),List.replicate (kinds c.nodes 0).length 2,some (some (kinds c.nodes 14).length),List.replicate (kinds c.nodes 14).length 2⟩
theorem d05(c:Cir)(hc:c.wf):sM 22 [.agg c.enc] []=some (.agg (b19 c).enc,[]):=by
 have hn:=hc.len;have bw:=λ(d:Bool) (H:a03)=>a3q (d:=d) H c (by omega);have az:=λ(d:Bool) (H:a03)=>a6d (d:=d) H c (by omega);have hb:=λ(d:Bool) (H:a03) (n:Nat) (h:n<15)=>c4o (d:=d) H n h;obtain⟨r0,e0⟩:=a4g (kinds c.nodes 0);obtain⟨r1,e1⟩:=a4g (kinds c.nodes 14);have k0:=a4d c.nodes 0;have k1:=a4d c.nodes 14;rw[e0]at bw;rw[e1]at az;have ia:=λ(d:Bool) (H:a03)=>hb d H (kinds c.nodes 0).length (by omega);have cO:=λ(d:Bool) (H:a03)=>hb d H (kinds c.nodes 14).length (by omega);have hr:∀n:Nat,List.map u8R (List.replicate n 2)=List.replicate n [.int .u8 2]:=λn=>by rw[f8y];rfl
 have fi:(b19 c).enc=[.islice (List.replicate (kinds c.nodes 0).length [.int .u8 2]) (some (kinds c.nodes 0).length),.islice (List.replicate (kinds c.nodes 14).length [.int .u8 2]) (some (kinds c.nodes 14).length)]:=by unfold b19 Pat.enc;rw[hr,hr,a5s,a5s]
 rw[fi];simp only[Cir.enc]at bw az⊢
 (refine sv Tryz.f22 ?_;simp only[Tryz.f22,gS])
 (repeat first|simp only[ww]|apply xa;simp+decide only[go_sem,bw,az,ia,cO,c10];rfl;kernel_rfl)
 (apply fqb;simp+decide only[go_sem]<;>rfl)
end Go.UInst
