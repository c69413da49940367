/- Part of a proof. No condition. -/
import Derived.Test.YtmiegcjnimlbmaaGreatDoorUGa
import Derived.Test.YtmiegcjnimlbmaaGreatDoorUNe
import Derived.Test.YtmiegcjnimlbmaaGreatDoorULives
import Derived.Test.YtmiegcjnimlbmaaGreatDoorAxD
import Derived.Test.YtmiegcjnimlbmaaGreatDoorAxA
import Derived.Test.YtmiegcjnimlbmaaGreatDoorUIn
set_option linter.unusedSimpArgs false
set_option linter.unusedVariables false
namespace Go.UInst
open Go.Proofs Go.Ax Go.Pc
set_option maxRecDepth 100000
/- a circuit a3r memory -/
theorem d3b(x:CX)(hx:x.ok):sem L.env Mf 15 [.agg x.enc] []=some (.agg (a8p x).cir.enc,[]):=by
 have go:(a8p x).ok:=⟨hx.1,hx.2,hx.3,hx.4,hx.5,hx.6⟩
 have hc:=λH=>d82 (d:=false) H (a8p x) go rfl;generalize(a8p x).cir=c at hc;simp only[go_sem,a8p]at hc;simp only[Cir.enc]at hc
 (refine sv Tryz.f15 ?_;simp only[Tryz.f15,gS])
 (repeat first|simp only[ww]|(apply xa;simp+decide only[go_sem,hc];rfl;kernel_rfl))
 (apply fqb;simp+decide only[go_sem,Cir.enc]<;>rfl)
theorem c5g{d:Bool}(H:a03)(x:CX)(hx:x.ok):a0a L.env d (sem L.env Mf) (.func (.func 15) [] []) [.agg x.enc] H=some (.agg (a8p x).cir.enc,H,[]):=a04 (by kernel_rfl) (by kernel_rfl) rfl (by simp only[go_sem]) (d3b x hx) (a2i _)
/- the inputs of a sequence of patterns -/
def inR(q:Pat):List AV:=[sl q.ic (q.ins.map u8R)]
attribute [go_sem] List.getElem?_map
def oS(j:Nat):List UInt8:=[111,UInt8.ofNat (48+j)]
/- names -/
theorem e5u{P:Nat→Prop}(h0:P 0)(h1:P 1)(h2:P 2)(h3:P 3):∀i,i<4→P i:=by
 intro i hi;have:i=0∨i=1∨i=2∨i=3:=by omega
 rcases this with rfl|rfl|rfl|rfl<;>assumption
theorem d7x:∀i:Nat,i<4→sem L.env Mf 14 [.str (a2h i)] []=some (.bool true,[]):=e5u (a0o (E:=L.env) a0m 60 (by kernel_rfl)) (a0o (E:=L.env) a0m 60 (by kernel_rfl)) (a0o (E:=L.env) a0m 60 (by kernel_rfl)) (a0o (E:=L.env) a0m 60 (by kernel_rfl))
theorem d7w:∀i:Nat,i<4→sem L.env Mf 14 [.str (oS i)] []=some (.bool true,[]):=e5u (a0o (E:=L.env) a0m 60 (by kernel_rfl)) (a0o (E:=L.env) a0m 60 (by kernel_rfl)) (a0o (E:=L.env) a0m 60 (by kernel_rfl)) (a0o (E:=L.env) a0m 60 (by kernel_rfl))
theorem d8p:∀i:Nat,i<4→sem L.env Mf 36 [.int .i64 i] []=some (.str [UInt8.ofNat (48+i)],[]):=e5u (a0o (E:=L.env) a0m 60 (by kernel_rfl)) (a0o (E:=L.env) a0m 60 (by kernel_rfl)) (a0o (E:=L.env) a0m 60 (by kernel_rfl)) (a0o (E:=L.env) a0m 60 (by kernel_rfl))
theorem c9a{d:Bool}(H:a03)(i:Nat)(hi:i<4):a0a L.env d (sem L.env Mf) (.func (.func 36) [] []) [.int .i64 i] H=some (.str [UInt8.ofNat (48+i)],H,[]):=a04 (by kernel_rfl) (by kernel_rfl) rfl rfl (d8p i hi) rfl
def b8g(s:List UInt8):Prop:=sem L.env Mf 14 [.str s] []=some (.bool true,[])
theorem b5m{d:Bool}{s:List UInt8}(h:b8g s)(H:a03):a0a L.env d (sem L.env Mf) (.func (.func 14) [] []) [.str s] H=some (.bool true,H,[]):=a04 (by kernel_rfl) (by kernel_rfl) rfl rfl h rfl
/- signals -/
structure Sgn where
 nm:List UInt8
 dir:Nat
def Sgn.row(s:Sgn):List AV:=[.str s.nm,.int .u8 s.dir]
def c2x:AV:=.func (.func 38) [] []
theorem d7e(s:Sgn)(h:b8g s.nm):sem L.env Mf 38 [.agg s.row] []=some (.bool false,[]):=by
 have hn:=λH=>b5m (d:=false) h H;simp only[Sgn.row]
 (refine sv Tryz.f38 ?_;simp only[Tryz.f38,gS])
 (repeat first|simp only[ww]|(apply xa;simp+decide only[go_sem,hn];rfl;kernel_rfl))
 (apply fqb;simp+decide only[go_sem]<;>rfl)
theorem c7p{d:Bool}(H:a03)(s:Sgn)(h:b8g s.nm):a0a L.env d (sem L.env Mf) (.func (.func 38) [] []) [.agg s.row] H=some (.bool false,H,[]):=a04 (by kernel_rfl) (by kernel_rfl) rfl rfl (d7e s h) rfl
theorem a57(l:List Sgn):FlatR (l.map Sgn.row):=FlatR.map λ_=>rfl
theorem c9n(cp:Option Nat)(l:List Sgn)(hl:l.length<1000000)(hc:∀v∈l,b8g v.nm) :
 sem L.env Mf 88 [.islice (l.map Sgn.row) cp,c2x] []=some (.int .i64 (-1),[]):=by
 unfold c2x
 (refine sv Tryz.f88 ?_;simp only[Tryz.f88,gS])
 (repeat first|simp only[ww]|(apply xa;simp+decide only[go_sem];rfl;kernel_rfl))
 refine a0l (σ:=Nat) kp88_0 (λi=>[(0,.islice (l.map Sgn.row) cp),(1,c2x),(7,.int .i64 l.length),(8,.int .i64 i)])
  (λ_=>[]) (λi=>l.length-i) (λi=>i≤l.length) 0 ?_ (e8e _) ?_
 ·unfold c2x
  (simp+decide only[go_sem,a01,a00,c10]<;>rfl)
 ·intro i hi;unfold c2x;by_cases aj:i<l.length
  ·obtain⟨x,hx⟩:∃x,l[i]?=some x:=⟨_,z9e aj⟩
   have c1:(i:Int)<l.length:=by omega
   have hw:=wI1 (n:=i) (by omega);have gX:=λH=>c7p (d:=false) H x (hc x (c11 hx));have hr:x.row=[.str x.nm,.int .u8 x.dir]:=rfl;rw[hr]at gX
   (repeat first|simp only[ww]|(apply xa;simp+decide only[go_sem,c1,aj,hx,hr,hw,gX,c10];rfl;kernel_rfl))
   refine a25 (i+1) ?_ (by omega) (by omega)
   (simp+decide only[go_sem,a01,a00,c2x]<;>rfl)
  ·obtain rfl:i=l.length:=by omega
   have c1:¬(l.length:Int)<l.length:=by omega
   (repeat first|simp only[ww]|(apply xa;simp+decide only[go_sem,c1];rfl;kernel_rfl))
   (apply fqb;simp+decide only[go_sem]<;>rfl)
theorem c64(cp:Option Nat)(l:List Sgn)(hl:l.length<1000000)(hc:∀v∈l,b8g v.nm) :
 sem L.env Mf 37 [.islice (l.map Sgn.row) cp,c2x] []=some (.bool false,[]):=by
 have h:=λH=>a04 (E:=L.env) (ag:=false) (call:=sem L.env Mf) (g:=88) (fs:=[]) (cs:=[]) (ar:=[.islice (l.map Sgn.row) cp,c2x]) (H:=H) (by kernel_rfl) (by kernel_rfl) rfl (by rfl) (c9n cp l hl hc) rfl;have c1:¬(0:Int)≤ -1:=by omega
 unfold c2x at h⊢
 (refine sv Tryz.f37 ?_;simp only[Tryz.f37,gS])
 (repeat first|simp only[ww]|(apply xa;simp+decide only[go_sem,h,c1];rfl;kernel_rfl))
 (apply fqb;simp+decide only[go_sem]<;>rfl)
theorem c65{d:Bool}{H:a03}{b:Nat}(l:List Sgn)(hl:l.length<1000000)(hc:∀v∈l,b8g v.nm)(hb:a02 H b=some (.row 2 (l.map Sgn.row))) :
 a0a L.env d (sem L.env Mf) (.func (.func 37) [] []) [.slice b 0 l.length none,c2x] H=some (.bool false,H,List.range H.length):=by
 refine a6p (args:=[.slice b 0 l.length none,c2x]) (au:=[.islice (l.map Sgn.row) none,c2x]) (by kernel_rfl) (by kernel_rfl) rfl ?_ (v:=.bool false) (H1:=[]) (c64 none l hl hc) rfl rfl;have h2:=a12 (m:=0) (d:=a4e (a02 H) 0 11) (a57 l);have h4:((l.map Sgn.row).drop 0).take l.length=l.map Sgn.row:=by rw[f0u];exact e8b (by simp)
 unfold c2x;simp+decide only[a3m,a5s,a4p,hb,a95,a0g,h4,h2,c10,e9y,e9k,f3b,decide_false,e9i,e9q];rfl
theorem d2j(n:Nat)(aa:List (List AV))(hf:FlatR aa):sem L.env Mf 39 [.slice 0 0 n none] [some (.row 2 aa)]=some (.slice 0 0 n (some n),[some (.row 2 aa)]):=by
 have h1:=λπ=>a05 π hf
 (refine sv Tryz.f39 ?_;simp only[Tryz.f39,gS])
 (repeat first|simp only[ww]|(apply xa;simp+decide only[go_sem];rfl;kernel_rfl))
 (apply fqb;simp+decide only[go_sem,h1]<;>rfl)
theorem c4v{d:Bool}{H:a03}{b n:Nat}{aa:List (List AV)}(hf:FlatR aa)(hb:a02 H b=some (.row 2 aa)):a0a L.env d (sem L.env Mf) (.func (.func 39) [] []) [.slice b 0 n none] H=some (.slice b 0 n (some n),H,[b]):=by have h:=a2y (E:=L.env) (ag:=d) (call:=sem L.env Mf) (g:=39) (fs:=[]) (cs:=[]) (ar:=[.slice b 0 n none]) (H:=H) (b:=b) (by kernel_rfl) (by kernel_rfl) rfl hb (a0k hf) (FlatO.row hf) rfl (au:=[AV.slice 0 0 n none]) (by simp only[e7l,e7i,e12,e7j,a1p]) (d2j n aa hf) (FlatO.row hf) (a4r b 0 _ n _);rw[a6u hb]at h;exact h
/- a set of names -/
def stO(l:List (List UInt8)):AObj:=.map (l.map .str) (List.replicate l.length (.bool true)) (List.range l.length) l.length
theorem c0x(s:List UInt8):∀(l:List (List UInt8)) (b:Nat),s∉l→a1v (aeq L.env 6 9) (.str s) (l.map .str) b=some none
 | [],b,_=>rfl
 |t::l,b,h=>by
  simp only[e9m,not_or]at h;have aw:(s==t)=false:=by rw[f0q];exact h.1
  simp only[e12,a1v,eqS,aw,e9q];exact c0x s l (b+1) h.2
theorem d7b{h:FHeap}{b:Nat}{l:List (List UInt8)}{s:List UInt8}(hb:h b=some (stO l))(hs:s∉l):a5v L.env h 122 (.map b) (.str s) false=some (.bool false):=by
 have hu:L.env.und 122=some (.map 9 4):=by kernel_rfl
 have hk:(b9j L.env 9&&b60 L.env 9 (.str s))=true:=by kernel_rfl
 have hz:L.env.zero 4=some [.bool false]:=by kernel_rfl
 have nX:(L.env.und 4).map a26=some false:=by kernel_rfl
 obtain⟨d,hd,tI⟩:=a07 nX;have hm:b1l h (.map b)=some (l.map .str,List.replicate l.length (.bool true)):=by simp only[b1l,hb,stO]
 unfold a5v;simp only[hu,hk,e9i,hz,hd,hm,c0x s l 0 hs,tI,e9q]
theorem d5r{h:FHeap}{b:Nat}{l:List (List UInt8)}{s:List UInt8}(hb:h b=some (stO l))(hs:s∉l):a1y L.env h 122 (.map b) (.str s) (.bool true)=some (.set b (stO (l++[s]))):=by
 have hu:L.env.und 122=some (.map 9 4):=by kernel_rfl
 have hk:(b9j L.env 9&&b60 L.env 9 (.str s))=true:=by kernel_rfl
 have hp:a8x L.env h 122 (.map b) (.str s)=some (b,l.map .str,List.replicate l.length (.bool true),List.range l.length,l.length,none):=by unfold a8x;simp only[hu,hk,e9i,hb,stO,c0x s l 0 hs]
 unfold a1y;rw[hp];simp only[stO,e8l,e12,e7j,e8i,e7g,e8c,f2r,List.replicate_succ']
theorem a92(l:List (List UInt8)):a0y (some (stO l))=[]:=by
 simp only[stO,a0y];have h1:∀l:List (List UInt8),a0d (l.map AV.str)=[]:=by intro l;induction l with|nil=>rfl|cons a l ih=>simp[a0d,refs,ih]
 have h2:∀n,a0d (List.replicate n (AV.bool true))=[]:=by intro n;induction n with|zero=>rfl|succ n ih=>simp[f2b,a0d,refs,ih]
 rw[h1,h2];rfl
theorem b58(π:Nat→Option Nat)(l:List (List UInt8)):a0e π (stO l)=stO l:=by have h:=a92 l;simp only[stO,a0y,f1o]at h;simp only[stO,a0e,a2t π h.1,a2t π h.2]
set_option maxHeartbeats 200000000
structure Tio(c:Cir)(k m:Nat):Prop where
 ins:kinds c.nodes 0=List.range k
 k1:1≤k
 k4:k≤4
 out:c.outs.length=m
 m1:1≤m
 m4:m≤4
def sgI(j:Nat):Sgn:=⟨a2h j,0⟩
def sgO(j:Nat):Sgn:=⟨oS j,1⟩
def sgs(k m:Nat):List Sgn:=(List.range k).map sgI++(List.range m).map sgO
theorem a3s(k m:Nat):(sgs k m).length=k+m:=by simp[sgs]
theorem e78(k:Nat):sgs k 0=(List.range k).map sgI:=by simp[sgs]
theorem e25(k j:Nat):sgs k (j+1)=sgs k j++[sgO j]:=by simp[sgs,f2r]
def nms(k m:Nat):List (List UInt8):=(sgs k m).map Sgn.nm
theorem e7t(k j:Nat):nms k (j+1)=nms k j++[oS j]:=by simp[nms,e25,sgO]
theorem e2y(i:Nat):nms (i+1) 0=nms i 0++[a2h i]:=by simp[nms,sgs,sgI,f2r]
theorem e26(i:Nat):sgs (i+1) 0=sgs i 0++[sgI i]:=by simp[sgs,f2r]
theorem d2z{i:Nat}(hi:i<14):a2h i∉nms i 0:=by unfold nms;rw[e78,f3e];intro h;obtain⟨j,hj,e⟩:=f0r.1 h;have hj:=f2g.1 hj;have:=b98 (i:=j) (j:=i) (by omega) hi e;omega
theorem e2v{i j:Nat}(hi:i<14)(hj:j<14)(h:oS i=oS j):i=j:=by unfold oS at h;simp only[List.cons.injEq,and_true,true_and]at h;have h1:=congrArg UInt8.toNat h;simp only[UInt8.toNat_ofNat']at h1;omega
theorem c8g{k j:Nat}(hj:j<14):oS j∉nms k j:=by
 unfold nms sgs;rw[e8l,f3e,f3e];intro h;rcases e9s.1 h with h|h
 ·obtain⟨i,_,e⟩:=f0r.1 h;have:a2h i=oS j:=e;unfold a2h oS at this;simp at this
 ·obtain⟨i,hi,e⟩:=f0r.1 h;have hi:=f2g.1 hi;have:=e2v (i:=i) (j:=j) (by omega) hj e;omega
theorem c2w{k m:Nat}(hk:k≤4)(hm:m≤4):∀s∈sgs k m,b8g s.nm:=by
 intro s hs;unfold sgs at hs;rcases e9s.1 hs with h|h
 ·obtain⟨i,hi,rfl⟩:=f0r.1 h;exact d7x i (by have:=f2g.1 hi;omega)
 ·obtain⟨i,hi,rfl⟩:=f0r.1 h;exact d7w i (by have:=f2g.1 hi;omega)
theorem e2w(j:Nat):([111]++[UInt8.ofNat (48+j)]:List UInt8)=oS j:=rfl
theorem c4s(c:Cir)(hc:c.wf){k m:Nat}(ht:Tio c k m):sem L.env Mf 11 [.agg c.enc] []=some (.tuple [.islice ((sgs k m).map Sgn.row) (some (k+m)),.int .i64 0],[]):=by
 obtain⟨t1,t2,t3,t4,t5,t6⟩:=ht;have hn:=hc.len;have bA:=λ(d:Bool) (H:a03)=>b32 (d:=d) H c hc;have bX:=λ(d:Bool) (H:a03)=>a3u (d:=d) H c (by omega);have h15:kinds c.nodes 15=[]:=by unfold kinds a3g;rw[List.filter_eq_nil_iff];intro i hi;have dp:=f2g.1 hi;have:=hc.kind _ (List.getElem_mem dp);rw[a16 (z9e dp)];simp only[e9j];omega
 have oT:=λ(d:Bool) (X:Option AObj)=>b1x (d:=d) (H:=[X,some (.row 1 [[.int .u8 15]])]) (b:=1) c (k:=15) rfl (by omega) rfl;rw[h15]at oT;have rR:k≤c.nodes.length:=by have:=a3q c.nodes 0;rw[t1]at this;simpa using this
 have jv:∀i,i<k→c.names[i]?=some (a2h i):=λi hi=>by rw[hc.names,e8a,f2d (by omega)];rfl
 have dw:c.names.length=c.nodes.length:=by rw[hc.names];simp
 obtain⟨r0,e0⟩:=a4d (kinds c.nodes 0);rw[e0,t1]at bX;have cT:∀π:Nat→Option Nat,a0e π (.row 4 [[sl c.nc (c.nodes.map Nd.enc),sl c.mc (c.names.map a1c),.nilslice,sl c.oc (c.outs.map a0f)]]) = .row 4 [[sl c.nc (c.nodes.map Nd.enc),sl c.mc (c.names.map a1c),.nilslice,sl c.oc (c.outs.map a0f)]]:=λπ=>by simp+decide only[go_sem]
 have cS:a0y (some (.row 4 [[sl c.nc (c.nodes.map Nd.enc),sl c.mc (c.names.map a1c),.nilslice,sl c.oc (c.outs.map a0f)]]))=[]:=by simp+decide only[go_sem]
 have ey:c9q [] = .nilslice:=rfl;rw[ey]at oT;simp only[Cir.enc]at bA bX oT⊢;have c1:¬((256:Int)<k+m):=by omega
 have hw:=w64 (n:=(k:Int)+m) (by omega) (by omega)
 (refine sv Tryz.f11 ?_;simp only[Tryz.f11,gS])
 (repeat first|simp only[ww]|(apply xa;simp+decide only[go_sem,bA,oT,bX,t4,c1,hw,c10,f0o];rfl;kernel_rfl))
 refine a0l (σ:=Nat) kp11_0 (λi=>[(1,.ptr 0 0 0),(6,.map 1),(7,grV 2 ((sgs i 0).map Sgn.row)),(38,sl r0 ((List.range k).map a0f)),(39,.int .i64 k),(40,.int .i64 i)])
  (λi=>some (.row 4 [[sl c.nc (c.nodes.map Nd.enc),sl c.mc (c.names.map a1c),.nilslice,sl c.oc (c.outs.map a0f)]])::some (stO (nms i 0))::grH 2 ((sgs i 0).map Sgn.row)) (λi=>k-i) (λi=>i≤k) 0 ?_ (e8e _) ?_
 ·have e1:sgs 0 0=[]:=rfl;have e2:nms 0 0=[]:=rfl;have e3:b31 L.env 122=stO []:=by kernel_rfl
  (simp+decide only[go_sem,a01,a00,e1,e2,e7j,a0p,a0q,a92,b58,e3]<;>rfl)<;>rfl
 ·intro i hi;by_cases aj:i<k
  ·have d1:(i:Int)<k:=by omega
   have aT:=wI1 (n:=i) (by omega);have hx:=jv i aj;have hU:i<c.names.length:=by omega
   have kv:(List.range k)[i]?=some i:=f2d aj;have kg:=λ(X:Option AObj) (R:a03)=>d5r (h:=a02 (X::some (stO (nms i 0))::R)) (b:=1) (l:=nms i 0) (s:=a2h i) rfl (d2z (by omega));rw[←e2y]at kg;have fk:=a3s i 0;cases i with
   |zero=>
    have e1:sgs 0 0=[]:=rfl;rw[e1]
    (repeat first|simp only[ww]|(apply xa;simp+decide only[go_sem,d1,aj,kv,hx,hU,aT,kg,e7j,a0p,a0q,c10,f0o];rfl;kernel_rfl))
    refine a25 1 ?_ (by omega) (by omega);have e2:(sgs 1 0).map Sgn.row=[[.str (a2h 0),.int .u8 0]]:=rfl;rw[e2]
    (simp+decide only[go_sem,a01,a00,a09,a0b,a92,b58,e8c]<;>rfl)<;>rfl
   |succ i=>
    have hs:=e26 (i+1);have eE:(sgs (i+1+1) 0).map Sgn.row=(sgs (i+1) 0).map Sgn.row++[[.str (a2h (i+1)),.int .u8 0]]:=by rw[hs,e8l];rfl
    have aw:(sgs (i+1) 0).map Sgn.row≠[]:=by intro e;have:=congrArg List.length e;rw[c10,fk]at this;simp at this
    have ik:(sgs (i+1+1) 0).map Sgn.row≠[]:=by rw[eE];simp
    have lB:((sgs (i+1) 0).map Sgn.row).length=i+1:=by rw[c10,fk]
    have gx:((sgs (i+1+1) 0).map Sgn.row).length=i+1+1:=by rw[c10,a3s]
    have aK:i+1+1≤1000000000:=by omega
    rw[a7e 2 aw,a7f 2 aw,lB];have hf:=a57 (sgs (i+1) 0);have h3:=a08 (a57 (sgs (i+1+1) 0));have h4:=λπ=>a05 π (a57 (sgs (i+1+1) 0));have o3:=a7e 2 ik;have qh:=a7f 2 ik;rw[gx]at o3;rw[eE]at h3 h4 o3 qh;generalize(sgs (i+1) 0).map Sgn.row=R0 at lB h3 h4 eE o3 qh
    (repeat first|simp only[ww]|(apply xa;simp+decide only[go_sem,d1,aj,kv,hx,hU,aT,kg,lB,aK,c10,f0o];rfl;kernel_rfl))
    refine a25 (i+1+1) ?_ (by omega) (by omega);rw[eE,o3,qh]
    (simp+decide only[go_sem,a01,a00,a92,b58,h3,h4]<;>rfl)<;>rfl
  ·obtain rfl:i=k:=by omega
   have d1:¬(i:Int)<i:=by omega
   have aw:(sgs i 0).map Sgn.row≠[]:=by intro e;have:=congrArg List.length e;rw[c10,a3s]at this;simp at this;omega
   have lB:((sgs i 0).map Sgn.row).length=i:=by rw[c10,a3s];omega
   rw[a7e 2 aw,a7f 2 aw,lB];have h3:=a08 (a57 (sgs i 0));have h4:=λπ=>a05 π (a57 (sgs i 0))
   (repeat first|simp only[ww]|(apply xa;simp+decide only[go_sem,d1,t4,c10];rfl;kernel_rfl))
   refine a0l (σ:=Nat) kp11_2 (λj=>[(6,.map 0),(7,.slice 1 0 (i+j) none),(62,.int .i64 m),(63,.int .i64 j)])
    (λj=>[some (stO (nms i j)),some (.row 2 ((sgs i j).map Sgn.row))]) (λj=>m-j) (λj=>j≤m) 0 ?_ (e8e _) ?_
   ·(simp+decide only[go_sem,a01,a00,a92,b58,h3,h4,f3y]<;>rfl)<;>rfl
   ·intro j hj;by_cases uF:j<m
    ·have d2:(j:Int)<m:=by omega
     have kY:=wI1 (n:=j) (by omega);have kH:=λ(d:Bool) (H:a03)=>c9a (d:=d) H j (by omega);have p9:=λ(R:a03)=>d7b (h:=a02 (some (stO (nms i j))::R)) (b:=0) (l:=nms i j) (s:=oS j) rfl (c8g (by omega));have kg:=λ(R:a03)=>d5r (h:=a02 (some (stO (nms i j))::R)) (b:=0) (l:=nms i j) (s:=oS j) rfl (c8g (by omega));rw[←e7t]at kg;have eE:(sgs i (j+1)).map Sgn.row=(sgs i j).map Sgn.row++[[.str (oS j),.int .u8 1]]:=by rw[e25,e8l];rfl
     have gx:((sgs i j).map Sgn.row).length=i+j:=by rw[c10,a3s]
     have aK:i+j+1≤1000000000:=by omega
     have h3:=a08 (a57 (sgs i j));have h4:=λπ=>a05 π (a57 (sgs i j));have h5:=a08 (a57 (sgs i (j+1)));have h6:=λπ=>a05 π (a57 (sgs i (j+1)));rw[eE]at h5 h6;have ho:=e2w j
     (repeat first|simp only[ww]|(apply xa;simp+decide only[go_sem,d2,kH,ho];rfl;kernel_rfl))
     refine a0l (σ:=Nat) kp11_4 (λ_=>[(6,.map 0),(7,.slice 1 0 (i+j) none),(11,.str (oS j)),(62,.int .i64 m),(63,.int .i64 j)])
      (λ_=>[some (stO (nms i j)),some (.row 2 ((sgs i j).map Sgn.row))]) (λ_=>0) (λ_=>True) 0 ?_ trivial ?_
     ·(simp+decide only[go_sem,a01,a00,a92,b58,h3,h4]<;>rfl)<;>rfl
     ·intro _ _;generalize(sgs i j).map Sgn.row=R0 at gx h3 h4 h5 h6 eE
      (repeat first|simp only[ww]|(apply xa;simp+decide only[go_sem,p9,kg,gx,aK,kY];rfl;kernel_rfl))
      refine a25 (j+1) ?_ (by omega) (by omega);rw[eE]
      (simp+decide only[go_sem,a01,a00,a92,b58,h5,h6]<;>rfl)<;>rfl
    ·obtain rfl:j=m:=by omega
     have d2:¬(j:Int)<j:=by omega
     have gx:((sgs i j).map Sgn.row).length=i+j:=by rw[c10,a3s]
     have al:=a3s i j;have cR:=λ(d:Bool) (X:Option AObj)=>c65 (d:=d) (H:=[X,some (.row 2 ((sgs i j).map Sgn.row))]) (b:=1) (sgs i j) (by omega) (c2w t3 t6) rfl;have cF:=λ(d:Bool) (X:Option AObj)=>c4v (d:=d) (H:=[X,some (.row 2 ((sgs i j).map Sgn.row))]) (b:=1) (n:=i+j) (a57 (sgs i j)) rfl;rw[al]at cR;have dT:=λm d=>a12 (m:=m) (d:=d) (a57 (sgs i j));have cX:((sgs i j).map Sgn.row).take (i+j)=(sgs i j).map Sgn.row:=e8b (by omega);unfold c2x at cR;generalize(sgs i j).map Sgn.row=R0 at gx cR cF dT cX
     (repeat first|simp only[ww]|(apply xa;simp+decide only[go_sem,d2,cR,cF];rfl;kernel_rfl))
     (apply fqb;simp+decide only[go_sem,dT,gx,cX]<;>rfl)
theorem a7p{d:Bool}(H:a03)(c:Cir)(hc:c.wf){k m:Nat}(ht:Tio c k m):a0a L.env d (sem L.env Mf) (.func (.func 11) [] []) [.agg c.enc] H=some (.tuple [.islice ((sgs k m).map Sgn.row) (some (k+m)),.int .i64 0],H,[]):=a04 (by kernel_rfl) (by kernel_rfl) rfl (by simp only[e7l,e7i];exact a45 c) (c4s c hc ht) rfl
theorem d48(l:List Nat):FlatR (l.map u8R):=FlatR.map λ_=>rfl
theorem e2l(l:List Nat):(l.map u8R).flatMap a0d=[]:=a08 (d48 l)
theorem e9e(π:Nat→Option Nat)(l:List Nat):(l.map u8R).map (λr=>r.map (ren π))=l.map u8R:=a05 π (d48 l)
theorem f0e(l:List Nat):((l.map u8R).all λr=>decide (r.length=1))=true:=by rw[e9r];intro r hr;obtain⟨x,_,rfl⟩:=f0r.1 hr;rfl
theorem e96(l:List Nat):((l.map u8R).all λr=>r.all AV.storable)=true:=by rw[e9r];intro r hr;obtain⟨x,_,rfl⟩:=f0r.1 hr;rfl
theorem e3e:sem L.env Mf 140 [.nilslice,.int .i64 0] []=some (.nilslice,[]):=by
 have w0:IntKind.i64.wrap ((0:Int)-0)=0:=by decide
 (refine sv Tryz.f140 ?_;simp only[Tryz.f140,gS])
 (repeat first|simp only[ww]|(apply xa;simp+decide only[go_sem,w0];rfl;kernel_rfl))
 (apply fqb;simp+decide only[go_sem]<;>rfl)
theorem e6q(k n:Nat)(h0:0<n)(hn:n≤100000):a2r L.env k 52 3 .nilslice (.int .i64 n)=some (.slice k 0 n none,.new (.row 1 (List.replicate n [.int .u8 0]))):=by
 obtain⟨m,rfl⟩:∃m,n=m+1:=⟨n-1,by omega⟩
 have hu:L.env.und 52=some (.slice 53):=by kernel_rfl
 have oJ:(L.env.und 3).any a2m=true:=by kernel_rfl
 obtain⟨dx,hx,hd⟩:∃dx,L.env.und 3=some dx∧a2m dx=true:=by
  cases h:L.env.und 3 with
  |none=>rw[h]at oJ;cases oJ
  |some dx=>rw[h]at oJ;exact⟨dx,rfl,oJ⟩
 have hz:L.env.zero 53=some [.int .u8 0]:=by kernel_rfl
 have hs:L.env.sz 53=1:=by kernel_rfl
 have hr:a28 L.env 53 (m+1)=true:=a69 (by omega) (by decide+kernel);unfold a2r;simp only[hu,hx,hd,hz,hs,f1q];have h1:decide (0≤((m+1:Nat):Int))=true:=e9w (by omega);have h2:(((m+1:Nat):Int)).toNat=m+1:=by omega
 have h3:Nat.blt 0 1=true:=rfl;simp only[h1,h2,h3,hr,e9i]
theorem e3d(n:Nat)(h0:0<n)(hn:n≤100000):sem L.env Mf 140 [.nilslice,.int .i64 n] []=some (.slice 0 0 0 none,[some (.row 1 (List.replicate n [.int .u8 0]))]):=by
 have c1:¬(n:Int)<0:=by omega
 have c2:(0:Int)<n:=by omega
 have w0:IntKind.i64.wrap ((0:Int)-0)=0:=by decide
 have hw:IntKind.i64.wrap ((n:Int)-0)=n:=by rw[w64 (by omega) (by omega)];omega
 have hz:=λk=>e6q k n h0 hn;have ha:apT L.env 52 3=none:=by kernel_rfl
 have hs:∀hp,a59 L.env hp 52 .nilslice none (some (.int .i64 0)) none=some .nilslice:=λhp=>by kernel_rfl
 (refine sv Tryz.f140 ?_;simp only[Tryz.f140,gS])
 (repeat first|simp only[ww]|(apply xa;simp+decide only[go_sem,c1,c2,w0,hw,hz,ha,hs];rfl;kernel_rfl))
 (apply fqb;simp+decide only[go_sem]<;>rfl)
def slU(l:List Nat):AV:=slF none (l.map u8R)
theorem d5w{l:List Nat}(h:l≠[]):slU l = .islice (l.map u8R) none:=by
 cases l with
 |nil=>exact absurd rfl h
 |cons a r=>rfl
theorem d2h(l:List Nat):refs (slU l)=[]:=by cases l<;>rfl
theorem c5p(H:a03):a0a L.env false (sem L.env Mf) (.func (.func 140) [] []) [.nilslice,.int .i64 0] H=some (.nilslice,H,[]):=a04 (by kernel_rfl) (by kernel_rfl) rfl rfl e3e rfl
theorem c9t(H:a03)(n:Nat)(h0:0<n)(hn:n≤100000):a0a L.env false (sem L.env Mf) (.func (.func 140) [] []) [.nilslice,.int .i64 n] H=some (.slice H.length 0 0 none,H++[some (.row 1 (List.replicate n [.int .u8 0]))],[]):=by
 have hc:=a1r (sem L.env Mf 140) [.nilslice,.int .i64 n] H (σ:=[]) rfl rfl rfl (au:=[.nilslice,.int .i64 n]) rfl (H0:=[]) rfl (e3d n h0 hn);have hf:FlatR (List.replicate n [AV.int .u8 0]):=λr hr=>by rw[(List.mem_replicate.1 hr).2];rfl
 refine a85 (by kernel_rfl) (by kernel_rfl) rfl (hc.trans ?_);have hr:=λπ=>a05 π hf;simp only[a6x,ren,a18,e8c,f0u,e12,e7j,e8d,a0e,hr];simp[Nat.blt];rfl
theorem d0n(ca cb:Option (Option Nat))(a b:List Nat)(hl:a.length+b.length≤100000):sem L.env Mf 93 [.slice 0 0 2 (some 2)] [some (.row 1 [[sl ca (a.map u8R)],[sl cb (b.map u8R)]])]=some (slU (a++b),[some (.row 1 [[sl ca (a.map u8R)],[sl cb (b.map u8R)]])]):=by
 suffices hs:∃r:AV×a03,(r=(slU (a++b),[some (.row 1 [[sl ca (a.map u8R)],[sl cb (b.map u8R)]])]))∧sem L.env Mf 93 [.slice 0 0 2 (some 2)] [some (.row 1 [[sl ca (a.map u8R)],[sl cb (b.map u8R)]])]=some r by obtain⟨r,rfl,h3⟩:=hs;exact h3
 have w1:IntKind.i64.wrap ((0:Int)+(a.length:Int))=(a.length:Int):=by rw[w64 (by omega) (by omega)];omega
 have w2:IntKind.i64.wrap ((a.length:Int)+(b.length:Int))=((a.length+b.length:Nat):Int):=by rw[w64 (by omega) (by omega)];omega
 have c1:¬(a.length:Int)<0:=by omega
 have c2:¬((a.length+b.length:Nat):Int)<0:=by omega
 (refine svE Tryz.f93 ?_;simp only[Tryz.f93,gS])
 (repeat first|simp only[ww]|(apply xa;simp+decide only[go_sem];rfl;kernel_rfl))
 refine a3j kp93_0 (λq F H1=>∃(i x:Int),((i=0∧x=0∧q=2)∨(i=1∧x=a.length∧q=1)∨(i=2∧x=(a.length+b.length:Nat)∧q=0))∧F=[(0,.slice 0 0 2 (some 2)),(3,.int .i64 x),(9,.slice 0 0 2 (some 2)),(10,.int .i64 2),(11,.int .i64 i)]∧H1=[some (.row 1 [[sl ca (a.map u8R)],[sl cb (b.map u8R)]])]) 2 ?_ ?_
 ·refine⟨_,_,?_,0,0,.inl ⟨rfl,rfl,rfl⟩,rfl,rfl⟩
  (simp+decide only[go_sem,a01,a00]<;>rfl)<;>rfl
 ·rintro q F H1 ⟨i,x,h,rfl,rfl⟩
  rcases h with ⟨rfl,rfl,rfl⟩|⟨rfl,rfl,rfl⟩|⟨rfl,rfl,rfl⟩
  ·(repeat first|simp only[ww]|(apply xa;simp+decide only[go_sem,w1,c1,c10];rfl;kernel_rfl))
   refine a0x 1 (by omega) ⟨_,_,?_,1,a.length,.inr (.inl ⟨rfl,rfl,rfl⟩),rfl,rfl⟩
   (simp+decide only[go_sem,a01,a00]<;>rfl)<;>rfl
  ·(repeat first|simp only[ww]|(apply xa;simp+decide only[go_sem,w2,c2,c10];rfl;kernel_rfl))
   refine a0x 0 (by omega) ⟨_,_,?_,2,(a.length+b.length:Nat),.inr (.inr ⟨rfl,rfl,rfl⟩),rfl,rfl⟩
   (simp+decide only[go_sem,a01,a00]<;>rfl)<;>rfl
  ·rcases Nat.eq_zero_or_pos (a.length+b.length)with hz|hz
   ·have ha:a=[]:=List.eq_nil_of_length_eq_zero (by omega);have hb:b=[]:=List.eq_nil_of_length_eq_zero (by omega);subst ha hb;have hg:=λH=>c5p H;simp only[e8c,f3y,Int.natCast_zero]
    (repeat first|simp only[ww]|(apply xa;simp+decide only[go_sem,hg];rfl;kernel_rfl))
    refine a3j kp93_2 (λq F H1=>∃(i:Int),((i=0∧q=2)∨(i=1∧q=1)∨(i=2∧q=0))∧F=[(6,.nilslice),(25,.slice 0 0 2 (some 2)),(26,.int .i64 2),(27,.int .i64 i)]∧H1=[some (.row 1 [[sl ca (([]:List Nat).map u8R)],[sl cb (([]:List Nat).map u8R)]])]) 2 ?_ ?_
    ·refine⟨_,_,?_,0,.inl ⟨rfl,rfl⟩,rfl,rfl⟩
     (simp+decide only[go_sem,a01,a00]<;>rfl)<;>rfl
    ·rintro q F H1 ⟨i,h,rfl,rfl⟩
     rcases h with ⟨rfl,rfl⟩|⟨rfl,rfl⟩|⟨rfl,rfl⟩
     ·(repeat first|simp only[ww]|(apply xa;simp+decide only[go_sem,e7j];rfl;kernel_rfl))
      refine a0x 1 (by omega) ⟨_,_,?_,1,.inr (.inl ⟨rfl,rfl⟩),rfl,rfl⟩
      (simp+decide only[go_sem,a01,a00,e7j]<;>rfl)<;>rfl
     ·(repeat first|simp only[ww]|(apply xa;simp+decide only[go_sem,e7j];rfl;kernel_rfl))
      refine a0x 0 (by omega) ⟨_,_,?_,2,.inr (.inr ⟨rfl,rfl⟩),rfl,rfl⟩
      (simp+decide only[go_sem,a01,a00,e7j]<;>rfl)<;>rfl
     ·(repeat first|simp only[ww]|(apply xa;simp+decide only[go_sem];rfl;kernel_rfl))
      refine b7p (vs:=[.nilslice]) (r:=(_,_)) (by simp+decide only[go_sem]) ?_ rfl;simp+decide only[go_sem,a1l]<;>rfl
   ·have hg:=λH=>c9t H (a.length+b.length) hz hl;have aw:a++b≠[]:=by intro e;rw[f1o]at e;rw[e.1,e.2]at hz;simp at hz
    generalize hR:List.replicate (a.length+b.length) [AV.int .u8 0]=R at hg;have kT:R.length=a.length+b.length:=by rw[←hR];simp
    have su:FlatR R:=λr hr=>by rw[←hR]at hr;rw[(List.mem_replicate.1 hr).2];rfl
    have dV:a.length≤1000000000:=by omega
    have eo:a.length+b.length≤1000000000:=by omega
    have cA:¬0=a.length+b.length:=by omega
    (repeat first|simp only[ww]|(apply xa;simp+decide only[go_sem,hg];rfl;kernel_rfl))
    refine a3j kp93_2 (λq F H1=>∃(i:Int) (n:Nat) (Q:List (List AV)),((i=0∧q=2∧n=0∧Q=R)∨(i=1∧q=1∧n=a.length∧Q=a.map u8R)∨(i=2∧q=0∧n=a.length+b.length∧Q=a.map u8R++b.map u8R))∧F=[(6,.slice 1 0 n none),(25,.slice 0 0 2 (some 2)),(26,.int .i64 2),(27,.int .i64 i)]∧H1=[some (.row 1 [[sl ca (a.map u8R)],[sl cb (b.map u8R)]]),some (.row 1 Q)]) 2 ?_ ?_
    ·refine⟨_,_,?_,0,0,R,.inl ⟨rfl,rfl,rfl,rfl⟩,rfl,rfl⟩
     (simp+decide only[go_sem,a01,a00,a08 su,a05 _ su]<;>rfl)<;>rfl
    ·rintro q F H1 ⟨i,n,Q,h,rfl,rfl⟩
     rcases h with ⟨rfl,rfl,rfl,rfl⟩|⟨rfl,rfl,rfl,rfl⟩|⟨rfl,rfl,rfl,rfl⟩
     ·(repeat first|simp only[ww]|(apply xa;simp+decide only[go_sem,f0e,e96,kT,dV,cA,e9y,c10,e8e];rfl;kernel_rfl))
      refine a0x 1 (by omega) ⟨_,_,?_,1,a.length,a.map u8R,.inr (.inl ⟨rfl,rfl,rfl,rfl⟩),rfl,rfl⟩
      (simp+decide only[go_sem,a01,a00,e2l,e9e]<;>rfl)<;>rfl
     ·(repeat first|simp only[ww]|(apply xa;simp+decide only[go_sem,f0e,e96,eo,c10];rfl;kernel_rfl))
      refine a0x 0 (by omega) ⟨_,_,?_,2,a.length+b.length,a.map u8R++b.map u8R,.inr (.inr ⟨rfl,rfl,rfl,rfl⟩),rfl,rfl⟩
      (simp+decide only[go_sem,a01,a00,e2l,e9e,f2t,e8l]<;>rfl)<;>rfl
     ·(repeat first|simp only[ww]|(apply xa;simp+decide only[go_sem];rfl;kernel_rfl))
      refine b7p (vs:=[.slice 1 0 (a.length+b.length) none]) (r:=(_,_)) (by simp+decide only[go_sem]) ?_ rfl;rw[d5w aw];have ht:List.take (a.length+b.length) (a.map u8R++b.map u8R)=a.map u8R++b.map u8R:=e8b (by simp);have lH:∀m d,a8v m d (a.map u8R++b.map u8R)=some (a.map u8R++b.map u8R):=λm d=>a12 m d ((d48 a).append (d48 b));have eu:a.length+b.length≤a.length+b.length:=e9k _;simp+decide only[go_sem,a1l,ht,lH,c10,e8i,e8l]<;>rfl
/- a list that is filled from its first element on -/
def upT(f:Nat→List AV)(z:List AV)(n i:Nat):List (List AV):=(List.range n).map λj=>if j<i then f j else z
section
variable {f:Nat→List AV}{z:List AV}{n i:Nat}
theorem c72:upT f z n 0=List.replicate n z:=by unfold upT;rw[show(λj:Nat=>if j<0 then f j else z)=λ_=>z from by funext j;rw[e8g (f4b j)],List.map_const',f0o]
theorem a66:(upT f z n i).length=n:=by simp[upT]
theorem c0p{j:Nat}(hj:j<n):(upT f z n i)[j]?=some (if j<i then f j else z):=by unfold upT;rw[e8a,f2d hj];rfl
theorem c2s(hi:i<n):(upT f z n i)[i]?=some z:=by rw[c0p hi,e8g (Nat.lt_irrefl i)]
theorem b2f(hi:i<n):(upT f z n i).set i (f i)=upT f z n (i+1):=by
 apply e9p;intro j;rw[e8n];by_cases hj:j<n
 ·rw[c0p hj,c0p hj,a66];by_cases h:i=j
  ·subst h;rw[e8j rfl,e8j hi,e8j (by omega)]
  ·rw[e8g h];by_cases h2:j<i
   ·rw[e8j h2,e8j (by omega)]
   ·rw[e8g h2,e8g (by omega)]
 ·have e:∀i,(upT f z n i)[j]?=none:=λi=>e8m (by rw[a66];omega);rw[e,e,e8g (by omega)]
theorem b6t:upT f z n n=(List.range n).map f:=by unfold upT;exact f0i λj hj=>by rw[e8j (f2g.1 hj)]
theorem a2o(hz:a0d z=[])(hf:∀j,a0d (f j)=[]):FlatR (upT f z n i):=FlatR.map λj=>by split;exact hf j;exact hz
end
theorem b5j{α:Type}(l:List α)(d:α):(List.range l.length).map (λj=>l.getD j d)=l:=by
 apply e9p;intro j;rw[e8a];by_cases h:j<l.length
 ·rw[f2d h,z9e h];simp[e9f,z9e h]
 ·rw[e8m (by simpa using h),e8m (by simpa using h)];rfl
/- cells -/
def b46(z o v:Nat):Nat:=if v=0 then z else if v=1 then o else 88
def a5c(z o v:Nat):UInt8:=UInt8.ofNat (b46 z o v)
theorem b6o(f:Nat→Nat):∀(l:List Nat),a5a (l.map λv=>[.int .u8 (f v:Nat)])=some (l.map λv=>UInt8.ofNat (f v))
 | []=>rfl
 |v::l=>by simp only[e12,a5a,b6o f l,Int.toNat_natCast]
theorem d4u(r:Rep)(vs:List Nat)(z o:Nat)(hl:vs.length<1000000):sem L.env Mf 45 [sl r (vs.map u8R),.int .u8 z,.int .u8 o] []=some (.str (vs.map (a5c z o)),[]):=by
 obtain⟨f,hf⟩:∃f:Nat→List AV,f=λj=>[.int .u8 (b46 z o (vs.getD j 0):Nat)]:=⟨_,rfl⟩
 have eh:∀j,a0d (f j)=[]:=λj=>by rw[hf];rfl
 have aK:vs.length≤1000000000:=by omega
 (refine sv Tryz.f45 ?_;simp only[Tryz.f45,gS])
 (repeat first|simp only[ww]|(apply xa;simp+decide only[go_sem,aK,c10];rfl;kernel_rfl))
 refine a0l (σ:=Nat) kp45_0 (λi=>[(1,.int .u8 z),(2,.int .u8 o),(7,.slice 0 0 vs.length (some vs.length)),(13,sl r (vs.map u8R)),(14,.int .i64 vs.length),(15,.int .i64 i)])
  (λi=>[some (.row 1 (upT f [.int .u8 0] vs.length i))]) (λi=>vs.length-i) (λi=>i≤vs.length) 0 ?_ (e8e _) ?_
 ·rw[←c72 (f:=f)];have h1:=a08 (a2o (f:=f) (z:=[.int .u8 0]) (n:=vs.length) (i:=0) rfl eh);have h2:=λπ=>a05 π (a2o (f:=f) (z:=[.int .u8 0]) (n:=vs.length) (i:=0) rfl eh)
  (simp+decide only[go_sem,a01,a00,h1,h2]<;>rfl)<;>rfl
 ·intro i hi;by_cases aj:i<vs.length
  ·obtain⟨v,hv⟩:∃v,vs[i]?=some v:=⟨_,z9e aj⟩
   have c1:(i:Int)<vs.length:=by omega
   have hw:=wI1 (n:=i) (by omega);have h1:=a08 (a2o (f:=f) (z:=[.int .u8 0]) (n:=vs.length) (i:=i+1) rfl eh);have h2:=λπ=>a05 π (a2o (f:=f) (z:=[.int .u8 0]) (n:=vs.length) (i:=i+1) rfl eh);have br:=c2s (f:=f) (z:=[.int .u8 0]) aj;have eu:=a66 (f:=f) (z:=[.int .u8 0]) (n:=vs.length) (i:=i);have aE:=b2f (f:=f) (z:=[.int .u8 0]) aj;have jW:f i=[.int .u8 (b46 z o v:Nat)]:=by rw[hf];simp only[e9f,hv,e9x]
   rw[jW]at aE;unfold b46 at aE;by_cases h0:v=0
   ·rw[e8j h0]at aE;have e0:(v:Int)=0:=by omega
    (repeat first|simp only[ww]|(apply xa;simp+decide only[go_sem,c1,aj,hv,hw,e0,br,eu,aE,c10];rfl;kernel_rfl))
    refine a25 (i+1) ?_ (by omega) (by omega)
    (simp+decide only[go_sem,a01,a00,h1,h2]<;>rfl)<;>rfl
   ·rw[e8g h0]at aE;have e0:¬(v:Int)=0:=by omega
    by_cases oB:v=1
    ·rw[e8j oB]at aE;have e1:(v:Int)=1:=by omega
     (repeat first|simp only[ww]|(apply xa;simp+decide only[go_sem,c1,aj,hv,hw,e0,e1,br,eu,aE,c10];rfl;kernel_rfl))
     refine a25 (i+1) ?_ (by omega) (by omega)
     (simp+decide only[go_sem,a01,a00,h1,h2]<;>rfl)<;>rfl
    ·rw[e8g oB]at aE;have e1:¬(v:Int)=1:=by omega
     rw[show((88:Nat):Int)=88 from rfl]at aE
     (repeat first|simp only[ww]|(apply xa;simp+decide only[go_sem,c1,aj,hv,hw,e0,e1,br,eu,aE,c10];rfl;kernel_rfl))
     refine a25 (i+1) ?_ (by omega) (by omega)
     (simp+decide only[go_sem,a01,a00,h1,h2]<;>rfl)<;>rfl
  ·obtain rfl:i=vs.length:=by omega
   have c1:¬(vs.length:Int)<vs.length:=by omega
   have he:upT f [.int .u8 0] vs.length vs.length=vs.map λv=>[.int .u8 (b46 z o v:Nat)]:=by rw[b6t,hf];have:=congrArg (List.map λv=>[AV.int .u8 (b46 z o v:Nat)]) (b5j vs 0);rw[f3e]at this;exact this
   have bB:=b6o (b46 z o) vs;have eu:(vs.map λv=>[AV.int .u8 (b46 z o v:Nat)]).length=vs.length:=c10 ..;rw[he];have cX:(vs.map λv=>[AV.int .u8 (b46 z o v:Nat)]).take vs.length=vs.map λv=>[AV.int .u8 (b46 z o v:Nat)]:=e8b (by simp);generalize(vs.map λv=>[AV.int .u8 (b46 z o v:Nat)])=R0 at bB eu cX
   (repeat first|simp only[ww]|(apply xa;simp+decide only[go_sem,c1,bB,eu,cX];rfl;kernel_rfl))
   (apply fqb;simp+decide only[go_sem]<;>rfl)
theorem b6h{d:Bool}(H:a03)(r:Rep)(vs:List Nat)(z o:Nat)(zi oi:Int)(hz:zi=z)(ho:oi=o)(hl:vs.length<1000000):a0a L.env d (sem L.env Mf) (.func (.func 45) [] []) [sl r (vs.map u8R),.int .u8 zi,.int .u8 oi] H=some (.str (vs.map (a5c z o)),H,[]):=by subst hz;subst ho;exact a04 (by kernel_rfl) (by kernel_rfl) rfl (by simp only[e7l,e7i,a06,a1b,a9l,a0z]) (d4u r vs z o hl) rfl
/- values that may be given -/
def b3u:AV:=.func (.func 94) [] []
theorem d4a(v:Nat)(hv:v≤3):sem L.env Mf 94 [.int .u8 v] []=some (.bool false,[]):=by
 have c1:¬(3:Int)<v:=by omega
 (refine sv Tryz.f94 ?_;simp only[Tryz.f94,gS])
 (repeat first|simp only[ww]|(apply xa;simp+decide only[go_sem,c1];rfl;kernel_rfl))
 (apply fqb;simp+decide only[go_sem]<;>rfl)
theorem c5x{d:Bool}(H:a03)(v:Nat)(hv:v≤3):a0a L.env d (sem L.env Mf) (.func (.func 94) [] []) [.int .u8 v] H=some (.bool false,H,[]):=a04 (by kernel_rfl) (by kernel_rfl) rfl rfl (d4a v hv) rfl
theorem c1w(r:Rep)(l:List Nat)(hl:l.length<1000000)(hc:∀v∈l,v≤3) :
 sem L.env Mf 139 [sl r (l.map u8R),b3u] []=some (.int .i64 (-1),[]):=by
 unfold b3u
 (refine sv Tryz.f139 ?_;simp only[Tryz.f139,gS])
 (repeat first|simp only[ww]|(apply xa;simp+decide only[go_sem];rfl;kernel_rfl))
 refine a0l (σ:=Nat) kp139_0 (λi=>[(0,sl r (l.map u8R)),(1,b3u),(7,.int .i64 l.length),(8,.int .i64 i)])
  (λ_=>[]) (λi=>l.length-i) (λi=>i≤l.length) 0 ?_ (e8e _) ?_
 ·unfold b3u
  (simp+decide only[go_sem,a01,a00]<;>rfl)
 ·intro i hi;unfold b3u;by_cases aj:i<l.length
  ·obtain⟨x,hx⟩:∃x,l[i]?=some x:=⟨_,z9e aj⟩
   have c1:(i:Int)<l.length:=by omega
   have hw:=wI1 (n:=i) (by omega);have gX:=λH=>c5x (d:=false) H x (hc x (c11 hx))
   (repeat first|simp only[ww]|(apply xa;simp+decide only[go_sem,c1,aj,hx,hw,gX];rfl;kernel_rfl))
   refine a25 (i+1) ?_ (by omega) (by omega)
   (simp+decide only[go_sem,a01,a00,b3u]<;>rfl)
  ·obtain rfl:i=l.length:=by omega
   have c1:¬(l.length:Int)<l.length:=by omega
   (repeat first|simp only[ww]|(apply xa;simp+decide only[go_sem,c1];rfl;kernel_rfl))
   (apply fqb;simp+decide only[go_sem]<;>rfl)
theorem d0m(r:Rep)(l:List Nat)(hl:l.length<1000000)(hc:∀v∈l,v≤3) :
 sem L.env Mf 92 [sl r (l.map u8R),b3u] []=some (.bool false,[]):=by
 have h:=λH=>a04 (E:=L.env) (ag:=false) (call:=sem L.env Mf) (g:=139) (fs:=[]) (cs:=[]) (ar:=[sl r (l.map u8R),b3u]) (H:=H) (by kernel_rfl) (by kernel_rfl) rfl (by simp only[e7l,e7i,a06,a1b];rfl) (c1w r l hl hc) rfl;have c1:¬(0:Int)≤ -1:=by omega
 unfold b3u at h⊢
 (refine sv Tryz.f92 ?_;simp only[Tryz.f92,gS])
 (repeat first|simp only[ww]|(apply xa;simp+decide only[go_sem,h,c1];rfl;kernel_rfl))
 (apply fqb;simp+decide only[go_sem]<;>rfl)
theorem c29{d:Bool}(H:a03)(r:Rep)(l:List Nat)(hl:l.length<1000000)(hc:∀v∈l,v≤3):a0a L.env d (sem L.env Mf) (.func (.func 92) [] []) [sl r (l.map u8R),b3u] H=some (.bool false,H,[]):=a04 (by kernel_rfl) (by kernel_rfl) rfl (by simp only[e7l,e7i,a06,a1b];rfl) (d0m r l hl hc) rfl
def vlR(x:Rep×List Nat):List AV:=[sl x.1 (x.2.map u8R)]
theorem d1y(x:Rep×List Nat):a0d (vlR x)=[]:=by simp only[vlR,a06,a1b,a0z,e7i]
theorem d96(l:List (Rep×List Nat)):FlatR (l.map vlR):=FlatR.map d1y
theorem c2a{d:Bool}(ca cb:Rep)(a b:List Nat)(hl:a.length+b.length≤100000):a0a L.env d (sem L.env Mf) (.func (.func 93) [] []) [.slice 0 0 2 (some 2)] [some (.row 1 [[sl ca (a.map u8R)],[sl cb (b.map u8R)]])]=some (slU (a++b),[some (.row 1 [[sl ca (a.map u8R)],[sl cb (b.map u8R)]])],[0]):=by have hf:FlatR [[sl ca (a.map u8R)],[sl cb (b.map u8R)]]:=FlatR.cons (by simp only[a06,a1b,a0z,e7i]) (FlatR.cons (by simp only[a06,a1b,a0z,e7i]) FlatR.nil);exact a2v (E:=L.env) (ag:=d) (call:=sem L.env Mf) (g:=93) (fs:=[]) (cs:=[]) (ar:=[.slice 0 0 2 (some 2)]) (H:=[some (.row 1 [[sl ca (a.map u8R)],[sl cb (b.map u8R)]])]) (b:=0) (by kernel_rfl) (by kernel_rfl) rfl rfl (a0k hf) (FlatO.row hf) rfl (au:=[.slice 0 0 2 (some 2)]) (by simp only[e7l,e7i,e12,e7j,a1p]) (d0n ca cb a b hl) (d2h _)
theorem d28(c:Cir)(hc:c.wf){k m:Nat}(ht:Tio c k m)(ra rb:Rep)(A B:List (Rep×List Nat))(ec:A.length≤1000)(ka:A.length=B.length)(hA:∀a∈A,a.2.length=k∧∀v∈a.2,v≤3)(hB:∀a∈B,a.2.length=m∧∀v∈a.2,v≤3) :
 sem L.env Mf 44 [.agg c.enc,sl ra (A.map vlR),sl rb (B.map vlR)] []=some (.int .i64 0,[]):=by
 obtain⟨t1,t2,t3,t4,t5,t6⟩:=ht;have hn:=hc.len;have bX:=λ(d:Bool) (H:a03)=>a3u (d:=d) H c (by omega);obtain⟨r0,e0⟩:=a4d (kinds c.nodes 0);rw[e0,t1]at bX;simp only[Cir.enc]at bX⊢;have c1:¬(1024:Int)<A.length:=by omega
 have c2:B.length=A.length:=ka.symm;have cT:∀π:Nat→Option Nat,a0e π (.row 4 [[sl c.nc (c.nodes.map Nd.enc),sl c.mc (c.names.map a1c),.nilslice,sl c.oc (c.outs.map a0f)]]) = .row 4 [[sl c.nc (c.nodes.map Nd.enc),sl c.mc (c.names.map a1c),.nilslice,sl c.oc (c.outs.map a0f)]]:=λπ=>by simp+decide only[go_sem]
 (refine sv Tryz.f44 ?_;simp only[Tryz.f44,gS])
 (repeat first|simp only[ww]|(apply xa;simp+decide only[go_sem,bX,c1,c2,c10,f0o];rfl;kernel_rfl))
 refine a0l (σ:=Nat) kp44_1 (λi=>[(1,sl ra (A.map vlR)),(2,sl rb (B.map vlR)),(3,.ptr 0 0 0),(7,.int .i64 k),(24,.int .i64 A.length),(25,.int .i64 i)])
  (λi=>[some (.row 4 [[sl c.nc (c.nodes.map Nd.enc),sl c.mc (c.names.map a1c),.nilslice,sl c.oc (c.outs.map a0f)]])]) (λi=>A.length-i) (λi=>i≤A.length) 0 ?_ (e8e _) ?_
 ·(simp+decide only[go_sem,a01,a00]<;>rfl)<;>rfl
 ·intro i hi;by_cases aj:i<A.length
  ·have d1:(i:Int)<A.length:=by omega
   have aT:=wI1 (n:=i) (by omega);have b9:i<B.length:=by omega
   obtain⟨a,ha⟩:∃a,A[i]?=some a:=⟨_,z9e aj⟩
   obtain⟨b,hb⟩:∃b,B[i]?=some b:=⟨_,z9e b9⟩
   obtain⟨a1,a2⟩:=hA a (c11 ha);obtain⟨b1,b2⟩:=hB b (c11 hb);have jg:vlR a=[sl a.1 (a.2.map u8R)]:=rfl;have mu:vlR b=[sl b.1 (b.2.map u8R)]:=rfl
   (repeat first|simp only[ww]|(apply xa;simp+decide only[go_sem,d1,aj,b9,ha,hb,jg,mu,a1,b1,t4,aT,c10];rfl;kernel_rfl))
   refine a25 (i+1) ?_ (by omega) (by omega)
   (simp+decide only[go_sem,a01,a00]<;>rfl)<;>rfl
  ·obtain rfl:i=A.length:=by omega
   have d1:¬(A.length:Int)<A.length:=by omega
   (repeat first|simp only[ww]|(apply xa;simp+decide only[go_sem,d1,c10];rfl;kernel_rfl))
   refine a0l (σ:=Nat) kp44_3 (λi=>[(1,sl ra (A.map vlR)),(2,sl rb (B.map vlR)),(48,.int .i64 A.length),(49,.int .i64 i)])
    (λi=>[]) (λi=>A.length-i) (λi=>i≤A.length) 0 ?_ (e8e _) ?_
   ·(simp+decide only[go_sem,a01,a00]<;>rfl)<;>rfl
   ·intro i hi;by_cases aj:i<A.length
    ·have d1:(i:Int)<A.length:=by omega
     have aT:=wI1 (n:=i) (by omega);have b9:i<B.length:=by omega
     obtain⟨a,ha⟩:∃a,A[i]?=some a:=⟨_,z9e aj⟩
     obtain⟨b,hb⟩:∃b,B[i]?=some b:=⟨_,z9e b9⟩
     obtain⟨a1,a2⟩:=hA a (c11 ha);obtain⟨b1,b2⟩:=hB b (c11 hb);have jg:vlR a=[sl a.1 (a.2.map u8R)]:=rfl;have mu:vlR b=[sl b.1 (b.2.map u8R)]:=rfl;have sf:=λ(d:Bool)=>c2a (d:=d) a.1 b.1 a.2 b.2 (by omega);have aw:a.2++b.2≠[]:=by intro e;have h2:=(f1o.1 e).1;rw[h2,e8c]at a1;omega
     rw[d5w aw]at sf;have n5:=λ(d:Bool) (H:a03)=>c29 (d:=d) H (some none) (a.2++b.2) (by rw[e8i];omega) (λv hv=>by rcases e9s.1 hv with h|h;exact a2 v h;exact b2 v h);simp only[a68,b3u,e8l]at n5
     (repeat first|simp only[ww]|(apply xa;simp+decide only[go_sem,d1,aj,b9,ha,hb,jg,mu,sf,n5,aT,c10];rfl;kernel_rfl))
     refine a25 (i+1) ?_ (by omega) (by omega)
     (simp+decide only[go_sem,a01,a00]<;>rfl)<;>rfl
    ·obtain rfl:i=A.length:=by omega
     have d1:¬(A.length:Int)<A.length:=by omega
     (repeat first|simp only[ww]|(apply xa;simp+decide only[go_sem,d1,c10];rfl;kernel_rfl))
     (apply fqb;simp+decide only[go_sem]<;>rfl)
theorem b57{d:Bool}{H:a03}(c:Cir)(hc:c.wf){k m:Nat}(ht:Tio c k m){ra rb:Rep}{A B:List (Rep×List Nat)}(ec:A.length≤1000)(ka:A.length=B.length)(hA:∀a∈A,a.2.length=k∧∀v∈a.2,v≤3)(hB:∀a∈B,a.2.length=m∧∀v∈a.2,v≤3){V W:AV}
 (hV:a3e 0 false (a4e (a02 H) 0 12) V=some (sl ra (A.map vlR)))(hW:a3e 0 false (a4e (a02 H) 0 12) W=some (sl rb (B.map vlR))) :
 a0a L.env d (sem L.env Mf) (.func (.func 44) [] []) [.agg c.enc,V,W] H=some (.int .i64 0,H,List.range H.length):=
 a6p (args:=[.agg c.enc,V,W]) (au:=[.agg c.enc,sl ra (A.map vlR),sl rb (B.map vlR)]) (by kernel_rfl) (by kernel_rfl) rfl (by rw[a3m,a1h _ _ _ (.agg c.enc) (by rw[a0n];exact a2i c),a3m,hV,a3m,hW];rfl) (d28 c hc ht ra rb A B ec ka hA hB) rfl rfl
def tmR:List AV:=[.str [116],.int .i64 100,.int .i64 0,.int .i64 30,.int .i64 60,.int .i64 90]
def vcR(s:List UInt8):List AV:=[.int .i64 0,.str s,.int .i64 1]
def b0a(vs:List (List UInt8)):AV:=match vs with|[]=>.nilslice|v::r=>.islice ((v::r).map vcR) (some (r.length+1))
def a5x(sg:List Sgn)(vs:List (List UInt8)):List AV:=[.islice (sg.map Sgn.row) (some sg.length),.islice [tmR] (some 1),b0a vs]
def cyc(a b:List Nat):List UInt8:=a.map (a5c 48 49)++b.map (a5c 76 72)
def d4f(A B:List (Rep×List Nat)):List (List UInt8):=List.zipWith (λa b=>cyc a.2 b.2) A B
theorem b7w{A B:List (Rep×List Nat)}{i:Nat}{a b:Rep×List Nat}(ha:A[i]?=some a)(hb:B[i]?=some b):(d4f A B)[i]?=some (cyc a.2 b.2):=by unfold d4f;rw[List.getElem?_zipWith,ha,hb]
theorem b7v{A B:List (Rep×List Nat)}(h:A.length=B.length):(d4f A B).length=A.length:=by unfold d4f;rw[List.length_zipWith];omega
theorem b7r(l:List (List UInt8)):FlatR (l.map vcR):=FlatR.map λ_=>rfl
theorem a4k(l:List (List UInt8)):refs (b0a l)=[]:=by cases l<;>rfl
theorem a46(sg:List Sgn)(vs:List (List UInt8)):a0d (a5x sg vs)=[]:=by simp only[a5x,a06,a4k,b2q,a0z,e7i]
theorem c6z:sem L.env Mf 46 [.nilslice] []=some (.nilslice,[]):=by
 (refine sv Tryz.f46 ?_;simp only[Tryz.f46,gS])
 (repeat first|simp only[ww]|(apply xa;simp+decide only[go_sem];rfl;kernel_rfl))
 (apply fqb;simp+decide only[go_sem]<;>rfl)
theorem d1z(n:Nat)(aa:List (List AV))(hf:FlatR aa):sem L.env Mf 46 [.slice 0 0 n none] [some (.row 3 aa)]=some (.slice 0 0 n (some n),[some (.row 3 aa)]):=by
 have h1:=λπ=>a05 π hf
 (refine sv Tryz.f46 ?_;simp only[Tryz.f46,gS])
 (repeat first|simp only[ww]|(apply xa;simp+decide only[go_sem];rfl;kernel_rfl))
 (apply fqb;simp+decide only[go_sem,h1]<;>rfl)
theorem c4j{d:Bool}{H:a03}{b n:Nat}{aa:List (List AV)}(hf:FlatR aa)(hb:a02 H b=some (.row 3 aa)):a0a L.env d (sem L.env Mf) (.func (.func 46) [] []) [.slice b 0 n none] H=some (.slice b 0 n (some n),H,[b]):=by have h:=a2y (E:=L.env) (ag:=d) (call:=sem L.env Mf) (g:=46) (fs:=[]) (cs:=[]) (ar:=[.slice b 0 n none]) (H:=H) (b:=b) (by kernel_rfl) (by kernel_rfl) rfl hb (a0k hf) (FlatO.row hf) rfl (au:=[AV.slice 0 0 n none]) (by simp only[e7l,e7i,e12,e7j,a1p]) (d1z n aa hf) (FlatO.row hf) (a4r b 0 _ n _);rw[a6u hb]at h;exact h
theorem c0n{d:Bool}(H:a03):a0a L.env d (sem L.env Mf) (.func (.func 46) [] []) [.nilslice] H=some (.nilslice,H,[]):=a04 (by kernel_rfl) (by kernel_rfl) rfl rfl c6z rfl
theorem c68(c:Cir)(hc:c.wf){k m:Nat}(ht:Tio c k m)(ra rb:Rep)(A B:List (Rep×List Nat))(ec:A.length≤1000)(ka:A.length=B.length)(hA:∀a∈A,a.2.length=k∧∀v∈a.2,v≤3)(hB:∀a∈B,a.2.length=m∧∀v∈a.2,v≤3) :
 sem L.env Mf 17 [.agg c.enc,sl ra (A.map vlR),sl rb (B.map vlR)] []=some (.tuple [.agg (a5x (sgs k m) (d4f A B)),.int .i64 0],[]):=by
 have ju:=λ(d:Bool) (H:a03)=>a7p (d:=d) H c hc ht;have kN:=λ(d:Bool) (H:a03)=>b57 (d:=d) (H:=H) c hc ht (ra:=ra) (rb:=rb) ec ka hA hB (a1h _ _ _ _ (a1b _ _)) (a1h _ _ _ _ (a1b _ _));have cF:=λ(d:Bool) (H:a03) (r:Rep) (vs:List Nat) (h:vs.length<1000000)=>b6h (d:=d) H r vs 48 49 48 49 rfl rfl h;have qv:=λ(d:Bool) (H:a03) (r:Rep) (vs:List Nat) (h:vs.length<1000000)=>b6h (d:=d) H r vs 76 72 76 72 rfl rfl h;obtain⟨t1,t2,t3,t4,t5,t6⟩:=ht;have uP:B.length=A.length:=ka.symm;have jA:=b7v ka;have dW:=λi a b h1 h2=>b7w (A:=A) (B:=B) (i:=i) (a:=a) (b:=b) h1 h2;generalize d4f A B=V at jA dW;have dC:=a3s k m;obtain⟨S,hS⟩:∃S,AV.islice ((sgs k m).map Sgn.row) (some (k+m))=S:=⟨_,rfl⟩
 rw[hS]at ju;have j6:refs S=[]:=by rw[←hS];rfl
 have j5:S.storable=true:=by rw[←hS];rfl
 have lY:S.cells=[S]:=by rw[←hS];rfl
 have lX:S.isJunk=false:=by rw[←hS];rfl
 have qL:∀π,ren π S=S:=λπ=>a0w π _ j6;have pa:∀m t d,a3e m t d S=some S:=λm t d=>a1h m t d _ j6;have eL:a5x (sgs k m) V=[S,.islice [tmR] (some 1),b0a V]:=by unfold a5x;rw[dC,hS]
 rw[eL];simp only[Cir.enc]at ju kN⊢
 (refine sv Tryz.f17 ?_;simp only[Tryz.f17,gS])
 (repeat first|simp only[ww]|(apply xa;simp+decide only[go_sem,ju,kN,j5,lX,lY];rfl;kernel_rfl))
 refine a0l (σ:=Nat) kp17_0 (λi=>[(1,sl ra (A.map vlR)),(2,sl rb (B.map vlR)),(6,.ptr 0 0 0),(10,.ptr 1 0 0),(34,.int .i64 A.length),(35,.int .i64 i)])
  (λi=>[some (.row 3 [[.nilslice,.nilslice,.nilslice]]),some (.row 3 [[S,.slice 2 0 1 (some 1),grV 3 ((V.take i).map vcR)]]),some (.row 6 [tmR])]++grH 3 ((V.take i).map vcR)) (λi=>A.length-i) (λi=>i≤A.length) 0 ?_ (e8e _) ?_
 ·rw[e9l]
  (simp+decide only[go_sem,a01,a00,e7j,a0p,a0q,j6,qL,tmR]<;>rfl)<;>rfl
 ·intro i hi;by_cases aj:i<A.length
  ·have d1:(i:Int)<A.length:=by omega
   have aT:=wI1 (n:=i) (by omega);have b9:i<B.length:=by omega
   obtain⟨a,ha⟩:∃a,A[i]?=some a:=⟨_,z9e aj⟩
   obtain⟨b,hb⟩:∃b,B[i]?=some b:=⟨_,z9e b9⟩
   obtain⟨a1,a2⟩:=hA a (c11 ha);obtain⟨b1,b2⟩:=hB b (c11 hb);have jg:vlR a=[sl a.1 (a.2.map u8R)]:=rfl;have mu:vlR b=[sl b.1 (b.2.map u8R)]:=rfl;have fC:=λ(d:Bool) (H:a03)=>cF d H a.1 a.2 (by omega);have fm:=λ(d:Bool) (H:a03)=>qv d H b.1 b.2 (by omega);have eD:V.take (i+1)=V.take i++[cyc a.2 b.2]:=a1d (dW i a b ha hb);have sh:e1e BinOp.add (a.2.map (a5c 48 49)) (b.2.map (a5c 76 72))=some (.str (cyc a.2 b.2)):=by
    have bl:(a.2.map (a5c 48 49)).length+(b.2.map (a5c 76 72)).length≤4611686018427387904:=by rw[c10,c10];omega
    simp only[e1e,e9w bl,e9i];rfl
   have fI:(V.take i).length=i:=by rw[f02];omega
   have hf:=b7r (V.take i);cases bJ:V.take i with
   |nil=>
    (repeat first|simp only[ww]|(apply xa;simp+decide only[go_sem,d1,aj,b9,ha,hb,jg,mu,fC,fm,sh,aT,j5,lX,lY,e7j,a0p,a0q,c10];rfl;kernel_rfl))
    refine a25 (i+1) ?_ (by omega) (by omega);rw[eD,bJ]
    (simp+decide only[go_sem,a01,a00,e7l,e12,e7j,a09,a0b,e8c,j6,qL,tmR,vcR]<;>rfl)<;>rfl
   |cons v r=>
    rw[bJ]at fI hf;have aK:r.length+1+1≤1000000000:=by simp only[e7g]at fI;omega
    have lL:=b7r r;have h3:=a08 lL;have h4:=λπ=>a05 π lL
    (repeat first|simp only[ww]|(apply xa;simp+decide only[go_sem,d1,aj,b9,ha,hb,jg,mu,fC,fm,sh,aT,j5,lX,lY,e12,a09,a0b,aK,c10];rfl;kernel_rfl))
    refine a25 (i+1) ?_ (by omega) (by omega);rw[eD,bJ]
    (simp+decide only[go_sem,a01,a00,e9h,e12,e8l,e7j,a09,a0b,e8i,e7g,e8c,c10,j6,qL,tmR,vcR,h3,h4,e7i]<;>rfl)<;>rfl
  ·obtain rfl:i=A.length:=by omega
   have d1:¬(A.length:Int)<A.length:=by omega
   rw[e8b (by omega)];have hn:=λ(d:Bool) (H:a03)=>c0n (d:=d) H;cases hV:V with
   |nil=>
    (repeat first|simp only[ww]|(apply xa;simp+decide only[go_sem,d1,hn,j5,lX,lY,e7j,a0p,a0q,c10];rfl;kernel_rfl))
    (apply fqb;simp+decide only[go_sem,pa,j5,lX,lY,b0a,tmR]<;>rfl)
   |cons v r=>
    have lI:=b7r (v::r);have jB:=λ(d:Bool) (X Y Z:Option AObj)=>c4j (d:=d) (H:=[X,Y,Z,some (.row 3 ((v::r).map vcR))]) (b:=3) (n:=r.length+1) lI rfl;have lH:=λm d=>a12 (m:=m) (d:=d) lI;have gO:b0a (v::r) = .islice ((v::r).map vcR) (some (r.length+1)):=rfl;have aw:(v::r).map vcR≠[]:=by simp
    have eu:((v::r).map vcR).length=r.length+1:=by simp
    have cX:((v::r).map vcR).take (r.length+1)=(v::r).map vcR:=e8b (by simp);rw[a7e 3 aw,a7f 3 aw,eu,gO];generalize(v::r).map vcR=R0 at jB lH eu cX
    (repeat first|simp only[ww]|(apply xa;simp+decide only[go_sem,d1,jB,j5,lX,lY,c10];rfl;kernel_rfl))
    (apply fqb;simp+decide only[go_sem,pa,j5,lX,lY,tmR,lH,cX,eu]<;>rfl)
theorem c02{d:Bool}(H:a03)(c:Cir)(hc:c.wf){k m:Nat}(ht:Tio c k m)(ra rb:Rep)(A B:List (Rep×List Nat))(ec:A.length≤1000)(ka:A.length=B.length)(hA:∀a∈A,a.2.length=k∧∀v∈a.2,v≤3)(hB:∀a∈B,a.2.length=m∧∀v∈a.2,v≤3) :
 a0a L.env d (sem L.env Mf) (.func (.func 17) [] []) [.agg c.enc,sl ra (A.map vlR),sl rb (B.map vlR)] H=some (.tuple [.agg (a5x (sgs k m) (d4f A B)),.int .i64 0],H,[]):=
 a04 (by kernel_rfl) (by kernel_rfl) rfl (by simp only[e7l,e7i,a06,a1b,a0z,a0n];exact a2i c) (c68 c hc ht ra rb A B ec ka hA hB) (by simp only[a5f,a06,a0n,a46,a0z,a9l,e7i])
theorem d9a{P:Nat→Prop}(h:P 0∧P 1∧P 2∧P 3∧P 4∧P 5∧P 6∧P 7∧P 8∧P 9∧P 10∧P 11∧P 12∧P 13∧P 14):∀i,i<15→P i:=by
 intro i hi;have:i=0∨i=1∨i=2∨i=3∨i=4∨i=5∨i=6∨i=7∨i=8∨i=9∨i=10∨i=11∨i=12∨i=13∨i=14:=by omega
 rcases this with rfl|rfl|rfl|rfl|rfl|rfl|rfl|rfl|rfl|rfl|rfl|rfl|rfl|rfl|rfl<;>simp only[h]
theorem d11:∀n:Nat,n<15→sem L.env Mf 55 [.int .i64 n] []=some (.islice (List.replicate n [.int .u8 2]) (some n),[]):=d9a (by refine⟨?_,?_,?_,?_,?_,?_,?_,?_,?_,?_,?_,?_,?_,?_,?_⟩<;>exact a0o (E:=L.env) a0m 60 (by kernel_rfl))
theorem c2g{d:Bool}(H:a03)(n:Nat)(hn:n<15):a0a L.env d (sem L.env Mf) (.func (.func 55) [] []) [.int .i64 n] H=some (.islice (List.replicate n [.int .u8 2]) (some n),H,[]):=a04 (by kernel_rfl) (by kernel_rfl) rfl rfl (d11 n hn) rfl
def a7g(c:Cir):Pat:=⟨some (some (kinds c.nodes 0).length),List.replicate (kinds c.nodes 0).length 2,some (some (kinds c.nodes 14).length),List.replicate (kinds c.nodes 14).length 2⟩
theorem c77(c:Cir)(hc:c.wf):sem L.env Mf 22 [.agg c.enc] []=some (.agg (a7g c).enc,[]):=by
 have hn:=hc.len;have bX:=λ(d:Bool) (H:a03)=>a3u (d:=d) H c (by omega);have aB:=λ(d:Bool) (H:a03)=>a5l (d:=d) H c (by omega);have hb:=λ(d:Bool) (H:a03) (n:Nat) (h:n<15)=>c2g (d:=d) H n h;obtain⟨r0,e0⟩:=a4d (kinds c.nodes 0);obtain⟨r1,e1⟩:=a4d (kinds c.nodes 14);have k0:=a3q c.nodes 0;have k1:=a3q c.nodes 14;rw[e0]at bX;rw[e1]at aB;have kR:=λ(d:Bool) (H:a03)=>hb d H (kinds c.nodes 0).length (by omega);have cG:=λ(d:Bool) (H:a03)=>hb d H (kinds c.nodes 14).length (by omega);have hr:∀n:Nat,List.map u8R (List.replicate n 2)=List.replicate n [.int .u8 2]:=λn=>by rw[f3c];rfl
 have dZ:(a7g c).enc=[.islice (List.replicate (kinds c.nodes 0).length [.int .u8 2]) (some (kinds c.nodes 0).length),.islice (List.replicate (kinds c.nodes 14).length [.int .u8 2]) (some (kinds c.nodes 14).length)]:=by unfold a7g Pat.enc;rw[hr,hr,a68,a68]
 rw[dZ];simp only[Cir.enc]at bX aB⊢
 (refine sv Tryz.f22 ?_;simp only[Tryz.f22,gS])
 (repeat first|simp only[ww]|(apply xa;simp+decide only[go_sem,bX,aB,kR,cG,c10];rfl;kernel_rfl))
 (apply fqb;simp+decide only[go_sem]<;>rfl)
end Go.UInst
