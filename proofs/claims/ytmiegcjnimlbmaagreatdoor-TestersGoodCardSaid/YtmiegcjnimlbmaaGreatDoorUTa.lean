/- Part of a proof. No condition. -/
import Derived.Test.YtmiegcjnimlbmaaGreatDoorUGa
import Derived.Test.YtmiegcjnimlbmaaGreatDoorUNe
import Derived.Test.YtmiegcjnimlbmaaGreatDoorULives
import Derived.Test.YtmiegcjnimlbmaaGreatDoorAxD
import Derived.Test.YtmiegcjnimlbmaaGreatDoorAxA
import Derived.Test.YtmiegcjnimlbmaaGreatDoorUIn
set_option linter.unusedSimpArgs false
set_option linter.unusedVariables false
namespace Go.UInst
set_option maxHeartbeats 200000000
open Go.Proofs Go.Ax Go.Pc
set_option maxRecDepth 100000
/- a circuit a3b memory -/
theorem d19(x:CX)(hx:x.ok):sem L.env Mf 15 [.agg x.enc] []=some (.agg (a7z x).cir.enc,[]):=by
 have eN:(a7z x).ok:=⟨hx.1,hx.2,hx.3,hx.4,hx.5,hx.6⟩
 have hc:=λH=>d5y (d:=false) H (a7z x) eN rfl;generalize(a7z x).cir=c at hc;simp only[go_sem,a7z]at hc;simp only[Cir.enc]at hc
 (refine sv Tryz.f15 ?_;simp only[Tryz.f15,gS])
 (repeat first|simp only[ww]|(apply xa;simp+decide only[go_sem,hc];rfl;kernel_rfl))
 (apply fqb;simp+decide only[go_sem,Cir.enc]<;>rfl)
theorem c3u{d:Bool}(H:a02)(x:CX)(hx:x.ok):a09 L.env d (sem L.env Mf) (.func (.func 15) [] []) [.agg x.enc] H=some (.agg (a7z x).cir.enc,H,[]):=a04 (by kernel_rfl) (by kernel_rfl) rfl (by simp only[go_sem]) (d19 x hx) (a2v _)
/- the inputs of a sequence of patterns -/
def inR(q:Pat):List AV:=[sl q.ic (q.ins.map u8R)]
theorem b6g(q:Pat):a0a (inR q)=[]:=by simp only[inR,a06,a12,a0r,e4t]
theorem c0i(l:List Pat):FlatR (l.map inR):=FlatR.map b6g
theorem d6j(π:Nat→Option Nat)(q:Pat):(inR q).map (ren π)=inR q:=by have h:=a08 π (FlatR.cons (b6g q) FlatR.nil);simpa using h
attribute [go_sem] List.getElem?_map
theorem e0p(c:Cir)(hc:c.wf)(pr:Rep)(ps:List Pat)(gn:∀p∈ps,PxOk p)(bV:ps.length≤8):∃r:AV×a02,(∃qs:List Pat,qs.length=ps.length∧(∀q∈qs,PatOk c.nodes q)∧r=(sl none (qs.map inR),[]))∧
 sem L.env Mf 16 [.agg c.enc,sl pr (ps.map Pat.enc)] []=some r:=by
 have pn:=λp hp=>d0r c hc p (gn p hp);have fM:∀π:Nat→Option Nat,a0d π (.row 4 [[sl c.nc (c.nodes.map Nd.enc),sl c.mc (c.names.map a3a),.nilslice,sl c.oc (c.outs.map a0s)]]) = .row 4 [[sl c.nc (c.nodes.map Nd.enc),sl c.mc (c.names.map a3a),.nilslice,sl c.oc (c.outs.map a0s)]]:=λπ=>by simp+decide only[go_sem]
 simp only[Cir.enc,Pat.enc]at pn⊢
 (refine svE Tryz.f16 ?_;simp only[Tryz.f16,gS])
 (repeat first|simp only[ww]|(apply xa;simp+decide only[go_sem];rfl;kernel_rfl))
 refine a5m kp16_0 (λn F H=>∃qs:List Pat,n=ps.length-qs.length∧qs.length≤ps.length∧(∀q∈qs,PatOk c.nodes q)∧F=[(1,sl pr (ps.map Pat.enc)),(2,.ptr 0 0 0),(5,grV 1 (qs.map inR)),(6,.int .i64 qs.length)]∧
  H=some (.row 4 [[sl c.nc (c.nodes.map Nd.enc),sl c.mc (c.names.map a3a),.nilslice,sl c.oc (c.outs.map a0s)]])::grH 1 (qs.map inR)) ps.length ?_ ?_
 ·refine⟨_,_,?_,[],rfl,e5q _,by simp,rfl,rfl⟩
  (simp+decide only[go_sem,a03,a00,e5j,a17,a18,Pat.enc]<;>rfl)<;>rfl
 ·rintro n F H ⟨qs,rfl,ik,pm,rfl,rfl⟩
  by_cases ak:qs.length<ps.length
  ·obtain⟨p,hp⟩:∃p,ps[qs.length]?=some p:=⟨_,z9e ak⟩
   obtain⟨q,hq,ag⟩:=pn p (e12 hp);have c1:(qs.length:Int)<ps.length:=by omega
   have hw:=wI1 (n:=qs.length) (by omega);have hf:=c0i qs;have h1:=a0c hf;have h2:=λπ=>a08 π hf;have dv:Pat.enc p=[sl p.ic (p.ins.map u8R),sl p.sc (p.sts.map u8R)]:=rfl;have ld:∀x∈qs++[q],PatOk c.nodes x:=by
    intro x hx;rcases e7h.1 hx with hx|hx
    ·exact pm x hx
    ·rw[e6z.1 hx];exact hq
   cases qs with
   |nil=>
    simp only[e5r]at c1 hw ak hp
    (repeat first|simp only[ww]|(apply xa;simp+decide only[go_sem,c1,ak,hp,dv,ag,hw,e5j,a17,a18,e5r,c10];rfl;kernel_rfl))
    refine a2e (ps.length-1) (by simp at ak⊢;omega) ⟨_,_,?_,[q],rfl,by simp;omega,ld,rfl,rfl⟩
    (simp+decide only[go_sem,a03,a00,e4r,e5j,a0k,a0l,e5r,e5l,inR]<;>rfl)<;>rfl
   |cons a r=>
    simp only[e5l]at c1 hw ak hp ik;have aN:r.length+1+1≤1000000000:=by omega
    have g9:=c0i r;have h3:=a0c g9;have h4:=λπ=>a08 π g9;have h5:=b6g a;have h6:=λπ=>d6j π a
    (repeat first|simp only[ww]|(apply xa;simp+decide only[go_sem,c1,ak,hp,dv,ag,hw,e4r,a0k,a0l,aN,e5l,c10];rfl;kernel_rfl))
    refine a2e (ps.length-(r.length+1+1)) (by simp;omega) ⟨_,_,?_,(a::r)++[q],by simp,by simp;omega,ld,rfl,rfl⟩
    (simp+decide only[go_sem,a03,a00,e7p,e4r,e6r,e5j,a0k,a0l,e5l,e6k,e5r,c10,h3,h4,h5,h6,e4t]<;>rfl)<;>rfl
  ·obtain e:ps.length=qs.length:=by omega
   have c1:¬(qs.length:Int)<ps.length:=by omega
   have hf:=c0i qs;have h2:=λm d=>a13 (m:=m) (d:=d) hf;cases qs with
   |nil=>
    simp only[e5r]at c1
    (repeat first|simp only[ww]|(apply xa;simp+decide only[go_sem,c1,e5j,a17,a18,e5r,c10];rfl;kernel_rfl))
    refine a81 (vs:=[.nilslice]) (r:=(.nilslice,[])) (by simp+decide only[go_sem]) ?_ ⟨[],by simpa using e.symm,by simp,rfl⟩;simp+decide only[go_sem]
   |cons a r=>
    simp only[e5l]at c1
    (repeat first|simp only[ww]|(apply xa;simp+decide only[go_sem,c1,e4r,a0k,a0l,e5l,c10];rfl;kernel_rfl))
    refine a81 (vs:=[.slice 1 0 (r.length+1) none]) (r:=(sl none ((a::r).map inR),[])) (by simp+decide only[go_sem]) ?_ ⟨a::r,e.symm,pm,rfl⟩;show a1q false 0 (.slice 1 0 (r.length+1) none) _=_;simp only[e4r]at h2;simp+decide only[go_sem,h2,e4r,b0e,c10]
theorem d1x(c:Cir)(hc:c.wf)(pr:Rep)(ps:List Pat)(gn:∀p∈ps,PxOk p)(bV:ps.length≤8):∃qs:List Pat,qs.length=ps.length∧(∀q∈qs,PatOk c.nodes q)∧
 ∀(d:Bool) (H:a02),a09 L.env d (sem L.env Mf) (.func (.func 16) [] []) [.agg c.enc,sl pr (ps.map Pat.enc)] H=some (sl none (qs.map inR),H,[]):=by
 obtain⟨r,⟨qs,h1,h2,rfl⟩,h⟩:=e0p c hc pr ps gn bV;exact⟨qs,h1,h2,λd H=>a04 (by kernel_rfl) (by kernel_rfl) rfl (by simp only[e5m,e4t,a06,a12,a0r];exact a2v _) h (a12 _ _)⟩
def oS(j:Nat):List UInt8:=[111,UInt8.ofNat (48+j)]
/- names -/
theorem e15{P:Nat→Prop}(h0:P 0)(h1:P 1)(h2:P 2)(h3:P 3):∀i,i<4→P i:=by
 intro i hi;have:i=0∨i=1∨i=2∨i=3:=by omega
 rcases this with rfl|rfl|rfl|rfl<;>assumption
theorem d5t:∀i:Nat,i<4→sem L.env Mf 14 [.str (a24 i)] []=some (.bool true,[]):=e15 (a0i (E:=L.env) a0h 60 (by kernel_rfl)) (a0i (E:=L.env) a0h 60 (by kernel_rfl)) (a0i (E:=L.env) a0h 60 (by kernel_rfl)) (a0i (E:=L.env) a0h 60 (by kernel_rfl))
theorem d5s:∀i:Nat,i<4→sem L.env Mf 14 [.str (oS i)] []=some (.bool true,[]):=e15 (a0i (E:=L.env) a0h 60 (by kernel_rfl)) (a0i (E:=L.env) a0h 60 (by kernel_rfl)) (a0i (E:=L.env) a0h 60 (by kernel_rfl)) (a0i (E:=L.env) a0h 60 (by kernel_rfl))
theorem d6i:∀i:Nat,i<4→sem L.env Mf 36 [.int .i64 i] []=some (.str [UInt8.ofNat (48+i)],[]):=e15 (a0i (E:=L.env) a0h 60 (by kernel_rfl)) (a0i (E:=L.env) a0h 60 (by kernel_rfl)) (a0i (E:=L.env) a0h 60 (by kernel_rfl)) (a0i (E:=L.env) a0h 60 (by kernel_rfl))
theorem c7f{d:Bool}(H:a02)(i:Nat)(hi:i<4):a09 L.env d (sem L.env Mf) (.func (.func 36) [] []) [.int .i64 i] H=some (.str [UInt8.ofNat (48+i)],H,[]):=a04 (by kernel_rfl) (by kernel_rfl) rfl rfl (d6i i hi) rfl
def b7a(s:List UInt8):Prop:=sem L.env Mf 14 [.str s] []=some (.bool true,[])
theorem b4f{d:Bool}{s:List UInt8}(h:b7a s)(H:a02):a09 L.env d (sem L.env Mf) (.func (.func 14) [] []) [.str s] H=some (.bool true,H,[]):=a04 (by kernel_rfl) (by kernel_rfl) rfl rfl h rfl
/- signals -/
structure Sgn where
 nm:List UInt8
 dir:Nat
def Sgn.row(s:Sgn):List AV:=[.str s.nm,.int .u8 s.dir]
def c1d:AV:=.func (.func 38) [] []
theorem d5d(s:Sgn)(h:b7a s.nm):sem L.env Mf 38 [.agg s.row] []=some (.bool false,[]):=by
 have hn:=λH=>b4f (d:=false) h H;simp only[Sgn.row]
 (refine sv Tryz.f38 ?_;simp only[Tryz.f38,gS])
 (repeat first|simp only[ww]|(apply xa;simp+decide only[go_sem,hn];rfl;kernel_rfl))
 (apply fqb;simp+decide only[go_sem]<;>rfl)
theorem c5v{d:Bool}(H:a02)(s:Sgn)(h:b7a s.nm):a09 L.env d (sem L.env Mf) (.func (.func 38) [] []) [.agg s.row] H=some (.bool false,H,[]):=a04 (by kernel_rfl) (by kernel_rfl) rfl rfl (d5d s h) rfl
theorem a4m(l:List Sgn):FlatR (l.map Sgn.row):=FlatR.map λ_=>rfl
theorem c7p(cp:Option Nat)(l:List Sgn)(hl:l.length<1000000)(hc:∀v∈l,b7a v.nm) :
 sem L.env Mf 88 [.islice (l.map Sgn.row) cp,c1d] []=some (.int .i64 (-1),[]):=by
 unfold c1d
 (refine sv Tryz.f88 ?_;simp only[Tryz.f88,gS])
 (repeat first|simp only[ww]|(apply xa;simp+decide only[go_sem];rfl;kernel_rfl))
 refine a0m (σ:=Nat) kp88_0 (λi=>[(0,.islice (l.map Sgn.row) cp),(1,c1d),(7,.int .i64 l.length),(8,.int .i64 i)])
  (λ_=>[]) (λi=>l.length-i) (λi=>i≤l.length) 0 ?_ (e5q _) ?_
 ·unfold c1d
  (simp+decide only[go_sem,a03,a00,c10]<;>rfl)
 ·intro i hi;unfold c1d;by_cases ak:i<l.length
  ·obtain⟨x,hx⟩:∃x,l[i]?=some x:=⟨_,z9e ak⟩
   have c1:(i:Int)<l.length:=by omega
   have hw:=wI1 (n:=i) (by omega);have fm:=λH=>c5v (d:=false) H x (hc x (e12 hx));have hr:x.row=[.str x.nm,.int .u8 x.dir]:=rfl;rw[hr]at fm
   (repeat first|simp only[ww]|(apply xa;simp+decide only[go_sem,c1,ak,hx,hr,hw,fm,c10];rfl;kernel_rfl))
   refine a28 (i+1) ?_ (by omega) (by omega)
   (simp+decide only[go_sem,a03,a00,c1d]<;>rfl)
  ·obtain rfl:i=l.length:=by omega
   have c1:¬(l.length:Int)<l.length:=by omega
   (repeat first|simp only[ww]|(apply xa;simp+decide only[go_sem,c1];rfl;kernel_rfl))
   (apply fqb;simp+decide only[go_sem]<;>rfl)
theorem c4d(cp:Option Nat)(l:List Sgn)(hl:l.length<1000000)(hc:∀v∈l,b7a v.nm) :
 sem L.env Mf 37 [.islice (l.map Sgn.row) cp,c1d] []=some (.bool false,[]):=by
 have h:=λH=>a04 (E:=L.env) (ah:=false) (call:=sem L.env Mf) (g:=88) (fs:=[]) (cs:=[]) (ar:=[.islice (l.map Sgn.row) cp,c1d]) (H:=H) (by kernel_rfl) (by kernel_rfl) rfl (by rfl) (c7p cp l hl hc) rfl;have c1:¬(0:Int)≤ -1:=by omega
 unfold c1d at h⊢
 (refine sv Tryz.f37 ?_;simp only[Tryz.f37,gS])
 (repeat first|simp only[ww]|(apply xa;simp+decide only[go_sem,h,c1];rfl;kernel_rfl))
 (apply fqb;simp+decide only[go_sem]<;>rfl)
theorem c4e{d:Bool}{H:a02}{b:Nat}(l:List Sgn)(hl:l.length<1000000)(hc:∀v∈l,b7a v.nm)(hb:a01 H b=some (.row 2 (l.map Sgn.row))) :
 a09 L.env d (sem L.env Mf) (.func (.func 37) [] []) [.slice b 0 l.length none,c1d] H=some (.bool false,H,List.range H.length):=by
 refine a7x (args:=[.slice b 0 l.length none,c1d]) (aq:=[.islice (l.map Sgn.row) none,c1d]) (by kernel_rfl) (by kernel_rfl) rfl ?_ (v:=.bool false) (H1:=[]) (c4d none l hl hc) rfl rfl;have h2:=a13 (m:=0) (d:=a3w (a01 H) 0 11) (a4m l);have h4:((l.map Sgn.row).drop 0).take l.length=l.map Sgn.row:=by rw[e86];exact e5o (by simp)
 unfold c1d;simp+decide only[a5c,a5x,a4w,hb,a8q,a0b,h4,h2,c10,e7l,e6o,e9y,decide_false,e6m,e6w];rfl
theorem d0h(n:Nat)(aa:List (List AV))(hf:FlatR aa):sem L.env Mf 39 [.slice 0 0 n none] [some (.row 2 aa)]=some (.slice 0 0 n (some n),[some (.row 2 aa)]):=by
 have h1:=λπ=>a08 π hf
 (refine sv Tryz.f39 ?_;simp only[Tryz.f39,gS])
 (repeat first|simp only[ww]|(apply xa;simp+decide only[go_sem];rfl;kernel_rfl))
 (apply fqb;simp+decide only[go_sem,h1]<;>rfl)
theorem c35{d:Bool}{H:a02}{b n:Nat}{aa:List (List AV)}(hf:FlatR aa)(hb:a01 H b=some (.row 2 aa)):a09 L.env d (sem L.env Mf) (.func (.func 39) [] []) [.slice b 0 n none] H=some (.slice b 0 n (some n),H,[b]):=by have h:=a43 (E:=L.env) (ah:=d) (call:=sem L.env Mf) (g:=39) (fs:=[]) (cs:=[]) (ar:=[.slice b 0 n none]) (H:=H) (b:=b) (by kernel_rfl) (by kernel_rfl) rfl hb (a0j hf) (FlatO.row hf) rfl (aq:=[AV.slice 0 0 n none]) (by simp only[e5m,e4t,e4r,e5j,a1u]) (d0h n aa hf) (FlatO.row hf) (a5e b 0 _ n _);rw[a8s hb]at h;exact h
/- a set of names -/
def stO(l:List (List UInt8)):AObj:=.map (l.map .str) (List.replicate l.length (.bool true)) (List.range l.length) l.length
theorem b9f(s:List UInt8):∀(l:List (List UInt8)) (b:Nat),s∉l→a1j (aeq L.env 6 9) (.str s) (l.map .str) b=some none
 | [],b,_=>rfl
 |t::l,b,h=>by
  simp only[e6v,not_or]at h;have az:(s==t)=false:=by rw[e7r];exact h.1
  simp only[e4r,a1j,eqS,az,e6w];exact b9f s l (b+1) h.2
theorem d58{h:FHeap}{b:Nat}{l:List (List UInt8)}{s:List UInt8}(hb:h b=some (stO l))(hs:s∉l):a5f L.env h 122 (.map b) (.str s) false=some (.bool false):=by
 have hu:L.env.und 122=some (.map 9 4):=by kernel_rfl
 have hk:(b87 L.env 9&&b4t L.env 9 (.str s))=true:=by kernel_rfl
 have hz:L.env.zero 4=some [.bool false]:=by kernel_rfl
 have lS:(L.env.und 4).map a1t=some false:=by kernel_rfl
 obtain⟨d,hd,rv⟩:=a05 lS;have hm:b0t h (.map b)=some (l.map .str,List.replicate l.length (.bool true)):=by simp only[b0t,hb,stO]
 unfold a5f;simp only[hu,hk,e6m,hz,hd,hm,b9f s l 0 hs,rv,e6w]
theorem d3q{h:FHeap}{b:Nat}{l:List (List UInt8)}{s:List UInt8}(hb:h b=some (stO l))(hs:s∉l):a1m L.env h 122 (.map b) (.str s) (.bool true)=some (.set b (stO (l++[s]))):=by
 have hu:L.env.und 122=some (.map 9 4):=by kernel_rfl
 have hk:(b87 L.env 9&&b4t L.env 9 (.str s))=true:=by kernel_rfl
 have hp:a85 L.env h 122 (.map b) (.str s)=some (b,l.map .str,List.replicate l.length (.bool true),List.range l.length,l.length,none):=by unfold a85;simp only[hu,hk,e6m,hb,stO,b9f s l 0 hs]
 unfold a1m;rw[hp];simp only[stO,e6r,e4r,e5j,e6k,e5l,e5r,f01,List.replicate_succ']
theorem a8a(l:List (List UInt8)):a0t (some (stO l))=[]:=by
 simp only[stO,a0t];have h1:∀l:List (List UInt8),a0a (l.map AV.str)=[]:=by intro l;induction l with|nil=>rfl|cons a l ih=>simp[a0a,refs,ih]
 have h2:∀n,a0a (List.replicate n (AV.bool true))=[]:=by intro n;induction n with|zero=>rfl|succ n ih=>simp[e8s,a0a,refs,ih]
 rw[h1,h2];rfl
theorem b46(π:Nat→Option Nat)(l:List (List UInt8)):a0d π (stO l)=stO l:=by have h:=a8a l;simp only[stO,a0t,e8o]at h;simp only[stO,a0d,a34 π h.1,a34 π h.2]
structure Tio(c:Cir)(k m:Nat):Prop where
 ins:kinds c.nodes 0=List.range k
 k1:1≤k
 k4:k≤4
 out:c.outs.length=m
 m1:1≤m
 m4:m≤4
def sgI(j:Nat):Sgn:=⟨a24 j,0⟩
def sgO(j:Nat):Sgn:=⟨oS j,1⟩
def sgs(k m:Nat):List Sgn:=(List.range k).map sgI++(List.range m).map sgO
theorem a3c(k m:Nat):(sgs k m).length=k+m:=by simp[sgs]
theorem e4l(k:Nat):sgs k 0=(List.range k).map sgI:=by simp[sgs]
theorem d9n(k j:Nat):sgs k (j+1)=sgs k j++[sgO j]:=by simp[sgs,f01]
def nms(k m:Nat):List (List UInt8):=(sgs k m).map Sgn.nm
theorem e52(k j:Nat):nms k (j+1)=nms k j++[oS j]:=by simp[nms,d9n,sgO]
theorem e0e(i:Nat):nms (i+1) 0=nms i 0++[a24 i]:=by simp[nms,sgs,sgI,f01]
theorem d9o(i:Nat):sgs (i+1) 0=sgs i 0++[sgI i]:=by simp[sgs,f01]
theorem d0x{i:Nat}(hi:i<14):a24 i∉nms i 0:=by unfold nms;rw[e4l,e9g];intro h;obtain⟨j,hj,e⟩:=e7t.1 h;have hj:=e8y.1 hj;have:=b7z (i:=j) (j:=i) (by omega) hi e;omega
theorem e0b{i j:Nat}(hi:i<14)(hj:j<14)(h:oS i=oS j):i=j:=by unfold oS at h;simp only[List.cons.injEq,and_true,true_and]at h;have h1:=congrArg UInt8.toNat h;simp only[UInt8.toNat_ofNat']at h1;omega
theorem c6k{k j:Nat}(hj:j<14):oS j∉nms k j:=by
 unfold nms sgs;rw[e6r,e9g,e9g];intro h;rcases e7h.1 h with h|h
 ·obtain⟨i,_,e⟩:=e7t.1 h;have:a24 i=oS j:=e;unfold a24 oS at this;simp at this
 ·obtain⟨i,hi,e⟩:=e7t.1 h;have hi:=e8y.1 hi;have:=e0b (i:=i) (j:=j) (by omega) hj e;omega
theorem c1c{k m:Nat}(hk:k≤4)(hm:m≤4):∀s∈sgs k m,b7a s.nm:=by
 intro s hs;unfold sgs at hs;rcases e7h.1 hs with h|h
 ·obtain⟨i,hi,rfl⟩:=e7t.1 h;exact d5t i (by have:=e8y.1 hi;omega)
 ·obtain⟨i,hi,rfl⟩:=e7t.1 h;exact d5s i (by have:=e8y.1 hi;omega)
theorem e0c(j:Nat):([111]++[UInt8.ofNat (48+j)]:List UInt8)=oS j:=rfl
theorem c32(c:Cir)(hc:c.wf){k m:Nat}(ht:Tio c k m):sem L.env Mf 11 [.agg c.enc] []=some (.tuple [.islice ((sgs k m).map Sgn.row) (some (k+m)),.int .i64 0],[]):=by
 obtain⟨t1,t2,t3,t4,t5,t6⟩:=ht;have hn:=hc.len;have bX:=λ(d:Bool) (H:a02)=>b9z (d:=d) H c hc;have bS:=λ(d:Bool) (H:a02)=>a40 (d:=d) H c (by omega);have h15:kinds c.nodes 15=[]:=by unfold kinds a2z;rw[List.filter_eq_nil_iff];intro i hi;have cZ:=e8y.1 hi;have:=hc.kind _ (List.getElem_mem cZ);rw[a1v (z9e cZ)];simp only[e6l];omega
 have mC:=λ(d:Bool) (X:Option AObj)=>b14 (d:=d) (H:=[X,some (.row 1 [[.int .u8 15]])]) (b:=1) c (k:=15) rfl (by omega) rfl;rw[h15]at mC;have sk:k≤c.nodes.length:=by have:=a4a c.nodes 0;rw[t1]at this;simpa using this
 have fh:∀i,i<k→c.names[i]?=some (a24 i):=λi hi=>by rw[hc.names,e5n,e8v (by omega)];rfl
 have cY:c.names.length=c.nodes.length:=by rw[hc.names];simp
 obtain⟨r0,e0⟩:=a4k (kinds c.nodes 0);rw[e0,t1]at bS;have fM:∀π:Nat→Option Nat,a0d π (.row 4 [[sl c.nc (c.nodes.map Nd.enc),sl c.mc (c.names.map a3a),.nilslice,sl c.oc (c.outs.map a0s)]]) = .row 4 [[sl c.nc (c.nodes.map Nd.enc),sl c.mc (c.names.map a3a),.nilslice,sl c.oc (c.outs.map a0s)]]:=λπ=>by simp+decide only[go_sem]
 have fY:a0t (some (.row 4 [[sl c.nc (c.nodes.map Nd.enc),sl c.mc (c.names.map a3a),.nilslice,sl c.oc (c.outs.map a0s)]]))=[]:=by simp+decide only[go_sem]
 have ee:c7s [] = .nilslice:=rfl;rw[ee]at mC;simp only[Cir.enc]at bX bS mC⊢;have c1:¬((256:Int)<k+m):=by omega
 have hw:=w64 (n:=(k:Int)+m) (by omega) (by omega)
 (refine sv Tryz.f11 ?_;simp only[Tryz.f11,gS])
 (repeat first|simp only[ww]|(apply xa;simp+decide only[go_sem,bX,mC,bS,t4,c1,hw,c10,e7n];rfl;kernel_rfl))
 refine a0m (σ:=Nat) kp11_0 (λi=>[(1,.ptr 0 0 0),(6,.map 1),(7,grV 2 ((sgs i 0).map Sgn.row)),(38,sl r0 ((List.range k).map a0s)),(39,.int .i64 k),(40,.int .i64 i)])
  (λi=>some (.row 4 [[sl c.nc (c.nodes.map Nd.enc),sl c.mc (c.names.map a3a),.nilslice,sl c.oc (c.outs.map a0s)]])::some (stO (nms i 0))::grH 2 ((sgs i 0).map Sgn.row)) (λi=>k-i) (λi=>i≤k) 0 ?_ (e5q _) ?_
 ·have e1:sgs 0 0=[]:=rfl;have e2:nms 0 0=[]:=rfl;have e3:b25 L.env 122=stO []:=by kernel_rfl
  (simp+decide only[go_sem,a03,a00,e1,e2,e5j,a17,a18,a8a,b46,e3]<;>rfl)<;>rfl
 ·intro i hi;by_cases ak:i<k
  ·have d1:(i:Int)<k:=by omega
   have bt:=wI1 (n:=i) (by omega);have hx:=fh i ak;have iN:i<c.names.length:=by omega
   have iW:(List.range k)[i]?=some i:=e8v ak;have iQ:=λ(X:Option AObj) (R:a02)=>d3q (h:=a01 (X::some (stO (nms i 0))::R)) (b:=1) (l:=nms i 0) (s:=a24 i) rfl (d0x (by omega));rw[←e0e]at iQ;have ed:=a3c i 0;cases i with
   |zero=>
    have e1:sgs 0 0=[]:=rfl;rw[e1]
    (repeat first|simp only[ww]|(apply xa;simp+decide only[go_sem,d1,ak,iW,hx,iN,bt,iQ,e5j,a17,a18,c10,e7n];rfl;kernel_rfl))
    refine a28 1 ?_ (by omega) (by omega);have e2:(sgs 1 0).map Sgn.row=[[.str (a24 0),.int .u8 0]]:=rfl;rw[e2]
    (simp+decide only[go_sem,a03,a00,a0k,a0l,a8a,b46,e5r]<;>rfl)<;>rfl
   |succ i=>
    have hs:=d9o (i+1);have eH:(sgs (i+1+1) 0).map Sgn.row=(sgs (i+1) 0).map Sgn.row++[[.str (a24 (i+1)),.int .u8 0]]:=by rw[hs,e6r];rfl
    have az:(sgs (i+1) 0).map Sgn.row≠[]:=by intro e;have:=congrArg List.length e;rw[c10,ed]at this;simp at this
    have fF:(sgs (i+1+1) 0).map Sgn.row≠[]:=by rw[eH];simp
    have jJ:((sgs (i+1) 0).map Sgn.row).length=i+1:=by rw[c10,ed]
    have e6:((sgs (i+1+1) 0).map Sgn.row).length=i+1+1:=by rw[c10,a3c]
    have aN:i+1+1≤1000000000:=by omega
    rw[a6r 2 az,a6s 2 az,jJ];have hf:=a4m (sgs (i+1) 0);have h3:=a0c (a4m (sgs (i+1+1) 0));have h4:=λπ=>a08 π (a4m (sgs (i+1+1) 0));have mJ:=a6r 2 fF;have n5:=a6s 2 fF;rw[e6]at mJ;rw[eH]at h3 h4 mJ n5;generalize(sgs (i+1) 0).map Sgn.row=R0 at jJ h3 h4 eH mJ n5
    (repeat first|simp only[ww]|(apply xa;simp+decide only[go_sem,d1,ak,iW,hx,iN,bt,iQ,jJ,aN,c10,e7n];rfl;kernel_rfl))
    refine a28 (i+1+1) ?_ (by omega) (by omega);rw[eH,mJ,n5]
    (simp+decide only[go_sem,a03,a00,a8a,b46,h3,h4]<;>rfl)<;>rfl
  ·obtain rfl:i=k:=by omega
   have d1:¬(i:Int)<i:=by omega
   have az:(sgs i 0).map Sgn.row≠[]:=by intro e;have:=congrArg List.length e;rw[c10,a3c]at this;simp at this;omega
   have jJ:((sgs i 0).map Sgn.row).length=i:=by rw[c10,a3c];omega
   rw[a6r 2 az,a6s 2 az,jJ];have h3:=a0c (a4m (sgs i 0));have h4:=λπ=>a08 π (a4m (sgs i 0))
   (repeat first|simp only[ww]|(apply xa;simp+decide only[go_sem,d1,t4,c10];rfl;kernel_rfl))
   refine a0m (σ:=Nat) kp11_2 (λj=>[(6,.map 0),(7,.slice 1 0 (i+j) none),(62,.int .i64 m),(63,.int .i64 j)])
    (λj=>[some (stO (nms i j)),some (.row 2 ((sgs i j).map Sgn.row))]) (λj=>m-j) (λj=>j≤m) 0 ?_ (e5q _) ?_
   ·(simp+decide only[go_sem,a03,a00,a8a,b46,h3,h4,f03]<;>rfl)<;>rfl
   ·intro j hj;by_cases sn:j<m
    ·have d2:(j:Int)<m:=by omega
     have kQ:=wI1 (n:=j) (by omega);have i7:=λ(d:Bool) (H:a02)=>c7f (d:=d) H j (by omega);have nQ:=λ(R:a02)=>d58 (h:=a01 (some (stO (nms i j))::R)) (b:=0) (l:=nms i j) (s:=oS j) rfl (c6k (by omega));have iQ:=λ(R:a02)=>d3q (h:=a01 (some (stO (nms i j))::R)) (b:=0) (l:=nms i j) (s:=oS j) rfl (c6k (by omega));rw[←e52]at iQ;have eH:(sgs i (j+1)).map Sgn.row=(sgs i j).map Sgn.row++[[.str (oS j),.int .u8 1]]:=by rw[d9n,e6r];rfl
     have e6:((sgs i j).map Sgn.row).length=i+j:=by rw[c10,a3c]
     have aN:i+j+1≤1000000000:=by omega
     have h3:=a0c (a4m (sgs i j));have h4:=λπ=>a08 π (a4m (sgs i j));have h5:=a0c (a4m (sgs i (j+1)));have h6:=λπ=>a08 π (a4m (sgs i (j+1)));rw[eH]at h5 h6;have ho:=e0c j
     (repeat first|simp only[ww]|(apply xa;simp+decide only[go_sem,d2,i7,ho];rfl;kernel_rfl))
     refine a0m (σ:=Nat) kp11_4 (λ_=>[(6,.map 0),(7,.slice 1 0 (i+j) none),(11,.str (oS j)),(62,.int .i64 m),(63,.int .i64 j)])
      (λ_=>[some (stO (nms i j)),some (.row 2 ((sgs i j).map Sgn.row))]) (λ_=>0) (λ_=>True) 0 ?_ trivial ?_
     ·(simp+decide only[go_sem,a03,a00,a8a,b46,h3,h4]<;>rfl)<;>rfl
     ·intro _ _;generalize(sgs i j).map Sgn.row=R0 at e6 h3 h4 h5 h6 eH
      (repeat first|simp only[ww]|(apply xa;simp+decide only[go_sem,nQ,iQ,e6,aN,kQ];rfl;kernel_rfl))
      refine a28 (j+1) ?_ (by omega) (by omega);rw[eH]
      (simp+decide only[go_sem,a03,a00,a8a,b46,h5,h6]<;>rfl)<;>rfl
    ·obtain rfl:j=m:=by omega
     have d2:¬(j:Int)<j:=by omega
     have e6:((sgs i j).map Sgn.row).length=i+j:=by rw[c10,a3c]
     have aj:=a3c i j;have cM:=λ(d:Bool) (X:Option AObj)=>c4e (d:=d) (H:=[X,some (.row 2 ((sgs i j).map Sgn.row))]) (b:=1) (sgs i j) (by omega) (c1c t3 t6) rfl;have b8:=λ(d:Bool) (X:Option AObj)=>c35 (d:=d) (H:=[X,some (.row 2 ((sgs i j).map Sgn.row))]) (b:=1) (n:=i+j) (a4m (sgs i j)) rfl;rw[aj]at cM;have dc:=λm d=>a13 (m:=m) (d:=d) (a4m (sgs i j));have du:((sgs i j).map Sgn.row).take (i+j)=(sgs i j).map Sgn.row:=e5o (by omega);unfold c1d at cM;generalize(sgs i j).map Sgn.row=R0 at e6 cM b8 dc du
     (repeat first|simp only[ww]|(apply xa;simp+decide only[go_sem,d2,cM,b8];rfl;kernel_rfl))
     (apply fqb;simp+decide only[go_sem,dc,e6,du]<;>rfl)
theorem a6z{d:Bool}(H:a02)(c:Cir)(hc:c.wf){k m:Nat}(ht:Tio c k m):a09 L.env d (sem L.env Mf) (.func (.func 11) [] []) [.agg c.enc] H=some (.tuple [.islice ((sgs k m).map Sgn.row) (some (k+m)),.int .i64 0],H,[]):=a04 (by kernel_rfl) (by kernel_rfl) rfl (by simp only[e5m,e4t];exact a4c c) (c32 c hc ht) rfl
theorem d27(l:List Nat):FlatR (l.map u8R):=FlatR.map λ_=>rfl
theorem e00(l:List Nat):(l.map u8R).flatMap a0a=[]:=a0c (d27 l)
theorem e6i(π:Nat→Option Nat)(l:List Nat):(l.map u8R).map (λr=>r.map (ren π))=l.map u8R:=a08 π (d27 l)
theorem e7d(l:List Nat):((l.map u8R).all λr=>decide (r.length=1))=true:=by rw[e6x];intro r hr;obtain⟨x,_,rfl⟩:=e7t.1 hr;rfl
theorem e6a(l:List Nat):((l.map u8R).all λr=>r.all AV.storable)=true:=by rw[e6x];intro r hr;obtain⟨x,_,rfl⟩:=e7t.1 hr;rfl
theorem e0w:sem L.env Mf 140 [.nilslice,.int .i64 0] []=some (.nilslice,[]):=by
 have w0:IntKind.i64.wrap ((0:Int)-0)=0:=by decide
 (refine sv Tryz.f140 ?_;simp only[Tryz.f140,gS])
 (repeat first|simp only[ww]|(apply xa;simp+decide only[go_sem,w0];rfl;kernel_rfl))
 (apply fqb;simp+decide only[go_sem]<;>rfl)
theorem e44(k n:Nat)(h0:0<n)(hn:n≤100000):a2d L.env k 52 3 .nilslice (.int .i64 n)=some (.slice k 0 n none,.new (.row 1 (List.replicate n [.int .u8 0]))):=by
 obtain⟨m,rfl⟩:∃m,n=m+1:=⟨n-1,by omega⟩
 have hu:L.env.und 52=some (.slice 53):=by kernel_rfl
 have mu:(L.env.und 3).any a26=true:=by kernel_rfl
 obtain⟨dx,hx,hd⟩:∃dx,L.env.und 3=some dx∧a26 dx=true:=by
  cases h:L.env.und 3 with
  |none=>rw[h]at mu;cases mu
  |some dx=>rw[h]at mu;exact⟨dx,rfl,mu⟩
 have hz:L.env.zero 53=some [.int .u8 0]:=by kernel_rfl
 have hs:L.env.sz 53=1:=by kernel_rfl
 have hr:a23 L.env 53 (m+1)=true:=a6a (by omega) (by decide+kernel);unfold a2d;simp only[hu,hx,hd,hz,hs,e8p];have h1:decide (0≤((m+1:Nat):Int))=true:=e7o (by omega);have h2:(((m+1:Nat):Int)).toNat=m+1:=by omega
 have h3:Nat.blt 0 1=true:=rfl;simp only[h1,h2,h3,hr,e6m]
theorem e0v(n:Nat)(h0:0<n)(hn:n≤100000):sem L.env Mf 140 [.nilslice,.int .i64 n] []=some (.slice 0 0 0 none,[some (.row 1 (List.replicate n [.int .u8 0]))]):=by
 have c1:¬(n:Int)<0:=by omega
 have c2:(0:Int)<n:=by omega
 have w0:IntKind.i64.wrap ((0:Int)-0)=0:=by decide
 have hw:IntKind.i64.wrap ((n:Int)-0)=n:=by rw[w64 (by omega) (by omega)];omega
 have hz:=λk=>e44 k n h0 hn;have ha:apT L.env 52 3=none:=by kernel_rfl
 have hs:∀hp,a4p L.env hp 52 .nilslice none (some (.int .i64 0)) none=some .nilslice:=λhp=>by kernel_rfl
 (refine sv Tryz.f140 ?_;simp only[Tryz.f140,gS])
 (repeat first|simp only[ww]|(apply xa;simp+decide only[go_sem,c1,c2,w0,hw,hz,ha,hs];rfl;kernel_rfl))
 (apply fqb;simp+decide only[go_sem]<;>rfl)
def slU(l:List Nat):AV:=slF none (l.map u8R)
theorem d3v{l:List Nat}(h:l≠[]):slU l = .islice (l.map u8R) none:=by
 cases l with
 |nil=>exact absurd rfl h
 |cons a r=>rfl
theorem d0f(l:List Nat):refs (slU l)=[]:=by cases l<;>rfl
theorem c41(H:a02):a09 L.env false (sem L.env Mf) (.func (.func 140) [] []) [.nilslice,.int .i64 0] H=some (.nilslice,H,[]):=a04 (by kernel_rfl) (by kernel_rfl) rfl rfl e0w rfl
theorem c7u(H:a02)(n:Nat)(h0:0<n)(hn:n≤100000):a09 L.env false (sem L.env Mf) (.func (.func 140) [] []) [.nilslice,.int .i64 n] H=some (.slice H.length 0 0 none,H++[some (.row 1 (List.replicate n [.int .u8 0]))],[]):=by
 have hc:=a3i (sem L.env Mf 140) [.nilslice,.int .i64 n] H (σ:=[]) rfl rfl rfl (aq:=[.nilslice,.int .i64 n]) rfl (H0:=[]) rfl (e0v n h0 hn);have hf:FlatR (List.replicate n [AV.int .u8 0]):=λr hr=>by rw[(List.mem_replicate.1 hr).2];rfl
 refine c8u (by kernel_rfl) (by kernel_rfl) rfl (hc.trans ?_);have hr:=λπ=>a08 π hf;simp only[a8d,ren,a1f,e5r,e86,e4r,e5j,e5p,a0d,hr];simp[Nat.blt];rfl
theorem c8l(ca cb:Option (Option Nat))(a b:List Nat)(hl:a.length+b.length≤100000):sem L.env Mf 93 [.slice 0 0 2 (some 2)] [some (.row 1 [[sl ca (a.map u8R)],[sl cb (b.map u8R)]])]=some (slU (a++b),[some (.row 1 [[sl ca (a.map u8R)],[sl cb (b.map u8R)]])]):=by
 suffices hs:∃r:AV×a02,(r=(slU (a++b),[some (.row 1 [[sl ca (a.map u8R)],[sl cb (b.map u8R)]])]))∧sem L.env Mf 93 [.slice 0 0 2 (some 2)] [some (.row 1 [[sl ca (a.map u8R)],[sl cb (b.map u8R)]])]=some r by obtain⟨r,rfl,h3⟩:=hs;exact h3
 have w1:IntKind.i64.wrap ((0:Int)+(a.length:Int))=(a.length:Int):=by rw[w64 (by omega) (by omega)];omega
 have w2:IntKind.i64.wrap ((a.length:Int)+(b.length:Int))=((a.length+b.length:Nat):Int):=by rw[w64 (by omega) (by omega)];omega
 have c1:¬(a.length:Int)<0:=by omega
 have c2:¬((a.length+b.length:Nat):Int)<0:=by omega
 (refine svE Tryz.f93 ?_;simp only[Tryz.f93,gS])
 (repeat first|simp only[ww]|(apply xa;simp+decide only[go_sem];rfl;kernel_rfl))
 refine a5m kp93_0 (λq F H1=>∃(i x:Int),((i=0∧x=0∧q=2)∨(i=1∧x=a.length∧q=1)∨(i=2∧x=(a.length+b.length:Nat)∧q=0))∧F=[(0,.slice 0 0 2 (some 2)),(3,.int .i64 x),(9,.slice 0 0 2 (some 2)),(10,.int .i64 2),(11,.int .i64 i)]∧H1=[some (.row 1 [[sl ca (a.map u8R)],[sl cb (b.map u8R)]])]) 2 ?_ ?_
 ·refine⟨_,_,?_,0,0,.inl ⟨rfl,rfl,rfl⟩,rfl,rfl⟩
  (simp+decide only[go_sem,a03,a00]<;>rfl)<;>rfl
 ·rintro q F H1 ⟨i,x,h,rfl,rfl⟩
  rcases h with ⟨rfl,rfl,rfl⟩|⟨rfl,rfl,rfl⟩|⟨rfl,rfl,rfl⟩
  ·(repeat first|simp only[ww]|(apply xa;simp+decide only[go_sem,w1,c1,c10];rfl;kernel_rfl))
   refine a2e 1 (by omega) ⟨_,_,?_,1,a.length,.inr (.inl ⟨rfl,rfl,rfl⟩),rfl,rfl⟩
   (simp+decide only[go_sem,a03,a00]<;>rfl)<;>rfl
  ·(repeat first|simp only[ww]|(apply xa;simp+decide only[go_sem,w2,c2,c10];rfl;kernel_rfl))
   refine a2e 0 (by omega) ⟨_,_,?_,2,(a.length+b.length:Nat),.inr (.inr ⟨rfl,rfl,rfl⟩),rfl,rfl⟩
   (simp+decide only[go_sem,a03,a00]<;>rfl)<;>rfl
  ·rcases Nat.eq_zero_or_pos (a.length+b.length)with hz|hz
   ·have ha:a=[]:=List.eq_nil_of_length_eq_zero (by omega);have hb:b=[]:=List.eq_nil_of_length_eq_zero (by omega);subst ha hb;have hg:=λH=>c41 H;simp only[e5r,f03,Int.natCast_zero]
    (repeat first|simp only[ww]|(apply xa;simp+decide only[go_sem,hg];rfl;kernel_rfl))
    refine a5m kp93_2 (λq F H1=>∃(i:Int),((i=0∧q=2)∨(i=1∧q=1)∨(i=2∧q=0))∧F=[(6,.nilslice),(25,.slice 0 0 2 (some 2)),(26,.int .i64 2),(27,.int .i64 i)]∧H1=[some (.row 1 [[sl ca (([]:List Nat).map u8R)],[sl cb (([]:List Nat).map u8R)]])]) 2 ?_ ?_
    ·refine⟨_,_,?_,0,.inl ⟨rfl,rfl⟩,rfl,rfl⟩
     (simp+decide only[go_sem,a03,a00]<;>rfl)<;>rfl
    ·rintro q F H1 ⟨i,h,rfl,rfl⟩
     rcases h with ⟨rfl,rfl⟩|⟨rfl,rfl⟩|⟨rfl,rfl⟩
     ·(repeat first|simp only[ww]|(apply xa;simp+decide only[go_sem,e5j];rfl;kernel_rfl))
      refine a2e 1 (by omega) ⟨_,_,?_,1,.inr (.inl ⟨rfl,rfl⟩),rfl,rfl⟩
      (simp+decide only[go_sem,a03,a00,e5j]<;>rfl)<;>rfl
     ·(repeat first|simp only[ww]|(apply xa;simp+decide only[go_sem,e5j];rfl;kernel_rfl))
      refine a2e 0 (by omega) ⟨_,_,?_,2,.inr (.inr ⟨rfl,rfl⟩),rfl,rfl⟩
      (simp+decide only[go_sem,a03,a00,e5j]<;>rfl)<;>rfl
     ·(repeat first|simp only[ww]|(apply xa;simp+decide only[go_sem];rfl;kernel_rfl))
      refine b6p (vs:=[.nilslice]) (r:=(_,_)) (by simp+decide only[go_sem]) ?_ rfl;simp+decide only[go_sem,a1q]<;>rfl
   ·have hg:=λH=>c7u H (a.length+b.length) hz hl;have az:a++b≠[]:=by intro e;rw[e8o]at e;rw[e.1,e.2]at hz;simp at hz
    generalize hR:List.replicate (a.length+b.length) [AV.int .u8 0]=R at hg;have mQ:R.length=a.length+b.length:=by rw[←hR];simp
    have jk:FlatR R:=λr hr=>by rw[←hR]at hr;rw[(List.mem_replicate.1 hr).2];rfl
    have dJ:a.length≤1000000000:=by omega
    have eW:a.length+b.length≤1000000000:=by omega
    have bR:¬0=a.length+b.length:=by omega
    (repeat first|simp only[ww]|(apply xa;simp+decide only[go_sem,hg];rfl;kernel_rfl))
    refine a5m kp93_2 (λq F H1=>∃(i:Int) (n:Nat) (Q:List (List AV)),((i=0∧q=2∧n=0∧Q=R)∨(i=1∧q=1∧n=a.length∧Q=a.map u8R)∨(i=2∧q=0∧n=a.length+b.length∧Q=a.map u8R++b.map u8R))∧F=[(6,.slice 1 0 n none),(25,.slice 0 0 2 (some 2)),(26,.int .i64 2),(27,.int .i64 i)]∧H1=[some (.row 1 [[sl ca (a.map u8R)],[sl cb (b.map u8R)]]),some (.row 1 Q)]) 2 ?_ ?_
    ·refine⟨_,_,?_,0,0,R,.inl ⟨rfl,rfl,rfl,rfl⟩,rfl,rfl⟩
     (simp+decide only[go_sem,a03,a00,a0c jk,a08 _ jk]<;>rfl)<;>rfl
    ·rintro q F H1 ⟨i,n,Q,h,rfl,rfl⟩
     rcases h with ⟨rfl,rfl,rfl,rfl⟩|⟨rfl,rfl,rfl,rfl⟩|⟨rfl,rfl,rfl,rfl⟩
     ·(repeat first|simp only[ww]|(apply xa;simp+decide only[go_sem,e7d,e6a,mQ,dJ,bR,e7l,c10,e5q];rfl;kernel_rfl))
      refine a2e 1 (by omega) ⟨_,_,?_,1,a.length,a.map u8R,.inr (.inl ⟨rfl,rfl,rfl,rfl⟩),rfl,rfl⟩
      (simp+decide only[go_sem,a03,a00,e00,e6i]<;>rfl)<;>rfl
     ·(repeat first|simp only[ww]|(apply xa;simp+decide only[go_sem,e7d,e6a,eW,c10];rfl;kernel_rfl))
      refine a2e 0 (by omega) ⟨_,_,?_,2,a.length+b.length,a.map u8R++b.map u8R,.inr (.inr ⟨rfl,rfl,rfl,rfl⟩),rfl,rfl⟩
      (simp+decide only[go_sem,a03,a00,e00,e6i,List.flatMap_append,e6r]<;>rfl)<;>rfl
     ·(repeat first|simp only[ww]|(apply xa;simp+decide only[go_sem];rfl;kernel_rfl))
      refine b6p (vs:=[.slice 1 0 (a.length+b.length) none]) (r:=(_,_)) (by simp+decide only[go_sem]) ?_ rfl;rw[d3v az];have ht:List.take (a.length+b.length) (a.map u8R++b.map u8R)=a.map u8R++b.map u8R:=e5o (by simp);have jN:∀m d,a8i m d (a.map u8R++b.map u8R)=some (a.map u8R++b.map u8R):=λm d=>a13 m d ((d27 a).append (d27 b));have dM:a.length+b.length≤a.length+b.length:=e6o _;simp+decide only[go_sem,a1q,ht,jN,c10,e6k,e6r]<;>rfl
/- a list that is filled from its first element on -/
def upT(f:Nat→List AV)(z:List AV)(n i:Nat):List (List AV):=(List.range n).map λj=>if j<i then f j else z
section
variable {f:Nat→List AV}{z:List AV}{n i:Nat}
theorem c9w:upT f z n 0=List.replicate n z:=by unfold upT;rw[show(λj:Nat=>if j<0 then f j else z)=λ_=>z from by funext j;rw[e5s (Nat.not_lt_zero j)],List.map_const',e7n]
theorem a64:(upT f z n i).length=n:=by simp[upT]
theorem b98{j:Nat}(hj:j<n):(upT f z n i)[j]?=some (if j<i then f j else z):=by unfold upT;rw[e5n,e8v hj];rfl
theorem c5c(hi:i<n):(upT f z n i)[i]?=some z:=by rw[b98 hi,e5s (Nat.lt_irrefl i)]
theorem b5p(hi:i<n):(upT f z n i).set i (f i)=upT f z n (i+1):=by
 apply e7s;intro j;rw[e70];by_cases hj:j<n
 ·rw[b98 hj,b98 hj,a64];by_cases h:i=j
  ·subst h;rw[e6q rfl,e6q hi,e6q (by omega)]
  ·rw[e5s h];by_cases h2:j<i
   ·rw[e6q h2,e6q (by omega)]
   ·rw[e5s h2,e5s (by omega)]
 ·have e:∀i,(upT f z n i)[j]?=none:=λi=>e6n (by rw[a64];omega);rw[e,e,e5s (by omega)]
theorem b5q:upT f z n n=(List.range n).map f:=by unfold upT;exact e7k λj hj=>by rw[e6q (e8y.1 hj)]
theorem a2b(hz:a0a z=[])(hf:∀j,a0a (f j)=[]):FlatR (upT f z n i):=FlatR.map λj=>by split;exact hf j;exact hz
end
theorem b4d{α:Type}(l:List α)(d:α):(List.range l.length).map (λj=>l.getD j d)=l:=by
 apply e7s;intro j;rw[e5n];by_cases h:j<l.length
 ·rw[e8v h,z9e h];simp[e7x,z9e h]
 ·rw[e6n (by simpa using h),e6n (by simpa using h)];rfl
/- cells -/
def b36(z o v:Nat):Nat:=if v=0 then z else if v=1 then o else 88
def a4s(z o v:Nat):UInt8:=UInt8.ofNat (b36 z o v)
theorem b5i(f:Nat→Nat):∀(l:List Nat),a4q (l.map λv=>[.int .u8 (f v:Nat)])=some (l.map λv=>UInt8.ofNat (f v))
 | []=>rfl
 |v::l=>by simp only[e4r,a4q,b5i f l,Int.toNat_natCast]
theorem d2u(r:Rep)(vs:List Nat)(z o:Nat)(hl:vs.length<1000000):sem L.env Mf 45 [sl r (vs.map u8R),.int .u8 z,.int .u8 o] []=some (.str (vs.map (a4s z o)),[]):=by
 obtain⟨f,hf⟩:∃f:Nat→List AV,f=λj=>[.int .u8 (b36 z o (vs.getD j 0):Nat)]:=⟨_,rfl⟩
 have dY:∀j,a0a (f j)=[]:=λj=>by rw[hf];rfl
 have aN:vs.length≤1000000000:=by omega
 (refine sv Tryz.f45 ?_;simp only[Tryz.f45,gS])
 (repeat first|simp only[ww]|(apply xa;simp+decide only[go_sem,aN,c10];rfl;kernel_rfl))
 refine a0m (σ:=Nat) kp45_0 (λi=>[(1,.int .u8 z),(2,.int .u8 o),(7,.slice 0 0 vs.length (some vs.length)),(13,sl r (vs.map u8R)),(14,.int .i64 vs.length),(15,.int .i64 i)])
  (λi=>[some (.row 1 (upT f [.int .u8 0] vs.length i))]) (λi=>vs.length-i) (λi=>i≤vs.length) 0 ?_ (e5q _) ?_
 ·rw[←c9w (f:=f)];have h1:=a0c (a2b (f:=f) (z:=[.int .u8 0]) (n:=vs.length) (i:=0) rfl dY);have h2:=λπ=>a08 π (a2b (f:=f) (z:=[.int .u8 0]) (n:=vs.length) (i:=0) rfl dY)
  (simp+decide only[go_sem,a03,a00,h1,h2]<;>rfl)<;>rfl
 ·intro i hi;by_cases ak:i<vs.length
  ·obtain⟨v,hv⟩:∃v,vs[i]?=some v:=⟨_,z9e ak⟩
   have c1:(i:Int)<vs.length:=by omega
   have hw:=wI1 (n:=i) (by omega);have h1:=a0c (a2b (f:=f) (z:=[.int .u8 0]) (n:=vs.length) (i:=i+1) rfl dY);have h2:=λπ=>a08 π (a2b (f:=f) (z:=[.int .u8 0]) (n:=vs.length) (i:=i+1) rfl dY);have cA:=c5c (f:=f) (z:=[.int .u8 0]) ak;have dM:=a64 (f:=f) (z:=[.int .u8 0]) (n:=vs.length) (i:=i);have aC:=b5p (f:=f) (z:=[.int .u8 0]) ak;have jP:f i=[.int .u8 (b36 z o v:Nat)]:=by rw[hf];simp only[e7x,hv,e7v]
   rw[jP]at aC;unfold b36 at aC;by_cases h0:v=0
   ·rw[e6q h0]at aC;have e0:(v:Int)=0:=by omega
    (repeat first|simp only[ww]|(apply xa;simp+decide only[go_sem,c1,ak,hv,hw,e0,cA,dM,aC,c10];rfl;kernel_rfl))
    refine a28 (i+1) ?_ (by omega) (by omega)
    (simp+decide only[go_sem,a03,a00,h1,h2]<;>rfl)<;>rfl
   ·rw[e5s h0]at aC;have e0:¬(v:Int)=0:=by omega
    by_cases mi:v=1
    ·rw[e6q mi]at aC;have e1:(v:Int)=1:=by omega
     (repeat first|simp only[ww]|(apply xa;simp+decide only[go_sem,c1,ak,hv,hw,e0,e1,cA,dM,aC,c10];rfl;kernel_rfl))
     refine a28 (i+1) ?_ (by omega) (by omega)
     (simp+decide only[go_sem,a03,a00,h1,h2]<;>rfl)<;>rfl
    ·rw[e5s mi]at aC;have e1:¬(v:Int)=1:=by omega
     rw[show((88:Nat):Int)=88 from rfl]at aC
     (repeat first|simp only[ww]|(apply xa;simp+decide only[go_sem,c1,ak,hv,hw,e0,e1,cA,dM,aC,c10];rfl;kernel_rfl))
     refine a28 (i+1) ?_ (by omega) (by omega)
     (simp+decide only[go_sem,a03,a00,h1,h2]<;>rfl)<;>rfl
  ·obtain rfl:i=vs.length:=by omega
   have c1:¬(vs.length:Int)<vs.length:=by omega
   have he:upT f [.int .u8 0] vs.length vs.length=vs.map λv=>[.int .u8 (b36 z o v:Nat)]:=by rw[b5q,hf];have:=congrArg (List.map λv=>[AV.int .u8 (b36 z o v:Nat)]) (b4d vs 0);rw[e9g]at this;exact this
   have cB:=b5i (b36 z o) vs;have dM:(vs.map λv=>[AV.int .u8 (b36 z o v:Nat)]).length=vs.length:=c10 ..;rw[he];have du:(vs.map λv=>[AV.int .u8 (b36 z o v:Nat)]).take vs.length=vs.map λv=>[AV.int .u8 (b36 z o v:Nat)]:=e5o (by simp);generalize(vs.map λv=>[AV.int .u8 (b36 z o v:Nat)])=R0 at cB dM du
   (repeat first|simp only[ww]|(apply xa;simp+decide only[go_sem,c1,cB,dM,du];rfl;kernel_rfl))
   (apply fqb;simp+decide only[go_sem]<;>rfl)
theorem b5b{d:Bool}(H:a02)(r:Rep)(vs:List Nat)(z o:Nat)(zi oi:Int)(hz:zi=z)(ho:oi=o)(hl:vs.length<1000000):a09 L.env d (sem L.env Mf) (.func (.func 45) [] []) [sl r (vs.map u8R),.int .u8 zi,.int .u8 oi] H=some (.str (vs.map (a4s z o)),H,[]):=by subst hz;subst ho;exact a04 (by kernel_rfl) (by kernel_rfl) rfl (by simp only[e5m,e4t,a06,a12,a8u,a0r]) (d2u r vs z o hl) rfl
/- values that may be given -/
def b2u:AV:=.func (.func 94) [] []
theorem d29(v:Nat)(hv:v≤3):sem L.env Mf 94 [.int .u8 v] []=some (.bool false,[]):=by
 have c1:¬(3:Int)<v:=by omega
 (refine sv Tryz.f94 ?_;simp only[Tryz.f94,gS])
 (repeat first|simp only[ww]|(apply xa;simp+decide only[go_sem,c1];rfl;kernel_rfl))
 (apply fqb;simp+decide only[go_sem]<;>rfl)
theorem c46{d:Bool}(H:a02)(v:Nat)(hv:v≤3):a09 L.env d (sem L.env Mf) (.func (.func 94) [] []) [.int .u8 v] H=some (.bool false,H,[]):=a04 (by kernel_rfl) (by kernel_rfl) rfl rfl (d29 v hv) rfl
theorem c0b(r:Rep)(l:List Nat)(hl:l.length<1000000)(hc:∀v∈l,v≤3) :
 sem L.env Mf 139 [sl r (l.map u8R),b2u] []=some (.int .i64 (-1),[]):=by
 unfold b2u
 (refine sv Tryz.f139 ?_;simp only[Tryz.f139,gS])
 (repeat first|simp only[ww]|(apply xa;simp+decide only[go_sem];rfl;kernel_rfl))
 refine a0m (σ:=Nat) kp139_0 (λi=>[(0,sl r (l.map u8R)),(1,b2u),(7,.int .i64 l.length),(8,.int .i64 i)])
  (λ_=>[]) (λi=>l.length-i) (λi=>i≤l.length) 0 ?_ (e5q _) ?_
 ·unfold b2u
  (simp+decide only[go_sem,a03,a00]<;>rfl)
 ·intro i hi;unfold b2u;by_cases ak:i<l.length
  ·obtain⟨x,hx⟩:∃x,l[i]?=some x:=⟨_,z9e ak⟩
   have c1:(i:Int)<l.length:=by omega
   have hw:=wI1 (n:=i) (by omega);have fm:=λH=>c46 (d:=false) H x (hc x (e12 hx))
   (repeat first|simp only[ww]|(apply xa;simp+decide only[go_sem,c1,ak,hx,hw,fm];rfl;kernel_rfl))
   refine a28 (i+1) ?_ (by omega) (by omega)
   (simp+decide only[go_sem,a03,a00,b2u]<;>rfl)
  ·obtain rfl:i=l.length:=by omega
   have c1:¬(l.length:Int)<l.length:=by omega
   (repeat first|simp only[ww]|(apply xa;simp+decide only[go_sem,c1];rfl;kernel_rfl))
   (apply fqb;simp+decide only[go_sem]<;>rfl)
theorem c8k(r:Rep)(l:List Nat)(hl:l.length<1000000)(hc:∀v∈l,v≤3) :
 sem L.env Mf 92 [sl r (l.map u8R),b2u] []=some (.bool false,[]):=by
 have h:=λH=>a04 (E:=L.env) (ah:=false) (call:=sem L.env Mf) (g:=139) (fs:=[]) (cs:=[]) (ar:=[sl r (l.map u8R),b2u]) (H:=H) (by kernel_rfl) (by kernel_rfl) rfl (by simp only[e5m,e4t,a06,a12];rfl) (c0b r l hl hc) rfl;have c1:¬(0:Int)≤ -1:=by omega
 unfold b2u at h⊢
 (refine sv Tryz.f92 ?_;simp only[Tryz.f92,gS])
 (repeat first|simp only[ww]|(apply xa;simp+decide only[go_sem,h,c1];rfl;kernel_rfl))
 (apply fqb;simp+decide only[go_sem]<;>rfl)
theorem c0n{d:Bool}(H:a02)(r:Rep)(l:List Nat)(hl:l.length<1000000)(hc:∀v∈l,v≤3):a09 L.env d (sem L.env Mf) (.func (.func 92) [] []) [sl r (l.map u8R),b2u] H=some (.bool false,H,[]):=a04 (by kernel_rfl) (by kernel_rfl) rfl (by simp only[e5m,e4t,a06,a12];rfl) (c8k r l hl hc) rfl
def vlR(x:Rep×List Nat):List AV:=[sl x.1 (x.2.map u8R)]
theorem c9t(x:Rep×List Nat):a0a (vlR x)=[]:=by simp only[vlR,a06,a12,a0r,e4t]
theorem d6u(l:List (Rep×List Nat)):FlatR (l.map vlR):=FlatR.map c9t
theorem c0o{d:Bool}(ca cb:Rep)(a b:List Nat)(hl:a.length+b.length≤100000):a09 L.env d (sem L.env Mf) (.func (.func 93) [] []) [.slice 0 0 2 (some 2)] [some (.row 1 [[sl ca (a.map u8R)],[sl cb (b.map u8R)]])]=some (slU (a++b),[some (.row 1 [[sl ca (a.map u8R)],[sl cb (b.map u8R)]])],[0]):=by have hf:FlatR [[sl ca (a.map u8R)],[sl cb (b.map u8R)]]:=FlatR.cons (by simp only[a06,a12,a0r,e4t]) (FlatR.cons (by simp only[a06,a12,a0r,e4t]) FlatR.nil);exact a2h (E:=L.env) (ah:=d) (call:=sem L.env Mf) (g:=93) (fs:=[]) (cs:=[]) (ar:=[.slice 0 0 2 (some 2)]) (H:=[some (.row 1 [[sl ca (a.map u8R)],[sl cb (b.map u8R)]])]) (b:=0) (by kernel_rfl) (by kernel_rfl) rfl rfl (a0j hf) (FlatO.row hf) rfl (aq:=[.slice 0 0 2 (some 2)]) (by simp only[e5m,e4t,e4r,e5j,a1u]) (c8l ca cb a b hl) (d0f _)
theorem d06(c:Cir)(hc:c.wf){k m:Nat}(ht:Tio c k m)(ra rb:Rep)(A B:List (Rep×List Nat))(dl:A.length≤1000)(iI:A.length=B.length)(hA:∀a∈A,a.2.length=k∧∀v∈a.2,v≤3)(hB:∀a∈B,a.2.length=m∧∀v∈a.2,v≤3) :
 sem L.env Mf 44 [.agg c.enc,sl ra (A.map vlR),sl rb (B.map vlR)] []=some (.int .i64 0,[]):=by
 obtain⟨t1,t2,t3,t4,t5,t6⟩:=ht;have hn:=hc.len;have bS:=λ(d:Bool) (H:a02)=>a40 (d:=d) H c (by omega);obtain⟨r0,e0⟩:=a4k (kinds c.nodes 0);rw[e0,t1]at bS;simp only[Cir.enc]at bS⊢;have c1:¬(1024:Int)<A.length:=by omega
 have c2:B.length=A.length:=iI.symm;have fM:∀π:Nat→Option Nat,a0d π (.row 4 [[sl c.nc (c.nodes.map Nd.enc),sl c.mc (c.names.map a3a),.nilslice,sl c.oc (c.outs.map a0s)]]) = .row 4 [[sl c.nc (c.nodes.map Nd.enc),sl c.mc (c.names.map a3a),.nilslice,sl c.oc (c.outs.map a0s)]]:=λπ=>by simp+decide only[go_sem]
 (refine sv Tryz.f44 ?_;simp only[Tryz.f44,gS])
 (repeat first|simp only[ww]|(apply xa;simp+decide only[go_sem,bS,c1,c2,c10,e7n];rfl;kernel_rfl))
 refine a0m (σ:=Nat) kp44_1 (λi=>[(1,sl ra (A.map vlR)),(2,sl rb (B.map vlR)),(3,.ptr 0 0 0),(7,.int .i64 k),(24,.int .i64 A.length),(25,.int .i64 i)])
  (λi=>[some (.row 4 [[sl c.nc (c.nodes.map Nd.enc),sl c.mc (c.names.map a3a),.nilslice,sl c.oc (c.outs.map a0s)]])]) (λi=>A.length-i) (λi=>i≤A.length) 0 ?_ (e5q _) ?_
 ·(simp+decide only[go_sem,a03,a00]<;>rfl)<;>rfl
 ·intro i hi;by_cases ak:i<A.length
  ·have d1:(i:Int)<A.length:=by omega
   have bt:=wI1 (n:=i) (by omega);have bA:i<B.length:=by omega
   obtain⟨a,ha⟩:∃a,A[i]?=some a:=⟨_,z9e ak⟩
   obtain⟨b,hb⟩:∃b,B[i]?=some b:=⟨_,z9e bA⟩
   obtain⟨a1,a2⟩:=hA a (e12 ha);obtain⟨b1,b2⟩:=hB b (e12 hb);have fW:vlR a=[sl a.1 (a.2.map u8R)]:=rfl;have kw:vlR b=[sl b.1 (b.2.map u8R)]:=rfl
   (repeat first|simp only[ww]|(apply xa;simp+decide only[go_sem,d1,ak,bA,ha,hb,fW,kw,a1,b1,t4,bt,c10];rfl;kernel_rfl))
   refine a28 (i+1) ?_ (by omega) (by omega)
   (simp+decide only[go_sem,a03,a00]<;>rfl)<;>rfl
  ·obtain rfl:i=A.length:=by omega
   have d1:¬(A.length:Int)<A.length:=by omega
   (repeat first|simp only[ww]|(apply xa;simp+decide only[go_sem,d1,c10];rfl;kernel_rfl))
   refine a0m (σ:=Nat) kp44_3 (λi=>[(1,sl ra (A.map vlR)),(2,sl rb (B.map vlR)),(48,.int .i64 A.length),(49,.int .i64 i)])
    (λi=>[]) (λi=>A.length-i) (λi=>i≤A.length) 0 ?_ (e5q _) ?_
   ·(simp+decide only[go_sem,a03,a00]<;>rfl)<;>rfl
   ·intro i hi;by_cases ak:i<A.length
    ·have d1:(i:Int)<A.length:=by omega
     have bt:=wI1 (n:=i) (by omega);have bA:i<B.length:=by omega
     obtain⟨a,ha⟩:∃a,A[i]?=some a:=⟨_,z9e ak⟩
     obtain⟨b,hb⟩:∃b,B[i]?=some b:=⟨_,z9e bA⟩
     obtain⟨a1,a2⟩:=hA a (e12 ha);obtain⟨b1,b2⟩:=hB b (e12 hb);have fW:vlR a=[sl a.1 (a.2.map u8R)]:=rfl;have kw:vlR b=[sl b.1 (b.2.map u8R)]:=rfl;have pL:=λ(d:Bool)=>c0o (d:=d) a.1 b.1 a.2 b.2 (by omega);have az:a.2++b.2≠[]:=by intro e;have h2:=(e8o.1 e).1;rw[h2,e5r]at a1;omega
     rw[d3v az]at pL;have lW:=λ(d:Bool) (H:a02)=>c0n (d:=d) H (some none) (a.2++b.2) (by rw[e6k];omega) (λv hv=>by rcases e7h.1 hv with h|h;exact a2 v h;exact b2 v h);simp only[a67,b2u,e6r]at lW
     (repeat first|simp only[ww]|(apply xa;simp+decide only[go_sem,d1,ak,bA,ha,hb,fW,kw,pL,lW,bt,c10];rfl;kernel_rfl))
     refine a28 (i+1) ?_ (by omega) (by omega)
     (simp+decide only[go_sem,a03,a00]<;>rfl)<;>rfl
    ·obtain rfl:i=A.length:=by omega
     have d1:¬(A.length:Int)<A.length:=by omega
     (repeat first|simp only[ww]|(apply xa;simp+decide only[go_sem,d1,c10];rfl;kernel_rfl))
     (apply fqb;simp+decide only[go_sem]<;>rfl)
theorem b44{d:Bool}{H:a02}(c:Cir)(hc:c.wf){k m:Nat}(ht:Tio c k m){ra rb:Rep}{A B:List (Rep×List Nat)}(dl:A.length≤1000)(iI:A.length=B.length)(hA:∀a∈A,a.2.length=k∧∀v∈a.2,v≤3)(hB:∀a∈B,a.2.length=m∧∀v∈a.2,v≤3){V W:AV}
 (hV:a30 0 false (a3w (a01 H) 0 12) V=some (sl ra (A.map vlR)))(hW:a30 0 false (a3w (a01 H) 0 12) W=some (sl rb (B.map vlR))) :
 a09 L.env d (sem L.env Mf) (.func (.func 44) [] []) [.agg c.enc,V,W] H=some (.int .i64 0,H,List.range H.length):=
 a7x (args:=[.agg c.enc,V,W]) (aq:=[.agg c.enc,sl ra (A.map vlR),sl rb (B.map vlR)]) (by kernel_rfl) (by kernel_rfl) rfl (by rw[a5c,a1c _ _ _ (.agg c.enc) (by rw[a0z];exact a2v c),a5c,hV,a5c,hW];rfl) (d06 c hc ht ra rb A B dl iI hA hB) rfl rfl
def tmR:List AV:=[.str [116],.int .i64 100,.int .i64 0,.int .i64 30,.int .i64 60,.int .i64 90]
def vcR(s:List UInt8):List AV:=[.int .i64 0,.str s,.int .i64 1]
def a9k(vs:List (List UInt8)):AV:=match vs with|[]=>.nilslice|v::r=>.islice ((v::r).map vcR) (some (r.length+1))
def a6p(sg:List Sgn)(vs:List (List UInt8)):List AV:=[.islice (sg.map Sgn.row) (some sg.length),.islice [tmR] (some 1),a9k vs]
def cyc(a b:List Nat):List UInt8:=a.map (a4s 48 49)++b.map (a4s 76 72)
def d2e(A B:List (Rep×List Nat)):List (List UInt8):=List.zipWith (λa b=>cyc a.2 b.2) A B
theorem b1c{A B:List (Rep×List Nat)}{i:Nat}{a b:Rep×List Nat}(ha:A[i]?=some a)(hb:B[i]?=some b):(d2e A B)[i]?=some (cyc a.2 b.2):=by unfold d2e;rw[List.getElem?_zipWith,ha,hb]
theorem b1b{A B:List (Rep×List Nat)}(h:A.length=B.length):(d2e A B).length=A.length:=by unfold d2e;rw[List.length_zipWith];omega
theorem b6q(l:List (List UInt8)):FlatR (l.map vcR):=FlatR.map λ_=>rfl
theorem a3y(l:List (List UInt8)):refs (a9k l)=[]:=by cases l<;>rfl
theorem a4d(sg:List Sgn)(vs:List (List UInt8)):a0a (a6p sg vs)=[]:=by simp only[a6p,a06,a3y,a6c,a0r,e4t]
theorem c59:sem L.env Mf 46 [.nilslice] []=some (.nilslice,[]):=by
 (refine sv Tryz.f46 ?_;simp only[Tryz.f46,gS])
 (repeat first|simp only[ww]|(apply xa;simp+decide only[go_sem];rfl;kernel_rfl))
 (apply fqb;simp+decide only[go_sem]<;>rfl)
theorem c9u(n:Nat)(aa:List (List AV))(hf:FlatR aa):sem L.env Mf 46 [.slice 0 0 n none] [some (.row 3 aa)]=some (.slice 0 0 n (some n),[some (.row 3 aa)]):=by
 have h1:=λπ=>a08 π hf
 (refine sv Tryz.f46 ?_;simp only[Tryz.f46,gS])
 (repeat first|simp only[ww]|(apply xa;simp+decide only[go_sem];rfl;kernel_rfl))
 (apply fqb;simp+decide only[go_sem,h1]<;>rfl)
theorem c2s{d:Bool}{H:a02}{b n:Nat}{aa:List (List AV)}(hf:FlatR aa)(hb:a01 H b=some (.row 3 aa)):a09 L.env d (sem L.env Mf) (.func (.func 46) [] []) [.slice b 0 n none] H=some (.slice b 0 n (some n),H,[b]):=by have h:=a43 (E:=L.env) (ah:=d) (call:=sem L.env Mf) (g:=46) (fs:=[]) (cs:=[]) (ar:=[.slice b 0 n none]) (H:=H) (b:=b) (by kernel_rfl) (by kernel_rfl) rfl hb (a0j hf) (FlatO.row hf) rfl (aq:=[AV.slice 0 0 n none]) (by simp only[e5m,e4t,e4r,e5j,a1u]) (c9u n aa hf) (FlatO.row hf) (a5e b 0 _ n _);rw[a8s hb]at h;exact h
theorem b96{d:Bool}(H:a02):a09 L.env d (sem L.env Mf) (.func (.func 46) [] []) [.nilslice] H=some (.nilslice,H,[]):=a04 (by kernel_rfl) (by kernel_rfl) rfl rfl c59 rfl
theorem c4h(c:Cir)(hc:c.wf){k m:Nat}(ht:Tio c k m)(ra rb:Rep)(A B:List (Rep×List Nat))(dl:A.length≤1000)(iI:A.length=B.length)(hA:∀a∈A,a.2.length=k∧∀v∈a.2,v≤3)(hB:∀a∈B,a.2.length=m∧∀v∈a.2,v≤3) :
 sem L.env Mf 17 [.agg c.enc,sl ra (A.map vlR),sl rb (B.map vlR)] []=some (.tuple [.agg (a6p (sgs k m) (d2e A B)),.int .i64 0],[]):=by
 have gW:=λ(d:Bool) (H:a02)=>a6z (d:=d) H c hc ht;have jd:=λ(d:Bool) (H:a02)=>b44 (d:=d) (H:=H) c hc ht (ra:=ra) (rb:=rb) dl iI hA hB (a1c _ _ _ _ (a12 _ _)) (a1c _ _ _ _ (a12 _ _));have b8:=λ(d:Bool) (H:a02) (r:Rep) (vs:List Nat) (h:vs.length<1000000)=>b5b (d:=d) H r vs 48 49 48 49 rfl rfl h;have oq:=λ(d:Bool) (H:a02) (r:Rep) (vs:List Nat) (h:vs.length<1000000)=>b5b (d:=d) H r vs 76 72 76 72 rfl rfl h;obtain⟨t1,t2,t3,t4,t5,t6⟩:=ht;have sF:B.length=A.length:=iI.symm;have ia:=b1b iI;have ft:=λi a b h1 h2=>b1c (A:=A) (B:=B) (i:=i) (a:=a) (b:=b) h1 h2;generalize d2e A B=V at ia ft;have cU:=a3c k m;obtain⟨S,hS⟩:∃S,AV.islice ((sgs k m).map Sgn.row) (some (k+m))=S:=⟨_,rfl⟩
 rw[hS]at gW;have iF:refs S=[]:=by rw[←hS];rfl
 have iE:S.storable=true:=by rw[←hS];rfl
 have j6:S.cells=[S]:=by rw[←hS];rfl
 have j5:S.isJunk=false:=by rw[←hS];rfl
 have oG:∀π,ren π S=S:=λπ=>a1d π _ iF;have mO:∀m t d,a30 m t d S=some S:=λm t d=>a1c m t d _ iF;have dK:a6p (sgs k m) V=[S,.islice [tmR] (some 1),a9k V]:=by unfold a6p;rw[cU,hS]
 rw[dK];simp only[Cir.enc]at gW jd⊢
 (refine sv Tryz.f17 ?_;simp only[Tryz.f17,gS])
 (repeat first|simp only[ww]|(apply xa;simp+decide only[go_sem,gW,jd,iE,j5,j6];rfl;kernel_rfl))
 refine a0m (σ:=Nat) kp17_0 (λi=>[(1,sl ra (A.map vlR)),(2,sl rb (B.map vlR)),(6,.ptr 0 0 0),(10,.ptr 1 0 0),(34,.int .i64 A.length),(35,.int .i64 i)])
  (λi=>[some (.row 3 [[.nilslice,.nilslice,.nilslice]]),some (.row 3 [[S,.slice 2 0 1 (some 1),grV 3 ((V.take i).map vcR)]]),some (.row 6 [tmR])]++grH 3 ((V.take i).map vcR)) (λi=>A.length-i) (λi=>i≤A.length) 0 ?_ (e5q _) ?_
 ·rw[e71]
  (simp+decide only[go_sem,a03,a00,e5j,a17,a18,iF,oG,tmR]<;>rfl)<;>rfl
 ·intro i hi;by_cases ak:i<A.length
  ·have d1:(i:Int)<A.length:=by omega
   have bt:=wI1 (n:=i) (by omega);have bA:i<B.length:=by omega
   obtain⟨a,ha⟩:∃a,A[i]?=some a:=⟨_,z9e ak⟩
   obtain⟨b,hb⟩:∃b,B[i]?=some b:=⟨_,z9e bA⟩
   obtain⟨a1,a2⟩:=hA a (e12 ha);obtain⟨b1,b2⟩:=hB b (e12 hb);have fW:vlR a=[sl a.1 (a.2.map u8R)]:=rfl;have kw:vlR b=[sl b.1 (b.2.map u8R)]:=rfl;have fV:=λ(d:Bool) (H:a02)=>b8 d H a.1 a.2 (by omega);have fJ:=λ(d:Bool) (H:a02)=>oq d H b.1 b.2 (by omega);have eG:V.take (i+1)=V.take i++[cyc a.2 b.2]:=a1a (ft i a b ha hb);have pM:d8y BinOp.add (a.2.map (a4s 48 49)) (b.2.map (a4s 76 72))=some (.str (cyc a.2 b.2)):=by
    have bf:(a.2.map (a4s 48 49)).length+(b.2.map (a4s 76 72)).length≤4611686018427387904:=by rw[c10,c10];omega
    simp only[d8y,e7o bf,e6m];rfl
   have dC:(V.take i).length=i:=by rw[e7u];omega
   have hf:=b6q (V.take i);cases bZ:V.take i with
   |nil=>
    (repeat first|simp only[ww]|(apply xa;simp+decide only[go_sem,d1,ak,bA,ha,hb,fW,kw,fV,fJ,pM,bt,iE,j5,j6,e5j,a17,a18,c10];rfl;kernel_rfl))
    refine a28 (i+1) ?_ (by omega) (by omega);rw[eG,bZ]
    (simp+decide only[go_sem,a03,a00,e5m,e4r,e5j,a0k,a0l,e5r,iF,oG,tmR,vcR]<;>rfl)<;>rfl
   |cons v r=>
    rw[bZ]at dC hf;have aN:r.length+1+1≤1000000000:=by simp only[e5l]at dC;omega
    have g9:=b6q r;have h3:=a0c g9;have h4:=λπ=>a08 π g9
    (repeat first|simp only[ww]|(apply xa;simp+decide only[go_sem,d1,ak,bA,ha,hb,fW,kw,fV,fJ,pM,bt,iE,j5,j6,e4r,a0k,a0l,aN,c10];rfl;kernel_rfl))
    refine a28 (i+1) ?_ (by omega) (by omega);rw[eG,bZ]
    (simp+decide only[go_sem,a03,a00,e7p,e4r,e6r,e5j,a0k,a0l,e6k,e5l,e5r,c10,iF,oG,tmR,vcR,h3,h4,e4t]<;>rfl)<;>rfl
  ·obtain rfl:i=A.length:=by omega
   have d1:¬(A.length:Int)<A.length:=by omega
   rw[e5o (by omega)];have hn:=λ(d:Bool) (H:a02)=>b96 (d:=d) H;cases hV:V with
   |nil=>
    (repeat first|simp only[ww]|(apply xa;simp+decide only[go_sem,d1,hn,iE,j5,j6,e5j,a17,a18,c10];rfl;kernel_rfl))
    (apply fqb;simp+decide only[go_sem,mO,iE,j5,j6,a9k,tmR]<;>rfl)
   |cons v r=>
    have jQ:=b6q (v::r);have jV:=λ(d:Bool) (X Y Z:Option AObj)=>c2s (d:=d) (H:=[X,Y,Z,some (.row 3 ((v::r).map vcR))]) (b:=3) (n:=r.length+1) jQ rfl;have jN:=λm d=>a13 (m:=m) (d:=d) jQ;have fO:a9k (v::r) = .islice ((v::r).map vcR) (some (r.length+1)):=rfl;have az:(v::r).map vcR≠[]:=by simp
    have dM:((v::r).map vcR).length=r.length+1:=by simp
    have du:((v::r).map vcR).take (r.length+1)=(v::r).map vcR:=e5o (by simp);rw[a6r 3 az,a6s 3 az,dM,fO];generalize(v::r).map vcR=R0 at jV jN dM du
    (repeat first|simp only[ww]|(apply xa;simp+decide only[go_sem,d1,jV,iE,j5,j6,c10];rfl;kernel_rfl))
    (apply fqb;simp+decide only[go_sem,mO,iE,j5,j6,tmR,jN,du,dM]<;>rfl)
theorem b8m{d:Bool}(H:a02)(c:Cir)(hc:c.wf){k m:Nat}(ht:Tio c k m)(ra rb:Rep)(A B:List (Rep×List Nat))(dl:A.length≤1000)(iI:A.length=B.length)(hA:∀a∈A,a.2.length=k∧∀v∈a.2,v≤3)(hB:∀a∈B,a.2.length=m∧∀v∈a.2,v≤3) :
 a09 L.env d (sem L.env Mf) (.func (.func 17) [] []) [.agg c.enc,sl ra (A.map vlR),sl rb (B.map vlR)] H=some (.tuple [.agg (a6p (sgs k m) (d2e A B)),.int .i64 0],H,[]):=
 a04 (by kernel_rfl) (by kernel_rfl) rfl (by simp only[e5m,e4t,a06,a12,a0r,a0z];exact a2v c) (c4h c hc ht ra rb A B dl iI hA hB) (by simp only[a9r,a06,a0z,a4d,a0r,a8u,e4t])
theorem d6y{P:Nat→Prop}(h:P 0∧P 1∧P 2∧P 3∧P 4∧P 5∧P 6∧P 7∧P 8∧P 9∧P 10∧P 11∧P 12∧P 13∧P 14):∀i,i<15→P i:=by
 intro i hi;have:i=0∨i=1∨i=2∨i=3∨i=4∨i=5∨i=6∨i=7∨i=8∨i=9∨i=10∨i=11∨i=12∨i=13∨i=14:=by omega
 rcases this with rfl|rfl|rfl|rfl|rfl|rfl|rfl|rfl|rfl|rfl|rfl|rfl|rfl|rfl|rfl<;>simp only[h]
theorem c8x:∀n:Nat,n<15→sem L.env Mf 55 [.int .i64 n] []=some (.islice (List.replicate n [.int .u8 2]) (some n),[]):=d6y (by refine⟨?_,?_,?_,?_,?_,?_,?_,?_,?_,?_,?_,?_,?_,?_,?_⟩<;>exact a0i (E:=L.env) a0h 60 (by kernel_rfl))
theorem c0w{d:Bool}(H:a02)(n:Nat)(hn:n<15):a09 L.env d (sem L.env Mf) (.func (.func 55) [] []) [.int .i64 n] H=some (.islice (List.replicate n [.int .u8 2]) (some n),H,[]):=a04 (by kernel_rfl) (by kernel_rfl) rfl rfl (c8x n hn) rfl
def a6t(c:Cir):Pat:=⟨some (some (kinds c.nodes 0).length),List.replicate (kinds c.nodes 0).length 2,some (some (kinds c.nodes 14).length),List.replicate (kinds c.nodes 14).length 2⟩
theorem c5i(c:Cir)(hc:c.wf):sem L.env Mf 22 [.agg c.enc] []=some (.agg (a6t c).enc,[]):=by
 have hn:=hc.len;have bS:=λ(d:Bool) (H:a02)=>a40 (d:=d) H c (by omega);have aI:=λ(d:Bool) (H:a02)=>a66 (d:=d) H c (by omega);have hb:=λ(d:Bool) (H:a02) (n:Nat) (h:n<15)=>c0w (d:=d) H n h;obtain⟨r0,e0⟩:=a4k (kinds c.nodes 0);obtain⟨r1,e1⟩:=a4k (kinds c.nodes 14);have k0:=a4a c.nodes 0;have k1:=a4a c.nodes 14;rw[e0]at bS;rw[e1]at aI;have oB:=λ(d:Bool) (H:a02)=>hb d H (kinds c.nodes 0).length (by omega);have cf:=λ(d:Bool) (H:a02)=>hb d H (kinds c.nodes 14).length (by omega);have hr:∀n:Nat,List.map u8R (List.replicate n 2)=List.replicate n [.int .u8 2]:=λn=>by rw[List.map_replicate];rfl
 have dv:(a6t c).enc=[.islice (List.replicate (kinds c.nodes 0).length [.int .u8 2]) (some (kinds c.nodes 0).length),.islice (List.replicate (kinds c.nodes 14).length [.int .u8 2]) (some (kinds c.nodes 14).length)]:=by unfold a6t Pat.enc;rw[hr,hr,a67,a67]
 rw[dv];simp only[Cir.enc]at bS aI⊢
 (refine sv Tryz.f22 ?_;simp only[Tryz.f22,gS])
 (repeat first|simp only[ww]|(apply xa;simp+decide only[go_sem,bS,aI,oB,cf,c10];rfl;kernel_rfl))
 (apply fqb;simp+decide only[go_sem]<;>rfl)
end Go.UInst
