/- Part of a proof. No condition. -/
import Derived.Test.YtmiegcjnimlbmaaGreatDoorUGa
import Derived.Test.YtmiegcjnimlbmaaGreatDoorUNe
import Derived.Test.YtmiegcjnimlbmaaGreatDoorULives
import Derived.Test.YtmiegcjnimlbmaaGreatDoorAxD
import Derived.Test.YtmiegcjnimlbmaaGreatDoorAxA
import Derived.Test.YtmiegcjnimlbmaaGreatDoorUIn
set_option linter.unusedSimpArgs false
set_option linter.unusedVariables false
namespace Go.UInst
open Go.Proofs Go.Ax Go.Pc
set_option maxRecDepth 100000
/- a circuit a3t memory -/
theorem d3b(x:CX)(hx:x.ok):sem L.env Mf 15 [.agg x.enc] []=some (.agg (a8s x).cir.enc,[]):=by
 have hx':(a8s x).ok:=⟨hx.1,hx.2,hx.3,hx.4,hx.5,hx.6⟩
 have hc:=λH=>d87 (d:=false) H (a8s x) hx' rfl;generalize(a8s x).cir=c at hc;simp only[go_sem,a8s]at hc;simp only[Cir.enc]at hc
 (refine sv Tryz.f15 ?_;simp only[Tryz.f15,gS])
 (repeat first|simp only[ww]|(apply xa;simp+decide only[go_sem,hc];rfl;kernel_rfl))
 (apply fqb;simp+decide only[go_sem,Cir.enc]<;>rfl)
theorem c5i{d:Bool}(H:a02)(x:CX)(hx:x.ok):a0a L.env d (sem L.env Mf) (.func (.func 15) [] []) [.agg x.enc] H=some (.agg (a8s x).cir.enc,H,[]):=a04 (by kernel_rfl) (by kernel_rfl) rfl (by simp only[go_sem]) (d3b x hx) (a3q _)
/- the inputs of a sequence of patterns -/
def inR(q:Pat):List AV:=[sl q.ic (q.ins.map u8R)]
attribute [go_sem] List.getElem?_map
def oS(j:Nat):List UInt8:=[111,UInt8.ofNat (48+j)]
/- names -/
theorem e65{P:Nat→Prop}(h0:P 0)(h1:P 1)(h2:P 2)(h3:P 3):∀i,i<4→P i:=by
 intro i hi;have:i=0∨i=1∨i=2∨i=3:=by omega
 rcases this with rfl|rfl|rfl|rfl<;>assumption
theorem d81:∀i:Nat,i<4→sem L.env Mf 14 [.str (a2j i)] []=some (.bool true,[]):=e65 (a0o (E:=L.env) a0n 60 (by kernel_rfl)) (a0o (E:=L.env) a0n 60 (by kernel_rfl)) (a0o (E:=L.env) a0n 60 (by kernel_rfl)) (a0o (E:=L.env) a0n 60 (by kernel_rfl))
theorem d80:∀i:Nat,i<4→sem L.env Mf 14 [.str (oS i)] []=some (.bool true,[]):=e65 (a0o (E:=L.env) a0n 60 (by kernel_rfl)) (a0o (E:=L.env) a0n 60 (by kernel_rfl)) (a0o (E:=L.env) a0n 60 (by kernel_rfl)) (a0o (E:=L.env) a0n 60 (by kernel_rfl))
theorem d8s:∀i:Nat,i<4→sem L.env Mf 36 [.int .i64 i] []=some (.str [UInt8.ofNat (48+i)],[]):=e65 (a0o (E:=L.env) a0n 60 (by kernel_rfl)) (a0o (E:=L.env) a0n 60 (by kernel_rfl)) (a0o (E:=L.env) a0n 60 (by kernel_rfl)) (a0o (E:=L.env) a0n 60 (by kernel_rfl))
theorem c9d{d:Bool}(H:a02)(i:Nat)(hi:i<4):a0a L.env d (sem L.env Mf) (.func (.func 36) [] []) [.int .i64 i] H=some (.str [UInt8.ofNat (48+i)],H,[]):=a04 (by kernel_rfl) (by kernel_rfl) rfl rfl (d8s i hi) rfl
def b8t(s:List UInt8):Prop:=sem L.env Mf 14 [.str s] []=some (.bool true,[])
theorem b5r{d:Bool}{s:List UInt8}(h:b8t s)(H:a02):a0a L.env d (sem L.env Mf) (.func (.func 14) [] []) [.str s] H=some (.bool true,H,[]):=a04 (by kernel_rfl) (by kernel_rfl) rfl rfl h rfl
/- signals -/
structure Sgn where
 nm:List UInt8
 dir:Nat
def Sgn.row(s:Sgn):List AV:=[.str s.nm,.int .u8 s.dir]
def c35:AV:=.func (.func 38) [] []
theorem d7j(s:Sgn)(h:b8t s.nm):sem L.env Mf 38 [.agg s.row] []=some (.bool false,[]):=by
 have hn:=λH=>b5r (d:=false) h H;simp only[Sgn.row]
 (refine sv Tryz.f38 ?_;simp only[Tryz.f38,gS])
 (repeat first|simp only[ww]|(apply xa;simp+decide only[go_sem,hn];rfl;kernel_rfl))
 (apply fqb;simp+decide only[go_sem]<;>rfl)
theorem c7r{d:Bool}(H:a02)(s:Sgn)(h:b8t s.nm):a0a L.env d (sem L.env Mf) (.func (.func 38) [] []) [.agg s.row] H=some (.bool false,H,[]):=a04 (by kernel_rfl) (by kernel_rfl) rfl rfl (d7j s h) rfl
theorem a59(l:List Sgn):FlatR (l.map Sgn.row):=FlatR.map λ_=>rfl
theorem c9q(cp:Option Nat)(l:List Sgn)(hl:l.length<1000000)(hc:∀v∈l,b8t v.nm) :
 sem L.env Mf 88 [.islice (l.map Sgn.row) cp,c35] []=some (.int .i64 (-1),[]):=by
 unfold c35
 (refine sv Tryz.f88 ?_;simp only[Tryz.f88,gS])
 (repeat first|simp only[ww]|(apply xa;simp+decide only[go_sem];rfl;kernel_rfl))
 refine a0p (σ:=Nat) kp88_0 (λi=>[(0,.islice (l.map Sgn.row) cp),(1,c35),(7,.int .i64 l.length),(8,.int .i64 i)])
  (λ_=>[]) (λi=>l.length-i) (λi=>i≤l.length) 0 ?_ (Nat.zero_le _) ?_
 ·unfold c35
  (simp+decide only[go_sem,a03,a00,List.length_map]<;>rfl)
 ·intro i hi;unfold c35;by_cases hlt:i<l.length
  ·obtain⟨x,hx⟩:∃x,l[i]?=some x:=⟨_,z9e hlt⟩
   have c1:(i:Int)<l.length:=by omega
   have hw:=wI1 (n:=i) (by omega);have hcx:=λH=>c7r (d:=false) H x (hc x (List.mem_of_getElem? hx));have hr:x.row=[.str x.nm,.int .u8 x.dir]:=rfl;rw[hr]at hcx
   (repeat first|simp only[ww]|(apply xa;simp+decide only[go_sem,c1,hlt,hx,hr,hw,hcx,List.length_map];rfl;kernel_rfl))
   refine a27 (i+1) ?_ (by omega) (by omega)
   (simp+decide only[go_sem,a03,a00,c35]<;>rfl)
  ·obtain rfl:i=l.length:=by omega
   have c1:¬(l.length:Int)<l.length:=by omega
   (repeat first|simp only[ww]|(apply xa;simp+decide only[go_sem,c1];rfl;kernel_rfl))
   (apply fqb;simp+decide only[go_sem]<;>rfl)
theorem c65(cp:Option Nat)(l:List Sgn)(hl:l.length<1000000)(hc:∀v∈l,b8t v.nm) :
 sem L.env Mf 37 [.islice (l.map Sgn.row) cp,c35] []=some (.bool false,[]):=by
 have h:=λH=>a04 (E:=L.env) (draw:=false) (call:=sem L.env Mf) (g:=88) (fs:=[]) (cs:=[]) (ar:=[.islice (l.map Sgn.row) cp,c35]) (H:=H) (by kernel_rfl) (by kernel_rfl) rfl (by rfl) (c9q cp l hl hc) rfl;have c1:¬(0:Int)≤ -1:=by omega
 unfold c35 at h⊢
 (refine sv Tryz.f37 ?_;simp only[Tryz.f37,gS])
 (repeat first|simp only[ww]|(apply xa;simp+decide only[go_sem,h,c1];rfl;kernel_rfl))
 (apply fqb;simp+decide only[go_sem]<;>rfl)
theorem c66{d:Bool}{H:a02}{b:Nat}(l:List Sgn)(hl:l.length<1000000)(hc:∀v∈l,b8t v.nm)(hb:a01 H b=some (.row 2 (l.map Sgn.row))) :
 a0a L.env d (sem L.env Mf) (.func (.func 37) [] []) [.slice b 0 l.length none,c35] H=some (.bool false,H,List.range H.length):=by
 refine a6u (args:=[.slice b 0 l.length none,c35]) (args':=[.islice (l.map Sgn.row) none,c35]) (by kernel_rfl) (by kernel_rfl) rfl ?_ (v:=.bool false) (H1:=[]) (c65 none l hl hc) rfl rfl;have h2:=a17 (m:=0) (d:=a4h (a01 H) 0 11) (a59 l);have h4:((l.map Sgn.row).drop 0).take l.length=l.map Sgn.row:=by rw[List.drop_zero];exact List.take_of_length_le (by simp)
 unfold c35;simp+decide only[a3l,a5w,a4r,hb,a95,a0g,h4,h2,List.length_map,Nat.zero_add,Nat.le_refl,decide_true,decide_false,cond_true,cond_false];rfl
theorem d2j(n:Nat)(rows:List (List AV))(hf:FlatR rows):sem L.env Mf 39 [.slice 0 0 n none] [some (.row 2 rows)]=some (.slice 0 0 n (some n),[some (.row 2 rows)]):=by
 have h1:=λπ=>a06 π hf
 (refine sv Tryz.f39 ?_;simp only[Tryz.f39,gS])
 (repeat first|simp only[ww]|(apply xa;simp+decide only[go_sem];rfl;kernel_rfl))
 (apply fqb;simp+decide only[go_sem,h1]<;>rfl)
theorem c4y{d:Bool}{H:a02}{b n:Nat}{rows:List (List AV)}(hf:FlatR rows)(hb:a01 H b=some (.row 2 rows)):a0a L.env d (sem L.env Mf) (.func (.func 39) [] []) [.slice b 0 n none] H=some (.slice b 0 n (some n),H,[b]):=by have h:=a40 (E:=L.env) (draw:=d) (call:=sem L.env Mf) (g:=39) (fs:=[]) (cs:=[]) (ar:=[.slice b 0 n none]) (H:=H) (b:=b) (by kernel_rfl) (by kernel_rfl) rfl hb (a0m hf) (FlatO.row hf) rfl (args':=[AV.slice 0 0 n none]) (by simp only[List.nil_append,List.append_nil,List.map_cons,List.map_nil,a1y]) (d2j n rows hf) (FlatO.row hf) (a4t b 0 _ n _);rw[a8g hb]at h;exact h
/- a set of names -/
def stO(l:List (List UInt8)):AObj:=.map (l.map .str) (List.replicate l.length (.bool true)) (List.range l.length) l.length
theorem c1b(s:List UInt8):∀(l:List (List UInt8)) (b:Nat),s∉l→a1w (aeq L.env 6 9) (.str s) (l.map .str) b=some none
 | [],b,_=>rfl
 |t::l,b,h=>by
  simp only[List.mem_cons,not_or]at h;have hne:(s==t)=false:=by rw[beq_eq_false_iff_ne];exact h.1
  simp only[List.map_cons,a1w,eqS,hne,cond_false];exact c1b s l (b+1) h.2
theorem d7e{h:FHeap}{b:Nat}{l:List (List UInt8)}{s:List UInt8}(hb:h b=some (stO l))(hs:s∉l):a5z L.env h 122 (.map b) (.str s) false=some (.bool false):=by
 have hu:L.env.und 122=some (.map 9 4):=by kernel_rfl
 have hk:(b9x L.env 9&&b66 L.env 9 (.str s))=true:=by kernel_rfl
 have hz:L.env.zero 4=some [.bool false]:=by kernel_rfl
 have hd0:(L.env.und 4).map a28=some false:=by kernel_rfl
 obtain⟨d,hd,hd2⟩:=a05 hd0;have hm:b1s h (.map b)=some (l.map .str,List.replicate l.length (.bool true)):=by simp only[b1s,hb,stO]
 unfold a5z;simp only[hu,hk,cond_true,hz,hd,hm,c1b s l 0 hs,hd2,cond_false]
theorem d5x{h:FHeap}{b:Nat}{l:List (List UInt8)}{s:List UInt8}(hb:h b=some (stO l))(hs:s∉l):a20 L.env h 122 (.map b) (.str s) (.bool true)=some (.set b (stO (l++[s]))):=by
 have hu:L.env.und 122=some (.map 9 4):=by kernel_rfl
 have hk:(b9x L.env 9&&b66 L.env 9 (.str s))=true:=by kernel_rfl
 have hp:a8x L.env h 122 (.map b) (.str s)=some (b,l.map .str,List.replicate l.length (.bool true),List.range l.length,l.length,none):=by unfold a8x;simp only[hu,hk,cond_true,hb,stO,c1b s l 0 hs]
 unfold a20;rw[hp];simp only[stO,List.map_append,List.map_cons,List.map_nil,List.length_append,List.length_cons,List.length_nil,List.range_succ,List.replicate_succ']
theorem a92(l:List (List UInt8)):a0y (some (stO l))=[]:=by
 simp only[stO,a0y];have h1:∀l:List (List UInt8),a0e (l.map AV.str)=[]:=by intro l;induction l with|nil=>rfl|cons a l ih=>simp[a0e,refs,ih]
 have h2:∀n,a0e (List.replicate n (AV.bool true))=[]:=by intro n;induction n with|zero=>rfl|succ n ih=>simp[List.replicate_succ,a0e,refs,ih]
 rw[h1,h2];rfl
theorem b5d(π:Nat→Option Nat)(l:List (List UInt8)):a0f π (stO l)=stO l:=by have h:=a92 l;simp only[stO,a0y,List.append_eq_nil_iff]at h;simp only[stO,a0f,a35 π h.1,a35 π h.2]
set_option maxHeartbeats 200000000
structure Tio(c:Cir)(k m:Nat):Prop where
 ins:kinds c.nodes 0=List.range k
 k1:1≤k
 k4:k≤4
 out:c.outs.length=m
 m1:1≤m
 m4:m≤4
def sgI(j:Nat):Sgn:=⟨a2j j,0⟩
def sgO(j:Nat):Sgn:=⟨oS j,1⟩
def sgs(k m:Nat):List Sgn:=(List.range k).map sgI++(List.range m).map sgO
theorem a46(k m:Nat):(sgs k m).length=k+m:=by simp[sgs]
theorem e7l(k:Nat):sgs k 0=(List.range k).map sgI:=by simp[sgs]
theorem e2f(k j:Nat):sgs k (j+1)=sgs k j++[sgO j]:=by simp[sgs,List.range_succ]
def nms(k m:Nat):List (List UInt8):=(sgs k m).map Sgn.nm
theorem e86(k j:Nat):nms k (j+1)=nms k j++[oS j]:=by simp[nms,e2f,sgO]
theorem e39(i:Nat):nms (i+1) 0=nms i 0++[a2j i]:=by simp[nms,sgs,sgI,List.range_succ]
theorem e2g(i:Nat):sgs (i+1) 0=sgs i 0++[sgI i]:=by simp[sgs,List.range_succ]
theorem d2y{i:Nat}(hi:i<14):a2j i∉nms i 0:=by unfold nms;rw[e7l,List.map_map];intro h;obtain⟨j,hj,e⟩:=List.mem_map.1 h;have hj:=List.mem_range.1 hj;have:=b9l (i:=j) (j:=i) (by omega) hi e;omega
theorem e36{i j:Nat}(hi:i<14)(hj:j<14)(h:oS i=oS j):i=j:=by unfold oS at h;simp only[List.cons.injEq,and_true,true_and]at h;have h1:=congrArg UInt8.toNat h;simp only[UInt8.toNat_ofNat']at h1;omega
theorem c8i{k j:Nat}(hj:j<14):oS j∉nms k j:=by
 unfold nms sgs;rw[List.map_append,List.map_map,List.map_map];intro h;rcases List.mem_append.1 h with h|h
 ·obtain⟨i,_,e⟩:=List.mem_map.1 h;have:a2j i=oS j:=e;unfold a2j oS at this;simp at this
 ·obtain⟨i,hi,e⟩:=List.mem_map.1 h;have hi:=List.mem_range.1 hi;have:=e36 (i:=i) (j:=j) (by omega) hj e;omega
theorem c34{k m:Nat}(hk:k≤4)(hm:m≤4):∀s∈sgs k m,b8t s.nm:=by
 intro s hs;unfold sgs at hs;rcases List.mem_append.1 hs with h|h
 ·obtain⟨i,hi,rfl⟩:=List.mem_map.1 h;exact d81 i (by have:=List.mem_range.1 hi;omega)
 ·obtain⟨i,hi,rfl⟩:=List.mem_map.1 h;exact d80 i (by have:=List.mem_range.1 hi;omega)
theorem e37(j:Nat):([111]++[UInt8.ofNat (48+j)]:List UInt8)=oS j:=rfl
theorem c4v(c:Cir)(hc:c.wf){k m:Nat}(ht:Tio c k m):sem L.env Mf 11 [.agg c.enc] []=some (.tuple [.islice ((sgs k m).map Sgn.row) (some (k+m)),.int .i64 0],[]):=by
 obtain⟨t1,t2,t3,t4,t5,t6⟩:=ht;have hn:=hc.len;have hck:=λ(d:Bool) (H:a02)=>b36 (d:=d) H c hc;have hin:=λ(d:Bool) (H:a02)=>a3w (d:=d) H c (by omega);have h15:kinds c.nodes 15=[]:=by unfold kinds a3g;rw[List.filter_eq_nil_iff];intro i hi;have hil:=List.mem_range.1 hi;have:=hc.kind _ (List.getElem_mem hil);rw[a1e (z9e hil)];simp only[decide_eq_true_eq];omega
 have hof:=λ(d:Bool) (X:Option AObj)=>b23 (d:=d) (H:=[X,some (.row 1 [[.int .u8 15]])]) (b:=1) c (k:=15) rfl (by omega) rfl;rw[h15]at hof;have hkn:k≤c.nodes.length:=by have:=a3r c.nodes 0;rw[t1]at this;simpa using this
 have hnm:∀i,i<k→c.names[i]?=some (a2j i):=λi hi=>by rw[hc.names,List.getElem?_map,List.getElem?_range (by omega)];rfl
 have hnl:c.names.length=c.nodes.length:=by rw[hc.names];simp
 obtain⟨r0,e0⟩:=a4f (kinds c.nodes 0);rw[e0,t1]at hin;have hCf:∀π:Nat→Option Nat,a0f π (.row 4 [[sl c.nc (c.nodes.map Nd.enc),sl c.mc (c.names.map a1h),.nilslice,sl c.oc (c.outs.map a0h)]]) = .row 4 [[sl c.nc (c.nodes.map Nd.enc),sl c.mc (c.names.map a1h),.nilslice,sl c.oc (c.outs.map a0h)]]:=λπ=>by simp+decide only[go_sem]
 have hCr:a0y (some (.row 4 [[sl c.nc (c.nodes.map Nd.enc),sl c.mc (c.names.map a1h),.nilslice,sl c.oc (c.outs.map a0h)]]))=[]:=by simp+decide only[go_sem]
 have hie:c9u [] = .nilslice:=rfl;rw[hie]at hof;simp only[Cir.enc]at hck hin hof⊢;have c1:¬((256:Int)<k+m):=by omega
 have hw:=w64 (n:=(k:Int)+m) (by omega) (by omega)
 (refine sv Tryz.f11 ?_;simp only[Tryz.f11,gS])
 (repeat first|simp only[ww]|(apply xa;simp+decide only[go_sem,hck,hof,hin,t4,c1,hw,List.length_map,List.length_range];rfl;kernel_rfl))
 refine a0p (σ:=Nat) kp11_0 (λi=>[(1,.ptr 0 0 0),(6,.map 1),(7,grV 2 ((sgs i 0).map Sgn.row)),(38,sl r0 ((List.range k).map a0h)),(39,.int .i64 k),(40,.int .i64 i)])
  (λi=>some (.row 4 [[sl c.nc (c.nodes.map Nd.enc),sl c.mc (c.names.map a1h),.nilslice,sl c.oc (c.outs.map a0h)]])::some (stO (nms i 0))::grH 2 ((sgs i 0).map Sgn.row)) (λi=>k-i) (λi=>i≤k) 0 ?_ (Nat.zero_le _) ?_
 ·have e1:sgs 0 0=[]:=rfl;have e2:nms 0 0=[]:=rfl;have e3:b35 L.env 122=stO []:=by kernel_rfl
  (simp+decide only[go_sem,a03,a00,e1,e2,List.map_nil,a0t,a0u,a92,b5d,e3]<;>rfl)<;>rfl
 ·intro i hi;by_cases hlt:i<k
  ·have d1:(i:Int)<k:=by omega
   have hwi:=wI1 (n:=i) (by omega);have hx:=hnm i hlt;have hxl:i<c.names.length:=by omega
   have hri:(List.range k)[i]?=some i:=List.getElem?_range hlt;have hup:=λ(X:Option AObj) (R:a02)=>d5x (h:=a01 (X::some (stO (nms i 0))::R)) (b:=1) (l:=nms i 0) (s:=a2j i) rfl (d2y (by omega));rw[←e39]at hup;have hl0:=a46 i 0;cases i with
   |zero=>
    have e1:sgs 0 0=[]:=rfl;rw[e1]
    (repeat first|simp only[ww]|(apply xa;simp+decide only[go_sem,d1,hlt,hri,hx,hxl,hwi,hup,List.map_nil,a0t,a0u,List.length_map,List.length_range];rfl;kernel_rfl))
    refine a27 1 ?_ (by omega) (by omega);have e2:(sgs 1 0).map Sgn.row=[[.str (a2j 0),.int .u8 0]]:=rfl;rw[e2]
    (simp+decide only[go_sem,a03,a00,a0b,a0c,a92,b5d,List.length_nil]<;>rfl)<;>rfl
   |succ i=>
    have hs:=e2g (i+1);have hsr:(sgs (i+1+1) 0).map Sgn.row=(sgs (i+1) 0).map Sgn.row++[[.str (a2j (i+1)),.int .u8 0]]:=by rw[hs,List.map_append];rfl
    have hne:(sgs (i+1) 0).map Sgn.row≠[]:=by intro e;have:=congrArg List.length e;rw[List.length_map,hl0]at this;simp at this
    have hne2:(sgs (i+1+1) 0).map Sgn.row≠[]:=by rw[hsr];simp
    have hl1:((sgs (i+1) 0).map Sgn.row).length=i+1:=by rw[List.length_map,hl0]
    have hl2:((sgs (i+1+1) 0).map Sgn.row).length=i+1+1:=by rw[List.length_map,a46]
    have hrm:i+1+1≤1000000000:=by omega
    rw[a7i 2 hne,a7j 2 hne,hl1];have hf:=a59 (sgs (i+1) 0);have h3:=a08 (a59 (sgs (i+1+1) 0));have h4:=λπ=>a06 π (a59 (sgs (i+1+1) 0));have hgv:=a7i 2 hne2;have hgh:=a7j 2 hne2;rw[hl2]at hgv;rw[hsr]at h3 h4 hgv hgh;generalize(sgs (i+1) 0).map Sgn.row=R0 at hl1 h3 h4 hsr hgv hgh
    (repeat first|simp only[ww]|(apply xa;simp+decide only[go_sem,d1,hlt,hri,hx,hxl,hwi,hup,hl1,hrm,List.length_map,List.length_range];rfl;kernel_rfl))
    refine a27 (i+1+1) ?_ (by omega) (by omega);rw[hsr,hgv,hgh]
    (simp+decide only[go_sem,a03,a00,a92,b5d,h3,h4]<;>rfl)<;>rfl
  ·obtain rfl:i=k:=by omega
   have d1:¬(i:Int)<i:=by omega
   have hne:(sgs i 0).map Sgn.row≠[]:=by intro e;have:=congrArg List.length e;rw[List.length_map,a46]at this;simp at this;omega
   have hl1:((sgs i 0).map Sgn.row).length=i:=by rw[List.length_map,a46];omega
   rw[a7i 2 hne,a7j 2 hne,hl1];have h3:=a08 (a59 (sgs i 0));have h4:=λπ=>a06 π (a59 (sgs i 0))
   (repeat first|simp only[ww]|(apply xa;simp+decide only[go_sem,d1,t4,List.length_map];rfl;kernel_rfl))
   refine a0p (σ:=Nat) kp11_2 (λj=>[(6,.map 0),(7,.slice 1 0 (i+j) none),(62,.int .i64 m),(63,.int .i64 j)])
    (λj=>[some (stO (nms i j)),some (.row 2 ((sgs i j).map Sgn.row))]) (λj=>m-j) (λj=>j≤m) 0 ?_ (Nat.zero_le _) ?_
   ·(simp+decide only[go_sem,a03,a00,a92,b5d,h3,h4,Nat.add_zero]<;>rfl)<;>rfl
   ·intro j hj;by_cases hjt:j<m
    ·have d2:(j:Int)<m:=by omega
     have hwj:=wI1 (n:=j) (by omega);have hit:=λ(d:Bool) (H:a02)=>c9d (d:=d) H j (by omega);have hlk:=λ(R:a02)=>d7e (h:=a01 (some (stO (nms i j))::R)) (b:=0) (l:=nms i j) (s:=oS j) rfl (c8i (by omega));have hup:=λ(R:a02)=>d5x (h:=a01 (some (stO (nms i j))::R)) (b:=0) (l:=nms i j) (s:=oS j) rfl (c8i (by omega));rw[←e86]at hup;have hsr:(sgs i (j+1)).map Sgn.row=(sgs i j).map Sgn.row++[[.str (oS j),.int .u8 1]]:=by rw[e2f,List.map_append];rfl
     have hl2:((sgs i j).map Sgn.row).length=i+j:=by rw[List.length_map,a46]
     have hrm:i+j+1≤1000000000:=by omega
     have h3:=a08 (a59 (sgs i j));have h4:=λπ=>a06 π (a59 (sgs i j));have h5:=a08 (a59 (sgs i (j+1)));have h6:=λπ=>a06 π (a59 (sgs i (j+1)));rw[hsr]at h5 h6;have ho:=e37 j
     (repeat first|simp only[ww]|(apply xa;simp+decide only[go_sem,d2,hit,ho];rfl;kernel_rfl))
     refine a0p (σ:=Nat) kp11_4 (λ_=>[(6,.map 0),(7,.slice 1 0 (i+j) none),(11,.str (oS j)),(62,.int .i64 m),(63,.int .i64 j)])
      (λ_=>[some (stO (nms i j)),some (.row 2 ((sgs i j).map Sgn.row))]) (λ_=>0) (λ_=>True) 0 ?_ trivial ?_
     ·(simp+decide only[go_sem,a03,a00,a92,b5d,h3,h4]<;>rfl)<;>rfl
     ·intro _ _;generalize(sgs i j).map Sgn.row=R0 at hl2 h3 h4 h5 h6 hsr
      (repeat first|simp only[ww]|(apply xa;simp+decide only[go_sem,hlk,hup,hl2,hrm,hwj];rfl;kernel_rfl))
      refine a27 (j+1) ?_ (by omega) (by omega);rw[hsr]
      (simp+decide only[go_sem,a03,a00,a92,b5d,h5,h6]<;>rfl)<;>rfl
    ·obtain rfl:j=m:=by omega
     have d2:¬(j:Int)<j:=by omega
     have hl2:((sgs i j).map Sgn.row).length=i+j:=by rw[List.length_map,a46]
     have hlen:=a46 i j;have hcs:=λ(d:Bool) (X:Option AObj)=>c66 (d:=d) (H:=[X,some (.row 2 ((sgs i j).map Sgn.row))]) (b:=1) (sgs i j) (by omega) (c34 t3 t6) rfl;have hcl:=λ(d:Bool) (X:Option AObj)=>c4y (d:=d) (H:=[X,some (.row 2 ((sgs i j).map Sgn.row))]) (b:=1) (n:=i+j) (a59 (sgs i j)) rfl;rw[hlen]at hcs;have hfr:=λm d=>a17 (m:=m) (d:=d) (a59 (sgs i j));have htk:((sgs i j).map Sgn.row).take (i+j)=(sgs i j).map Sgn.row:=List.take_of_length_le (by omega);unfold c35 at hcs;generalize(sgs i j).map Sgn.row=R0 at hl2 hcs hcl hfr htk
     (repeat first|simp only[ww]|(apply xa;simp+decide only[go_sem,d2,hcs,hcl];rfl;kernel_rfl))
     (apply fqb;simp+decide only[go_sem,hfr,hl2,htk]<;>rfl)
theorem a7r{d:Bool}(H:a02)(c:Cir)(hc:c.wf){k m:Nat}(ht:Tio c k m):a0a L.env d (sem L.env Mf) (.func (.func 11) [] []) [.agg c.enc] H=some (.tuple [.islice ((sgs k m).map Sgn.row) (some (k+m)),.int .i64 0],H,[]):=a04 (by kernel_rfl) (by kernel_rfl) rfl (by simp only[List.nil_append,List.append_nil];exact a49 c) (c4v c hc ht) rfl
theorem d4c(l:List Nat):FlatR (l.map u8R):=FlatR.map λ_=>rfl
theorem e2v(l:List Nat):(l.map u8R).flatMap a0e=[]:=a08 (d4c l)
theorem e9s(π:Nat→Option Nat)(l:List Nat):(l.map u8R).map (λr=>r.map (ren π))=l.map u8R:=a06 π (d4c l)
theorem f0s(l:List Nat):((l.map u8R).all λr=>decide (r.length=1))=true:=by rw[List.all_eq_true];intro r hr;obtain⟨x,_,rfl⟩:=List.mem_map.1 hr;rfl
theorem e9k(l:List Nat):((l.map u8R).all λr=>r.all AV.storable)=true:=by rw[List.all_eq_true];intro r hr;obtain⟨x,_,rfl⟩:=List.mem_map.1 hr;rfl
theorem e3r:sem L.env Mf 140 [.nilslice,.int .i64 0] []=some (.nilslice,[]):=by
 have w0:IntKind.i64.wrap ((0:Int)-0)=0:=by decide
 (refine sv Tryz.f140 ?_;simp only[Tryz.f140,gS])
 (repeat first|simp only[ww]|(apply xa;simp+decide only[go_sem,w0];rfl;kernel_rfl))
 (apply fqb;simp+decide only[go_sem]<;>rfl)
theorem e70(k n:Nat)(h0:0<n)(hn:n≤100000):a2w L.env k 52 3 .nilslice (.int .i64 n)=some (.slice k 0 n none,.new (.row 1 (List.replicate n [.int .u8 0]))):=by
 obtain⟨m,rfl⟩:∃m,n=m+1:=⟨n-1,by omega⟩
 have hu:L.env.und 52=some (.slice 53):=by kernel_rfl
 have hxd:(L.env.und 3).any a2o=true:=by kernel_rfl
 obtain⟨dx,hx,hd⟩:∃dx,L.env.und 3=some dx∧a2o dx=true:=by
  cases h:L.env.und 3 with
  |none=>rw[h]at hxd;cases hxd
  |some dx=>rw[h]at hxd;exact⟨dx,rfl,hxd⟩
 have hz:L.env.zero 53=some [.int .u8 0]:=by kernel_rfl
 have hs:L.env.sz 53=1:=by kernel_rfl
 have hr:a29 L.env 53 (m+1)=true:=a6e (by omega) (by decide+kernel);unfold a2w;simp only[hu,hx,hd,hz,hs,Bool.true_and];have h1:decide (0≤((m+1:Nat):Int))=true:=decide_eq_true (by omega);have h2:(((m+1:Nat):Int)).toNat=m+1:=by omega
 have h3:Nat.blt 0 1=true:=rfl;simp only[h1,h2,h3,hr,cond_true]
theorem e3q(n:Nat)(h0:0<n)(hn:n≤100000):sem L.env Mf 140 [.nilslice,.int .i64 n] []=some (.slice 0 0 0 none,[some (.row 1 (List.replicate n [.int .u8 0]))]):=by
 have c1:¬(n:Int)<0:=by omega
 have c2:(0:Int)<n:=by omega
 have w0:IntKind.i64.wrap ((0:Int)-0)=0:=by decide
 have hw:IntKind.i64.wrap ((n:Int)-0)=n:=by rw[w64 (by omega) (by omega)];omega
 have hz:=λk=>e70 k n h0 hn;have ha:apT L.env 52 3=none:=by kernel_rfl
 have hs:∀hp,a55 L.env hp 52 .nilslice none (some (.int .i64 0)) none=some .nilslice:=λhp=>by kernel_rfl
 (refine sv Tryz.f140 ?_;simp only[Tryz.f140,gS])
 (repeat first|simp only[ww]|(apply xa;simp+decide only[go_sem,c1,c2,w0,hw,hz,ha,hs];rfl;kernel_rfl))
 (apply fqb;simp+decide only[go_sem]<;>rfl)
def slU(l:List Nat):AV:=slF none (l.map u8R)
theorem d63{l:List Nat}(h:l≠[]):slU l = .islice (l.map u8R) none:=by
 cases l with
 |nil=>exact absurd rfl h
 |cons a r=>rfl
theorem d2h(l:List Nat):refs (slU l)=[]:=by cases l<;>rfl
theorem c5r(H:a02):a0a L.env false (sem L.env Mf) (.func (.func 140) [] []) [.nilslice,.int .i64 0] H=some (.nilslice,H,[]):=a04 (by kernel_rfl) (by kernel_rfl) rfl rfl e3r rfl
theorem c9x(H:a02)(n:Nat)(h0:0<n)(hn:n≤100000):a0a L.env false (sem L.env Mf) (.func (.func 140) [] []) [.nilslice,.int .i64 n] H=some (.slice H.length 0 0 none,H++[some (.row 1 (List.replicate n [.int .u8 0]))],[]):=by
 have hc:=a1z (sem L.env Mf 140) [.nilslice,.int .i64 n] H (σ:=[]) rfl rfl rfl (args':=[.nilslice,.int .i64 n]) rfl (H0:=[]) rfl (e3q n h0 hn);have hf:FlatR (List.replicate n [AV.int .u8 0]):=λr hr=>by rw[(List.mem_replicate.1 hr).2];rfl
 refine c0f (by kernel_rfl) (by kernel_rfl) rfl (hc.trans ?_);have hr:=λπ=>a06 π hf;simp only[a71,ren,a19,List.length_nil,List.drop_zero,List.map_cons,List.map_nil,Option.map_some,a0f,hr];simp[Nat.blt];rfl
theorem d0r(ca cb:Option (Option Nat))(a b:List Nat)(hl:a.length+b.length≤100000):sem L.env Mf 93 [.slice 0 0 2 (some 2)] [some (.row 1 [[sl ca (a.map u8R)],[sl cb (b.map u8R)]])]=some (slU (a++b),[some (.row 1 [[sl ca (a.map u8R)],[sl cb (b.map u8R)]])]):=by
 suffices hs:∃r:AV×a02,(r=(slU (a++b),[some (.row 1 [[sl ca (a.map u8R)],[sl cb (b.map u8R)]])]))∧sem L.env Mf 93 [.slice 0 0 2 (some 2)] [some (.row 1 [[sl ca (a.map u8R)],[sl cb (b.map u8R)]])]=some r by obtain⟨r,rfl,h3⟩:=hs;exact h3
 have w1:IntKind.i64.wrap ((0:Int)+(a.length:Int))=(a.length:Int):=by rw[w64 (by omega) (by omega)];omega
 have w2:IntKind.i64.wrap ((a.length:Int)+(b.length:Int))=((a.length+b.length:Nat):Int):=by rw[w64 (by omega) (by omega)];omega
 have c1:¬(a.length:Int)<0:=by omega
 have c2:¬((a.length+b.length:Nat):Int)<0:=by omega
 (refine svE Tryz.f93 ?_;simp only[Tryz.f93,gS])
 (repeat first|simp only[ww]|(apply xa;simp+decide only[go_sem];rfl;kernel_rfl))
 refine a4j kp93_0 (λq F H1=>∃(i x:Int),((i=0∧x=0∧q=2)∨(i=1∧x=a.length∧q=1)∨(i=2∧x=(a.length+b.length:Nat)∧q=0))∧F=[(0,.slice 0 0 2 (some 2)),(3,.int .i64 x),(9,.slice 0 0 2 (some 2)),(10,.int .i64 2),(11,.int .i64 i)]∧H1=[some (.row 1 [[sl ca (a.map u8R)],[sl cb (b.map u8R)]])]) 2 ?_ ?_
 ·refine⟨_,_,?_,0,0,.inl ⟨rfl,rfl,rfl⟩,rfl,rfl⟩
  (simp+decide only[go_sem,a03,a00]<;>rfl)<;>rfl
 ·rintro q F H1 ⟨i,x,h,rfl,rfl⟩
  rcases h with ⟨rfl,rfl,rfl⟩|⟨rfl,rfl,rfl⟩|⟨rfl,rfl,rfl⟩
  ·(repeat first|simp only[ww]|(apply xa;simp+decide only[go_sem,w1,c1,List.length_map];rfl;kernel_rfl))
   refine a1j 1 (by omega) ⟨_,_,?_,1,a.length,.inr (.inl ⟨rfl,rfl,rfl⟩),rfl,rfl⟩
   (simp+decide only[go_sem,a03,a00]<;>rfl)<;>rfl
  ·(repeat first|simp only[ww]|(apply xa;simp+decide only[go_sem,w2,c2,List.length_map];rfl;kernel_rfl))
   refine a1j 0 (by omega) ⟨_,_,?_,2,(a.length+b.length:Nat),.inr (.inr ⟨rfl,rfl,rfl⟩),rfl,rfl⟩
   (simp+decide only[go_sem,a03,a00]<;>rfl)<;>rfl
  ·rcases Nat.eq_zero_or_pos (a.length+b.length)with hz|hz
   ·have ha:a=[]:=List.eq_nil_of_length_eq_zero (by omega);have hb:b=[]:=List.eq_nil_of_length_eq_zero (by omega);subst ha hb;have hg:=λH=>c5r H;simp only[List.length_nil,Nat.add_zero,Int.natCast_zero]
    (repeat first|simp only[ww]|(apply xa;simp+decide only[go_sem,hg];rfl;kernel_rfl))
    refine a4j kp93_2 (λq F H1=>∃(i:Int),((i=0∧q=2)∨(i=1∧q=1)∨(i=2∧q=0))∧F=[(6,.nilslice),(25,.slice 0 0 2 (some 2)),(26,.int .i64 2),(27,.int .i64 i)]∧H1=[some (.row 1 [[sl ca (([]:List Nat).map u8R)],[sl cb (([]:List Nat).map u8R)]])]) 2 ?_ ?_
    ·refine⟨_,_,?_,0,.inl ⟨rfl,rfl⟩,rfl,rfl⟩
     (simp+decide only[go_sem,a03,a00]<;>rfl)<;>rfl
    ·rintro q F H1 ⟨i,h,rfl,rfl⟩
     rcases h with ⟨rfl,rfl⟩|⟨rfl,rfl⟩|⟨rfl,rfl⟩
     ·(repeat first|simp only[ww]|(apply xa;simp+decide only[go_sem,List.map_nil];rfl;kernel_rfl))
      refine a1j 1 (by omega) ⟨_,_,?_,1,.inr (.inl ⟨rfl,rfl⟩),rfl,rfl⟩
      (simp+decide only[go_sem,a03,a00,List.map_nil]<;>rfl)<;>rfl
     ·(repeat first|simp only[ww]|(apply xa;simp+decide only[go_sem,List.map_nil];rfl;kernel_rfl))
      refine a1j 0 (by omega) ⟨_,_,?_,2,.inr (.inr ⟨rfl,rfl⟩),rfl,rfl⟩
      (simp+decide only[go_sem,a03,a00,List.map_nil]<;>rfl)<;>rfl
     ·(repeat first|simp only[ww]|(apply xa;simp+decide only[go_sem];rfl;kernel_rfl))
      refine b83 (vs:=[.nilslice]) (r:=(_,_)) (by simp+decide only[go_sem]) ?_ rfl;simp+decide only[go_sem,a26]<;>rfl
   ·have hg:=λH=>c9x H (a.length+b.length) hz hl;have hne:a++b≠[]:=by intro e;rw[List.append_eq_nil_iff]at e;rw[e.1,e.2]at hz;simp at hz
    generalize hR:List.replicate (a.length+b.length) [AV.int .u8 0]=R at hg;have hRl:R.length=a.length+b.length:=by rw[←hR];simp
    have hRf:FlatR R:=λr hr=>by rw[←hR]at hr;rw[(List.mem_replicate.1 hr).2];rfl
    have hr1:a.length≤1000000000:=by omega
    have hr2:a.length+b.length≤1000000000:=by omega
    have hn0:¬0=a.length+b.length:=by omega
    (repeat first|simp only[ww]|(apply xa;simp+decide only[go_sem,hg];rfl;kernel_rfl))
    refine a4j kp93_2 (λq F H1=>∃(i:Int) (n:Nat) (Q:List (List AV)),((i=0∧q=2∧n=0∧Q=R)∨(i=1∧q=1∧n=a.length∧Q=a.map u8R)∨(i=2∧q=0∧n=a.length+b.length∧Q=a.map u8R++b.map u8R))∧F=[(6,.slice 1 0 n none),(25,.slice 0 0 2 (some 2)),(26,.int .i64 2),(27,.int .i64 i)]∧H1=[some (.row 1 [[sl ca (a.map u8R)],[sl cb (b.map u8R)]]),some (.row 1 Q)]) 2 ?_ ?_
    ·refine⟨_,_,?_,0,0,R,.inl ⟨rfl,rfl,rfl,rfl⟩,rfl,rfl⟩
     (simp+decide only[go_sem,a03,a00,a08 hRf,a06 _ hRf]<;>rfl)<;>rfl
    ·rintro q F H1 ⟨i,n,Q,h,rfl,rfl⟩
     rcases h with ⟨rfl,rfl,rfl,rfl⟩|⟨rfl,rfl,rfl,rfl⟩|⟨rfl,rfl,rfl,rfl⟩
     ·(repeat first|simp only[ww]|(apply xa;simp+decide only[go_sem,f0s,e9k,hRl,hr1,hn0,Nat.zero_add,List.length_map,Nat.zero_le];rfl;kernel_rfl))
      refine a1j 1 (by omega) ⟨_,_,?_,1,a.length,a.map u8R,.inr (.inl ⟨rfl,rfl,rfl,rfl⟩),rfl,rfl⟩
      (simp+decide only[go_sem,a03,a00,e2v,e9s]<;>rfl)<;>rfl
     ·(repeat first|simp only[ww]|(apply xa;simp+decide only[go_sem,f0s,e9k,hr2,List.length_map];rfl;kernel_rfl))
      refine a1j 0 (by omega) ⟨_,_,?_,2,a.length+b.length,a.map u8R++b.map u8R,.inr (.inr ⟨rfl,rfl,rfl,rfl⟩),rfl,rfl⟩
      (simp+decide only[go_sem,a03,a00,e2v,e9s,List.flatMap_append,List.map_append]<;>rfl)<;>rfl
     ·(repeat first|simp only[ww]|(apply xa;simp+decide only[go_sem];rfl;kernel_rfl))
      refine b83 (vs:=[.slice 1 0 (a.length+b.length) none]) (r:=(_,_)) (by simp+decide only[go_sem]) ?_ rfl;rw[d63 hne];have ht:List.take (a.length+b.length) (a.map u8R++b.map u8R)=a.map u8R++b.map u8R:=List.take_of_length_le (by simp);have hfz:∀m d,a9a m d (a.map u8R++b.map u8R)=some (a.map u8R++b.map u8R):=λm d=>a17 m d ((d4c a).append (d4c b));have hln:a.length+b.length≤a.length+b.length:=Nat.le_refl _;simp+decide only[go_sem,a26,ht,hfz,List.length_map,List.length_append,List.map_append]<;>rfl
/- a list that is filled from its first element on -/
def upT(f:Nat→List AV)(z:List AV)(n i:Nat):List (List AV):=(List.range n).map λj=>if j<i then f j else z
section
variable {f:Nat→List AV}{z:List AV}{n i:Nat}
theorem c73:upT f z n 0=List.replicate n z:=by unfold upT;rw[show(λj:Nat=>if j<0 then f j else z)=λ_=>z from by funext j;rw[if_neg (Nat.not_lt_zero j)],List.map_const',List.length_range]
theorem a6c:(upT f z n i).length=n:=by simp[upT]
theorem c13{j:Nat}(hj:j<n):(upT f z n i)[j]?=some (if j<i then f j else z):=by unfold upT;rw[List.getElem?_map,List.getElem?_range hj];rfl
theorem c30(hi:i<n):(upT f z n i)[i]?=some z:=by rw[c13 hi,if_neg (Nat.lt_irrefl i)]
theorem b2l(hi:i<n):(upT f z n i).set i (f i)=upT f z n (i+1):=by
 apply List.ext_getElem?;intro j;rw[List.getElem?_set];by_cases hj:j<n
 ·rw[c13 hj,c13 hj,a6c];by_cases h:i=j
  ·subst h;rw[if_pos rfl,if_pos hi,if_pos (by omega)]
  ·rw[if_neg h];by_cases h2:j<i
   ·rw[if_pos h2,if_pos (by omega)]
   ·rw[if_neg h2,if_neg (by omega)]
 ·have e:∀i,(upT f z n i)[j]?=none:=λi=>List.getElem?_eq_none (by rw[a6c];omega);rw[e,e,if_neg (by omega)]
theorem b6z:upT f z n n=(List.range n).map f:=by unfold upT;exact List.map_congr_left λj hj=>by rw[if_pos (List.mem_range.1 hj)]
theorem a2t(hz:a0e z=[])(hf:∀j,a0e (f j)=[]):FlatR (upT f z n i):=FlatR.map λj=>by split;exact hf j;exact hz
end
theorem b5o{α:Type}(l:List α)(d:α):(List.range l.length).map (λj=>l.getD j d)=l:=by
 apply List.ext_getElem?;intro j;rw[List.getElem?_map];by_cases h:j<l.length
 ·rw[List.getElem?_range h,z9e h];simp[List.getD_eq_getElem?_getD,z9e h]
 ·rw[List.getElem?_eq_none (by simpa using h),List.getElem?_eq_none (by simpa using h)];rfl
/- cells -/
def b4d(z o v:Nat):Nat:=if v=0 then z else if v=1 then o else 88
def a5d(z o v:Nat):UInt8:=UInt8.ofNat (b4d z o v)
theorem b6u(f:Nat→Nat):∀(l:List Nat),a5b (l.map λv=>[.int .u8 (f v:Nat)])=some (l.map λv=>UInt8.ofNat (f v))
 | []=>rfl
 |v::l=>by simp only[List.map_cons,a5b,b6u f l,Int.toNat_natCast]
theorem d4z(r:Rep)(vs:List Nat)(z o:Nat)(hl:vs.length<1000000):sem L.env Mf 45 [sl r (vs.map u8R),.int .u8 z,.int .u8 o] []=some (.str (vs.map (a5d z o)),[]):=by
 obtain⟨f,hf⟩:∃f:Nat→List AV,f=λj=>[.int .u8 (b4d z o (vs.getD j 0):Nat)]:=⟨_,rfl⟩
 have hff:∀j,a0e (f j)=[]:=λj=>by rw[hf];rfl
 have hrm:vs.length≤1000000000:=by omega
 (refine sv Tryz.f45 ?_;simp only[Tryz.f45,gS])
 (repeat first|simp only[ww]|(apply xa;simp+decide only[go_sem,hrm,List.length_map];rfl;kernel_rfl))
 refine a0p (σ:=Nat) kp45_0 (λi=>[(1,.int .u8 z),(2,.int .u8 o),(7,.slice 0 0 vs.length (some vs.length)),(13,sl r (vs.map u8R)),(14,.int .i64 vs.length),(15,.int .i64 i)])
  (λi=>[some (.row 1 (upT f [.int .u8 0] vs.length i))]) (λi=>vs.length-i) (λi=>i≤vs.length) 0 ?_ (Nat.zero_le _) ?_
 ·rw[←c73 (f:=f)];have h1:=a08 (a2t (f:=f) (z:=[.int .u8 0]) (n:=vs.length) (i:=0) rfl hff);have h2:=λπ=>a06 π (a2t (f:=f) (z:=[.int .u8 0]) (n:=vs.length) (i:=0) rfl hff)
  (simp+decide only[go_sem,a03,a00,h1,h2]<;>rfl)<;>rfl
 ·intro i hi;by_cases hlt:i<vs.length
  ·obtain⟨v,hv⟩:∃v,vs[i]?=some v:=⟨_,z9e hlt⟩
   have c1:(i:Int)<vs.length:=by omega
   have hw:=wI1 (n:=i) (by omega);have h1:=a08 (a2t (f:=f) (z:=[.int .u8 0]) (n:=vs.length) (i:=i+1) rfl hff);have h2:=λπ=>a06 π (a2t (f:=f) (z:=[.int .u8 0]) (n:=vs.length) (i:=i+1) rfl hff);have hat:=c30 (f:=f) (z:=[.int .u8 0]) hlt;have hln:=a6c (f:=f) (z:=[.int .u8 0]) (n:=vs.length) (i:=i);have hset:=b2l (f:=f) (z:=[.int .u8 0]) hlt;have hfi:f i=[.int .u8 (b4d z o v:Nat)]:=by rw[hf];simp only[List.getD_eq_getElem?_getD,hv,Option.getD_some]
   rw[hfi]at hset;unfold b4d at hset;by_cases h0:v=0
   ·rw[if_pos h0]at hset;have e0:(v:Int)=0:=by omega
    (repeat first|simp only[ww]|(apply xa;simp+decide only[go_sem,c1,hlt,hv,hw,e0,hat,hln,hset,List.length_map];rfl;kernel_rfl))
    refine a27 (i+1) ?_ (by omega) (by omega)
    (simp+decide only[go_sem,a03,a00,h1,h2]<;>rfl)<;>rfl
   ·rw[if_neg h0]at hset;have e0:¬(v:Int)=0:=by omega
    by_cases h01:v=1
    ·rw[if_pos h01]at hset;have e1:(v:Int)=1:=by omega
     (repeat first|simp only[ww]|(apply xa;simp+decide only[go_sem,c1,hlt,hv,hw,e0,e1,hat,hln,hset,List.length_map];rfl;kernel_rfl))
     refine a27 (i+1) ?_ (by omega) (by omega)
     (simp+decide only[go_sem,a03,a00,h1,h2]<;>rfl)<;>rfl
    ·rw[if_neg h01]at hset;have e1:¬(v:Int)=1:=by omega
     rw[show((88:Nat):Int)=88 from rfl]at hset
     (repeat first|simp only[ww]|(apply xa;simp+decide only[go_sem,c1,hlt,hv,hw,e0,e1,hat,hln,hset,List.length_map];rfl;kernel_rfl))
     refine a27 (i+1) ?_ (by omega) (by omega)
     (simp+decide only[go_sem,a03,a00,h1,h2]<;>rfl)<;>rfl
  ·obtain rfl:i=vs.length:=by omega
   have c1:¬(vs.length:Int)<vs.length:=by omega
   have he:upT f [.int .u8 0] vs.length vs.length=vs.map λv=>[.int .u8 (b4d z o v:Nat)]:=by rw[b6z,hf];have:=congrArg (List.map λv=>[AV.int .u8 (b4d z o v:Nat)]) (b5o vs 0);rw[List.map_map]at this;exact this
   have hab:=b6u (b4d z o) vs;have hln:(vs.map λv=>[AV.int .u8 (b4d z o v:Nat)]).length=vs.length:=List.length_map ..;rw[he];have htk:(vs.map λv=>[AV.int .u8 (b4d z o v:Nat)]).take vs.length=vs.map λv=>[AV.int .u8 (b4d z o v:Nat)]:=List.take_of_length_le (by simp);generalize(vs.map λv=>[AV.int .u8 (b4d z o v:Nat)])=R0 at hab hln htk
   (repeat first|simp only[ww]|(apply xa;simp+decide only[go_sem,c1,hab,hln,htk];rfl;kernel_rfl))
   (apply fqb;simp+decide only[go_sem]<;>rfl)
theorem b6n{d:Bool}(H:a02)(r:Rep)(vs:List Nat)(z o:Nat)(zi oi:Int)(hz:zi=z)(ho:oi=o)(hl:vs.length<1000000):a0a L.env d (sem L.env Mf) (.func (.func 45) [] []) [sl r (vs.map u8R),.int .u8 zi,.int .u8 oi] H=some (.str (vs.map (a5d z o)),H,[]):=by subst hz;subst ho;exact a04 (by kernel_rfl) (by kernel_rfl) rfl (by simp only[List.nil_append,List.append_nil,a07,a1b,a9s,a12]) (d4z r vs z o hl) rfl
/- values that may be given -/
def b3y:AV:=.func (.func 94) [] []
theorem d4e(v:Nat)(hv:v≤3):sem L.env Mf 94 [.int .u8 v] []=some (.bool false,[]):=by
 have c1:¬(3:Int)<v:=by omega
 (refine sv Tryz.f94 ?_;simp only[Tryz.f94,gS])
 (repeat first|simp only[ww]|(apply xa;simp+decide only[go_sem,c1];rfl;kernel_rfl))
 (apply fqb;simp+decide only[go_sem]<;>rfl)
theorem c5y{d:Bool}(H:a02)(v:Nat)(hv:v≤3):a0a L.env d (sem L.env Mf) (.func (.func 94) [] []) [.int .u8 v] H=some (.bool false,H,[]):=a04 (by kernel_rfl) (by kernel_rfl) rfl rfl (d4e v hv) rfl
theorem c27(r:Rep)(l:List Nat)(hl:l.length<1000000)(hc:∀v∈l,v≤3) :
 sem L.env Mf 139 [sl r (l.map u8R),b3y] []=some (.int .i64 (-1),[]):=by
 unfold b3y
 (refine sv Tryz.f139 ?_;simp only[Tryz.f139,gS])
 (repeat first|simp only[ww]|(apply xa;simp+decide only[go_sem];rfl;kernel_rfl))
 refine a0p (σ:=Nat) kp139_0 (λi=>[(0,sl r (l.map u8R)),(1,b3y),(7,.int .i64 l.length),(8,.int .i64 i)])
  (λ_=>[]) (λi=>l.length-i) (λi=>i≤l.length) 0 ?_ (Nat.zero_le _) ?_
 ·unfold b3y
  (simp+decide only[go_sem,a03,a00]<;>rfl)
 ·intro i hi;unfold b3y;by_cases hlt:i<l.length
  ·obtain⟨x,hx⟩:∃x,l[i]?=some x:=⟨_,z9e hlt⟩
   have c1:(i:Int)<l.length:=by omega
   have hw:=wI1 (n:=i) (by omega);have hcx:=λH=>c5y (d:=false) H x (hc x (List.mem_of_getElem? hx))
   (repeat first|simp only[ww]|(apply xa;simp+decide only[go_sem,c1,hlt,hx,hw,hcx];rfl;kernel_rfl))
   refine a27 (i+1) ?_ (by omega) (by omega)
   (simp+decide only[go_sem,a03,a00,b3y]<;>rfl)
  ·obtain rfl:i=l.length:=by omega
   have c1:¬(l.length:Int)<l.length:=by omega
   (repeat first|simp only[ww]|(apply xa;simp+decide only[go_sem,c1];rfl;kernel_rfl))
   (apply fqb;simp+decide only[go_sem]<;>rfl)
theorem d0q(r:Rep)(l:List Nat)(hl:l.length<1000000)(hc:∀v∈l,v≤3) :
 sem L.env Mf 92 [sl r (l.map u8R),b3y] []=some (.bool false,[]):=by
 have h:=λH=>a04 (E:=L.env) (draw:=false) (call:=sem L.env Mf) (g:=139) (fs:=[]) (cs:=[]) (ar:=[sl r (l.map u8R),b3y]) (H:=H) (by kernel_rfl) (by kernel_rfl) rfl (by simp only[List.nil_append,List.append_nil,a07,a1b];rfl) (c27 r l hl hc) rfl;have c1:¬(0:Int)≤ -1:=by omega
 unfold b3y at h⊢
 (refine sv Tryz.f92 ?_;simp only[Tryz.f92,gS])
 (repeat first|simp only[ww]|(apply xa;simp+decide only[go_sem,h,c1];rfl;kernel_rfl))
 (apply fqb;simp+decide only[go_sem]<;>rfl)
theorem c2i{d:Bool}(H:a02)(r:Rep)(l:List Nat)(hl:l.length<1000000)(hc:∀v∈l,v≤3):a0a L.env d (sem L.env Mf) (.func (.func 92) [] []) [sl r (l.map u8R),b3y] H=some (.bool false,H,[]):=a04 (by kernel_rfl) (by kernel_rfl) rfl (by simp only[List.nil_append,List.append_nil,a07,a1b];rfl) (d0q r l hl hc) rfl
def vlR(x:Rep×List Nat):List AV:=[sl x.1 (x.2.map u8R)]
theorem d1z(x:Rep×List Nat):a0e (vlR x)=[]:=by simp only[vlR,a07,a1b,a12,List.append_nil]
theorem d98(l:List (Rep×List Nat)):FlatR (l.map vlR):=FlatR.map d1z
theorem c2j{d:Bool}(ca cb:Rep)(a b:List Nat)(hl:a.length+b.length≤100000):a0a L.env d (sem L.env Mf) (.func (.func 93) [] []) [.slice 0 0 2 (some 2)] [some (.row 1 [[sl ca (a.map u8R)],[sl cb (b.map u8R)]])]=some (slU (a++b),[some (.row 1 [[sl ca (a.map u8R)],[sl cb (b.map u8R)]])],[0]):=by have hf:FlatR [[sl ca (a.map u8R)],[sl cb (b.map u8R)]]:=FlatR.cons (by simp only[a07,a1b,a12,List.append_nil]) (FlatR.cons (by simp only[a07,a1b,a12,List.append_nil]) FlatR.nil);exact a30 (E:=L.env) (draw:=d) (call:=sem L.env Mf) (g:=93) (fs:=[]) (cs:=[]) (ar:=[.slice 0 0 2 (some 2)]) (H:=[some (.row 1 [[sl ca (a.map u8R)],[sl cb (b.map u8R)]])]) (b:=0) (by kernel_rfl) (by kernel_rfl) rfl rfl (a0m hf) (FlatO.row hf) rfl (args':=[.slice 0 0 2 (some 2)]) (by simp only[List.nil_append,List.append_nil,List.map_cons,List.map_nil,a1y]) (d0r ca cb a b hl) (d2h _)
theorem d29(c:Cir)(hc:c.wf){k m:Nat}(ht:Tio c k m)(ra rb:Rep)(A B:List (Rep×List Nat))(hAl:A.length≤1000)(hAB:A.length=B.length)(hA:∀a∈A,a.2.length=k∧∀v∈a.2,v≤3)(hB:∀a∈B,a.2.length=m∧∀v∈a.2,v≤3) :
 sem L.env Mf 44 [.agg c.enc,sl ra (A.map vlR),sl rb (B.map vlR)] []=some (.int .i64 0,[]):=by
 obtain⟨t1,t2,t3,t4,t5,t6⟩:=ht;have hn:=hc.len;have hin:=λ(d:Bool) (H:a02)=>a3w (d:=d) H c (by omega);obtain⟨r0,e0⟩:=a4f (kinds c.nodes 0);rw[e0,t1]at hin;simp only[Cir.enc]at hin⊢;have c1:¬(1024:Int)<A.length:=by omega
 have c2:B.length=A.length:=hAB.symm;have hCf:∀π:Nat→Option Nat,a0f π (.row 4 [[sl c.nc (c.nodes.map Nd.enc),sl c.mc (c.names.map a1h),.nilslice,sl c.oc (c.outs.map a0h)]]) = .row 4 [[sl c.nc (c.nodes.map Nd.enc),sl c.mc (c.names.map a1h),.nilslice,sl c.oc (c.outs.map a0h)]]:=λπ=>by simp+decide only[go_sem]
 (refine sv Tryz.f44 ?_;simp only[Tryz.f44,gS])
 (repeat first|simp only[ww]|(apply xa;simp+decide only[go_sem,hin,c1,c2,List.length_map,List.length_range];rfl;kernel_rfl))
 refine a0p (σ:=Nat) kp44_1 (λi=>[(1,sl ra (A.map vlR)),(2,sl rb (B.map vlR)),(3,.ptr 0 0 0),(7,.int .i64 k),(24,.int .i64 A.length),(25,.int .i64 i)])
  (λi=>[some (.row 4 [[sl c.nc (c.nodes.map Nd.enc),sl c.mc (c.names.map a1h),.nilslice,sl c.oc (c.outs.map a0h)]])]) (λi=>A.length-i) (λi=>i≤A.length) 0 ?_ (Nat.zero_le _) ?_
 ·(simp+decide only[go_sem,a03,a00]<;>rfl)<;>rfl
 ·intro i hi;by_cases hlt:i<A.length
  ·have d1:(i:Int)<A.length:=by omega
   have hwi:=wI1 (n:=i) (by omega);have hlt2:i<B.length:=by omega
   obtain⟨a,ha⟩:∃a,A[i]?=some a:=⟨_,z9e hlt⟩
   obtain⟨b,hb⟩:∃b,B[i]?=some b:=⟨_,z9e hlt2⟩
   obtain⟨a1,a2⟩:=hA a (List.mem_of_getElem? ha);obtain⟨b1,b2⟩:=hB b (List.mem_of_getElem? hb);have har:vlR a=[sl a.1 (a.2.map u8R)]:=rfl;have hbr:vlR b=[sl b.1 (b.2.map u8R)]:=rfl
   (repeat first|simp only[ww]|(apply xa;simp+decide only[go_sem,d1,hlt,hlt2,ha,hb,har,hbr,a1,b1,t4,hwi,List.length_map];rfl;kernel_rfl))
   refine a27 (i+1) ?_ (by omega) (by omega)
   (simp+decide only[go_sem,a03,a00]<;>rfl)<;>rfl
  ·obtain rfl:i=A.length:=by omega
   have d1:¬(A.length:Int)<A.length:=by omega
   (repeat first|simp only[ww]|(apply xa;simp+decide only[go_sem,d1,List.length_map];rfl;kernel_rfl))
   refine a0p (σ:=Nat) kp44_3 (λi=>[(1,sl ra (A.map vlR)),(2,sl rb (B.map vlR)),(48,.int .i64 A.length),(49,.int .i64 i)])
    (λi=>[]) (λi=>A.length-i) (λi=>i≤A.length) 0 ?_ (Nat.zero_le _) ?_
   ·(simp+decide only[go_sem,a03,a00]<;>rfl)<;>rfl
   ·intro i hi;by_cases hlt:i<A.length
    ·have d1:(i:Int)<A.length:=by omega
     have hwi:=wI1 (n:=i) (by omega);have hlt2:i<B.length:=by omega
     obtain⟨a,ha⟩:∃a,A[i]?=some a:=⟨_,z9e hlt⟩
     obtain⟨b,hb⟩:∃b,B[i]?=some b:=⟨_,z9e hlt2⟩
     obtain⟨a1,a2⟩:=hA a (List.mem_of_getElem? ha);obtain⟨b1,b2⟩:=hB b (List.mem_of_getElem? hb);have har:vlR a=[sl a.1 (a.2.map u8R)]:=rfl;have hbr:vlR b=[sl b.1 (b.2.map u8R)]:=rfl;have hco:=λ(d:Bool)=>c2j (d:=d) a.1 b.1 a.2 b.2 (by omega);have hne:a.2++b.2≠[]:=by intro e;have h2:=(List.append_eq_nil_iff.1 e).1;rw[h2,List.length_nil]at a1;omega
     rw[d63 hne]at hco;have hcf:=λ(d:Bool) (H:a02)=>c2i (d:=d) H (some none) (a.2++b.2) (by rw[List.length_append];omega) (λv hv=>by rcases List.mem_append.1 hv with h|h;exact a2 v h;exact b2 v h);simp only[a4n,b3y,List.map_append]at hcf
     (repeat first|simp only[ww]|(apply xa;simp+decide only[go_sem,d1,hlt,hlt2,ha,hb,har,hbr,hco,hcf,hwi,List.length_map];rfl;kernel_rfl))
     refine a27 (i+1) ?_ (by omega) (by omega)
     (simp+decide only[go_sem,a03,a00]<;>rfl)<;>rfl
    ·obtain rfl:i=A.length:=by omega
     have d1:¬(A.length:Int)<A.length:=by omega
     (repeat first|simp only[ww]|(apply xa;simp+decide only[go_sem,d1,List.length_map];rfl;kernel_rfl))
     (apply fqb;simp+decide only[go_sem]<;>rfl)
theorem b5c{d:Bool}{H:a02}(c:Cir)(hc:c.wf){k m:Nat}(ht:Tio c k m){ra rb:Rep}{A B:List (Rep×List Nat)}(hAl:A.length≤1000)(hAB:A.length=B.length)(hA:∀a∈A,a.2.length=k∧∀v∈a.2,v≤3)(hB:∀a∈B,a.2.length=m∧∀v∈a.2,v≤3){V W:AV}
 (hV:a3a 0 false (a4h (a01 H) 0 12) V=some (sl ra (A.map vlR)))(hW:a3a 0 false (a4h (a01 H) 0 12) W=some (sl rb (B.map vlR))) :
 a0a L.env d (sem L.env Mf) (.func (.func 44) [] []) [.agg c.enc,V,W] H=some (.int .i64 0,H,List.range H.length):=
 a6u (args:=[.agg c.enc,V,W]) (args':=[.agg c.enc,sl ra (A.map vlR),sl rb (B.map vlR)]) (by kernel_rfl) (by kernel_rfl) rfl (by rw[a3l,a0j _ _ _ (.agg c.enc) (by rw[a0s];exact a3q c),a3l,hV,a3l,hW];rfl) (d29 c hc ht ra rb A B hAl hAB hA hB) rfl rfl
def tmR:List AV:=[.str [116],.int .i64 100,.int .i64 0,.int .i64 30,.int .i64 60,.int .i64 90]
def vcR(s:List UInt8):List AV:=[.int .i64 0,.str s,.int .i64 1]
def b1t(vs:List (List UInt8)):AV:=match vs with|[]=>.nilslice|v::r=>.islice ((v::r).map vcR) (some (r.length+1))
def a96(sg:List Sgn)(vs:List (List UInt8)):List AV:=[.islice (sg.map Sgn.row) (some sg.length),.islice [tmR] (some 1),b1t vs]
def cyc(a b:List Nat):List UInt8:=a.map (a5d 48 49)++b.map (a5d 76 72)
def d4j(A B:List (Rep×List Nat)):List (List UInt8):=List.zipWith (λa b=>cyc a.2 b.2) A B
theorem b8a{A B:List (Rep×List Nat)}{i:Nat}{a b:Rep×List Nat}(ha:A[i]?=some a)(hb:B[i]?=some b):(d4j A B)[i]?=some (cyc a.2 b.2):=by unfold d4j;rw[List.getElem?_zipWith,ha,hb]
theorem b89{A B:List (Rep×List Nat)}(h:A.length=B.length):(d4j A B).length=A.length:=by unfold d4j;rw[List.length_zipWith];omega
theorem b85(l:List (List UInt8)):FlatR (l.map vcR):=FlatR.map λ_=>rfl
theorem a6i(l:List (List UInt8)):refs (b1t l)=[]:=by cases l<;>rfl
theorem a5s(sg:List Sgn)(vs:List (List UInt8)):a0e (a96 sg vs)=[]:=by simp only[a96,a07,a6i,b2v,a12,List.append_nil]
theorem c70:sem L.env Mf 46 [.nilslice] []=some (.nilslice,[]):=by
 (refine sv Tryz.f46 ?_;simp only[Tryz.f46,gS])
 (repeat first|simp only[ww]|(apply xa;simp+decide only[go_sem];rfl;kernel_rfl))
 (apply fqb;simp+decide only[go_sem]<;>rfl)
theorem d20(n:Nat)(rows:List (List AV))(hf:FlatR rows):sem L.env Mf 46 [.slice 0 0 n none] [some (.row 3 rows)]=some (.slice 0 0 n (some n),[some (.row 3 rows)]):=by
 have h1:=λπ=>a06 π hf
 (refine sv Tryz.f46 ?_;simp only[Tryz.f46,gS])
 (repeat first|simp only[ww]|(apply xa;simp+decide only[go_sem];rfl;kernel_rfl))
 (apply fqb;simp+decide only[go_sem,h1]<;>rfl)
theorem c4k{d:Bool}{H:a02}{b n:Nat}{rows:List (List AV)}(hf:FlatR rows)(hb:a01 H b=some (.row 3 rows)):a0a L.env d (sem L.env Mf) (.func (.func 46) [] []) [.slice b 0 n none] H=some (.slice b 0 n (some n),H,[b]):=by have h:=a40 (E:=L.env) (draw:=d) (call:=sem L.env Mf) (g:=46) (fs:=[]) (cs:=[]) (ar:=[.slice b 0 n none]) (H:=H) (b:=b) (by kernel_rfl) (by kernel_rfl) rfl hb (a0m hf) (FlatO.row hf) rfl (args':=[AV.slice 0 0 n none]) (by simp only[List.nil_append,List.append_nil,List.map_cons,List.map_nil,a1y]) (d20 n rows hf) (FlatO.row hf) (a4t b 0 _ n _);rw[a8g hb]at h;exact h
theorem c0z{d:Bool}(H:a02):a0a L.env d (sem L.env Mf) (.func (.func 46) [] []) [.nilslice] H=some (.nilslice,H,[]):=a04 (by kernel_rfl) (by kernel_rfl) rfl rfl c70 rfl
theorem c69(c:Cir)(hc:c.wf){k m:Nat}(ht:Tio c k m)(ra rb:Rep)(A B:List (Rep×List Nat))(hAl:A.length≤1000)(hAB:A.length=B.length)(hA:∀a∈A,a.2.length=k∧∀v∈a.2,v≤3)(hB:∀a∈B,a.2.length=m∧∀v∈a.2,v≤3) :
 sem L.env Mf 17 [.agg c.enc,sl ra (A.map vlR),sl rb (B.map vlR)] []=some (.tuple [.agg (a96 (sgs k m) (d4j A B)),.int .i64 0],[]):=by
 have hsg:=λ(d:Bool) (H:a02)=>a7r (d:=d) H c hc ht;have hft:=λ(d:Bool) (H:a02)=>b5c (d:=d) (H:=H) c hc ht (ra:=ra) (rb:=rb) hAl hAB hA hB (a0j _ _ _ _ (a1b _ _)) (a0j _ _ _ _ (a1b _ _));have hcl:=λ(d:Bool) (H:a02) (r:Rep) (vs:List Nat) (h:vs.length<1000000)=>b6n (d:=d) H r vs 48 49 48 49 rfl rfl h;have hcl2:=λ(d:Bool) (H:a02) (r:Rep) (vs:List Nat) (h:vs.length<1000000)=>b6n (d:=d) H r vs 76 72 76 72 rfl rfl h;obtain⟨t1,t2,t3,t4,t5,t6⟩:=ht;have hBA:B.length=A.length:=hAB.symm;have hcy:=b89 hAB;have hcg:=λi a b h1 h2=>b8a (A:=A) (B:=B) (i:=i) (a:=a) (b:=b) h1 h2;generalize d4j A B=V at hcy hcg;have hsl:=a46 k m;obtain⟨S,hS⟩:∃S,AV.islice ((sgs k m).map Sgn.row) (some (k+m))=S:=⟨_,rfl⟩
 rw[hS]at hsg;have hSr:refs S=[]:=by rw[←hS];rfl
 have hSs:S.storable=true:=by rw[←hS];rfl
 have hSc:S.cells=[S]:=by rw[←hS];rfl
 have hSj:S.isJunk=false:=by rw[←hS];rfl
 have hSn:∀π,ren π S=S:=λπ=>a0d π _ hSr;have hSf:∀m t d,a3a m t d S=some S:=λm t d=>a0j m t d _ hSr;have hpr:a96 (sgs k m) V=[S,.islice [tmR] (some 1),b1t V]:=by unfold a96;rw[hsl,hS]
 rw[hpr];simp only[Cir.enc]at hsg hft⊢
 (refine sv Tryz.f17 ?_;simp only[Tryz.f17,gS])
 (repeat first|simp only[ww]|(apply xa;simp+decide only[go_sem,hsg,hft,hSs,hSj,hSc];rfl;kernel_rfl))
 refine a0p (σ:=Nat) kp17_0 (λi=>[(1,sl ra (A.map vlR)),(2,sl rb (B.map vlR)),(6,.ptr 0 0 0),(10,.ptr 1 0 0),(34,.int .i64 A.length),(35,.int .i64 i)])
  (λi=>[some (.row 3 [[.nilslice,.nilslice,.nilslice]]),some (.row 3 [[S,.slice 2 0 1 (some 1),grV 3 ((V.take i).map vcR)]]),some (.row 6 [tmR])]++grH 3 ((V.take i).map vcR)) (λi=>A.length-i) (λi=>i≤A.length) 0 ?_ (Nat.zero_le _) ?_
 ·rw[List.take_zero]
  (simp+decide only[go_sem,a03,a00,List.map_nil,a0t,a0u,hSr,hSn,tmR]<;>rfl)<;>rfl
 ·intro i hi;by_cases hlt:i<A.length
  ·have d1:(i:Int)<A.length:=by omega
   have hwi:=wI1 (n:=i) (by omega);have hlt2:i<B.length:=by omega
   obtain⟨a,ha⟩:∃a,A[i]?=some a:=⟨_,z9e hlt⟩
   obtain⟨b,hb⟩:∃b,B[i]?=some b:=⟨_,z9e hlt2⟩
   obtain⟨a1,a2⟩:=hA a (List.mem_of_getElem? ha);obtain⟨b1,b2⟩:=hB b (List.mem_of_getElem? hb);have har:vlR a=[sl a.1 (a.2.map u8R)]:=rfl;have hbr:vlR b=[sl b.1 (b.2.map u8R)]:=rfl;have hc1:=λ(d:Bool) (H:a02)=>hcl d H a.1 a.2 (by omega);have hc2:=λ(d:Bool) (H:a02)=>hcl2 d H b.1 b.2 (by omega);have hvs:V.take (i+1)=V.take i++[cyc a.2 b.2]:=a1g (hcg i a b ha hb);have hcd:e1h BinOp.add (a.2.map (a5d 48 49)) (b.2.map (a5d 76 72))=some (.str (cyc a.2 b.2)):=by
    have hle:(a.2.map (a5d 48 49)).length+(b.2.map (a5d 76 72)).length≤4611686018427387904:=by rw[List.length_map,List.length_map];omega
    simp only[e1h,decide_eq_true hle,cond_true];rfl
   have hvl:(V.take i).length=i:=by rw[List.length_take];omega
   have hf:=b85 (V.take i);cases hw0:V.take i with
   |nil=>
    (repeat first|simp only[ww]|(apply xa;simp+decide only[go_sem,d1,hlt,hlt2,ha,hb,har,hbr,hc1,hc2,hcd,hwi,hSs,hSj,hSc,List.map_nil,a0t,a0u,List.length_map];rfl;kernel_rfl))
    refine a27 (i+1) ?_ (by omega) (by omega);rw[hvs,hw0]
    (simp+decide only[go_sem,a03,a00,List.nil_append,List.map_cons,List.map_nil,a0b,a0c,List.length_nil,hSr,hSn,tmR,vcR]<;>rfl)<;>rfl
   |cons v r=>
    rw[hw0]at hvl hf;have hrm:r.length+1+1≤1000000000:=by simp only[List.length_cons]at hvl;omega
    have hf2:=b85 r;have h3:=a08 hf2;have h4:=λπ=>a06 π hf2
    (repeat first|simp only[ww]|(apply xa;simp+decide only[go_sem,d1,hlt,hlt2,ha,hb,har,hbr,hc1,hc2,hcd,hwi,hSs,hSj,hSc,List.map_cons,a0b,a0c,hrm,List.length_map];rfl;kernel_rfl))
    refine a27 (i+1) ?_ (by omega) (by omega);rw[hvs,hw0]
    (simp+decide only[go_sem,a03,a00,List.cons_append,List.map_cons,List.map_append,List.map_nil,a0b,a0c,List.length_append,List.length_cons,List.length_nil,List.length_map,hSr,hSn,tmR,vcR,h3,h4,List.append_nil]<;>rfl)<;>rfl
  ·obtain rfl:i=A.length:=by omega
   have d1:¬(A.length:Int)<A.length:=by omega
   rw[List.take_of_length_le (by omega)];have hn:=λ(d:Bool) (H:a02)=>c0z (d:=d) H;cases hV:V with
   |nil=>
    (repeat first|simp only[ww]|(apply xa;simp+decide only[go_sem,d1,hn,hSs,hSj,hSc,List.map_nil,a0t,a0u,List.length_map];rfl;kernel_rfl))
    (apply fqb;simp+decide only[go_sem,hSf,hSs,hSj,hSc,b1t,tmR]<;>rfl)
   |cons v r=>
    have hfc:=b85 (v::r);have hcp:=λ(d:Bool) (X Y Z:Option AObj)=>c4k (d:=d) (H:=[X,Y,Z,some (.row 3 ((v::r).map vcR))]) (b:=3) (n:=r.length+1) hfc rfl;have hfz:=λm d=>a17 (m:=m) (d:=d) hfc;have hvv:b1t (v::r) = .islice ((v::r).map vcR) (some (r.length+1)):=rfl;have hne:(v::r).map vcR≠[]:=by simp
    have hln:((v::r).map vcR).length=r.length+1:=by simp
    have htk:((v::r).map vcR).take (r.length+1)=(v::r).map vcR:=List.take_of_length_le (by simp);rw[a7i 3 hne,a7j 3 hne,hln,hvv];generalize(v::r).map vcR=R0 at hcp hfz hln htk
    (repeat first|simp only[ww]|(apply xa;simp+decide only[go_sem,d1,hcp,hSs,hSj,hSc,List.length_map];rfl;kernel_rfl))
    (apply fqb;simp+decide only[go_sem,hSf,hSs,hSj,hSc,tmR,hfz,htk,hln]<;>rfl)
theorem c0c{d:Bool}(H:a02)(c:Cir)(hc:c.wf){k m:Nat}(ht:Tio c k m)(ra rb:Rep)(A B:List (Rep×List Nat))(hAl:A.length≤1000)(hAB:A.length=B.length)(hA:∀a∈A,a.2.length=k∧∀v∈a.2,v≤3)(hB:∀a∈B,a.2.length=m∧∀v∈a.2,v≤3) :
 a0a L.env d (sem L.env Mf) (.func (.func 17) [] []) [.agg c.enc,sl ra (A.map vlR),sl rb (B.map vlR)] H=some (.tuple [.agg (a96 (sgs k m) (d4j A B)),.int .i64 0],H,[]):=
 a04 (by kernel_rfl) (by kernel_rfl) rfl (by simp only[List.nil_append,List.append_nil,a07,a1b,a12,a0s];exact a3q c) (c69 c hc ht ra rb A B hAl hAB hA hB) (by simp only[a5h,a07,a0s,a5s,a12,a9s,List.append_nil])
theorem d9c{P:Nat→Prop}(h:P 0∧P 1∧P 2∧P 3∧P 4∧P 5∧P 6∧P 7∧P 8∧P 9∧P 10∧P 11∧P 12∧P 13∧P 14):∀i,i<15→P i:=by
 intro i hi;have:i=0∨i=1∨i=2∨i=3∨i=4∨i=5∨i=6∨i=7∨i=8∨i=9∨i=10∨i=11∨i=12∨i=13∨i=14:=by omega
 rcases this with rfl|rfl|rfl|rfl|rfl|rfl|rfl|rfl|rfl|rfl|rfl|rfl|rfl|rfl|rfl<;>simp only[h]
theorem d12:∀n:Nat,n<15→sem L.env Mf 55 [.int .i64 n] []=some (.islice (List.replicate n [.int .u8 2]) (some n),[]):=d9c (by refine⟨?_,?_,?_,?_,?_,?_,?_,?_,?_,?_,?_,?_,?_,?_,?_⟩<;>exact a0o (E:=L.env) a0n 60 (by kernel_rfl))
theorem c2o{d:Bool}(H:a02)(n:Nat)(hn:n<15):a0a L.env d (sem L.env Mf) (.func (.func 55) [] []) [.int .i64 n] H=some (.islice (List.replicate n [.int .u8 2]) (some n),H,[]):=a04 (by kernel_rfl) (by kernel_rfl) rfl rfl (d12 n hn) rfl
def b06(c:Cir):Pat:=⟨some (some (kinds c.nodes 0).length),List.replicate (kinds c.nodes 0).length 2,some (some (kinds c.nodes 14).length),List.replicate (kinds c.nodes 14).length 2⟩
theorem c78(c:Cir)(hc:c.wf):sem L.env Mf 22 [.agg c.enc] []=some (.agg (b06 c).enc,[]):=by
 have hn:=hc.len;have hin:=λ(d:Bool) (H:a02)=>a3w (d:=d) H c (by omega);have hst:=λ(d:Bool) (H:a02)=>a5n (d:=d) H c (by omega);have hb:=λ(d:Bool) (H:a02) (n:Nat) (h:n<15)=>c2o (d:=d) H n h;obtain⟨r0,e0⟩:=a4f (kinds c.nodes 0);obtain⟨r1,e1⟩:=a4f (kinds c.nodes 14);have k0:=a3r c.nodes 0;have k1:=a3r c.nodes 14;rw[e0]at hin;rw[e1]at hst;have hb0:=λ(d:Bool) (H:a02)=>hb d H (kinds c.nodes 0).length (by omega);have hb1:=λ(d:Bool) (H:a02)=>hb d H (kinds c.nodes 14).length (by omega);have hr:∀n:Nat,List.map u8R (List.replicate n 2)=List.replicate n [.int .u8 2]:=λn=>by rw[List.map_replicate];rfl
 have hpe:(b06 c).enc=[.islice (List.replicate (kinds c.nodes 0).length [.int .u8 2]) (some (kinds c.nodes 0).length),.islice (List.replicate (kinds c.nodes 14).length [.int .u8 2]) (some (kinds c.nodes 14).length)]:=by unfold b06 Pat.enc;rw[hr,hr,a4n,a4n]
 rw[hpe];simp only[Cir.enc]at hin hst⊢
 (refine sv Tryz.f22 ?_;simp only[Tryz.f22,gS])
 (repeat first|simp only[ww]|(apply xa;simp+decide only[go_sem,hin,hst,hb0,hb1,List.length_map];rfl;kernel_rfl))
 (apply fqb;simp+decide only[go_sem]<;>rfl)
end Go.UInst
