/- Part of a proof. No condition. -/
import Derived.Test.YtmbmjfjagololaaGreatDoorRPg
import Derived.Test.YtmbmjfjagololaaGreatDoorAxE
import Derived.Test.YtmbmjfjagololaaGreatDoorAxD
import Derived.Test.YtmbmjfjagololaaGreatDoorRRd
import Derived.Test.YtmbmjfjagololaaGreatDoorRPh
set_option linter.unusedSectionVars false
set_option linter.unusedSimpArgs false
set_option linter.unusedVariables false
namespace Go.RInst
set_option maxHeartbeats 200000000
open Go.Proofs Go.Ax Go.Pc
variable [PR]
set_option maxRecDepth 100000
/-! ### strings cut at a byte -/
def a00(c:UInt8):List UInt8→List (List UInt8)
 | []=>[[]]
 |b::r=>if b=c then[]::a00 c r else match a00 c r with
  |p::ps=>(b::p)::ps
  | []=>[[b]]
theorem b2v(c:UInt8)(s:List UInt8):a00 c s≠[]:=by
 cases s with
 |nil=>simp[a00]
 |cons b r=>
  unfold a00;split
  ·simp
  ·split<;>simp
theorem a0r(c:UInt8):∀s,(a00 c s).length=s.count c+1
 | []=>rfl
 |b::r=>by
  have ih:=a0r c r;unfold a00;by_cases h:b=c
  ·rw[e3g h,b94,ih,h,List.count_cons_self]
  ·rw[e2i h,List.count_cons_of_ne h];cases hs:a00 c r with
   |nil=>exact absurd hs (b2v c r)
   |cons p ps=>rw[hs]at ih;simpa using ih
theorem b0m(c:UInt8):∀s:List UInt8,s.count c=0→a00 c s=[s]
 | [],_=>rfl
 |b::r,h=>by
  have hb:¬b=c:=λe=>by rw[e,List.count_cons_self]at h;omega
  rw[List.count_cons_of_ne hb]at h;unfold a00;rw[e2i hb,b0m c r h]
theorem b2u(c:UInt8):∀s:List UInt8,0<s.count c→∃m:Nat,Lib.indexByte s c=m∧m<s.length∧a00 c s=s.take m::a00 c (s.drop (m+1))∧s.count c=(s.drop (m+1)).count c+1
 | [],h=>by simp at h
 |b::r,h=>by
  by_cases hb:b=c
  ·refine⟨0,?_,by simp,?_,?_⟩
   ·unfold Lib.indexByte;rw[e3g (by simp[hb])];rfl
   ·rw[a00,e3g hb];rfl
   ·rw[hb,List.count_cons_self];rfl
  ·rw[List.count_cons_of_ne hb]at h;obtain⟨m,h1,h2,h3,h4⟩:=b2u c r h;refine⟨m+1,?_,by simp;omega,?_,?_⟩
   ·unfold Lib.indexByte;rw[e2i (by simp[hb]),h1];have:((m:Int) == -1)=false:=by rw[e3o];omega
    rw[this];rfl
   ·rw[a00,e2i hb,h3];rfl
   ·rw[List.count_cons_of_ne hb,h4];rfl
theorem d7y(s:List UInt8)(m:Nat)(hm:m≤s.length)(h:FHeap):a3q L.env h 9 (.str s) none (some (.int .i64 m)) none=some (.str (s.take m)):=by
 have hu:L.env.und 9=some .string:=by kernel_rfl
 unfold a3q;rw[hu];have e:inB (m:Int) s.length=true:=by rw[c5m];exact e3d hm
 simp only[a8r,e,e3e,Int.toNat_natCast];rfl
theorem c8y(s:List UInt8)(m:Nat)(hm:m≤s.length)(h:FHeap):a3q L.env h 9 (.str s) (some (.int .i64 m)) none none=some (.str (s.drop m)):=by
 have hu:L.env.und 9=some .string:=by kernel_rfl
 unfold a3q;rw[hu];have e:inB (m:Int) s.length=true:=by rw[c5m];exact e3d hm
 have e2:a1n none s.length s.length=some s.length:=rfl;simp only[a8r,e,e2,e3e,Int.toNat_natCast,e3z]
theorem d2a(s:List UInt8)(c:UInt8):sem L.env Mf 91 [.str s,.str [c]] []=some (.int .i64 (Lib.indexByte s c),[]):=by
 have h:=λd H=>a0l (E:=L.env) (ai:=d) (call:=sem L.env Mf) (g:=86) (fs:=[]) (cs:=[]) (ar:=[.str s,.int .u8 c.toNat]) (H:=H) (by kernel_rfl) (by kernel_rfl) rfl (by rfl) (d08 s c) rfl;by_cases hs:s=[c]
 ·subst hs;have hi:Lib.indexByte [c] c=0:=by simp[Lib.indexByte]
  rw[hi]
  (refine sv Tryz.f91 ?_;simp only[Tryz.f91,gS])
  (repeat first|simp only[ww]|(apply xa;simp+decide only[go_sem];rfl;kernel_rfl))
  (apply fqb;simp+decide only[go_sem]<;>rfl)
 ·have jJ:¬[c]=s:=λe=>hs e.symm
  (refine sv Tryz.f91 ?_;simp only[Tryz.f91,gS])
  (repeat first|simp only[ww]|(apply xa;simp+decide only[go_sem,jJ,h,e29];rfl;kernel_rfl))
  (apply fqb;simp+decide only[go_sem]<;>rfl)
theorem d6x(s:List UInt8)(c:UInt8):sem L.env Mf 74 [.str s,.str [c]] []=some (.int .i64 (Lib.indexByte s c),[]):=by
 have h:=λd H=>a0l (E:=L.env) (ai:=d) (call:=sem L.env Mf) (g:=91) (fs:=[]) (cs:=[]) (ar:=[.str s,.str [c]]) (H:=H) (by kernel_rfl) (by kernel_rfl) rfl (by rfl) (d2a s c) rfl
 (refine sv Tryz.f74 ?_;simp only[Tryz.f74,gS])
 (repeat first|simp only[ww]|(apply xa;simp+decide only[go_sem,h];rfl;kernel_rfl))
 (apply fqb;simp+decide only[go_sem]<;>rfl)
theorem c8f{d:Bool}(H:a08)(s:List UInt8)(c:UInt8):a0e L.env d (sem L.env Mf) (.func (.func 74) [] []) [.str s,.str [c]] H=some (.int .i64 (Lib.indexByte s c),H,[]):=a0l (by kernel_rfl) (by kernel_rfl) rfl rfl (d6x s c) rfl
theorem c8q{d:Bool}(H:a08)(s:List UInt8)(c:UInt8):a0e L.env d (sem L.env Mf) (.func (.func 73) [] []) [.str s,.str [c]] H=some (.int .i64 (s.count c:Nat),H,[]):=by
 have hp:sem L.env Mf 73 [.str s,.str [c]] []=some (.int .i64 (s.count c:Nat),[]):=by refine a90 (by intro y hy;cases hy) 0 ?_;have hq:L.env.prim 73 [.str s,.str [c]]=some (.int .i64 (s.count c:Nat),[]):=rfl;unfold a6c primH;rw[hq]
 exact a0l (by kernel_rfl) (by kernel_rfl) rfl rfl hp rfl
def a9m(n:Nat)(P:List (List UInt8)):List (List AV):=P.map (λs=>[AV.str s])++List.replicate (n-P.length) [.str []]
theorem b59(n:Nat)(P:List (List UInt8)):FlatR (a9m n P):=FlatR.append (FlatR.map λ_=>rfl) (FlatR.replicate rfl)
theorem c48(n:Nat)(P:List (List UInt8))(h:P.length≤n):(a9m n P).length=n:=by simp[a9m];omega
theorem b7y(n:Nat)(P:List (List UInt8))(x:List UInt8)(h:P.length<n):(a9m n P).set P.length [.str x]=a9m n (P++[x]):=by
 unfold a9m;rw[List.set_append_right _ _ (by simp)];simp only[b41,Nat.sub_self,e3j,e2b,e3a,e2f,e68];obtain⟨k,hk⟩:∃k,n-P.length=k+1:=⟨n-P.length-1,by omega⟩
 rw[hk,e6p,List.set_cons_zero,show n-(P.length+1)=k by omega,e5j];rfl
theorem c49(n:Nat)(P:List (List UInt8))(h:P.length<n):(a9m n P)[P.length]?=some [.str []]:=by
 unfold a9m;rw[e3l (by simp),b41,Nat.sub_self];obtain⟨k,hk⟩:∃k,n-P.length=k+1:=⟨n-P.length-1,by omega⟩
 rw[hk,e6p];rfl
theorem d6z(s:List UInt8)(c:UInt8)(hl:s.length≤1048576):sem L.env Mf 52 [.str s,.str [c],.int .i64 0,.int .i64 (-1)] []=some (.slice 0 0 (a00 c s).length (some (a00 c s).length),[some (.row 1 ((a00 c s).map λs=>[AV.str s]))]):=by
 have aX:s.count c≤s.length:=e3k;have fE:=a0r c s;obtain⟨n,hn⟩:∃n,n=s.count c+1:=⟨_,rfl⟩
 rw[fE,←hn];have tP:=λd H=>c8q (d:=d) H s c;have hw:IntKind.i64.wrap ((s.count c:Int)+1)=(n:Int):=by rw[w64 (by omega) (by omega)];omega
 have dA:IntKind.i64.wrap ((s.length:Int)+1)=((s.length+1:Nat):Int):=by rw[w64 (by omega) (by omega)];omega
 have fH:¬((s.length+1:Nat):Int)<(n:Int):=by omega
 have sN:IntKind.i64.wrap ((n:Int)-1)=((n-1:Nat):Int):=by rw[w64 (by omega) (by omega)];omega
 have hb:L.env.bytes 9=16:=by kernel_rfl
 have lQ:d97 L.env 9 (n:Int) (n:Int)=true:=by unfold d97;rw[hb,e3d (by omega:(0:Int)≤n),e3d (by omega:(n:Int)≤n),e3d (by omega:(n:Int)≤281474976710656),e3d (by omega:((16:Nat):Int)*n≤281474976710656)];rfl
 have hz:(n:Int).toNat=n:=by omega
 (refine sv Tryz.f52 ?_;simp only[Tryz.f52,gS])
 have c0:¬[c]=([]:List UInt8):=by simp
 have mO:∀a b:Int,(if False then a else b)=b:=λa b=>e2i id
 (repeat first|simp only[ww]|(apply xa;simp+decide only[go_sem,tP,hw,dA,fH,sN,lQ,hz,c0,mO];rfl;kernel_rfl))
 refine a15 (σ:=List (List UInt8)×List UInt8) kp52_0 (λq=>[(0,.str q.2),(1,.str [c]),(2,.int .i64 0),(3,.int .i64 (n-1:Nat)),(9,.slice 0 0 n (some n)),(10,.int .i64 q.1.length)]) (λq=>[some (.row 1 (a9m n q.1))]) (λq=>n-q.1.length) (λq=>a00 c s=q.1++a00 c q.2∧q.1.length+q.2.count c+1=n∧q.2.length≤s.length) ([],s) ?_ ⟨rfl,by simp;omega,e2c _⟩ ?_
 ·have e1:a9m n []=List.replicate n [.str []]:=by simp[a9m]
  have e3:=a01 (FlatR.replicate (n:=n) (r:=[AV.str []]) rfl);have e4:=λπ=>a02 π (FlatR.replicate (n:=n) (r:=[AV.str []]) rfl)
  (simp+decide only[go_sem,a0d,a07,e1,e3,e4,e27]<;>rfl)
 ·rintro⟨P,R⟩ ⟨h1,h2,h3⟩
  simp only at h1 h2 h3⊢;have rS:(a9m n P).length=n:=c48 n P (by omega);have oH:P.length<n:=by omega
  have rT:=c49 n P oH;by_cases hc:R.count c=0
  ·have l1:¬(P.length:Int)<((n-1:Nat):Int):=by omega
   have bt:=b7y n P R oH;have ia:a00 c s=P++[R]:=by rw[h1,b0m c R hc]
   have bi:a9m n (P++[R])=(a00 c s).map λs=>[AV.str s]:=by unfold a9m;rw[ia,e2f,e68,show n-(P.length+1)=0 by omega];simp
   have lh:IntKind.i64.wrap ((P.length:Int)+1)=(n:Int):=by rw[w64 (by omega) (by omega)];omega
   have dz:FlatR ((a00 c s).map λs=>[AV.str s]):=FlatR.map λ_=>rfl;have bY:=λπ=>a02 π dz;have cL:=a01 dz;have mQ:=λq d=>a2n q d dz;have fm:((a00 c s).map λs=>[AV.str s]).length=n:=by rw[b41,fE];exact hn.symm
   rw[bi]at bt
   (repeat first|simp only[ww]|(apply xa;simp+decide only[go_sem,l1,oH,rS,rT,bt,lh,e2c,e55];rfl;kernel_rfl))
   (apply fqb;simp+decide only[go_sem,bY,cL,mQ]<;>rfl)
  ·obtain⟨m,i1,i2,i3,i4⟩:=b2u c R (by omega);have l1:(P.length:Int)<((n-1:Nat):Int):=by omega
   have kO:=λd H=>c8f (d:=d) H R c;rw[i1]at kO;have l2:¬(m:Int)<0:=by omega
   have sM:IntKind.i64.wrap ((m:Int)+0)=(m:Int):=by rw[Int.add_zero];exact w64 (by omega) (by omega)
   have q8:IntKind.i64.wrap ((m:Int)+1)=((m+1:Nat):Int):=by rw[w64 (by omega) (by omega)];omega
   have sL:IntKind.i64.wrap ((m:Int)+((1:Nat):Int))=((m+1:Nat):Int):=q8;have lh:IntKind.i64.wrap ((P.length:Int)+1)=((P.length+1:Nat):Int):=by rw[w64 (by omega) (by omega)];omega
   have s1:=λh=>d7y R m (by omega) h;have s2:=λh=>c8y R (m+1) (by omega) h;have bt:=b7y n P (R.take m) oH;have hd:=e79 (i:=m+1) (l:=R);have mY:(P++[R.take m]).length=P.length+1:=by simp
   have e3:=a01 (b59 n (P++[R.take m]));have e4:=λπ=>a02 π (b59 n (P++[R.take m]))
   (repeat first|simp only[ww]|(apply xa;simp+decide only[go_sem,l1,oH,rS,rT,bt,kO,l2,sM,q8,sL,lh,s1,s2,e55];rfl;kernel_rfl))
   refine a2p (P++[R.take m],R.drop (m+1)) ?_ (by simp only[mY];omega) ⟨by rw[h1,i3,e5j];rfl,by simp only[mY];omega,by simp only[hd];omega⟩;simp only[mY]
   (simp+decide only[go_sem,a0d,a07,e3,e4]<;>rfl)
end Go.RInst
namespace Go.RInst
set_option maxHeartbeats 200000000
open Go.Proofs Go.Ax Go.Pc
variable [PR]
set_option maxRecDepth 100000
def sR(l:List (List UInt8)):List (List AV):=l.map λs=>[AV.str s]
theorem a0m(l:List (List UInt8)):FlatR (sR l):=FlatR.map λ_=>rfl
theorem a7c(l:List (List UInt8)):(sR l).length=l.length:=b41 ..
theorem a8t{l:List (List UInt8)}{i:Nat}{x:List UInt8}(h:l[i]?=some x):(sR l)[i]?=some [.str x]:=by unfold sR;rw[e2e,h];rfl
theorem d5s(l:List (List UInt8))(i:Nat)(x:List UInt8):(sR l).set i [.str x]=sR (l.set i x):=by unfold sR;rw[List.map_set]
theorem c7o(s:List UInt8)(c:UInt8)(hl:s.length≤1048576):sem L.env Mf 23 [.str s,.str [c]] []=some (.slice 0 0 (a00 c s).length (some (a00 c s).length),[some (.row 1 (sR (a00 c s)))]):=by
 have dz:=a0m (a00 c s);have bY:=λπ=>a02 π dz;have cL:=a01 dz;have mQ:=λq d=>a2n q d dz;have h:=d6z s c hl;change _=some (_,[some (AObj.row 1 (sR (a00 c s)))])at h;generalize(a00 c s).length=n at *;generalize sR (a00 c s)=R at *;have hc:a0e L.env false (sem L.env Mf) (.func (.func 52) [] []) [.str s,.str [c],.int .i64 0,.int .i64 (-1)] []=some (.slice 0 0 n (some n),[some (.row 1 R)],[]):=by have:=a9d (E:=L.env) (d:=false) (call:=sem L.env Mf) (g:=52) (fs:=[]) (cs:=[]) (ar:=[.str s,.str [c],.int .i64 0,.int .i64 (-1)]) (H:=[]) (v:=.slice 0 0 n (some n)) (L:=[some (.row 1 R)]) (by kernel_rfl) (by kernel_rfl) rfl rfl h;rw[this];simp+decide only[go_sem,bY]<;>rfl
 (refine sv Tryz.f23 ?_;simp only[Tryz.f23,gS])
 (repeat first|simp only[ww]|(apply xa;simp+decide only[go_sem,hc];rfl;kernel_rfl))
 (apply fqb;simp+decide only[go_sem,bY,cL,mQ]<;>rfl)
theorem a1f(H:a08)(s:List UInt8)(c:UInt8)(hl:s.length≤1048576):a0e L.env false (sem L.env Mf) (.func (.func 23) [] []) [.str s,.str [c]] H=some (.slice H.length 0 (a00 c s).length (some (a00 c s).length),H++[some (.row 1 (sR (a00 c s)))],[]):=by have bY:=λπ=>a02 π (a0m (a00 c s));have:=a9d (E:=L.env) (d:=false) (call:=sem L.env Mf) (g:=23) (fs:=[]) (cs:=[]) (ar:=[.str s,.str [c]]) (H:=H) (v:=.slice 0 0 (a00 c s).length (some (a00 c s).length)) (L:=[some (.row 1 (sR (a00 c s)))]) (by kernel_rfl) (by kernel_rfl) rfl rfl (c7o s c hl);rw[this];generalize sR (a00 c s)=R at *;simp+decide only[go_sem,bY];simp[ren,a1e,a47]
theorem d7h(w:List UInt8):sem L.env Mf 64 [.str w] []=some (.bool (decide (w=[])),[]):=by
 (refine sv Tryz.f64 ?_;simp only[Tryz.f64,gS])
 (repeat first|simp only[ww]|(apply xa;simp+decide only[go_sem];rfl;kernel_rfl))
 (apply fqb;simp+decide only[go_sem]<;>rfl)
theorem b2h{d:Bool}(H:a08)(w:List UInt8):a0e L.env d (sem L.env Mf) (.func (.func 64) [] []) [.str w] H=some (.bool (decide (w=[])),H,[]):=a0l (by kernel_rfl) (by kernel_rfl) rfl rfl (d7h w) rfl
theorem d6r(n:Nat)(c:Option Nat)(l:List (List UInt8))(hn:l.length=n)(hb:n≤2000000)(h:∀w∈l,w≠[]):sem L.env Mf 81 [.slice 0 0 n c,.func (.func 64) [] []] [some (.row 1 (sR l))]=some (.int .i64 (-1),[some (.row 1 (sR l))]):=by
 have bY:=λπ=>a02 π (a0m l);have cL:=a01 (a0m l);have ak:=a7c l
 (refine sv Tryz.f81 ?_;simp only[Tryz.f81,gS])
 (repeat first|simp only[ww]|(apply xa;simp+decide only[go_sem];rfl;kernel_rfl))
 refine a15 (σ:=Nat) kp81_0 (λi=>[(0,.slice 0 0 n c),(1,.func (.func 64) [] []),(7,.int .i64 n),(8,.int .i64 (i:Nat))]) (λ_=>[some (.row 1 (sR l))]) (λi=>n-i) (λi=>i≤n) 0 ?_ (e3h _) ?_
 ·(simp+decide only[go_sem,a0d,a07,bY,cL]<;>rfl)
 ·intro i hi;by_cases aq:i<n
  ·have l1:(i:Int)<n:=by omega
   obtain⟨w,hw⟩:∃w,l[i]?=some w:=⟨_,z9e (by omega)⟩
   have hg:=a8t hw;have aK:¬w=[]:=h w (e25 hw);have hc:=λd H=>b2h (d:=d) H w;have dA:IntKind.i64.wrap ((i:Int)+1)=((i+1:Nat):Int):=by rw[w64 (by omega) (by omega)];omega
   (repeat first|simp only[ww]|(apply xa;simp+decide only[go_sem,l1,aq,hg,hc,aK,dA];rfl;kernel_rfl))
   refine a2p (i+1) ?_ (by omega) (by omega)
   (simp+decide only[go_sem,a0d,a07,bY,cL]<;>rfl)
  ·obtain rfl:i=n:=by omega
   have l1:¬(i:Int)<i:=by omega
   (repeat first|simp only[ww]|(apply xa;simp+decide only[go_sem,l1];rfl;kernel_rfl))
   (apply fqb;simp+decide only[go_sem,bY,cL]<;>rfl)
theorem d6q(n:Nat)(c:Option Nat)(l:List (List UInt8))(hn:l.length=n)(hb:n≤2000000)(m:Nat)(hm:l[m]?=some [])(h:∀w∈l.take m,w≠[]):sem L.env Mf 81 [.slice 0 0 n c,.func (.func 64) [] []] [some (.row 1 (sR l))]=some (.int .i64 m,[some (.row 1 (sR l))]):=by
 have bY:=λπ=>a02 π (a0m l);have cL:=a01 (a0m l);have ak:=a7c l;have fH:=(e26.1 hm).1
 (refine sv Tryz.f81 ?_;simp only[Tryz.f81,gS])
 (repeat first|simp only[ww]|(apply xa;simp+decide only[go_sem];rfl;kernel_rfl))
 refine a15 (σ:=Nat) kp81_0 (λi=>[(0,.slice 0 0 n c),(1,.func (.func 64) [] []),(7,.int .i64 n),(8,.int .i64 (i:Nat))]) (λ_=>[some (.row 1 (sR l))]) (λi=>n-i) (λi=>i≤m) 0 ?_ (e3h _) ?_
 ·(simp+decide only[go_sem,a0d,a07,bY,cL]<;>rfl)
 ·intro i hi;have aq:i<n:=by omega
  have l1:(i:Int)<n:=by omega
  by_cases oe:i=m
  ·subst oe;have hg:=a8t hm;have hc:=λd H=>b2h (d:=d) H []
   (repeat first|simp only[ww]|(apply xa;simp+decide only[go_sem,l1,aq,hg,hc];rfl;kernel_rfl))
   (apply fqb;simp+decide only[go_sem,bY,cL]<;>rfl)
  ·obtain⟨w,hw⟩:∃w,l[i]?=some w:=⟨_,z9e (by omega)⟩
   have hg:=a8t hw;have aK:¬w=[]:=h w (e25 (show(l.take m)[i]?=some w by rw[e5g,e3g (by omega)];exact hw));have hc:=λd H=>b2h (d:=d) H w;have dA:IntKind.i64.wrap ((i:Int)+1)=((i+1:Nat):Int):=by rw[w64 (by omega) (by omega)];omega
   (repeat first|simp only[ww]|(apply xa;simp+decide only[go_sem,l1,aq,hg,hc,aK,dA];rfl;kernel_rfl))
   refine a2p (i+1) ?_ (by omega) (by omega)
   (simp+decide only[go_sem,a0d,a07,bY,cL]<;>rfl)
def a2i(l:List (List UInt8)):List (List UInt8):=l.filter λw=>!decide (w=[])
theorem b2i(a b:List (List UInt8)):a2i (a++b)=a2i a++a2i b:=List.filter_append ..
theorem a21(l:List (List UInt8)):(a2i l).length≤l.length:=List.length_filter_le ..
theorem b7e{l:List (List UInt8)}(h:∀w∈l,w≠[]):a2i l=l:=List.filter_eq_self.2 λw hw=>by simp[h w hw]
theorem c5v(l:List (List UInt8)):(∀w∈l,w≠[])∨∃m,l[m]?=some []∧∀w∈l.take m,w≠[]:=by
 induction l with
 |nil=>exact .inl λw h=>by cases h
 |cons a r ih=>
  by_cases ha:a=[]
  ·exact .inr ⟨0,by simp[ha],λw h=>by simp at h⟩
  ·rcases ih with h|⟨m,h1,h2⟩
   ·left;intro w hw;rcases e3b.1 hw with rfl|hw
    ·exact ha
    ·exact h w hw
   ·refine .inr ⟨m+1,by simpa using h1,λw hw=>?_⟩;rw[c35]at hw;rcases e3b.1 hw with rfl|hw
    ·exact ha
    ·exact h2 w hw
theorem a3v(n:Nat)(l:List (List UInt8))(hn:l.length=n)(h0:0<n)(hb:n≤2000000):∃r:AV×a08,(∃R,R.length=n∧R.take (a2i l).length=sR (a2i l)∧FlatR R∧r=(.slice 0 0 (a2i l).length (some n),[some (.row 1 R)]))∧sem L.env Mf 63 [.slice 0 0 n (some n),.func (.func 64) [] []] [some (.row 1 (sR l))]=some r:=by
 have bY:=λπ=>a02 π (a0m l);have cL:=a01 (a0m l);have mQ:=λq d=>a2n q d (a0m l);have ak:=a7c l;rcases c5v l with aH|⟨m,hm,aF⟩
 ·have hc:a0e L.env false (sem L.env Mf) (.func (.func 81) [] []) [.slice 0 0 n (some n),.func (.func 64) [] []] [some (.row 1 (sR l))]=some (.int .i64 (-1),[some (.row 1 (sR l))],[0]):=
   a2f (by kernel_rfl) (by kernel_rfl) rfl (b:=0) (o:=.row 1 (sR l)) rfl (a0o (a0m l)) (FlatO.row (a0m l)) rfl (by rfl) (d6r n (some n) l hn hb aH) rfl
  rw[b7e aH]
  (refine svE Tryz.f63 ?_;simp only[Tryz.f63,gS])
  (repeat first|simp only[ww]|(apply xa;simp+decide only[go_sem,hc];rfl;kernel_rfl))
  (apply a4x;(·simp+decide only[go_sem,bY,cL,mQ]<;>rfl))
  exact⟨sR l,by rw[ak,hn],e3c (by rw[ak];exact e2c _),a0m l,by rw[hn]⟩
 ·have fH:=(e26.1 hm).1;have hc:a0e L.env false (sem L.env Mf) (.func (.func 81) [] []) [.slice 0 0 n (some n),.func (.func 64) [] []] [some (.row 1 (sR l))]=some (.int .i64 m,[some (.row 1 (sR l))],[0]):=
   a2f (by kernel_rfl) (by kernel_rfl) rfl (b:=0) (o:=.row 1 (sR l)) rfl (a0o (a0m l)) (FlatO.row (a0m l)) rfl (by rfl) (d6q n (some n) l hn hb m hm aF) rfl
  have c0:¬(m:Int) = -1:=by omega
  have oU:IntKind.i64.wrap ((m:Int)+1)=((m+1:Nat):Int):=by rw[w64 (by omega) (by omega)];omega
  have tN:a2i (l.take (m+1))=l.take m:=by rw[e70,hm,b2i,b7e aF];simp[a2i]
  (refine svE Tryz.f63 ?_;simp only[Tryz.f63,gS])
  (repeat first|simp only[ww]|(apply xa;simp+decide only[go_sem,hc,c0,oU];rfl;kernel_rfl))
  refine a15 (σ:=Nat×Nat×List (List UInt8)) kp63_0 (λs=>[(0,.slice 0 0 n (some n)),(1,.func (.func 64) [] []),(5,.int .i64 (s.1:Nat)),(6,.int .i64 (s.2.1:Nat))]) (λs=>[some (.row 1 (sR s.2.2))]) (λs=>n-s.2.1) (λs=>s.2.2.length=n∧s.2.1≤n∧s.1<s.2.1∧s.2.2.take s.1=a2i (l.take s.2.1)∧s.2.2.drop s.2.1=l.drop s.2.1) (m,m+1,l) ?_ ⟨hn,by simp only;omega,Nat.lt_succ_self _,tN.symm,rfl⟩ ?_
  ·(simp+decide only[go_sem,a0d,a07,bY,cL]<;>rfl)
  ·rintro⟨i,j,M⟩ ⟨hM,hj,jz,ht,hd⟩
   simp only at hM hj jz ht hd⊢;have uh:=λπ=>a02 π (a0m M);have ui:=a01 (a0m M);have qO:(sR M).length=n:=by rw[a7c,hM]
   by_cases rF:j<n
   ·have l1:(j:Int)<n:=by omega
    obtain⟨w,hw⟩:∃w,M[j]?=some w:=⟨_,z9e (by omega)⟩
    have rA:l[j]?=some w:=by have:=congrArg (λx=>x[0]?) hd;simp only[e6h,e5y]at this;rw[←this,hw]
    have hg:=a8t hw;have hc:=λd H=>b2h (d:=d) H w;have mo:IntKind.i64.wrap ((j:Int)+1)=((j+1:Nat):Int):=by rw[w64 (by omega) (by omega)];omega
    have cZ:IntKind.i64.wrap ((i:Int)+1)=((i+1:Nat):Int):=by rw[w64 (by omega) (by omega)];omega
    have jC:M.drop (j+1)=l.drop (j+1):=by have:=congrArg (List.drop 1) hd;simpa[e7h,Nat.add_comm]using this
    have jh:l.take (j+1)=l.take j++[w]:=by rw[e70,rA];rfl
    by_cases he:w=[]
    ·subst he
     (repeat first|simp only[ww]|(apply xa;simp+decide only[go_sem,l1,rF,hg,hc,mo];rfl;kernel_rfl))
     refine a2p (i,j+1,M) ?_ (by simp only;omega) ⟨hM,by simp only;omega,by simp only;omega,by simp only;rw[jh,b2i,←ht];simp[a2i],jC⟩
     (simp+decide only[go_sem,a0d,a07,uh,ui]<;>rfl)
    ·have dC:i<n:=by omega
     have bt:=d5s M i w;have qM:=λπ=>a02 π (a0m (M.set i w));have pd:=a01 (a0m (M.set i w));obtain⟨x,hx⟩:∃x,M[i]?=some x:=⟨_,z9e (by omega)⟩
     have tA:=a8t hx
     (repeat first|simp only[ww]|(apply xa;simp+decide only[go_sem,l1,rF,hg,hc,he,mo,cZ,dC,tA,bt];rfl;kernel_rfl))
     refine a2p (i+1,j+1,M.set i w) ?_ (by simp only;omega) ⟨by simp only[List.length_set];exact hM,by simp only;omega,by simp only;omega,?_,?_⟩
     ·(simp+decide only[go_sem,a0d,a07,qM,pd]<;>rfl)
     ·simp only;rw[jh,b2i,←ht,e70,List.getElem?_set_self (by omega),List.take_set_of_le (e2c _)];simp[a2i,he]
     ·simp only;rw[List.drop_set_of_lt (by omega)];exact jC
   ·obtain rfl:j=n:=by omega
    have l1:¬(j:Int)<j:=by omega
    rw[e3c (by omega:l.length≤j)]at ht;have rG:(a2i l).length=i:=by rw[←ht,e4z];omega
    have l5:i≤j:=by omega
    have l6:¬j-i=0:=by omega
    have l7:i+(j-i)≤j:=by omega
    have hZ:a3a (Value.string { data:=#[] })=AV.str []:=rfl;have hR:FlatR ((sR M).take i++List.replicate (j-i) [AV.str []]++(sR M).drop (i+(j-i))):=FlatR.append (FlatR.append (a0m M).take (FlatR.replicate rfl)) (a0m M).drop;have ap:((sR M).take i++List.replicate (j-i) [AV.str []]++(sR M).drop (i+(j-i))).length=j:=by simp only[e2f,e4z,e74,e79,qO];omega
    have aM:((sR M).take i++List.replicate (j-i) [AV.str []]++(sR M).drop (i+(j-i))).take i=sR (a2i l):=by rw[e5j,List.take_append_of_le_length (by rw[e4z,qO];omega),List.take_take,Nat.min_self,←ht];unfold sR;rw[List.map_take]
    have ug:=λπ=>a02 π hR;have aw:=a01 hR;have uf:=λq d=>a2n q d hR
    (repeat first|simp only[ww]|(apply xa;simp+decide only[go_sem,l1,l5,l6,l7,e55,qO,hZ];rfl;kernel_rfl))
    generalize(sR M).take i++List.replicate (j-i) [AV.str []]++(sR M).drop (i+(j-i))=R at *
    (apply a4x;(·simp+decide only[go_sem,ug,aw,uf]<;>rfl))
    exact⟨R,ap,by rw[rG];exact aM,hR,by rw[rG]⟩
end Go.RInst
namespace Go.RInst
open Go.Proofs Go.Ax Go.Pc
variable [PR]
set_option maxRecDepth 100000
/-! ### numbers -/
def b4r(b:UInt8):Prop:=48≤b.toNat∧b.toNat≤57
def a09(w:List UInt8):Nat:=w.foldl (λn b=>10*n+(b.toNat-48)) 0
theorem c61(w:List UInt8){i:Nat}{b:UInt8}(h:w[i]?=some b):a09 (w.take (i+1))=10*a09 (w.take i)+(b.toNat-48):=by unfold a09;rw[e70,h,List.foldl_append];rfl
theorem a84(w:List UInt8)(h:∀b∈w,b4r b):∀i,i≤w.length→a09 (w.take i)<10^i
 |0,_=>by simp[a09]
 |i+1,hi=>by
  obtain⟨b,hb⟩:∃b,w[i]?=some b:=⟨_,z9e (by omega)⟩
  have ih:=a84 w h i (by omega);have hd:=h b (e25 hb);rw[c61 w hb,Nat.pow_succ];have:=hd.1;have:=hd.2;omega
structure NumOk(w:List UInt8):Prop where
 l1:1≤w.length
 l7:w.length≤7
 z:w=[48]∨∃a,w[0]?=some a∧a.toNat≠48
 d:∀b∈w,b4r b
theorem d6i(w:List UInt8)(h:NumOk w):sem L.env Mf 84 [.str w] []=some (.int .i64 (a09 w:Nat),[]):=by
 have h1:=h.l1;have h7:=h.l7;have c1:(1:Int)≤w.length:=by omega
 have c7:(w.length:Int)≤7:=by omega
 have aF:=λd H e=>a0i (d:=d) H e;have mG:∀i,i≤w.length→a09 (w.take i)<10000000:=λi hi=>e58 (a84 w h.d i hi) (e5w (e6w (by decide) (e5w hi h7)) (by decide));have step:∀(i:Nat) (b:UInt8),w[i]?=some b→i<w.length→IntKind.i64.wrap (10*((a09 (w.take i):Nat):Int))=((10*a09 (w.take i):Nat):Int)∧IntKind.u8.wrap ((b.toNat:Int)-48)=((b.toNat-48:Nat):Int)∧IntKind.i64.wrap ((b.toNat-48:Nat):Int)=((b.toNat-48:Nat):Int)∧IntKind.i64.wrap (((10*a09 (w.take i):Nat):Int)+((b.toNat-48:Nat):Int))=((a09 (w.take (i+1)):Nat):Int):=by
  intro i b hb hi;have hd:=h.d b (e25 hb);have hp:=mG i (by omega);have:=hd.1;have:=hd.2;rw[c61 w hb];have hu:IntKind.u8.wrap ((b.toNat:Int)-48)=((b.toNat-48:Nat):Int):=by
   have e:((b.toNat:Int)-48)=((b.toNat-48:Nat):Int):=by omega
   rw[e];generalize hx:b.toNat-48=x;have q6:x≤9:=by omega
   have key:∀y:Nat,y≤9→IntKind.u8.wrap (y:Int)=(y:Int):=by decide
   exact key x q6
  exact⟨by rw[w64 (by omega) (by omega)];omega,hu,w64 (by omega) (by omega),by rw[w64 (by omega) (by omega)];omega⟩
 by_cases hz:w=[48]
 ·subst hz;exact c4f (E:=L.env) a9o 60 (by kernel_rfl)
 ·obtain⟨a,ha,rP⟩:=h.z.resolve_left hz;have fx:0<w.length:=by omega
  have c0:¬(a.toNat:Int)=48:=by omega
  (refine sv Tryz.f84 ?_;simp only[Tryz.f84,gS])
  (repeat first|simp only[ww]|(apply xa;simp+decide only[go_sem,c1,c7,hz,fx,ha,c0,aF];rfl;kernel_rfl))
  refine a15 (σ:=Nat) kp84_0 (λi=>[(0,.str w),(3,.int .i64 (a09 (w.take i):Nat)),(24,.int .i64 w.length),(25,.int .i64 (i:Nat))]) (λ_=>[]) (λi=>w.length-i) (λi=>i≤w.length) 0 ?_ (e3h _) ?_
  ·have e0:a09 (w.take 0)=0:=rfl
   (simp+decide only[go_sem,a0d,a07,e0]<;>rfl)
  ·intro i hi;by_cases aq:i<w.length
   ·have l1:(i:Int)<w.length:=by omega
    obtain⟨b,hb⟩:∃b,w[i]?=some b:=⟨_,z9e aq⟩
    have hd:=h.d b (e25 hb);have d1:(48:Int)≤b.toNat:=by have:=hd.1;omega
    have d2:(b.toNat:Int)≤57:=by have:=hd.2;omega
    have hw:IntKind.i64.wrap ((i:Int)+1)=((i+1:Nat):Int):=by rw[w64 (by omega) (by omega)];omega
    obtain⟨s1,s2,s3,s4⟩:=step i b hb aq
    (repeat first|simp only[ww]|(apply xa;simp+decide only[go_sem,l1,aq,hb,d1,d2,aF,hw,s1,s2,s3,s4];rfl;kernel_rfl))
    refine a2p (i+1) ?_ (by omega) (by omega)
    (simp+decide only[go_sem,a0d,a07]<;>rfl)
   ·obtain rfl:i=w.length:=by omega
    have l1:¬(w.length:Int)<w.length:=by omega
    rw[e3z]
    (repeat first|simp only[ww]|(apply xa;simp+decide only[go_sem,l1];rfl;kernel_rfl))
    (apply fqb;simp+decide only[go_sem]<;>rfl)
theorem a2m{d:Bool}(H:a08)(w:List UInt8)(h:NumOk w):a0e L.env d (sem L.env Mf) (.func (.func 84) [] []) [.str w] H=some (.int .i64 (a09 w:Nat),H,[]):=a0l (by kernel_rfl) (by kernel_rfl) rfl rfl (d6i w h) rfl
/-! ### looking for a name -/
theorem d5m(k n:List UInt8)(dir oN:Nat):sem L.env Mf 83 [.agg [.str k,.int .u8 dir],.ptr 0 0 0] [some (.row 2 [[.str n,.int .u8 oN]])]=some (.bool (decide (k=n)),[some (.row 2 [[.str n,.int .u8 oN]])]):=by
 (refine sv Tryz.f83 ?_;simp only[Tryz.f83,gS])
 (repeat first|simp only[ww]|(apply xa;simp+decide only[go_sem];rfl;kernel_rfl))
 (apply fqb;simp+decide only[go_sem]<;>rfl)
theorem d79(t:Tm)(n:List UInt8):sem L.env Mf 101 [.agg (Tm.enc t),.ptr 0 0 0] [some (.row 1 [[.str n]])]=some (.bool (decide (t.name=n)),[some (.row 1 [[.str n]])]):=by
 have gE:Nat.beq 41 82=false:=by decide
 (refine sv Tryz.f101 ?_;simp only[Tryz.f101,gS])
 (repeat first|simp only[ww]|(apply xa;simp+decide only[go_sem,gE];rfl;kernel_rfl))
 (apply fqb;simp+decide only[go_sem]<;>rfl)
end Go.RInst
namespace Go.RInst
open Go.Proofs Go.Ax Go.Pc
variable [PR]
set_option maxRecDepth 100000
def fnd(n:List UInt8):List (List UInt8)→Int
 | []=>-1
 |a::r=>if a=n then 0 else if fnd n r = -1 then -1 else fnd n r+1
theorem d78(n:List UInt8):∀l,-1≤fnd n l
 | []=>by simp[fnd]
 |a::r=>by have:=d78 n r;unfold fnd;split<;>(try split)<;>omega
theorem a82(n:List UInt8):∀l,(fnd n l = -1∧∀x∈l,x≠n)∨∃m:Nat,fnd n l=m∧l[m]?=some n∧∀x∈l.take m,x≠n
 | []=>.inl ⟨rfl,λx h=>by cases h⟩
 |a::r=>by
  by_cases ha:a=n
  ·exact .inr ⟨0,by simp[fnd,ha],by simp[ha],λx h=>by simp at h⟩
  ·rcases a82 n r with ⟨h1,h2⟩|⟨m,h1,h2,h3⟩
   ·refine .inl ⟨by unfold fnd;rw[e2i ha,e3g h1],λx hx=>?_⟩;rcases e3b.1 hx with rfl|hx
    ·exact ha
    ·exact h2 x hx
   ·refine .inr ⟨m+1,by unfold fnd;rw[e2i ha,h1,e2i (by omega)];rfl,by simpa using h2,λx hx=>?_⟩;rw[c35]at hx;rcases e3b.1 hx with rfl|hx
    ·exact ha
    ·exact h3 x hx
theorem b3q(n:List UInt8)(l:List (List UInt8)):fnd n l<0↔n∉l:=by
 rcases a82 n l with ⟨h1,h2⟩|⟨m,h1,h2,_⟩
 ·rw[h1];exact⟨λ_ hm=>h2 n hm rfl,λ_=>by omega⟩
 ·rw[h1];exact⟨λh=>by omega,λh=>absurd (e25 h2) h⟩
theorem d28(n:List UInt8)(d:Nat):sem L.env Mf 99 [.nilslice,.func (.func 83) [] [.ptr 0 0 0]] [some (.row 2 [[.str n,.int .u8 d]])]=some (.int .i64 (-1),[some (.row 2 [[.str n,.int .u8 d]])]):=by
 (refine sv Tryz.f99 ?_;simp only[Tryz.f99,gS])
 (repeat first|simp only[ww]|(apply xa;simp+decide only[go_sem];rfl;kernel_rfl))
 refine a15 (σ:=Nat) kp99_0 (λi=>[(0,.nilslice),(1,.func (.func 83) [] [.ptr 0 0 0]),(7,.int .i64 0),(8,.int .i64 (i:Nat))]) (λ_=>[some (.row 2 [[.str n,.int .u8 d]])]) (λi=>0-i) (λi=>i≤0) 0 ?_ (e3h _) ?_
 ·(simp+decide only[go_sem,a0d,a07]<;>rfl)
 ·intro i hi;obtain rfl:i=0:=by omega
  (repeat first|simp only[ww]|(apply xa;simp+decide only[go_sem];rfl;kernel_rfl))
  (apply fqb;simp+decide only[go_sem]<;>rfl)
theorem c5j(n:List UInt8)(d:Nat)(l:List Sg)(hl:l.length≤100000):sem L.env Mf 99 [.slice 0 0 l.length none,.func (.func 83) [] [.ptr 1 0 0]] [some (.row 2 (l.map Sg.enc)),some (.row 2 [[.str n,.int .u8 d]])]=some (.int .i64 (fnd n (l.map Sg.name)),[some (.row 2 (l.map Sg.enc)),some (.row 2 [[.str n,.int .u8 d]])]):=by
 have bY:=λπ=>a02 π (a0s l);have cL:=a01 (a0s l);have ak:(l.map Sg.enc).length=l.length:=b41 ..;have aX:∀u:Sg,a0e L.env false (sem L.env Mf) (.func (.func 83) [] [.ptr 1 0 0]) [.agg (Sg.enc u)] [some (.row 2 (l.map Sg.enc)),some (.row 2 [[.str n,.int .u8 d]])]=some (.bool (decide (u.name=n)),[some (.row 2 (l.map Sg.enc)),some (.row 2 [[.str n,.int .u8 d]])],[1]):=λu=>a2f (by kernel_rfl) (by kernel_rfl) rfl (b:=1) (o:=.row 2 [[.str n,.int .u8 d]]) rfl rfl (by intro π;rfl) rfl (by rfl) (d5m u.name n u.dir d) rfl;have cW:∀(i:Nat) (u:Sg),l[i]?=some u→(l.map Sg.enc)[i]?=some (Sg.enc u):=λi u h=>by rw[e2e,h];rfl
 rcases a82 n (l.map Sg.name)with ⟨h1,h2⟩|⟨m,h1,h2,h3⟩
 ·rw[h1]
  (refine sv Tryz.f99 ?_;simp only[Tryz.f99,gS])
  (repeat first|simp only[ww]|(apply xa;simp+decide only[go_sem];rfl;kernel_rfl))
  refine a15 (σ:=Nat) kp99_0 (λi=>[(0,.slice 0 0 l.length none),(1,.func (.func 83) [] [.ptr 1 0 0]),(7,.int .i64 l.length),(8,.int .i64 (i:Nat))]) (λ_=>[some (.row 2 (l.map Sg.enc)),some (.row 2 [[.str n,.int .u8 d]])]) (λi=>l.length-i) (λi=>i≤l.length) 0 ?_ (e3h _) ?_
  ·(simp+decide only[go_sem,a0d,a07,bY,cL]<;>rfl)
  ·intro i hi;by_cases aq:i<l.length
   ·have l1:(i:Int)<l.length:=by omega
    obtain⟨u,hu⟩:∃u,l[i]?=some u:=⟨_,z9e aq⟩
    have hg:=cW i u hu;have hc:=aX u;have aK:¬u.name=n:=h2 _ (e6q.2 ⟨u,e25 hu,rfl⟩);have dA:IntKind.i64.wrap ((i:Int)+1)=((i+1:Nat):Int):=by rw[w64 (by omega) (by omega)];omega
    rw[e50 aK]at hc
    (repeat first|simp only[ww]|(apply xa;simp+decide only[go_sem,l1,aq,hg,hc,dA];rfl;kernel_rfl))
    refine a2p (i+1) ?_ (by omega) (by omega)
    (simp+decide only[go_sem,a0d,a07,bY,cL]<;>rfl)
   ·obtain rfl:i=l.length:=by omega
    have l1:¬(l.length:Int)<l.length:=by omega
    (repeat first|simp only[ww]|(apply xa;simp+decide only[go_sem,l1];rfl;kernel_rfl))
    (apply fqb;simp+decide only[go_sem,bY,cL]<;>rfl)
 ·rw[h1];have jj:m<l.length:=by have:=(e26.1 h2).1;simpa using this
  (refine sv Tryz.f99 ?_;simp only[Tryz.f99,gS])
  (repeat first|simp only[ww]|(apply xa;simp+decide only[go_sem];rfl;kernel_rfl))
  refine a15 (σ:=Nat) kp99_0 (λi=>[(0,.slice 0 0 l.length none),(1,.func (.func 83) [] [.ptr 1 0 0]),(7,.int .i64 l.length),(8,.int .i64 (i:Nat))]) (λ_=>[some (.row 2 (l.map Sg.enc)),some (.row 2 [[.str n,.int .u8 d]])]) (λi=>l.length-i) (λi=>i≤m) 0 ?_ (e3h _) ?_
  ·(simp+decide only[go_sem,a0d,a07,bY,cL]<;>rfl)
  ·intro i hi;have aq:i<l.length:=by omega
   have l1:(i:Int)<l.length:=by omega
   obtain⟨u,hu⟩:∃u,l[i]?=some u:=⟨_,z9e aq⟩
   have hg:=cW i u hu;have hc:=aX u;by_cases oe:i=m
   ·subst oe;have he:u.name=n:=by
     rw[e2e,hu]at h2;simpa using h2
    rw[e3d he]at hc
    (repeat first|simp only[ww]|(apply xa;simp+decide only[go_sem,l1,aq,hg,hc];rfl;kernel_rfl))
    (apply fqb;simp+decide only[go_sem,bY,cL]<;>rfl)
   ·have aK:¬u.name=n:=h3 _ (e25 (show(((l.map Sg.name).take m)[i]?=some u.name) by rw[e5g,e3g (by omega),e2e,hu];rfl));have dA:IntKind.i64.wrap ((i:Int)+1)=((i+1:Nat):Int):=by rw[w64 (by omega) (by omega)];omega
    rw[e50 aK]at hc
    (repeat first|simp only[ww]|(apply xa;simp+decide only[go_sem,l1,aq,hg,hc,dA];rfl;kernel_rfl))
    refine a2p (i+1) ?_ (by omega) (by omega)
    (simp+decide only[go_sem,a0d,a07,bY,cL]<;>rfl)
theorem d26(n:List UInt8):sem L.env Mf 100 [.nilslice,.func (.func 101) [] [.ptr 0 0 0]] [some (.row 1 [[.str n]])]=some (.int .i64 (-1),[some (.row 1 [[.str n]])]):=by
 (refine sv Tryz.f100 ?_;simp only[Tryz.f100,gS])
 (repeat first|simp only[ww]|(apply xa;simp+decide only[go_sem];rfl;kernel_rfl))
 refine a15 (σ:=Nat) kp100_0 (λi=>[(0,.nilslice),(1,.func (.func 101) [] [.ptr 0 0 0]),(7,.int .i64 0),(8,.int .i64 (i:Nat))]) (λ_=>[some (.row 1 [[.str n]])]) (λi=>0-i) (λi=>i≤0) 0 ?_ (e3h _) ?_
 ·(simp+decide only[go_sem,a0d,a07]<;>rfl)
 ·intro i hi;obtain rfl:i=0:=by omega
  (repeat first|simp only[ww]|(apply xa;simp+decide only[go_sem];rfl;kernel_rfl))
  (apply fqb;simp+decide only[go_sem]<;>rfl)
theorem d27(n:List UInt8)(l:List Tm)(hl:l.length≤100000):sem L.env Mf 100 [.slice 0 0 l.length none,.func (.func 101) [] [.ptr 1 0 0]] [some (.row 6 (l.map Tm.enc)),some (.row 1 [[.str n]])]=some (.int .i64 (fnd n (l.map Tm.name)),[some (.row 6 (l.map Tm.enc)),some (.row 1 [[.str n]])]):=by
 have bY:=λπ=>a02 π (a0a l);have cL:=a01 (a0a l);have ak:(l.map Tm.enc).length=l.length:=b41 ..;have aX:∀u:Tm,a0e L.env false (sem L.env Mf) (.func (.func 101) [] [.ptr 1 0 0]) [.agg (Tm.enc u)] [some (.row 6 (l.map Tm.enc)),some (.row 1 [[.str n]])]=some (.bool (decide (u.name=n)),[some (.row 6 (l.map Tm.enc)),some (.row 1 [[.str n]])],[1]):=λu=>a2f (by kernel_rfl) (by kernel_rfl) rfl (b:=1) (o:=.row 1 [[.str n]]) rfl rfl (by intro π;rfl) rfl (by rfl) (d79 u n) rfl;have cW:∀(i:Nat) (u:Tm),l[i]?=some u→(l.map Tm.enc)[i]?=some (Tm.enc u):=λi u h=>by rw[e2e,h];rfl
 rcases a82 n (l.map Tm.name)with ⟨h1,h2⟩|⟨m,h1,h2,h3⟩
 ·rw[h1]
  (refine sv Tryz.f100 ?_;simp only[Tryz.f100,gS])
  (repeat first|simp only[ww]|(apply xa;simp+decide only[go_sem];rfl;kernel_rfl))
  refine a15 (σ:=Nat) kp100_0 (λi=>[(0,.slice 0 0 l.length none),(1,.func (.func 101) [] [.ptr 1 0 0]),(7,.int .i64 l.length),(8,.int .i64 (i:Nat))]) (λ_=>[some (.row 6 (l.map Tm.enc)),some (.row 1 [[.str n]])]) (λi=>l.length-i) (λi=>i≤l.length) 0 ?_ (e3h _) ?_
  ·(simp+decide only[go_sem,a0d,a07,bY,cL]<;>rfl)
  ·intro i hi;by_cases aq:i<l.length
   ·have l1:(i:Int)<l.length:=by omega
    obtain⟨u,hu⟩:∃u,l[i]?=some u:=⟨_,z9e aq⟩
    have hg:=cW i u hu;have hc:=aX u;have aK:¬u.name=n:=h2 _ (e6q.2 ⟨u,e25 hu,rfl⟩);have dA:IntKind.i64.wrap ((i:Int)+1)=((i+1:Nat):Int):=by rw[w64 (by omega) (by omega)];omega
    rw[e50 aK]at hc
    (repeat first|simp only[ww]|(apply xa;simp+decide only[go_sem,l1,aq,hg,hc,dA];rfl;kernel_rfl))
    refine a2p (i+1) ?_ (by omega) (by omega)
    (simp+decide only[go_sem,a0d,a07,bY,cL]<;>rfl)
   ·obtain rfl:i=l.length:=by omega
    have l1:¬(l.length:Int)<l.length:=by omega
    (repeat first|simp only[ww]|(apply xa;simp+decide only[go_sem,l1];rfl;kernel_rfl))
    (apply fqb;simp+decide only[go_sem,bY,cL]<;>rfl)
 ·rw[h1];have jj:m<l.length:=by have:=(e26.1 h2).1;simpa using this
  (refine sv Tryz.f100 ?_;simp only[Tryz.f100,gS])
  (repeat first|simp only[ww]|(apply xa;simp+decide only[go_sem];rfl;kernel_rfl))
  refine a15 (σ:=Nat) kp100_0 (λi=>[(0,.slice 0 0 l.length none),(1,.func (.func 101) [] [.ptr 1 0 0]),(7,.int .i64 l.length),(8,.int .i64 (i:Nat))]) (λ_=>[some (.row 6 (l.map Tm.enc)),some (.row 1 [[.str n]])]) (λi=>l.length-i) (λi=>i≤m) 0 ?_ (e3h _) ?_
  ·(simp+decide only[go_sem,a0d,a07,bY,cL]<;>rfl)
  ·intro i hi;have aq:i<l.length:=by omega
   have l1:(i:Int)<l.length:=by omega
   obtain⟨u,hu⟩:∃u,l[i]?=some u:=⟨_,z9e aq⟩
   have hg:=cW i u hu;have hc:=aX u;by_cases oe:i=m
   ·subst oe;have he:u.name=n:=by
     rw[e2e,hu]at h2;simpa using h2
    rw[e3d he]at hc
    (repeat first|simp only[ww]|(apply xa;simp+decide only[go_sem,l1,aq,hg,hc];rfl;kernel_rfl))
    (apply fqb;simp+decide only[go_sem,bY,cL]<;>rfl)
   ·have aK:¬u.name=n:=h3 _ (e25 (show(((l.map Tm.name).take m)[i]?=some u.name) by rw[e5g,e3g (by omega),e2e,hu];rfl));have dA:IntKind.i64.wrap ((i:Int)+1)=((i+1:Nat):Int):=by rw[w64 (by omega) (by omega)];omega
    rw[e50 aK]at hc
    (repeat first|simp only[ww]|(apply xa;simp+decide only[go_sem,l1,aq,hg,hc,dA];rfl;kernel_rfl))
    refine a2p (i+1) ?_ (by omega) (by omega)
    (simp+decide only[go_sem,a0d,a07,bY,cL]<;>rfl)
theorem d2u(n:List UInt8)(d:Nat):sem L.env Mf 82 [.nilslice,.func (.func 83) [] [.ptr 0 0 0]] [some (.row 2 [[.str n,.int .u8 d]])]=some (.bool false,[some (.row 2 [[.str n,.int .u8 d]])]):=by
 have hc:a0e L.env false (sem L.env Mf) (.func (.func 99) [] []) [.nilslice,.func (.func 83) [] [.ptr 0 0 0]] [some (.row 2 [[.str n,.int .u8 d]])]=some (.int .i64 (-1),[some (.row 2 [[.str n,.int .u8 d]])],[0]):=a2f (by kernel_rfl) (by kernel_rfl) rfl (b:=0) (o:=.row 2 [[.str n,.int .u8 d]]) rfl rfl (by intro π;rfl) rfl (by rfl) (d28 n d) rfl
 (refine sv Tryz.f82 ?_;simp only[Tryz.f82,gS])
 (repeat first|simp only[ww]|(apply xa;simp+decide only[go_sem,hc];rfl;kernel_rfl))
 (apply fqb;simp+decide only[go_sem]<;>rfl)
theorem d2v(n:List UInt8)(d:Nat)(l:List Sg)(hl:l.length≤100000)(bP:n∉l.map Sg.name):sem L.env Mf 82 [.slice 0 0 l.length none,.func (.func 83) [] [.ptr 1 0 0]] [some (.row 2 (l.map Sg.enc)),some (.row 2 [[.str n,.int .u8 d]])]=some (.bool false,[some (.row 2 (l.map Sg.enc)),some (.row 2 [[.str n,.int .u8 d]])]):=by
 have bY:=λπ=>a02 π (a0s l);have cL:=a01 (a0s l);have kO:=c5j n d l hl;have dN:=(b3q n (l.map Sg.name)).2 bP;generalize fnd n (l.map Sg.name)=z at kO dN;have c0:¬(0:Int)≤z:=by omega
 generalize hR:l.map Sg.enc=R at *;have fu:a0j [some (AObj.row 2 R),some (AObj.row 2 [[.str n,.int .u8 d]])] 1000000 (a0x [AV.slice 0 0 l.length none,.func (.func 83) [] [.ptr 1 0 0]]) []=[0,1]:=by show a0j _ 1000000 [0,1] []=_;rw[show(1000000:Nat)=999997+1+1+1 from rfl,a06 rfl];show a0j _ (999997+1+1) (R.flatMap a0x++[1]) _=_;rw[cL,b43,a06 rfl];exact a17 _ _ _
 have hc:a0e L.env false (sem L.env Mf) (.func (.func 99) [] []) [.slice 0 0 l.length none,.func (.func 83) [] [.ptr 1 0 0]] [some (.row 2 R),some (.row 2 [[.str n,.int .u8 d]])]=some (.int .i64 z,[some (.row 2 R),some (.row 2 [[.str n,.int .u8 d]])],[0,1]):=by have hc:=a0b (sem L.env Mf 99) _ [some (.row 2 R),some (.row 2 [[.str n,.int .u8 d]])] (σ:=[0,1]) fu rfl rfl (an:=[.slice 0 0 l.length none,.func (.func 83) [] [.ptr 1 0 0]]) rfl (H0:=[some (.row 2 R),some (.row 2 [[.str n,.int .u8 d]])]) (by simp+decide only[go_sem,a0q,bY]) kO;refine a2g (by kernel_rfl) (by kernel_rfl) rfl (hc.trans ?_);simp+decide only[go_sem,a0n,bY]
 (refine sv Tryz.f82 ?_;simp only[Tryz.f82,gS])
 (repeat first|simp only[ww]|(apply xa;simp+decide only[go_sem,hc,c0];rfl;kernel_rfl))
 (apply fqb;simp+decide only[go_sem,bY,cL]<;>rfl)
end Go.RInst
namespace Go.RInst
set_option maxHeartbeats 200000000
open Go.Proofs Go.Ax Go.Pc
variable [PR]
set_option maxRecDepth 100000
theorem b27{d:Bool}(H:a08)(n:List UInt8)(k:Nat):a0e L.env d (sem L.env Mf) (.func (.func 48) [] []) [.agg [.str n,.int .u8 k]] H=some (.bool (a9n ⟨n,k⟩),H,[]):=a0l (by kernel_rfl) (by kernel_rfl) rfl (by rfl) (c9w n k) rfl
theorem c23(H:a08)(c:Nat)(n:List UInt8)(d:Nat)(hc:a03 H c=some (.row 2 [[.str n,.int .u8 d]])):a0e L.env false (sem L.env Mf) (.func (.func 82) [] []) [.nilslice,.func (.func 83) [] [.ptr c 0 0]] H=some (.bool false,H,[c]):=by
 have aq:=a0v hc;refine a59 [c] (by kernel_rfl) (by kernel_rfl) rfl ?_ rfl (by simpa using aq) ?_ (an:=[.nilslice,.func (.func 83) [] [.ptr 0 0 0]]) ?_ (H0:=[some (.row 2 [[.str n,.int .u8 d]])]) (by simp[hc]) (d2u n d) rfl
 ·show a0j H 1000000 [c] []=_;exact a7q (by rw[hc];rfl)
 ·intro b hb;simp only[e3r]at hb;subst hb;rw[hc];intro π;rfl
 ·simp[ren,b87,a47,a2w,e2g]
theorem b2j(H:a08)(a c:Nat)(n:List UInt8)(d:Nat)(l:List Sg)(hl:l.length≤100000)(bP:n∉l.map Sg.name)(ha:a03 H a=some (.row 2 (l.map Sg.enc)))(hc:a03 H c=some (.row 2 [[.str n,.int .u8 d]]))(iD:a≠c):a0e L.env false (sem L.env Mf) (.func (.func 82) [] []) [.slice a 0 l.length none,.func (.func 83) [] [.ptr c 0 0]] H=some (.bool false,H,[a,c]):=by
 have h1:=a0v ha;have h2:=a0v hc;refine a59 [a,c] (by kernel_rfl) (by kernel_rfl) rfl ?_ (by simp[a12,a18,a04,a05,iD.symm]) (by simp[h1,h2]) ?_ (an:=[.slice 0 0 l.length none,.func (.func 83) [] [.ptr 1 0 0]]) ?_ (H0:=[some (.row 2 (l.map Sg.enc)),some (.row 2 [[.str n,.int .u8 d]])]) (by simp[ha,hc]) (d2v n d l hl bP) rfl
 ·show a0j H 1000000 [a,c] []=_;exact b31 iD (by rw[ha];exact a01 (a0s l)) (by rw[hc];rfl)
 ·intro b hb;simp only[e3b,e5f,e7f]at hb;rcases hb with rfl|rfl
  ·rw[ha];exact FlatO.row (a0s l)
  ·rw[hc];intro π;rfl
 ·simp[ren,b87,a47,a2w,e2g,iD]
theorem d1e(sum:Int)(n:Nat)(R:List (List AV))(nm:List UInt8)(dr:Nat)(al:dr≤1)(hn:a3s nm=true)(ap:R.length=n)(fv:3≤n)(aw:FlatR R)(aI:R[1]?=some [.str nm])(aC:R[2]?=some [.str (if dr=1 then[111,117,116]else[105,110])]) :
 ∃r:AV×a08,(∃c H1,r=(.tuple [],H1)∧a03 H1 0=some (.row 4 [[.slice c 0 (([]:List Sg).length+1) none,.nilslice,.nilslice,.int .i64 sum]])∧a03 H1 c=some (.row 2 ((([]:List Sg)++[⟨nm,dr⟩]:List Sg).map Sg.enc)))∧sem L.env Mf 65 [.ptr 0 0 0,.slice 1 0 3 (some n)] [some (.row 4 [[.nilslice,.nilslice,.nilslice,.int .i64 sum]]),some (.row 1 R)]=some r:=by
 have aF:=λd H e=>a0i (d:=d) H e;have jZ:=λd H n k=>b27 (d:=d) H n k;have ba:∀d,d≤1→a9n ⟨nm,d⟩=true:=λd hd=>by simp[a9n,hn,hd]
 have r1:=λπ=>a02 π aw;have r2:=a01 aw;have l1:1<n:=by omega
 have l2:2<n:=by omega
 have kp:=ba dr al;have gY:Nat.beq 46 82=false:=by decide
 by_cases hd:dr=1
 ·subst hd;rw[e3g rfl]at aC;have eI:=c23 [some (.row 4 [[.nilslice,.nilslice,.nilslice,.int .i64 sum]]),some (.row 1 R),some (.row 2 [[.str nm,.int .u8 1]])] 2 nm 1 rfl;have eG:a9n ⟨nm,1⟩=true:=kp;have eD:∀q H,a0e L.env q (sem L.env Mf) (.func (.func 48) [] []) [.agg [.str nm,.int .u8 1]] H=some (.bool true,H,[]):=λq H=>by have:=jZ q H nm 1;rw[eG]at this;exact this
  (refine svE Tryz.f65 ?_;simp only[Tryz.f65,gS])
  (repeat first|simp only[ww]|(apply xa;simp+decide only[go_sem,aF,eD,eI,l1,l2,aI,aC,ap,gY];rfl;kernel_rfl))
  (apply a4x;(·simp+decide only[go_sem]<;>rfl))
  exact⟨_,_,rfl,rfl,rfl⟩
 ·obtain rfl:dr=0:=by omega
  rw[e2i hd]at aC;have eI:=c23 [some (.row 4 [[.nilslice,.nilslice,.nilslice,.int .i64 sum]]),some (.row 1 R),some (.row 2 [[.str nm,.int .u8 0]])] 2 nm 0 rfl;have eG:a9n ⟨nm,0⟩=true:=kp;have eD:∀q H,a0e L.env q (sem L.env Mf) (.func (.func 48) [] []) [.agg [.str nm,.int .u8 0]] H=some (.bool true,H,[]):=λq H=>by have:=jZ q H nm 0;rw[eG]at this;exact this
  (refine svE Tryz.f65 ?_;simp only[Tryz.f65,gS])
  (repeat first|simp only[ww]|(apply xa;simp+decide only[go_sem,aF,eD,eI,l1,l2,aI,aC,ap,gY];rfl;kernel_rfl))
  (apply a4x;(·simp+decide only[go_sem]<;>rfl))
  exact⟨_,_,rfl,rfl,rfl⟩
theorem d1d(sum:Int)(n:Nat)(R:List (List AV))(nm:List UInt8)(dr:Nat)(al:dr≤1)(S:List Sg)(aK:S≠[])(hl:S.length<256)(bP:nm∉S.map Sg.name)(hn:a3s nm=true)(ap:R.length=n)(fv:3≤n)(aw:FlatR R)(aI:R[1]?=some [.str nm])(aC:R[2]?=some [.str (if dr=1 then[111,117,116]else[105,110])]) :
 ∃r:AV×a08,(∃c H1,r=(.tuple [],H1)∧a03 H1 0=some (.row 4 [[.slice c 0 (S.length+1) none,.nilslice,.nilslice,.int .i64 sum]])∧a03 H1 c=some (.row 2 ((S++[⟨nm,dr⟩]:List Sg).map Sg.enc)))∧sem L.env Mf 65 [.ptr 0 0 0,.slice 2 0 3 (some n)] [some (.row 4 [[.slice 1 0 S.length none,.nilslice,.nilslice,.int .i64 sum]]),some (.row 2 (S.map Sg.enc)),some (.row 1 R)]=some r:=by
 have aF:=λd H e=>a0i (d:=d) H e;have jZ:=λd H n k=>b27 (d:=d) H n k;have ba:∀d,d≤1→a9n ⟨nm,d⟩=true:=λd hd=>by simp[a9n,hn,hd]
 have r1:=λπ=>a02 π aw;have r2:=a01 aw;have l1:1<n:=by omega
 have l2:2<n:=by omega
 have kp:=ba dr al;have gY:Nat.beq 46 82=false:=by decide
 have dQ:(S.map Sg.enc).length=S.length:=b41 ..;have aO:=λπ=>a02 π (a0s S);have aP:=a01 (a0s S);have c6:(S.length:Int)<256:=by omega
 have cU:S.length+1≤1000000000:=by omega
 have pc:∀d:Nat,S.map Sg.enc++[[.str nm,.int .u8 (d:Int)]]=(S++[⟨nm,d⟩]:List Sg).map Sg.enc:=λd=>by simp
 by_cases hd:dr=1
 ·subst hd;rw[e3g rfl]at aC;have eI:=b2j [some (.row 4 [[.slice 1 0 S.length none,.nilslice,.nilslice,.int .i64 sum]]),some (.row 2 (S.map Sg.enc)),some (.row 1 R),some (.row 2 [[.str nm,.int .u8 1]])] 1 3 nm 1 S (by omega) bP rfl rfl (by decide);have eG:a9n ⟨nm,1⟩=true:=kp;have eD:∀q H,a0e L.env q (sem L.env Mf) (.func (.func 48) [] []) [.agg [.str nm,.int .u8 1]] H=some (.bool true,H,[]):=λq H=>by have:=jZ q H nm 1;rw[eG]at this;exact this
  (refine svE Tryz.f65 ?_;simp only[Tryz.f65,gS])
  (repeat first|simp only[ww]|(apply xa;simp+decide only[go_sem,aF,eD,eI,l1,l2,aI,aC,ap,gY,dQ,c6,cU];rfl;kernel_rfl))
  (apply a4x;(·simp+decide only[go_sem]<;>rfl))
  exact⟨_,_,rfl,rfl,by have:=pc 1;exact congrArg (λx=>some (AObj.row 2 x)) this⟩
 ·obtain rfl:dr=0:=by omega
  rw[e2i hd]at aC;have eI:=b2j [some (.row 4 [[.slice 1 0 S.length none,.nilslice,.nilslice,.int .i64 sum]]),some (.row 2 (S.map Sg.enc)),some (.row 1 R),some (.row 2 [[.str nm,.int .u8 0]])] 1 3 nm 0 S (by omega) bP rfl rfl (by decide);have eG:a9n ⟨nm,0⟩=true:=kp;have eD:∀q H,a0e L.env q (sem L.env Mf) (.func (.func 48) [] []) [.agg [.str nm,.int .u8 0]] H=some (.bool true,H,[]):=λq H=>by have:=jZ q H nm 0;rw[eG]at this;exact this
  (refine svE Tryz.f65 ?_;simp only[Tryz.f65,gS])
  (repeat first|simp only[ww]|(apply xa;simp+decide only[go_sem,aF,eD,eI,l1,l2,aI,aC,ap,gY,dQ,c6,cU];rfl;kernel_rfl))
  (apply a4x;(·simp+decide only[go_sem]<;>rfl))
  exact⟨_,_,rfl,rfl,by have:=pc 0;exact congrArg (λx=>some (AObj.row 2 x)) this⟩
end Go.RInst
