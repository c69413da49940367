/- Part of a proof. No condition. -/
import Derived.Test.YtmbmjfjagololaaGreatDoorRPg
import Derived.Test.YtmbmjfjagololaaGreatDoorAxE
import Derived.Test.YtmbmjfjagololaaGreatDoorAxD
import Derived.Test.YtmbmjfjagololaaGreatDoorRRd
import Derived.Test.YtmbmjfjagololaaGreatDoorRPh
set_option linter.unusedSectionVars false
set_option linter.unusedSimpArgs false
set_option linter.unusedVariables false
namespace Go.RInst
set_option maxHeartbeats 200000000
open Go.Proofs Go.Ax Go.Pc
variable [PR]
set_option maxRecDepth 100000
/-! ### strings cut at a byte -/
def a00(c:UInt8):List UInt8→List (List UInt8)
 | []=>[[]]
 |b::r=>if b=c then[]::a00 c r else match a00 c r with
  |p::ps=>(b::p)::ps
  | []=>[[b]]
theorem a4p(c:UInt8)(s:List UInt8):a00 c s≠[]:=by
 cases s with
 |nil=>simp[a00]
 |cons b r=>
  unfold a00;split
  ·simp
  ·split<;>simp
theorem a0v(c:UInt8):∀s,(a00 c s).length=s.count c+1
 | []=>rfl
 |b::r=>by
  have ih:=a0v c r;unfold a00;by_cases h:b=c
  ·rw[if_pos h,List.length_cons,ih,h,List.count_cons_self]
  ·rw[if_neg h,List.count_cons_of_ne h];cases hs:a00 c r with
   |nil=>exact absurd hs (a4p c r)
   |cons p ps=>rw[hs]at ih;simpa using ih
theorem b0d(c:UInt8):∀s:List UInt8,s.count c=0→a00 c s=[s]
 | [],_=>rfl
 |b::r,h=>by
  have hb:¬b=c:=λe=>by rw[e,List.count_cons_self]at h;omega
  rw[List.count_cons_of_ne hb]at h;unfold a00;rw[if_neg hb,b0d c r h]
theorem b2m(c:UInt8):∀s:List UInt8,0<s.count c→∃m:Nat,Lib.indexByte s c=m∧m<s.length∧a00 c s=s.take m::a00 c (s.drop (m+1))∧s.count c=(s.drop (m+1)).count c+1
 | [],h=>by simp at h
 |b::r,h=>by
  by_cases hb:b=c
  ·refine⟨0,?_,by simp,?_,?_⟩
   ·unfold Lib.indexByte;rw[if_pos (by simp[hb])];rfl
   ·rw[a00,if_pos hb];rfl
   ·rw[hb,List.count_cons_self];rfl
  ·rw[List.count_cons_of_ne hb]at h;obtain⟨m,h1,h2,h3,h4⟩:=b2m c r h;refine⟨m+1,?_,by simp;omega,?_,?_⟩
   ·unfold Lib.indexByte;rw[if_neg (by simp[hb]),h1];have:((m:Int) == -1)=false:=by rw[beq_eq_false_iff_ne];omega
    rw[this];rfl
   ·rw[a00,if_neg hb,h3];rfl
   ·rw[List.count_cons_of_ne hb,h4];rfl
theorem d7f(s:List UInt8)(m:Nat)(hm:m≤s.length)(h:FHeap):a1v L.env h 9 (.str s) none (some (.int .i64 m)) none=some (.str (s.take m)):=by
 have hu:L.env.und 9=some .string:=by kernel_rfl
 unfold a1v;rw[hu];have e:inB (m:Int) s.length=true:=by rw[b6x];exact decide_eq_true hm
 simp only[a78,e,cond_true,Int.toNat_natCast];rfl
theorem b2c(s:List UInt8)(m:Nat)(hm:m≤s.length)(h:FHeap):a1v L.env h 9 (.str s) (some (.int .i64 m)) none none=some (.str (s.drop m)):=by
 have hu:L.env.und 9=some .string:=by kernel_rfl
 unfold a1v;rw[hu];have e:inB (m:Int) s.length=true:=by rw[b6x];exact decide_eq_true hm
 have e2:a1p none s.length s.length=some s.length:=rfl;simp only[a78,e,e2,cond_true,Int.toNat_natCast,List.take_length]
theorem d1p(s:List UInt8)(c:UInt8):sem L.env Mf 91 [.str s,.str [c]] []=some (.int .i64 (Lib.indexByte s c),[]):=by
 have h:=λd H=>a0l (E:=L.env) (draw:=d) (call:=sem L.env Mf) (g:=86) (fs:=[]) (cs:=[]) (ar:=[.str s,.int .u8 c.toNat]) (H:=H) (by kernel_rfl) (by kernel_rfl) rfl (by rfl) (c9j s c) rfl;by_cases hs:s=[c]
 ·subst hs;have hi:Lib.indexByte [c] c=0:=by simp[Lib.indexByte]
  rw[hi]
  (refine sv Tryz.f91 ?_;simp only[Tryz.f91,gS])
  (repeat first|simp only[ww]|(apply xa;simp+decide only[go_sem];rfl;kernel_rfl))
  (apply fqb;simp+decide only[go_sem]<;>rfl)
 ·have hs':¬[c]=s:=λe=>hs e.symm
  (refine sv Tryz.f91 ?_;simp only[Tryz.f91,gS])
  (repeat first|simp only[ww]|(apply xa;simp+decide only[go_sem,hs',h,List.getElem?_cons_zero];rfl;kernel_rfl))
  (apply fqb;simp+decide only[go_sem]<;>rfl)
theorem d69(s:List UInt8)(c:UInt8):sem L.env Mf 74 [.str s,.str [c]] []=some (.int .i64 (Lib.indexByte s c),[]):=by
 have h:=λd H=>a0l (E:=L.env) (draw:=d) (call:=sem L.env Mf) (g:=91) (fs:=[]) (cs:=[]) (ar:=[.str s,.str [c]]) (H:=H) (by kernel_rfl) (by kernel_rfl) rfl (by rfl) (d1p s c) rfl
 (refine sv Tryz.f74 ?_;simp only[Tryz.f74,gS])
 (repeat first|simp only[ww]|(apply xa;simp+decide only[go_sem,h];rfl;kernel_rfl))
 (apply fqb;simp+decide only[go_sem]<;>rfl)
theorem c16{d:Bool}(H:a08)(s:List UInt8)(c:UInt8):a0j L.env d (sem L.env Mf) (.func (.func 74) [] []) [.str s,.str [c]] H=some (.int .i64 (Lib.indexByte s c),H,[]):=a0l (by kernel_rfl) (by kernel_rfl) rfl rfl (d69 s c) rfl
theorem c1o{d:Bool}(H:a08)(s:List UInt8)(c:UInt8):a0j L.env d (sem L.env Mf) (.func (.func 73) [] []) [.str s,.str [c]] H=some (.int .i64 (s.count c:Nat),H,[]):=by
 have hp:sem L.env Mf 73 [.str s,.str [c]] []=some (.int .i64 (s.count c:Nat),[]):=by refine a7i (by intro y hy;cases hy) 0 ?_;have hq:L.env.prim 73 [.str s,.str [c]]=some (.int .i64 (s.count c:Nat),[]):=rfl;unfold a5v primH;rw[hq]
 exact a0l (by kernel_rfl) (by kernel_rfl) rfl rfl hp rfl
def a9d(n:Nat)(P:List (List UInt8)):List (List AV):=P.map (λs=>[AV.str s])++List.replicate (n-P.length) [.str []]
theorem b50(n:Nat)(P:List (List UInt8)):FlatR (a9d n P):=FlatR.append (FlatR.map λ_=>rfl) (FlatR.replicate rfl)
theorem c42(n:Nat)(P:List (List UInt8))(h:P.length≤n):(a9d n P).length=n:=by simp[a9d];omega
theorem b7p(n:Nat)(P:List (List UInt8))(x:List UInt8)(h:P.length<n):(a9d n P).set P.length [.str x]=a9d n (P++[x]):=by
 unfold a9d;rw[List.set_append_right _ _ (by simp)];simp only[List.length_map,Nat.sub_self,List.map_append,List.map_cons,List.map_nil,List.length_append,List.length_singleton];obtain⟨k,hk⟩:∃k,n-P.length=k+1:=⟨n-P.length-1,by omega⟩
 rw[hk,List.replicate_succ,List.set_cons_zero,show n-(P.length+1)=k by omega,List.append_assoc];rfl
theorem c43(n:Nat)(P:List (List UInt8))(h:P.length<n):(a9d n P)[P.length]?=some [.str []]:=by
 unfold a9d;rw[List.getElem?_append_right (by simp),List.length_map,Nat.sub_self];obtain⟨k,hk⟩:∃k,n-P.length=k+1:=⟨n-P.length-1,by omega⟩
 rw[hk,List.replicate_succ];rfl
theorem d6c(s:List UInt8)(c:UInt8)(hl:s.length≤1048576):sem L.env Mf 52 [.str s,.str [c],.int .i64 0,.int .i64 (-1)] []=some (.slice 0 0 (a00 c s).length (some (a00 c s).length),[some (.row 1 ((a00 c s).map λs=>[AV.str s]))]):=by
 have hcl:s.count c≤s.length:=List.count_le_length;have hsl:=a0v c s;obtain⟨n,hn⟩:∃n,n=s.count c+1:=⟨_,rfl⟩
 rw[hsl,←hn];have hcn:=λd H=>c1o (d:=d) H s c;have hw:IntKind.i64.wrap ((s.count c:Int)+1)=(n:Int):=by rw[w64 (by omega) (by omega)];omega
 have hw2:IntKind.i64.wrap ((s.length:Int)+1)=((s.length+1:Nat):Int):=by rw[w64 (by omega) (by omega)];omega
 have hmn:¬((s.length+1:Nat):Int)<(n:Int):=by omega
 have hw3:IntKind.i64.wrap ((n:Int)-1)=((n-1:Nat):Int):=by rw[w64 (by omega) (by omega)];omega
 have hb:L.env.bytes 9=16:=by kernel_rfl
 have hmk:d8n L.env 9 (n:Int) (n:Int)=true:=by unfold d8n;rw[hb,decide_eq_true (by omega:(0:Int)≤n),decide_eq_true (by omega:(n:Int)≤n),decide_eq_true (by omega:(n:Int)≤281474976710656),decide_eq_true (by omega:((16:Nat):Int)*n≤281474976710656)];rfl
 have hz:(n:Int).toNat=n:=by omega
 (refine sv Tryz.f52 ?_;simp only[Tryz.f52,gS])
 have c0:¬[c]=([]:List UInt8):=by simp
 have hif:∀a b:Int,(if False then a else b)=b:=λa b=>if_neg id
 (repeat first|simp only[ww]|(apply xa;simp+decide only[go_sem,hcn,hw,hw2,hmn,hw3,hmk,hz,c0,hif];rfl;kernel_rfl))
 refine a0p (σ:=List (List UInt8)×List UInt8) kp52_0 (λq=>[(0,.str q.2),(1,.str [c]),(2,.int .i64 0),(3,.int .i64 (n-1:Nat)),(9,.slice 0 0 n (some n)),(10,.int .i64 q.1.length)]) (λq=>[some (.row 1 (a9d n q.1))]) (λq=>n-q.1.length) (λq=>a00 c s=q.1++a00 c q.2∧q.1.length+q.2.count c+1=n∧q.2.length≤s.length) ([],s) ?_ ⟨rfl,by simp;omega,Nat.le_refl _⟩ ?_
 ·have e1:a9d n []=List.replicate n [.str []]:=by simp[a9d]
  have e3:=a01 (FlatR.replicate (n:=n) (r:=[AV.str []]) rfl);have e4:=λπ=>a02 π (FlatR.replicate (n:=n) (r:=[AV.str []]) rfl)
  (simp+decide only[go_sem,a09,a05,e1,e3,e4,List.length_nil]<;>rfl)
 ·rintro⟨P,R⟩ ⟨h1,h2,h3⟩
  simp only at h1 h2 h3⊢;have hPl:(a9d n P).length=n:=c42 n P (by omega);have hPn:P.length<n:=by omega
  have hPg:=c43 n P hPn;by_cases hc:R.count c=0
  ·have l1:¬(P.length:Int)<((n-1:Nat):Int):=by omega
   have hset:=b7p n P R hPn;have hend:a00 c s=P++[R]:=by rw[h1,b0d c R hc]
   have hfin:a9d n (P++[R])=(a00 c s).map λs=>[AV.str s]:=by unfold a9d;rw[hend,List.length_append,List.length_singleton,show n-(P.length+1)=0 by omega];simp
   have hwp:IntKind.i64.wrap ((P.length:Int)+1)=(n:Int):=by rw[w64 (by omega) (by omega)];omega
   have hfl:FlatR ((a00 c s).map λs=>[AV.str s]):=FlatR.map λ_=>rfl;have hf1:=λπ=>a02 π hfl;have hf2:=a01 hfl;have hf3:=λq d=>a15 q d hfl;have hnl:((a00 c s).map λs=>[AV.str s]).length=n:=by rw[List.length_map,hsl];exact hn.symm
   rw[hfin]at hset
   (repeat first|simp only[ww]|(apply xa;simp+decide only[go_sem,l1,hPn,hPl,hPg,hset,hwp,Nat.le_refl,Nat.zero_add];rfl;kernel_rfl))
   (apply fqb;simp+decide only[go_sem,hf1,hf2,hf3]<;>rfl)
  ·obtain⟨m,i1,i2,i3,i4⟩:=b2m c R (by omega);have l1:(P.length:Int)<((n-1:Nat):Int):=by omega
   have hix:=λd H=>c16 (d:=d) H R c;rw[i1]at hix;have l2:¬(m:Int)<0:=by omega
   have hw5:IntKind.i64.wrap ((m:Int)+0)=(m:Int):=by rw[Int.add_zero];exact w64 (by omega) (by omega)
   have hw6:IntKind.i64.wrap ((m:Int)+1)=((m+1:Nat):Int):=by rw[w64 (by omega) (by omega)];omega
   have hw7:IntKind.i64.wrap ((m:Int)+((1:Nat):Int))=((m+1:Nat):Int):=hw6;have hwp:IntKind.i64.wrap ((P.length:Int)+1)=((P.length+1:Nat):Int):=by rw[w64 (by omega) (by omega)];omega
   have s1:=λh=>d7f R m (by omega) h;have s2:=λh=>b2c R (m+1) (by omega) h;have hset:=b7p n P (R.take m) hPn;have hd:=List.length_drop (i:=m+1) (l:=R);have hPl2:(P++[R.take m]).length=P.length+1:=by simp
   have e3:=a01 (b50 n (P++[R.take m]));have e4:=λπ=>a02 π (b50 n (P++[R.take m]))
   (repeat first|simp only[ww]|(apply xa;simp+decide only[go_sem,l1,hPn,hPl,hPg,hset,hix,l2,hw5,hw6,hw7,hwp,s1,s2,Nat.zero_add];rfl;kernel_rfl))
   refine a22 (P++[R.take m],R.drop (m+1)) ?_ (by simp only[hPl2];omega) ⟨by rw[h1,i3,List.append_assoc];rfl,by simp only[hPl2];omega,by simp only[hd];omega⟩;simp only[hPl2]
   (simp+decide only[go_sem,a09,a05,e3,e4]<;>rfl)
end Go.RInst
namespace Go.RInst
set_option maxHeartbeats 200000000
open Go.Proofs Go.Ax Go.Pc
variable [PR]
set_option maxRecDepth 100000
def sR(l:List (List UInt8)):List (List AV):=l.map λs=>[AV.str s]
theorem a10(l:List (List UInt8)):FlatR (sR l):=FlatR.map λ_=>rfl
theorem b2r(l:List (List UInt8)):(sR l).length=l.length:=List.length_map ..
theorem b2s{l:List (List UInt8)}{i:Nat}{x:List UInt8}(h:l[i]?=some x):(sR l)[i]?=some [.str x]:=by unfold sR;rw[List.getElem?_map,h];rfl
theorem d57(l:List (List UInt8))(i:Nat)(x:List UInt8):(sR l).set i [.str x]=sR (l.set i x):=by unfold sR;rw[List.map_set]
theorem c7f(s:List UInt8)(c:UInt8)(hl:s.length≤1048576):sem L.env Mf 23 [.str s,.str [c]] []=some (.slice 0 0 (a00 c s).length (some (a00 c s).length),[some (.row 1 (sR (a00 c s)))]):=by
 have hfl:=a10 (a00 c s);have hf1:=λπ=>a02 π hfl;have hf2:=a01 hfl;have hf3:=λq d=>a15 q d hfl;have h:=d6c s c hl;change _=some (_,[some (AObj.row 1 (sR (a00 c s)))])at h;generalize(a00 c s).length=n at *;generalize sR (a00 c s)=R at *;have hc:a0j L.env false (sem L.env Mf) (.func (.func 52) [] []) [.str s,.str [c],.int .i64 0,.int .i64 (-1)] []=some (.slice 0 0 n (some n),[some (.row 1 R)],[]):=by have:=a6z (E:=L.env) (d:=false) (call:=sem L.env Mf) (g:=52) (fs:=[]) (cs:=[]) (ar:=[.str s,.str [c],.int .i64 0,.int .i64 (-1)]) (H:=[]) (v:=.slice 0 0 n (some n)) (L:=[some (.row 1 R)]) (by kernel_rfl) (by kernel_rfl) rfl rfl h;rw[this];simp+decide only[go_sem,hf1]<;>rfl
 (refine sv Tryz.f23 ?_;simp only[Tryz.f23,gS])
 (repeat first|simp only[ww]|(apply xa;simp+decide only[go_sem,hc];rfl;kernel_rfl))
 (apply fqb;simp+decide only[go_sem,hf1,hf2,hf3]<;>rfl)
theorem a1u(H:a08)(s:List UInt8)(c:UInt8)(hl:s.length≤1048576):a0j L.env false (sem L.env Mf) (.func (.func 23) [] []) [.str s,.str [c]] H=some (.slice H.length 0 (a00 c s).length (some (a00 c s).length),H++[some (.row 1 (sR (a00 c s)))],[]):=by have hf1:=λπ=>a02 π (a10 (a00 c s));have:=a6z (E:=L.env) (d:=false) (call:=sem L.env Mf) (g:=23) (fs:=[]) (cs:=[]) (ar:=[.str s,.str [c]]) (H:=H) (v:=.slice 0 0 (a00 c s).length (some (a00 c s).length)) (L:=[some (.row 1 (sR (a00 c s)))]) (by kernel_rfl) (by kernel_rfl) rfl rfl (c7f s c hl);rw[this];generalize sR (a00 c s)=R at *;simp+decide only[go_sem,hf1];simp[ren,a1g,a4d]
theorem d6y(w:List UInt8):sem L.env Mf 64 [.str w] []=some (.bool (decide (w=[])),[]):=by
 (refine sv Tryz.f64 ?_;simp only[Tryz.f64,gS])
 (repeat first|simp only[ww]|(apply xa;simp+decide only[go_sem];rfl;kernel_rfl))
 (apply fqb;simp+decide only[go_sem]<;>rfl)
theorem b28{d:Bool}(H:a08)(w:List UInt8):a0j L.env d (sem L.env Mf) (.func (.func 64) [] []) [.str w] H=some (.bool (decide (w=[])),H,[]):=a0l (by kernel_rfl) (by kernel_rfl) rfl rfl (d6y w) rfl
theorem d64(n:Nat)(c:Option Nat)(l:List (List UInt8))(hn:l.length=n)(hb:n≤2000000)(h:∀w∈l,w≠[]):sem L.env Mf 81 [.slice 0 0 n c,.func (.func 64) [] []] [some (.row 1 (sR l))]=some (.int .i64 (-1),[some (.row 1 (sR l))]):=by
 have hf1:=λπ=>a02 π (a10 l);have hf2:=a01 (a10 l);have hlen:=b2r l
 (refine sv Tryz.f81 ?_;simp only[Tryz.f81,gS])
 (repeat first|simp only[ww]|(apply xa;simp+decide only[go_sem];rfl;kernel_rfl))
 refine a0p (σ:=Nat) kp81_0 (λi=>[(0,.slice 0 0 n c),(1,.func (.func 64) [] []),(7,.int .i64 n),(8,.int .i64 (i:Nat))]) (λ_=>[some (.row 1 (sR l))]) (λi=>n-i) (λi=>i≤n) 0 ?_ (Nat.zero_le _) ?_
 ·(simp+decide only[go_sem,a09,a05,hf1,hf2]<;>rfl)
 ·intro i hi;by_cases hlt:i<n
  ·have l1:(i:Int)<n:=by omega
   obtain⟨w,hw⟩:∃w,l[i]?=some w:=⟨_,z9e (by omega)⟩
   have hg:=b2s hw;have hne:¬w=[]:=h w (List.mem_of_getElem? hw);have hc:=λd H=>b28 (d:=d) H w;have hw2:IntKind.i64.wrap ((i:Int)+1)=((i+1:Nat):Int):=by rw[w64 (by omega) (by omega)];omega
   (repeat first|simp only[ww]|(apply xa;simp+decide only[go_sem,l1,hlt,hg,hc,hne,hw2];rfl;kernel_rfl))
   refine a22 (i+1) ?_ (by omega) (by omega)
   (simp+decide only[go_sem,a09,a05,hf1,hf2]<;>rfl)
  ·obtain rfl:i=n:=by omega
   have l1:¬(i:Int)<i:=by omega
   (repeat first|simp only[ww]|(apply xa;simp+decide only[go_sem,l1];rfl;kernel_rfl))
   (apply fqb;simp+decide only[go_sem,hf1,hf2]<;>rfl)
theorem d63(n:Nat)(c:Option Nat)(l:List (List UInt8))(hn:l.length=n)(hb:n≤2000000)(m:Nat)(hm:l[m]?=some [])(h:∀w∈l.take m,w≠[]):sem L.env Mf 81 [.slice 0 0 n c,.func (.func 64) [] []] [some (.row 1 (sR l))]=some (.int .i64 m,[some (.row 1 (sR l))]):=by
 have hf1:=λπ=>a02 π (a10 l);have hf2:=a01 (a10 l);have hlen:=b2r l;have hmn:=(List.getElem?_eq_some_iff.1 hm).1
 (refine sv Tryz.f81 ?_;simp only[Tryz.f81,gS])
 (repeat first|simp only[ww]|(apply xa;simp+decide only[go_sem];rfl;kernel_rfl))
 refine a0p (σ:=Nat) kp81_0 (λi=>[(0,.slice 0 0 n c),(1,.func (.func 64) [] []),(7,.int .i64 n),(8,.int .i64 (i:Nat))]) (λ_=>[some (.row 1 (sR l))]) (λi=>n-i) (λi=>i≤m) 0 ?_ (Nat.zero_le _) ?_
 ·(simp+decide only[go_sem,a09,a05,hf1,hf2]<;>rfl)
 ·intro i hi;have hlt:i<n:=by omega
  have l1:(i:Int)<n:=by omega
  by_cases him:i=m
  ·subst him;have hg:=b2s hm;have hc:=λd H=>b28 (d:=d) H []
   (repeat first|simp only[ww]|(apply xa;simp+decide only[go_sem,l1,hlt,hg,hc];rfl;kernel_rfl))
   (apply fqb;simp+decide only[go_sem,hf1,hf2]<;>rfl)
  ·obtain⟨w,hw⟩:∃w,l[i]?=some w:=⟨_,z9e (by omega)⟩
   have hg:=b2s hw;have hne:¬w=[]:=h w (List.mem_of_getElem? (show(l.take m)[i]?=some w by rw[List.getElem?_take,if_pos (by omega)];exact hw));have hc:=λd H=>b28 (d:=d) H w;have hw2:IntKind.i64.wrap ((i:Int)+1)=((i+1:Nat):Int):=by rw[w64 (by omega) (by omega)];omega
   (repeat first|simp only[ww]|(apply xa;simp+decide only[go_sem,l1,hlt,hg,hc,hne,hw2];rfl;kernel_rfl))
   refine a22 (i+1) ?_ (by omega) (by omega)
   (simp+decide only[go_sem,a09,a05,hf1,hf2]<;>rfl)
def a38(l:List (List UInt8)):List (List UInt8):=l.filter λw=>!decide (w=[])
theorem b74(a b:List (List UInt8)):a38 (a++b)=a38 a++a38 b:=List.filter_append ..
theorem a2o(l:List (List UInt8)):(a38 l).length≤l.length:=List.length_filter_le ..
theorem b75{l:List (List UInt8)}(h:∀w∈l,w≠[]):a38 l=l:=List.filter_eq_self.2 λw hw=>by simp[h w hw]
theorem c5m(l:List (List UInt8)):(∀w∈l,w≠[])∨∃m,l[m]?=some []∧∀w∈l.take m,w≠[]:=by
 induction l with
 |nil=>exact .inl λw h=>by cases h
 |cons a r ih=>
  by_cases ha:a=[]
  ·exact .inr ⟨0,by simp[ha],λw h=>by simp at h⟩
  ·rcases ih with h|⟨m,h1,h2⟩
   ·left;intro w hw;rcases List.mem_cons.1 hw with rfl|hw
    ·exact ha
    ·exact h w hw
   ·refine .inr ⟨m+1,by simpa using h1,λw hw=>?_⟩;rw[List.take_succ_cons]at hw;rcases List.mem_cons.1 hw with rfl|hw
    ·exact ha
    ·exact h2 w hw
theorem a4z(n:Nat)(l:List (List UInt8))(hn:l.length=n)(h0:0<n)(hb:n≤2000000):∃r:AV×a08,(∃R,R.length=n∧R.take (a38 l).length=sR (a38 l)∧FlatR R∧r=(.slice 0 0 (a38 l).length (some n),[some (.row 1 R)]))∧sem L.env Mf 63 [.slice 0 0 n (some n),.func (.func 64) [] []] [some (.row 1 (sR l))]=some r:=by
 have hf1:=λπ=>a02 π (a10 l);have hf2:=a01 (a10 l);have hf3:=λq d=>a15 q d (a10 l);have hlen:=b2r l;rcases c5m l with hall|⟨m,hm,hmt⟩
 ·have hc:a0j L.env false (sem L.env Mf) (.func (.func 81) [] []) [.slice 0 0 n (some n),.func (.func 64) [] []] [some (.row 1 (sR l))]=some (.int .i64 (-1),[some (.row 1 (sR l))],[0]):=
   a3c (by kernel_rfl) (by kernel_rfl) rfl (b:=0) (o:=.row 1 (sR l)) rfl (a0r (a10 l)) (FlatO.row (a10 l)) rfl (by rfl) (d64 n (some n) l hn hb hall) rfl
  rw[b75 hall]
  (refine svE Tryz.f63 ?_;simp only[Tryz.f63,gS])
  (repeat first|simp only[ww]|(apply xa;simp+decide only[go_sem,hc];rfl;kernel_rfl))
  (apply a2v;(·simp+decide only[go_sem,hf1,hf2,hf3]<;>rfl))
  exact⟨sR l,by rw[hlen,hn],List.take_of_length_le (by rw[hlen];exact Nat.le_refl _),a10 l,by rw[hn]⟩
 ·have hmn:=(List.getElem?_eq_some_iff.1 hm).1;have hc:a0j L.env false (sem L.env Mf) (.func (.func 81) [] []) [.slice 0 0 n (some n),.func (.func 64) [] []] [some (.row 1 (sR l))]=some (.int .i64 m,[some (.row 1 (sR l))],[0]):=
   a3c (by kernel_rfl) (by kernel_rfl) rfl (b:=0) (o:=.row 1 (sR l)) rfl (a0r (a10 l)) (FlatO.row (a10 l)) rfl (by rfl) (d63 n (some n) l hn hb m hm hmt) rfl
  have c0:¬(m:Int) = -1:=by omega
  have hwm:IntKind.i64.wrap ((m:Int)+1)=((m+1:Nat):Int):=by rw[w64 (by omega) (by omega)];omega
  have hd0:a38 (l.take (m+1))=l.take m:=by rw[List.take_add_one,hm,b74,b75 hmt];simp[a38]
  (refine svE Tryz.f63 ?_;simp only[Tryz.f63,gS])
  (repeat first|simp only[ww]|(apply xa;simp+decide only[go_sem,hc,c0,hwm];rfl;kernel_rfl))
  refine a0p (σ:=Nat×Nat×List (List UInt8)) kp63_0 (λs=>[(0,.slice 0 0 n (some n)),(1,.func (.func 64) [] []),(5,.int .i64 (s.1:Nat)),(6,.int .i64 (s.2.1:Nat))]) (λs=>[some (.row 1 (sR s.2.2))]) (λs=>n-s.2.1) (λs=>s.2.2.length=n∧s.2.1≤n∧s.1<s.2.1∧s.2.2.take s.1=a38 (l.take s.2.1)∧s.2.2.drop s.2.1=l.drop s.2.1) (m,m+1,l) ?_ ⟨hn,by simp only;omega,Nat.lt_succ_self _,hd0.symm,rfl⟩ ?_
  ·(simp+decide only[go_sem,a09,a05,hf1,hf2]<;>rfl)
  ·rintro⟨i,j,M⟩ ⟨hM,hj,hij,ht,hd⟩
   simp only at hM hj hij ht hd⊢;have hMr:=λπ=>a02 π (a10 M);have hMf:=a01 (a10 M);have hMl:(sR M).length=n:=by rw[b2r,hM]
   by_cases hjn:j<n
   ·have l1:(j:Int)<n:=by omega
    obtain⟨w,hw⟩:∃w,M[j]?=some w:=⟨_,z9e (by omega)⟩
    have hlw:l[j]?=some w:=by have:=congrArg (λx=>x[0]?) hd;simp only[List.getElem?_drop,Nat.add_zero]at this;rw[←this,hw]
    have hg:=b2s hw;have hc:=λd H=>b28 (d:=d) H w;have hwj:IntKind.i64.wrap ((j:Int)+1)=((j+1:Nat):Int):=by rw[w64 (by omega) (by omega)];omega
    have hwi:IntKind.i64.wrap ((i:Int)+1)=((i+1:Nat):Int):=by rw[w64 (by omega) (by omega)];omega
    have hd1:M.drop (j+1)=l.drop (j+1):=by have:=congrArg (List.drop 1) hd;simpa[List.drop_drop,Nat.add_comm]using this
    have hts:l.take (j+1)=l.take j++[w]:=by rw[List.take_add_one,hlw];rfl
    by_cases he:w=[]
    ·subst he
     (repeat first|simp only[ww]|(apply xa;simp+decide only[go_sem,l1,hjn,hg,hc,hwj];rfl;kernel_rfl))
     refine a22 (i,j+1,M) ?_ (by simp only;omega) ⟨hM,by simp only;omega,by simp only;omega,by simp only;rw[hts,b74,←ht];simp[a38],hd1⟩
     (simp+decide only[go_sem,a09,a05,hMr,hMf]<;>rfl)
    ·have hin:i<n:=by omega
     have hset:=d57 M i w;have hSr:=λπ=>a02 π (a10 (M.set i w));have hSf:=a01 (a10 (M.set i w));obtain⟨x,hx⟩:∃x,M[i]?=some x:=⟨_,z9e (by omega)⟩
     have hgx:=b2s hx
     (repeat first|simp only[ww]|(apply xa;simp+decide only[go_sem,l1,hjn,hg,hc,he,hwj,hwi,hin,hgx,hset];rfl;kernel_rfl))
     refine a22 (i+1,j+1,M.set i w) ?_ (by simp only;omega) ⟨by simp only[List.length_set];exact hM,by simp only;omega,by simp only;omega,?_,?_⟩
     ·(simp+decide only[go_sem,a09,a05,hSr,hSf]<;>rfl)
     ·simp only;rw[hts,b74,←ht,List.take_add_one,List.getElem?_set_self (by omega),List.take_set_of_le (Nat.le_refl _)];simp[a38,he]
     ·simp only;rw[List.drop_set_of_lt (by omega)];exact hd1
   ·obtain rfl:j=n:=by omega
    have l1:¬(j:Int)<j:=by omega
    rw[List.take_of_length_le (by omega:l.length≤j)]at ht;have hil:(a38 l).length=i:=by rw[←ht,List.length_take];omega
    have l5:i≤j:=by omega
    have l6:¬j-i=0:=by omega
    have l7:i+(j-i)≤j:=by omega
    have hZ:a3b (Value.string { data:=#[] })=AV.str []:=rfl;have hR:FlatR ((sR M).take i++List.replicate (j-i) [AV.str []]++(sR M).drop (i+(j-i))):=FlatR.append (FlatR.append (a10 M).take (FlatR.replicate rfl)) (a10 M).drop;have hRl:((sR M).take i++List.replicate (j-i) [AV.str []]++(sR M).drop (i+(j-i))).length=j:=by simp only[List.length_append,List.length_take,List.length_replicate,List.length_drop,hMl];omega
    have hRt:((sR M).take i++List.replicate (j-i) [AV.str []]++(sR M).drop (i+(j-i))).take i=sR (a38 l):=by rw[List.append_assoc,List.take_append_of_le_length (by rw[List.length_take,hMl];omega),List.take_take,Nat.min_self,←ht];unfold sR;rw[List.map_take]
    have hRr:=λπ=>a02 π hR;have hRf:=a01 hR;have hRz:=λq d=>a15 q d hR
    (repeat first|simp only[ww]|(apply xa;simp+decide only[go_sem,l1,l5,l6,l7,Nat.zero_add,hMl,hZ];rfl;kernel_rfl))
    generalize(sR M).take i++List.replicate (j-i) [AV.str []]++(sR M).drop (i+(j-i))=R at *
    (apply a2v;(·simp+decide only[go_sem,hRr,hRf,hRz]<;>rfl))
    exact⟨R,hRl,by rw[hil];exact hRt,hR,by rw[hil]⟩
end Go.RInst
namespace Go.RInst
open Go.Proofs Go.Ax Go.Pc
variable [PR]
set_option maxRecDepth 100000
/-! ### numbers -/
def d1m(b:UInt8):Prop:=48≤b.toNat∧b.toNat≤57
def a0d(w:List UInt8):Nat:=w.foldl (λn b=>10*n+(b.toNat-48)) 0
theorem c9r(w:List UInt8){i:Nat}{b:UInt8}(h:w[i]?=some b):a0d (w.take (i+1))=10*a0d (w.take i)+(b.toNat-48):=by unfold a0d;rw[List.take_add_one,h,List.foldl_append];rfl
theorem c5s(w:List UInt8)(h:∀b∈w,d1m b):∀i,i≤w.length→a0d (w.take i)<10^i
 |0,_=>by simp[a0d]
 |i+1,hi=>by
  obtain⟨b,hb⟩:∃b,w[i]?=some b:=⟨_,z9e (by omega)⟩
  have ih:=c5s w h i (by omega);have hd:=h b (List.mem_of_getElem? hb);rw[c9r w hb,Nat.pow_succ];have:=hd.1;have:=hd.2;omega
structure NumOk(w:List UInt8):Prop where
 l1:1≤w.length
 l7:w.length≤7
 z:w=[48]∨∃a,w[0]?=some a∧a.toNat≠48
 d:∀b∈w,d1m b
theorem d5u(w:List UInt8)(h:NumOk w):sem L.env Mf 84 [.str w] []=some (.int .i64 (a0d w:Nat),[]):=by
 have h1:=h.l1;have h7:=h.l7;have c1:(1:Int)≤w.length:=by omega
 have c7:(w.length:Int)≤7:=by omega
 have hmt:=λd H e=>a1b (d:=d) H e;have hpow:∀i,i≤w.length→a0d (w.take i)<10000000:=λi hi=>Nat.lt_of_lt_of_le (c5s w h.d i hi) (Nat.le_trans (Nat.pow_le_pow_right (by decide) (Nat.le_trans hi h7)) (by decide));have step:∀(i:Nat) (b:UInt8),w[i]?=some b→i<w.length→IntKind.i64.wrap (10*((a0d (w.take i):Nat):Int))=((10*a0d (w.take i):Nat):Int)∧IntKind.u8.wrap ((b.toNat:Int)-48)=((b.toNat-48:Nat):Int)∧IntKind.i64.wrap ((b.toNat-48:Nat):Int)=((b.toNat-48:Nat):Int)∧IntKind.i64.wrap (((10*a0d (w.take i):Nat):Int)+((b.toNat-48:Nat):Int))=((a0d (w.take (i+1)):Nat):Int):=by
  intro i b hb hi;have hd:=h.d b (List.mem_of_getElem? hb);have hp:=hpow i (by omega);have:=hd.1;have:=hd.2;rw[c9r w hb];have hu:IntKind.u8.wrap ((b.toNat:Int)-48)=((b.toNat-48:Nat):Int):=by
   have e:((b.toNat:Int)-48)=((b.toNat-48:Nat):Int):=by omega
   rw[e];generalize hx:b.toNat-48=x;have hx9:x≤9:=by omega
   have key:∀y:Nat,y≤9→IntKind.u8.wrap (y:Int)=(y:Int):=by decide
   exact key x hx9
  exact⟨by rw[w64 (by omega) (by omega)];omega,hu,w64 (by omega) (by omega),by rw[w64 (by omega) (by omega)];omega⟩
 by_cases hz:w=[48]
 ·subst hz;exact c46 (E:=L.env) a86 60 (by kernel_rfl)
 ·obtain⟨a,ha,ha0⟩:=h.z.resolve_left hz;have hl0:0<w.length:=by omega
  have c0:¬(a.toNat:Int)=48:=by omega
  (refine sv Tryz.f84 ?_;simp only[Tryz.f84,gS])
  (repeat first|simp only[ww]|(apply xa;simp+decide only[go_sem,c1,c7,hz,hl0,ha,c0,hmt];rfl;kernel_rfl))
  refine a0p (σ:=Nat) kp84_0 (λi=>[(0,.str w),(3,.int .i64 (a0d (w.take i):Nat)),(24,.int .i64 w.length),(25,.int .i64 (i:Nat))]) (λ_=>[]) (λi=>w.length-i) (λi=>i≤w.length) 0 ?_ (Nat.zero_le _) ?_
  ·have e0:a0d (w.take 0)=0:=rfl
   (simp+decide only[go_sem,a09,a05,e0]<;>rfl)
  ·intro i hi;by_cases hlt:i<w.length
   ·have l1:(i:Int)<w.length:=by omega
    obtain⟨b,hb⟩:∃b,w[i]?=some b:=⟨_,z9e hlt⟩
    have hd:=h.d b (List.mem_of_getElem? hb);have d1:(48:Int)≤b.toNat:=by have:=hd.1;omega
    have d2:(b.toNat:Int)≤57:=by have:=hd.2;omega
    have hw:IntKind.i64.wrap ((i:Int)+1)=((i+1:Nat):Int):=by rw[w64 (by omega) (by omega)];omega
    obtain⟨s1,s2,s3,s4⟩:=step i b hb hlt
    (repeat first|simp only[ww]|(apply xa;simp+decide only[go_sem,l1,hlt,hb,d1,d2,hmt,hw,s1,s2,s3,s4];rfl;kernel_rfl))
    refine a22 (i+1) ?_ (by omega) (by omega)
    (simp+decide only[go_sem,a09,a05]<;>rfl)
   ·obtain rfl:i=w.length:=by omega
    have l1:¬(w.length:Int)<w.length:=by omega
    rw[List.take_length]
    (repeat first|simp only[ww]|(apply xa;simp+decide only[go_sem,l1];rfl;kernel_rfl))
    (apply fqb;simp+decide only[go_sem]<;>rfl)
theorem a5p{d:Bool}(H:a08)(w:List UInt8)(h:NumOk w):a0j L.env d (sem L.env Mf) (.func (.func 84) [] []) [.str w] H=some (.int .i64 (a0d w:Nat),H,[]):=a0l (by kernel_rfl) (by kernel_rfl) rfl rfl (d5u w h) rfl
/-! ### looking for a name -/
theorem d51(k n:List UInt8)(dir dir':Nat):sem L.env Mf 83 [.agg [.str k,.int .u8 dir],.ptr 0 0 0] [some (.row 2 [[.str n,.int .u8 dir']])]=some (.bool (decide (k=n)),[some (.row 2 [[.str n,.int .u8 dir']])]):=by
 (refine sv Tryz.f83 ?_;simp only[Tryz.f83,gS])
 (repeat first|simp only[ww]|(apply xa;simp+decide only[go_sem];rfl;kernel_rfl))
 (apply fqb;simp+decide only[go_sem]<;>rfl)
theorem d6q(t:Tm)(n:List UInt8):sem L.env Mf 101 [.agg (Tm.enc t),.ptr 0 0 0] [some (.row 1 [[.str n]])]=some (.bool (decide (t.name=n)),[some (.row 1 [[.str n]])]):=by
 have b41:Nat.beq 41 82=false:=by decide
 (refine sv Tryz.f101 ?_;simp only[Tryz.f101,gS])
 (repeat first|simp only[ww]|(apply xa;simp+decide only[go_sem,b41];rfl;kernel_rfl))
 (apply fqb;simp+decide only[go_sem]<;>rfl)
end Go.RInst
namespace Go.RInst
open Go.Proofs Go.Ax Go.Pc
variable [PR]
set_option maxRecDepth 100000
def fnd(n:List UInt8):List (List UInt8)→Int
 | []=>-1
 |a::r=>if a=n then 0 else if fnd n r = -1 then -1 else fnd n r+1
theorem d6p(n:List UInt8):∀l,-1≤fnd n l
 | []=>by simp[fnd]
 |a::r=>by have:=d6p n r;unfold fnd;split<;>(try split)<;>omega
theorem a9s(n:List UInt8):∀l,(fnd n l = -1∧∀x∈l,x≠n)∨∃m:Nat,fnd n l=m∧l[m]?=some n∧∀x∈l.take m,x≠n
 | []=>.inl ⟨rfl,λx h=>by cases h⟩
 |a::r=>by
  by_cases ha:a=n
  ·exact .inr ⟨0,by simp[fnd,ha],by simp[ha],λx h=>by simp at h⟩
  ·rcases a9s n r with ⟨h1,h2⟩|⟨m,h1,h2,h3⟩
   ·refine .inl ⟨by unfold fnd;rw[if_neg ha,if_pos h1],λx hx=>?_⟩;rcases List.mem_cons.1 hx with rfl|hx
    ·exact ha
    ·exact h2 x hx
   ·refine .inr ⟨m+1,by unfold fnd;rw[if_neg ha,h1,if_neg (by omega)];rfl,by simpa using h2,λx hx=>?_⟩;rw[List.take_succ_cons]at hx;rcases List.mem_cons.1 hx with rfl|hx
    ·exact ha
    ·exact h3 x hx
theorem c04(n:List UInt8)(l:List (List UInt8)):fnd n l<0↔n∉l:=by
 rcases a9s n l with ⟨h1,h2⟩|⟨m,h1,h2,_⟩
 ·rw[h1];exact⟨λ_ hm=>h2 n hm rfl,λ_=>by omega⟩
 ·rw[h1];exact⟨λh=>by omega,λh=>absurd (List.mem_of_getElem? h2) h⟩
theorem d1k(n:List UInt8)(d:Nat):sem L.env Mf 99 [.nilslice,.func (.func 83) [] [.ptr 0 0 0]] [some (.row 2 [[.str n,.int .u8 d]])]=some (.int .i64 (-1),[some (.row 2 [[.str n,.int .u8 d]])]):=by
 (refine sv Tryz.f99 ?_;simp only[Tryz.f99,gS])
 (repeat first|simp only[ww]|(apply xa;simp+decide only[go_sem];rfl;kernel_rfl))
 refine a0p (σ:=Nat) kp99_0 (λi=>[(0,.nilslice),(1,.func (.func 83) [] [.ptr 0 0 0]),(7,.int .i64 0),(8,.int .i64 (i:Nat))]) (λ_=>[some (.row 2 [[.str n,.int .u8 d]])]) (λi=>0-i) (λi=>i≤0) 0 ?_ (Nat.zero_le _) ?_
 ·(simp+decide only[go_sem,a09,a05]<;>rfl)
 ·intro i hi;obtain rfl:i=0:=by omega
  (repeat first|simp only[ww]|(apply xa;simp+decide only[go_sem];rfl;kernel_rfl))
  (apply fqb;simp+decide only[go_sem]<;>rfl)
theorem d1l(n:List UInt8)(d:Nat)(l:List Sg)(hl:l.length≤100000):sem L.env Mf 99 [.slice 0 0 l.length none,.func (.func 83) [] [.ptr 1 0 0]] [some (.row 2 (l.map Sg.enc)),some (.row 2 [[.str n,.int .u8 d]])]=some (.int .i64 (fnd n (l.map Sg.name)),[some (.row 2 (l.map Sg.enc)),some (.row 2 [[.str n,.int .u8 d]])]):=by
 have hf1:=λπ=>a02 π (a0z l);have hf2:=a01 (a0z l);have hlen:(l.map Sg.enc).length=l.length:=List.length_map ..;have hcl:∀u:Sg,a0j L.env false (sem L.env Mf) (.func (.func 83) [] [.ptr 1 0 0]) [.agg (Sg.enc u)] [some (.row 2 (l.map Sg.enc)),some (.row 2 [[.str n,.int .u8 d]])]=some (.bool (decide (u.name=n)),[some (.row 2 (l.map Sg.enc)),some (.row 2 [[.str n,.int .u8 d]])],[1]):=λu=>a3c (by kernel_rfl) (by kernel_rfl) rfl (b:=1) (o:=.row 2 [[.str n,.int .u8 d]]) rfl rfl (by intro π;rfl) rfl (by rfl) (d51 u.name n u.dir d) rfl;have hget:∀(i:Nat) (u:Sg),l[i]?=some u→(l.map Sg.enc)[i]?=some (Sg.enc u):=λi u h=>by rw[List.getElem?_map,h];rfl
 rcases a9s n (l.map Sg.name)with ⟨h1,h2⟩|⟨m,h1,h2,h3⟩
 ·rw[h1]
  (refine sv Tryz.f99 ?_;simp only[Tryz.f99,gS])
  (repeat first|simp only[ww]|(apply xa;simp+decide only[go_sem];rfl;kernel_rfl))
  refine a0p (σ:=Nat) kp99_0 (λi=>[(0,.slice 0 0 l.length none),(1,.func (.func 83) [] [.ptr 1 0 0]),(7,.int .i64 l.length),(8,.int .i64 (i:Nat))]) (λ_=>[some (.row 2 (l.map Sg.enc)),some (.row 2 [[.str n,.int .u8 d]])]) (λi=>l.length-i) (λi=>i≤l.length) 0 ?_ (Nat.zero_le _) ?_
  ·(simp+decide only[go_sem,a09,a05,hf1,hf2]<;>rfl)
  ·intro i hi;by_cases hlt:i<l.length
   ·have l1:(i:Int)<l.length:=by omega
    obtain⟨u,hu⟩:∃u,l[i]?=some u:=⟨_,z9e hlt⟩
    have hg:=hget i u hu;have hc:=hcl u;have hne:¬u.name=n:=h2 _ (List.mem_map.2 ⟨u,List.mem_of_getElem? hu,rfl⟩);have hw2:IntKind.i64.wrap ((i:Int)+1)=((i+1:Nat):Int):=by rw[w64 (by omega) (by omega)];omega
    rw[decide_eq_false hne]at hc
    (repeat first|simp only[ww]|(apply xa;simp+decide only[go_sem,l1,hlt,hg,hc,hw2];rfl;kernel_rfl))
    refine a22 (i+1) ?_ (by omega) (by omega)
    (simp+decide only[go_sem,a09,a05,hf1,hf2]<;>rfl)
   ·obtain rfl:i=l.length:=by omega
    have l1:¬(l.length:Int)<l.length:=by omega
    (repeat first|simp only[ww]|(apply xa;simp+decide only[go_sem,l1];rfl;kernel_rfl))
    (apply fqb;simp+decide only[go_sem,hf1,hf2]<;>rfl)
 ·rw[h1];have hml:m<l.length:=by have:=(List.getElem?_eq_some_iff.1 h2).1;simpa using this
  (refine sv Tryz.f99 ?_;simp only[Tryz.f99,gS])
  (repeat first|simp only[ww]|(apply xa;simp+decide only[go_sem];rfl;kernel_rfl))
  refine a0p (σ:=Nat) kp99_0 (λi=>[(0,.slice 0 0 l.length none),(1,.func (.func 83) [] [.ptr 1 0 0]),(7,.int .i64 l.length),(8,.int .i64 (i:Nat))]) (λ_=>[some (.row 2 (l.map Sg.enc)),some (.row 2 [[.str n,.int .u8 d]])]) (λi=>l.length-i) (λi=>i≤m) 0 ?_ (Nat.zero_le _) ?_
  ·(simp+decide only[go_sem,a09,a05,hf1,hf2]<;>rfl)
  ·intro i hi;have hlt:i<l.length:=by omega
   have l1:(i:Int)<l.length:=by omega
   obtain⟨u,hu⟩:∃u,l[i]?=some u:=⟨_,z9e hlt⟩
   have hg:=hget i u hu;have hc:=hcl u;by_cases him:i=m
   ·subst him;have he:u.name=n:=by
     rw[List.getElem?_map,hu]at h2;simpa using h2
    rw[decide_eq_true he]at hc
    (repeat first|simp only[ww]|(apply xa;simp+decide only[go_sem,l1,hlt,hg,hc];rfl;kernel_rfl))
    (apply fqb;simp+decide only[go_sem,hf1,hf2]<;>rfl)
   ·have hne:¬u.name=n:=h3 _ (List.mem_of_getElem? (show(((l.map Sg.name).take m)[i]?=some u.name) by rw[List.getElem?_take,if_pos (by omega),List.getElem?_map,hu];rfl));have hw2:IntKind.i64.wrap ((i:Int)+1)=((i+1:Nat):Int):=by rw[w64 (by omega) (by omega)];omega
    rw[decide_eq_false hne]at hc
    (repeat first|simp only[ww]|(apply xa;simp+decide only[go_sem,l1,hlt,hg,hc,hw2];rfl;kernel_rfl))
    refine a22 (i+1) ?_ (by omega) (by omega)
    (simp+decide only[go_sem,a09,a05,hf1,hf2]<;>rfl)
theorem d1i(n:List UInt8):sem L.env Mf 100 [.nilslice,.func (.func 101) [] [.ptr 0 0 0]] [some (.row 1 [[.str n]])]=some (.int .i64 (-1),[some (.row 1 [[.str n]])]):=by
 (refine sv Tryz.f100 ?_;simp only[Tryz.f100,gS])
 (repeat first|simp only[ww]|(apply xa;simp+decide only[go_sem];rfl;kernel_rfl))
 refine a0p (σ:=Nat) kp100_0 (λi=>[(0,.nilslice),(1,.func (.func 101) [] [.ptr 0 0 0]),(7,.int .i64 0),(8,.int .i64 (i:Nat))]) (λ_=>[some (.row 1 [[.str n]])]) (λi=>0-i) (λi=>i≤0) 0 ?_ (Nat.zero_le _) ?_
 ·(simp+decide only[go_sem,a09,a05]<;>rfl)
 ·intro i hi;obtain rfl:i=0:=by omega
  (repeat first|simp only[ww]|(apply xa;simp+decide only[go_sem];rfl;kernel_rfl))
  (apply fqb;simp+decide only[go_sem]<;>rfl)
theorem d1j(n:List UInt8)(l:List Tm)(hl:l.length≤100000):sem L.env Mf 100 [.slice 0 0 l.length none,.func (.func 101) [] [.ptr 1 0 0]] [some (.row 6 (l.map Tm.enc)),some (.row 1 [[.str n]])]=some (.int .i64 (fnd n (l.map Tm.name)),[some (.row 6 (l.map Tm.enc)),some (.row 1 [[.str n]])]):=by
 have hf1:=λπ=>a02 π (a0g l);have hf2:=a01 (a0g l);have hlen:(l.map Tm.enc).length=l.length:=List.length_map ..;have hcl:∀u:Tm,a0j L.env false (sem L.env Mf) (.func (.func 101) [] [.ptr 1 0 0]) [.agg (Tm.enc u)] [some (.row 6 (l.map Tm.enc)),some (.row 1 [[.str n]])]=some (.bool (decide (u.name=n)),[some (.row 6 (l.map Tm.enc)),some (.row 1 [[.str n]])],[1]):=λu=>a3c (by kernel_rfl) (by kernel_rfl) rfl (b:=1) (o:=.row 1 [[.str n]]) rfl rfl (by intro π;rfl) rfl (by rfl) (d6q u n) rfl;have hget:∀(i:Nat) (u:Tm),l[i]?=some u→(l.map Tm.enc)[i]?=some (Tm.enc u):=λi u h=>by rw[List.getElem?_map,h];rfl
 rcases a9s n (l.map Tm.name)with ⟨h1,h2⟩|⟨m,h1,h2,h3⟩
 ·rw[h1]
  (refine sv Tryz.f100 ?_;simp only[Tryz.f100,gS])
  (repeat first|simp only[ww]|(apply xa;simp+decide only[go_sem];rfl;kernel_rfl))
  refine a0p (σ:=Nat) kp100_0 (λi=>[(0,.slice 0 0 l.length none),(1,.func (.func 101) [] [.ptr 1 0 0]),(7,.int .i64 l.length),(8,.int .i64 (i:Nat))]) (λ_=>[some (.row 6 (l.map Tm.enc)),some (.row 1 [[.str n]])]) (λi=>l.length-i) (λi=>i≤l.length) 0 ?_ (Nat.zero_le _) ?_
  ·(simp+decide only[go_sem,a09,a05,hf1,hf2]<;>rfl)
  ·intro i hi;by_cases hlt:i<l.length
   ·have l1:(i:Int)<l.length:=by omega
    obtain⟨u,hu⟩:∃u,l[i]?=some u:=⟨_,z9e hlt⟩
    have hg:=hget i u hu;have hc:=hcl u;have hne:¬u.name=n:=h2 _ (List.mem_map.2 ⟨u,List.mem_of_getElem? hu,rfl⟩);have hw2:IntKind.i64.wrap ((i:Int)+1)=((i+1:Nat):Int):=by rw[w64 (by omega) (by omega)];omega
    rw[decide_eq_false hne]at hc
    (repeat first|simp only[ww]|(apply xa;simp+decide only[go_sem,l1,hlt,hg,hc,hw2];rfl;kernel_rfl))
    refine a22 (i+1) ?_ (by omega) (by omega)
    (simp+decide only[go_sem,a09,a05,hf1,hf2]<;>rfl)
   ·obtain rfl:i=l.length:=by omega
    have l1:¬(l.length:Int)<l.length:=by omega
    (repeat first|simp only[ww]|(apply xa;simp+decide only[go_sem,l1];rfl;kernel_rfl))
    (apply fqb;simp+decide only[go_sem,hf1,hf2]<;>rfl)
 ·rw[h1];have hml:m<l.length:=by have:=(List.getElem?_eq_some_iff.1 h2).1;simpa using this
  (refine sv Tryz.f100 ?_;simp only[Tryz.f100,gS])
  (repeat first|simp only[ww]|(apply xa;simp+decide only[go_sem];rfl;kernel_rfl))
  refine a0p (σ:=Nat) kp100_0 (λi=>[(0,.slice 0 0 l.length none),(1,.func (.func 101) [] [.ptr 1 0 0]),(7,.int .i64 l.length),(8,.int .i64 (i:Nat))]) (λ_=>[some (.row 6 (l.map Tm.enc)),some (.row 1 [[.str n]])]) (λi=>l.length-i) (λi=>i≤m) 0 ?_ (Nat.zero_le _) ?_
  ·(simp+decide only[go_sem,a09,a05,hf1,hf2]<;>rfl)
  ·intro i hi;have hlt:i<l.length:=by omega
   have l1:(i:Int)<l.length:=by omega
   obtain⟨u,hu⟩:∃u,l[i]?=some u:=⟨_,z9e hlt⟩
   have hg:=hget i u hu;have hc:=hcl u;by_cases him:i=m
   ·subst him;have he:u.name=n:=by
     rw[List.getElem?_map,hu]at h2;simpa using h2
    rw[decide_eq_true he]at hc
    (repeat first|simp only[ww]|(apply xa;simp+decide only[go_sem,l1,hlt,hg,hc];rfl;kernel_rfl))
    (apply fqb;simp+decide only[go_sem,hf1,hf2]<;>rfl)
   ·have hne:¬u.name=n:=h3 _ (List.mem_of_getElem? (show(((l.map Tm.name).take m)[i]?=some u.name) by rw[List.getElem?_take,if_pos (by omega),List.getElem?_map,hu];rfl));have hw2:IntKind.i64.wrap ((i:Int)+1)=((i+1:Nat):Int):=by rw[w64 (by omega) (by omega)];omega
    rw[decide_eq_false hne]at hc
    (repeat first|simp only[ww]|(apply xa;simp+decide only[go_sem,l1,hlt,hg,hc,hw2];rfl;kernel_rfl))
    refine a22 (i+1) ?_ (by omega) (by omega)
    (simp+decide only[go_sem,a09,a05,hf1,hf2]<;>rfl)
theorem d2b(n:List UInt8)(d:Nat):sem L.env Mf 82 [.nilslice,.func (.func 83) [] [.ptr 0 0 0]] [some (.row 2 [[.str n,.int .u8 d]])]=some (.bool false,[some (.row 2 [[.str n,.int .u8 d]])]):=by
 have hc:a0j L.env false (sem L.env Mf) (.func (.func 99) [] []) [.nilslice,.func (.func 83) [] [.ptr 0 0 0]] [some (.row 2 [[.str n,.int .u8 d]])]=some (.int .i64 (-1),[some (.row 2 [[.str n,.int .u8 d]])],[0]):=a3c (by kernel_rfl) (by kernel_rfl) rfl (b:=0) (o:=.row 2 [[.str n,.int .u8 d]]) rfl rfl (by intro π;rfl) rfl (by rfl) (d1k n d) rfl
 (refine sv Tryz.f82 ?_;simp only[Tryz.f82,gS])
 (repeat first|simp only[ww]|(apply xa;simp+decide only[go_sem,hc];rfl;kernel_rfl))
 (apply fqb;simp+decide only[go_sem]<;>rfl)
theorem d2c(n:List UInt8)(d:Nat)(l:List Sg)(hl:l.length≤100000)(hno:n∉l.map Sg.name):sem L.env Mf 82 [.slice 0 0 l.length none,.func (.func 83) [] [.ptr 1 0 0]] [some (.row 2 (l.map Sg.enc)),some (.row 2 [[.str n,.int .u8 d]])]=some (.bool false,[some (.row 2 (l.map Sg.enc)),some (.row 2 [[.str n,.int .u8 d]])]):=by
 have hf1:=λπ=>a02 π (a0z l);have hf2:=a01 (a0z l);have hix:=d1l n d l hl;have hneg:=(c04 n (l.map Sg.name)).2 hno;generalize fnd n (l.map Sg.name)=z at hix hneg;have c0:¬(0:Int)≤z:=by omega
 generalize hR:l.map Sg.enc=R at *;have hrc:a0h [some (AObj.row 2 R),some (AObj.row 2 [[.str n,.int .u8 d]])] 1000000 (a0w [AV.slice 0 0 l.length none,.func (.func 83) [] [.ptr 1 0 0]]) []=[0,1]:=by show a0h _ 1000000 [0,1] []=_;rw[show(1000000:Nat)=999997+1+1+1 from rfl,a07 rfl];show a0h _ (999997+1+1) (R.flatMap a0w++[1]) _=_;rw[hf2,List.nil_append,a07 rfl];exact a13 _ _ _
 have hc:a0j L.env false (sem L.env Mf) (.func (.func 99) [] []) [.slice 0 0 l.length none,.func (.func 83) [] [.ptr 1 0 0]] [some (.row 2 R),some (.row 2 [[.str n,.int .u8 d]])]=some (.int .i64 z,[some (.row 2 R),some (.row 2 [[.str n,.int .u8 d]])],[0,1]):=by have hc:=a0o (sem L.env Mf 99) _ [some (.row 2 R),some (.row 2 [[.str n,.int .u8 d]])] (σ:=[0,1]) hrc rfl rfl (args':=[.slice 0 0 l.length none,.func (.func 83) [] [.ptr 1 0 0]]) rfl (H0:=[some (.row 2 R),some (.row 2 [[.str n,.int .u8 d]])]) (by simp+decide only[go_sem,a0u,hf1]) hix;refine a1x (by kernel_rfl) (by kernel_rfl) rfl (hc.trans ?_);simp+decide only[go_sem,a0s,hf1]
 (refine sv Tryz.f82 ?_;simp only[Tryz.f82,gS])
 (repeat first|simp only[ww]|(apply xa;simp+decide only[go_sem,hc,c0];rfl;kernel_rfl))
 (apply fqb;simp+decide only[go_sem,hf1,hf2]<;>rfl)
end Go.RInst
namespace Go.RInst
set_option maxHeartbeats 200000000
open Go.Proofs Go.Ax Go.Pc
variable [PR]
set_option maxRecDepth 100000
theorem c0l{d:Bool}(H:a08)(n:List UInt8)(k:Nat):a0j L.env d (sem L.env Mf) (.func (.func 48) [] []) [.agg [.str n,.int .u8 k]] H=some (.bool (b1r ⟨n,k⟩),H,[]):=a0l (by kernel_rfl) (by kernel_rfl) rfl (by rfl) (c96 n k) rfl
theorem c1q(H:a08)(c:Nat)(n:List UInt8)(d:Nat)(hc:a04 H c=some (.row 2 [[.str n,.int .u8 d]])):a0j L.env false (sem L.env Mf) (.func (.func 82) [] []) [.nilslice,.func (.func 83) [] [.ptr c 0 0]] H=some (.bool false,H,[c]):=by
 have hlt:=a0t hc;refine a6h [c] (by kernel_rfl) (by kernel_rfl) rfl ?_ rfl (by simpa using hlt) ?_ (args':=[.nilslice,.func (.func 83) [] [.ptr 0 0 0]]) ?_ (H0:=[some (.row 2 [[.str n,.int .u8 d]])]) (by simp[hc]) (d2b n d) rfl
 ·show a0h H 1000000 [c] []=_;exact a7n (by rw[hc];rfl)
 ·intro b hb;simp only[List.mem_singleton]at hb;subst hb;rw[hc];intro π;rfl
 ·simp[ren,b9b,a4d,a36,List.idxOf?_cons]
theorem c1p(H:a08)(a c:Nat)(n:List UInt8)(d:Nat)(l:List Sg)(hl:l.length≤100000)(hno:n∉l.map Sg.name)(ha:a04 H a=some (.row 2 (l.map Sg.enc)))(hc:a04 H c=some (.row 2 [[.str n,.int .u8 d]]))(hac:a≠c):a0j L.env false (sem L.env Mf) (.func (.func 82) [] []) [.slice a 0 l.length none,.func (.func 83) [] [.ptr c 0 0]] H=some (.bool false,H,[a,c]):=by
 have h1:=a0t ha;have h2:=a0t hc;refine a6h [a,c] (by kernel_rfl) (by kernel_rfl) rfl ?_ (by simp[a11,a19,a03,a06,hac.symm]) (by simp[h1,h2]) ?_ (args':=[.slice 0 0 l.length none,.func (.func 83) [] [.ptr 1 0 0]]) ?_ (H0:=[some (.row 2 (l.map Sg.enc)),some (.row 2 [[.str n,.int .u8 d]])]) (by simp[ha,hc]) (d2c n d l hl hno) rfl
 ·show a0h H 1000000 [a,c] []=_;exact b7u hac (by rw[ha];exact a01 (a0z l)) (by rw[hc];rfl)
 ·intro b hb;simp only[List.mem_cons,List.not_mem_nil,or_false]at hb;rcases hb with rfl|rfl
  ·rw[ha];exact FlatO.row (a0z l)
  ·rw[hc];intro π;rfl
 ·simp[ren,b9b,a4d,a36,List.idxOf?_cons,hac]
theorem d0n(sum:Int)(n:Nat)(R:List (List AV))(nm:List UInt8)(dr:Nat)(hdr:dr≤1)(hn:a43 nm=true)(hRl:R.length=n)(hn3:3≤n)(hRf:FlatR R)(hR1:R[1]?=some [.str nm])(hR2:R[2]?=some [.str (if dr=1 then[111,117,116]else[105,110])]) :
 ∃r:AV×a08,(∃c H1,r=(.tuple [],H1)∧a04 H1 0=some (.row 4 [[.slice c 0 (([]:List Sg).length+1) none,.nilslice,.nilslice,.int .i64 sum]])∧a04 H1 c=some (.row 2 ((([]:List Sg)++[⟨nm,dr⟩]:List Sg).map Sg.enc)))∧sem L.env Mf 65 [.ptr 0 0 0,.slice 1 0 3 (some n)] [some (.row 4 [[.nilslice,.nilslice,.nilslice,.int .i64 sum]]),some (.row 1 R)]=some r:=by
 have hmt:=λd H e=>a1b (d:=d) H e;have hsv:=λd H n k=>c0l (d:=d) H n k;have hok:∀d,d≤1→b1r ⟨nm,d⟩=true:=λd hd=>by simp[b1r,hn,hd]
 have r1:=λπ=>a02 π hRf;have r2:=a01 hRf;have l1:1<n:=by omega
 have l2:2<n:=by omega
 have hgv:=hok dr hdr;have b46:Nat.beq 46 82=false:=by decide
 by_cases hd:dr=1
 ·subst hd;rw[if_pos rfl]at hR2;have hcf:=c1q [some (.row 4 [[.nilslice,.nilslice,.nilslice,.int .i64 sum]]),some (.row 1 R),some (.row 2 [[.str nm,.int .u8 1]])] 2 nm 1 rfl;have hgv1:b1r ⟨nm,1⟩=true:=hgv;have hsv1:∀q H,a0j L.env q (sem L.env Mf) (.func (.func 48) [] []) [.agg [.str nm,.int .u8 1]] H=some (.bool true,H,[]):=λq H=>by have:=hsv q H nm 1;rw[hgv1]at this;exact this
  (refine svE Tryz.f65 ?_;simp only[Tryz.f65,gS])
  (repeat first|simp only[ww]|(apply xa;simp+decide only[go_sem,hmt,hsv1,hcf,l1,l2,hR1,hR2,hRl,b46];rfl;kernel_rfl))
  (apply a2v;(·simp+decide only[go_sem]<;>rfl))
  exact⟨_,_,rfl,rfl,rfl⟩
 ·obtain rfl:dr=0:=by omega
  rw[if_neg hd]at hR2;have hcf:=c1q [some (.row 4 [[.nilslice,.nilslice,.nilslice,.int .i64 sum]]),some (.row 1 R),some (.row 2 [[.str nm,.int .u8 0]])] 2 nm 0 rfl;have hgv1:b1r ⟨nm,0⟩=true:=hgv;have hsv1:∀q H,a0j L.env q (sem L.env Mf) (.func (.func 48) [] []) [.agg [.str nm,.int .u8 0]] H=some (.bool true,H,[]):=λq H=>by have:=hsv q H nm 0;rw[hgv1]at this;exact this
  (refine svE Tryz.f65 ?_;simp only[Tryz.f65,gS])
  (repeat first|simp only[ww]|(apply xa;simp+decide only[go_sem,hmt,hsv1,hcf,l1,l2,hR1,hR2,hRl,b46];rfl;kernel_rfl))
  (apply a2v;(·simp+decide only[go_sem]<;>rfl))
  exact⟨_,_,rfl,rfl,rfl⟩
theorem d0m(sum:Int)(n:Nat)(R:List (List AV))(nm:List UInt8)(dr:Nat)(hdr:dr≤1)(S:List Sg)(hne:S≠[])(hl:S.length<256)(hno:nm∉S.map Sg.name)(hn:a43 nm=true)(hRl:R.length=n)(hn3:3≤n)(hRf:FlatR R)(hR1:R[1]?=some [.str nm])(hR2:R[2]?=some [.str (if dr=1 then[111,117,116]else[105,110])]) :
 ∃r:AV×a08,(∃c H1,r=(.tuple [],H1)∧a04 H1 0=some (.row 4 [[.slice c 0 (S.length+1) none,.nilslice,.nilslice,.int .i64 sum]])∧a04 H1 c=some (.row 2 ((S++[⟨nm,dr⟩]:List Sg).map Sg.enc)))∧sem L.env Mf 65 [.ptr 0 0 0,.slice 2 0 3 (some n)] [some (.row 4 [[.slice 1 0 S.length none,.nilslice,.nilslice,.int .i64 sum]]),some (.row 2 (S.map Sg.enc)),some (.row 1 R)]=some r:=by
 have hmt:=λd H e=>a1b (d:=d) H e;have hsv:=λd H n k=>c0l (d:=d) H n k;have hok:∀d,d≤1→b1r ⟨nm,d⟩=true:=λd hd=>by simp[b1r,hn,hd]
 have r1:=λπ=>a02 π hRf;have r2:=a01 hRf;have l1:1<n:=by omega
 have l2:2<n:=by omega
 have hgv:=hok dr hdr;have b46:Nat.beq 46 82=false:=by decide
 have hSl:(S.map Sg.enc).length=S.length:=List.length_map ..;have hS1:=λπ=>a02 π (a0z S);have hS2:=a01 (a0z S);have c6:(S.length:Int)<256:=by omega
 have hrm:S.length+1≤1000000000:=by omega
 have hap:∀d:Nat,S.map Sg.enc++[[.str nm,.int .u8 (d:Int)]]=(S++[⟨nm,d⟩]:List Sg).map Sg.enc:=λd=>by simp
 by_cases hd:dr=1
 ·subst hd;rw[if_pos rfl]at hR2;have hcf:=c1p [some (.row 4 [[.slice 1 0 S.length none,.nilslice,.nilslice,.int .i64 sum]]),some (.row 2 (S.map Sg.enc)),some (.row 1 R),some (.row 2 [[.str nm,.int .u8 1]])] 1 3 nm 1 S (by omega) hno rfl rfl (by decide);have hgv1:b1r ⟨nm,1⟩=true:=hgv;have hsv1:∀q H,a0j L.env q (sem L.env Mf) (.func (.func 48) [] []) [.agg [.str nm,.int .u8 1]] H=some (.bool true,H,[]):=λq H=>by have:=hsv q H nm 1;rw[hgv1]at this;exact this
  (refine svE Tryz.f65 ?_;simp only[Tryz.f65,gS])
  (repeat first|simp only[ww]|(apply xa;simp+decide only[go_sem,hmt,hsv1,hcf,l1,l2,hR1,hR2,hRl,b46,hSl,c6,hrm];rfl;kernel_rfl))
  (apply a2v;(·simp+decide only[go_sem]<;>rfl))
  exact⟨_,_,rfl,rfl,by have:=hap 1;exact congrArg (λx=>some (AObj.row 2 x)) this⟩
 ·obtain rfl:dr=0:=by omega
  rw[if_neg hd]at hR2;have hcf:=c1p [some (.row 4 [[.slice 1 0 S.length none,.nilslice,.nilslice,.int .i64 sum]]),some (.row 2 (S.map Sg.enc)),some (.row 1 R),some (.row 2 [[.str nm,.int .u8 0]])] 1 3 nm 0 S (by omega) hno rfl rfl (by decide);have hgv1:b1r ⟨nm,0⟩=true:=hgv;have hsv1:∀q H,a0j L.env q (sem L.env Mf) (.func (.func 48) [] []) [.agg [.str nm,.int .u8 0]] H=some (.bool true,H,[]):=λq H=>by have:=hsv q H nm 0;rw[hgv1]at this;exact this
  (refine svE Tryz.f65 ?_;simp only[Tryz.f65,gS])
  (repeat first|simp only[ww]|(apply xa;simp+decide only[go_sem,hmt,hsv1,hcf,l1,l2,hR1,hR2,hRl,b46,hSl,c6,hrm];rfl;kernel_rfl))
  (apply a2v;(·simp+decide only[go_sem]<;>rfl))
  exact⟨_,_,rfl,rfl,by have:=hap 0;exact congrArg (λx=>some (AObj.row 2 x)) this⟩
end Go.RInst
