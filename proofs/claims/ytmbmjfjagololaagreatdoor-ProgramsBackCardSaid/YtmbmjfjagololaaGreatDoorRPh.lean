/- Part of a proof. No condition. -/
import Derived.Test.YtmbmjfjagololaaGreatDoorRPg
import Derived.Test.YtmbmjfjagololaaGreatDoorAxE
set_option linter.unusedSectionVars false
set_option linter.unusedSimpArgs false
set_option linter.unusedVariables false
namespace Go.RInst
open Go.Proofs Go.Ax Go.Pc
variable [PR]
set_option maxRecDepth 100000
theorem b7p:∀m:List (List UInt8),m.Pairwise (·≤ ·)→(∀k a b,m[k]?=some a→m[k+1]?=some b→¬b=a)→m.Nodup
 | [],_,_=>List.nodup_nil
 | [a],_,_=>by simp
 |a::b::r,hp,hd=>by
  have hp:=List.pairwise_cons.1 hp;have ih:=b7p (b::r) hp.2 λk x y h1 h2=>hd (k+1) x y (by simpa using h1) (by simpa using h2);have hab:¬b=a:=hd 0 a b rfl rfl;refine List.nodup_cons.2 ⟨λhm=>?_,ih⟩;have h1:a≤b:=hp.1 b (by simp);have h2:b≤a:=by
   rcases List.mem_cons.1 hm with h|h
   ·exact absurd h.symm hab
   ·exact(List.pairwise_cons.1 hp.2).1 a h
  exact hab (List.le_antisymm h2 h1)
theorem c4n(P:Nat→Prop):∀n:Nat,P n→∃j,P j∧∀k,k<j→¬P k:=by
 intro n
 induction n using Nat.strongRecOn with
 |_ n ih=>
  intro h;by_cases hk:∃k,k<n∧P k
  ·obtain⟨k,hk,hp⟩:=hk;exact ih k hk hp
  ·exact⟨n,h,λk hk' hp=>hk ⟨k,hk',hp⟩⟩
theorem c4u(l:List (List UInt8))(h:¬l.Nodup):∃j x,1≤j∧j<(a2i l).length∧(a2i l)[j-1]?=some x∧(a2i l)[j]?=some x∧∀k a b,k+1<j→(a2i l)[k]?=some a→(a2i l)[k+1]?=some b→¬b=a:=by
 have hn:¬(a2i l).Nodup:=λhn=>h ((a49 l).nodup hn);have hex:∃k,∃a,(a2i l)[k]?=some a∧(a2i l)[k+1]?=some a:=by apply Classical.byContradiction;intro hno;exact hn (b7p _ (a79 l) λk a b h1 h2 e=>hno ⟨k,a,h1,by rw[h2,e]⟩)
 obtain⟨k,hk⟩:=hex;obtain⟨j,⟨x,h1,h2⟩,hmin⟩:=c4n (λk=>∃a,(a2i l)[k]?=some a∧(a2i l)[k+1]?=some a) k hk;refine⟨j+1,x,by omega,(List.getElem?_eq_some_iff.1 h2).1,h1,h2,λk a b hk ha hb e=>?_⟩;exact hmin k (by omega) ⟨a,ha,by rw[hb,e]⟩
theorem c30(n:Nat)(l:List (List UInt8))(hn:l.length=n)(h0:0<n)(h1:n≤1000)(hd:¬l.Nodup):sem L.env Mf 51 [.slice 0 0 n none] [some (.row 1 (l.map stR))]=some (.bool true,[some (.row 1 (l.map stR))]):=by
 have hr:=λπ=>a02 π (a1g l);have hrf:=a01 (a1g l);have hfz:=λq d=>a13 q d (a1g l);have hl':(a2i l).length=n:=by rw[(a49 l).length_eq,hn]
 obtain⟨j,x,j1,j2,j3,j4,j5⟩:=c4u l hd;obtain⟨r,⟨i,R,hi,hRl,hR,rfl⟩,hc⟩:=b9q n (a2i l) hl' h1 j j1 (by omega) j5 x j3 j4;have k1:=b5i n l hn h0 h1;have k2:a0n L.env false (sem L.env Mf) (.func (.func 70) [] []) [.slice 2 0 n none] [some (.row 1 (l.map stR)),some (.row 1 []),some (.row 1 (l.map stR))]=some (.tuple [],[some (.row 1 (l.map stR)),some (.row 1 []),some (.row 1 ((a2i l).map stR))],[2]):=a10 (by kernel_rfl) (by kernel_rfl) rfl (b:=2) (o:=.row 1 (l.map stR)) (o':=.row 1 ((a2i l).map stR)) rfl (a0p (a1g l)) (FlatO.row (a1g l)) rfl rfl (c02 n l hn h0 h1) (FlatO.row (a1g _)) rfl;have k3:a0n L.env false (sem L.env Mf) (.func (.func 71) [] []) [.slice 2 0 n none] [some (.row 1 (l.map stR)),some (.row 1 []),some (.row 1 ((a2i l).map stR))]=some (.slice 2 0 i none,[some (.row 1 (l.map stR)),some (.row 1 []),some (.row 1 R)],[2]):=a10 (by kernel_rfl) (by kernel_rfl) rfl (b:=2) (o:=.row 1 ((a2i l).map stR)) (o':=.row 1 R) rfl (a0p (a1g _)) (FlatO.row (a1g _)) rfl rfl hc (FlatO.row hR) rfl;have l1:(i:Int)<n:=by omega
 (refine sv Tryz.f51 ?_;simp only[Tryz.f51,gS])
 (repeat first|simp only[ww]|(apply xa;simp+decide only[go_sem,k1,k2,k3,l1];rfl;kernel_rfl))
 (apply fqb;simp+decide only[go_sem,hr,hfz,hrf]<;>rfl)
theorem b12{d:Bool}(H:a09)(b:Nat)(ns:List (List UInt8))(hH:ns≠[]→a05 H b=some (.row 1 (ns.map stR)))(hn:ns.length≤1000):∃σ,a0n L.env d (sem L.env Mf) (.func (.func 51) [] []) [grV b (ns.map stR)] H=some (.bool (!decide ns.Nodup),H,σ):=by
 by_cases hd:ns.Nodup
 ·rw[decide_eq_true hd];exact a6d H b ns hH hn hd
 ·rw[decide_eq_false hd];cases ns with
  |nil=>exact absurd List.nodup_nil hd
  |cons a r=>refine⟨[b],?_⟩;rw[a0e b (by simp),List.length_map];exact a44 (by kernel_rfl) (by kernel_rfl) rfl (hH (by simp)) (a0p (a1g _)) (FlatO.row (a1g _)) rfl (b4r b 0 _ _▸rfl) (c30 (a::r).length (a::r) rfl (by simp) hn hd) rfl
end Go.RInst
namespace Go.RInst
set_option maxHeartbeats 200000000
open Go.Proofs Go.Ax Go.Pc
variable [PR]
set_option maxRecDepth 100000
def b76(S:List Sg)(T:List Tm)(V:List Vc):Int:=if 16<T.length then 3 else if(S.all a8k&&T.all a4r&&V.all λv=>a39 v S T.length)=false then 1 else if(!decide (S.map Sg.name).Nodup || !decide (T.map Tm.name).Nodup)=true then 5 else if 1000000<a19 V then 3 else 0
def a4e(V:List Vc)(i:Nat):Int:=if a19 (V.take i)<1000001 then a19 (V.take i)else 1000001
theorem c0y(V:List Vc):a4e V 0=0:=rfl
theorem b6t(V:List Vc)(i:Nat):a4e V i≤1000001:=by unfold a4e;split<;>omega
theorem c0x(V:List Vc){i:Nat}{v:Vc}(h:V[i]?=some v)(hr:1≤v.rep):(a4e V i+v.rep<1000001→a4e V (i+1)=a4e V i+v.rep)∧(1000001≤a4e V i+v.rep→a4e V (i+1)=1000001):=by have hs:=a81 V h;unfold a4e;rw[hs];split<;>split<;>(constructor<;>omega)
theorem b20(V:List Vc):(1000000<a4e V V.length↔1000000<a19 V):=by unfold a4e;rw[List.take_length];split<;>omega
theorem a8x{α:Type}{p:α→Bool}{l:List α}{i:Nat}{x:α}(h:l[i]?=some x)(hp:p x=false):l.all p=false:=by rw[Bool.eq_false_iff];intro ha;have:=List.all_eq_true.1 ha x (List.mem_of_getElem? h);rw[hp]at this;cases this
theorem a6x{α:Type}{p:α→Bool}{l:List α}{i:Nat}{x:α}(h:l[i]?=some x)(ha:(l.take i).all p=true)(hp:p x=true):(l.take (i+1)).all p=true:=by rw[a3y h,List.all_append,ha];simp[hp]
theorem d1b(S:List Sg)(T:List Tm)(V:List Vc)(h:16<T.length):b76 S T V=3:=if_pos h
theorem e0d(S:List Sg)(T:List Tm)(V:List Vc)(h:¬16<T.length)(hs:S.all a8k=false):b76 S T V=1:=by unfold b76;rw[if_neg h,hs];rfl
theorem d69(S:List Sg)(T:List Tm)(V:List Vc)(h:¬16<T.length)(hs:T.all a4r=false):b76 S T V=1:=by unfold b76;rw[if_neg h,hs,Bool.and_false];rfl
theorem c7d(S:List Sg)(T:List Tm)(V:List Vc)(h:¬16<T.length)(hs:(V.all λv=>a39 v S T.length)=false):b76 S T V=1:=by unfold b76;rw[if_neg h,hs,Bool.and_false];rfl
theorem c7e(S:List Sg)(T:List Tm)(V:List Vc)(h:¬16<T.length)(h1:S.all a8k=true)(h2:T.all a4r=true)(h3:(V.all λv=>a39 v S T.length)=true):b76 S T V=if(!decide (S.map Sg.name).Nodup || !decide (T.map Tm.name).Nodup)=true then 5 else if 1000000<a19 V then 3 else 0:=by unfold b76;rw[if_neg h,h1,h2,h3];rfl
theorem c51(rs rt rv:Option (Option Nat))(S:List Sg)(T:List Tm)(V:List Vc)(hS:S.length≤100)(hT:T.length≤100)(hV:V.length≤100):sem L.env Mf 21 [.agg [sl rs (S.map Sg.enc),sl rt (T.map Tm.enc),sl rv (V.map Vc.enc)]] []=some (.int .i64 (b76 S T V),[]):=by
 have c1:¬(256:Int)<S.length:=by omega
 have c3:¬(65536:Int)<V.length:=by omega
 have hsg:=λd H n k=>a0h (E:=L.env) (draw:=d) (call:=sem L.env Mf) (g:=48) (fs:=[]) (cs:=[]) (ar:=[.agg [.str n,.int .u8 (k:Nat)]]) (H:=H) (by kernel_rfl) (by kernel_rfl) rfl (by rfl) (c3a n k) rfl;have htm:=λd H t=>a0h (E:=L.env) (draw:=d) (call:=sem L.env Mf) (g:=49) (fs:=[]) (cs:=[]) (ar:=[.agg (Tm.enc t)]) (H:=H) (by kernel_rfl) (by kernel_rfl) rfl (by rfl) (b4k t) rfl;have hvc:=λd H v=>a0h (E:=L.env) (draw:=d) (call:=sem L.env Mf) (g:=50) (fs:=[]) (cs:=[]) (ar:=[.agg (Vc.enc v),.agg [sl rs (S.map Sg.enc),sl rt (T.map Tm.enc),sl rv (V.map Vc.enc)]]) (H:=H) (by kernel_rfl) (by kernel_rfl) rfl (by simp+decide only[go_sem]<;>rfl) (c2o v rs rt S T (sl rv (V.map Vc.enc)) (by simp+decide only[go_sem]) (by simp+decide only[go_sem]) (by omega)) rfl;by_cases hT16:16<T.length
 ·have c2:(16:Int)<T.length:=by omega
  rw[d1b S T V hT16]
  (refine sv Tryz.f21 ?_;simp only[Tryz.f21,gS])
  (repeat first|simp only[ww]|(apply xa;simp+decide only[go_sem,c1,c2,c3,List.length_map];rfl;kernel_rfl))
  (apply fqb;simp+decide only[go_sem]<;>rfl)
 have c2:¬(16:Int)<T.length:=by omega
 (refine sv Tryz.f21 ?_;simp only[Tryz.f21,gS])
 (repeat first|simp only[ww]|(apply xa;simp+decide only[go_sem,c1,c2,c3,List.length_map];rfl;kernel_rfl))
 refine a0i (σ:=Nat) kp21_0 (λi=>[(1,.ptr 0 0 0),(3,grV 1 ((S.take i).map snR)),(4,.nilslice),(29,sl rs (S.map Sg.enc)),(30,.int .i64 S.length),(31,.int .i64 (i:Nat))]) (λi=>some (.row 3 [[sl rs (S.map Sg.enc),sl rt (T.map Tm.enc),sl rv (V.map Vc.enc)]])::grH 1 ((S.take i).map snR)) (λi=>S.length-i) (λi=>i≤S.length∧(S.take i).all a8k=true) 0 ?_ ⟨Nat.zero_le _,rfl⟩ ?_
 ·(simp+decide only[go_sem,a08,a03,List.take_zero,List.map_nil,a0a,a0b]<;>rfl)
 ·rintro i ⟨hi,hall⟩
  by_cases hlt:i<S.length
  ·have l1:(i:Int)<S.length:=by omega
   obtain⟨s,hs⟩:∃s,S[i]?=some s:=⟨_,z9e hlt⟩
   have hval:=hsg;have hsm:(S.map Sg.enc)[i]?=some (Sg.enc s):=by rw[List.getElem?_map,hs];rfl
   by_cases hv1:a8k ⟨s.name,s.dir⟩=true
   case neg=>
    have hv2:a8k ⟨s.name,s.dir⟩=false:=by simpa using hv1
    rw[e0d S T V hT16 (a8x hs hv2)];by_cases hz:(S.take i).map snR=[]
    ·rw[hz];simp only[a0a,a0b]
     (repeat first|simp only[ww]|(apply xa;simp+decide only[go_sem,l1,hlt,hsm,hval,hv2,List.length_map];rfl;kernel_rfl))
     (apply fqb;simp+decide only[go_sem]<;>rfl)
    ·rw[a0e 1 hz,a0j 1 hz]
     (repeat first|simp only[ww]|(apply xa;simp+decide only[go_sem,l1,hlt,hsm,hval,hv2,List.length_map];rfl;kernel_rfl))
     (apply fqb;simp+decide only[go_sem]<;>rfl)
   have hall1:=a6x hs hall hv1;have hw:IntKind.i64.wrap ((i:Int)+1)=((i+1:Nat):Int):=by rw[w64 (by omega) (by omega)];omega
   have hsr:(S.take (i+1)).map snR=(S.take i).map snR++[[.str s.name]]:=by rw[a3y hs,List.map_append];rfl
   have h5:=a01 (a5i (S.take (i+1)));have h6:=λπ=>a02 π (a5i (S.take (i+1)));have hlen:((S.take i).map snR).length=i:=by rw[List.length_map,List.length_take];omega
   have hrm:i+1≤1000000000:=by omega
   by_cases hk:i=0
   ·subst hk;have e0:(S.take 0).map snR=[]:=rfl;rw[e0]at hsr⊢;simp only[List.nil_append]at hsr
    (repeat first|simp only[ww]|(apply xa;simp+decide only[go_sem,l1,hlt,hsm,hval,hv1,hw,List.length_map,a0a,a0b];rfl;kernel_rfl))
    refine a1s (0+1) ?_ (by omega) ⟨by omega,hall1⟩
    (simp+decide only[go_sem,a08,a03,hsr,a1l,a1i,List.length_nil]<;>rfl)
   ·have hne:(S.take i).map snR≠[]:=by intro e;rw[e]at hlen;simp at hlen;omega
    rw[a0e 1 hne,a0j 1 hne,hlen];rw[hsr]at h5 h6;generalize(S.take i).map snR=R at hsr hlen h5 h6
    (repeat first|simp only[ww]|(apply xa;simp+decide only[go_sem,l1,hlt,hsm,hval,hv1,hw,hlen,hrm,List.length_map];rfl;kernel_rfl))
    refine a1s (i+1) ?_ (by omega) ⟨by omega,hall1⟩
    (simp+decide only[go_sem,a08,a03,hsr,a23,a24,h5,h6,hlen]<;>rfl)
  ·obtain rfl:i=S.length:=by omega
   have l1:¬(S.length:Int)<S.length:=by omega
   have hf1:=a01 (a5i S);have hf2:=λπ=>a02 π (a5i S);rw[List.take_length]at hall⊢;have hallS:=hall;by_cases hk:S=[]
   ·have e1:S.map snR=[]:=by rw[hk];rfl
    rw[e1];simp only[a0a,a0b]
    (repeat first|simp only[ww]|(apply xa;simp+decide only[go_sem,l1,List.length_map];rfl;kernel_rfl))
    refine a0i (σ:=Nat) kp21_2 (λi=>[(1,.ptr 0 0 0),(3,.nilslice),(4,grV 1 ((T.take i).map tnR)),(45,sl rt (T.map Tm.enc)),(46,.int .i64 T.length),(47,.int .i64 (i:Nat))]) (λi=>some (.row 3 [[sl rs (S.map Sg.enc),sl rt (T.map Tm.enc),sl rv (V.map Vc.enc)]])::grH 1 ((T.take i).map tnR)) (λi=>T.length-i) (λi=>i≤T.length∧(T.take i).all a4r=true) 0 ?_ ⟨Nat.zero_le _,rfl⟩ ?_
    ·(simp+decide only[go_sem,a08,a03,List.take_zero,List.map_nil,a0a,a0b]<;>rfl)
    ·rintro i ⟨hi,hall⟩
     by_cases hlt:i<T.length
     ·have l1:(i:Int)<T.length:=by omega
      obtain⟨t,hs⟩:∃t,T[i]?=some t:=⟨_,z9e hlt⟩
      have hval:=htm;have hsm:(T.map Tm.enc)[i]?=some (Tm.enc t):=by rw[List.getElem?_map,hs];rfl
      by_cases hv1:a4r t=true
      case neg=>
       have hv2:a4r t=false:=by simpa using hv1
       rw[d69 S T V hT16 (a8x hs hv2)];by_cases hz:(T.take i).map tnR=[]
       ·rw[hz];simp only[a0a,a0b]
        (repeat first|simp only[ww]|(apply xa;simp+decide only[go_sem,l1,hlt,hsm,hval,hv2,List.length_map];rfl;kernel_rfl))
        (apply fqb;simp+decide only[go_sem]<;>rfl)
       ·rw[a0e 1 hz,a0j 1 hz]
        (repeat first|simp only[ww]|(apply xa;simp+decide only[go_sem,l1,hlt,hsm,hval,hv2,List.length_map];rfl;kernel_rfl))
        (apply fqb;simp+decide only[go_sem]<;>rfl)
      have hall1:=a6x hs hall hv1;have hw:IntKind.i64.wrap ((i:Int)+1)=((i+1:Nat):Int):=by rw[w64 (by omega) (by omega)];omega
      have hsr:(T.take (i+1)).map tnR=(T.take i).map tnR++[[.str t.name]]:=by rw[a3y hs,List.map_append];rfl
      have h5:=a01 (a2o (T.take (i+1)));have h6:=λπ=>a02 π (a2o (T.take (i+1)));have hlen:((T.take i).map tnR).length=i:=by rw[List.length_map,List.length_take];omega
      have hrm:i+1≤1000000000:=by omega
      by_cases hk:i=0
      ·subst hk;have e0:(T.take 0).map tnR=[]:=rfl;rw[e0]at hsr⊢;simp only[List.nil_append]at hsr
       (repeat first|simp only[ww]|(apply xa;simp+decide only[go_sem,l1,hlt,hsm,hval,hv1,hw,List.length_map,a0a,a0b];rfl;kernel_rfl))
       refine a1s (0+1) ?_ (by omega) ⟨by omega,hall1⟩
       (simp+decide only[go_sem,a08,a03,hsr,a1l,a1i,List.length_nil]<;>rfl)
      ·have hne:(T.take i).map tnR≠[]:=by intro e;rw[e]at hlen;simp at hlen;omega
       rw[a0e 1 hne,a0j 1 hne,hlen];rw[hsr]at h5 h6;generalize(T.take i).map tnR=R at hsr hlen h5 h6
       (repeat first|simp only[ww]|(apply xa;simp+decide only[go_sem,l1,hlt,hsm,hval,hv1,hw,hlen,hrm,List.length_map];rfl;kernel_rfl))
       refine a1s (i+1) ?_ (by omega) ⟨by omega,hall1⟩
       (simp+decide only[go_sem,a08,a03,hsr,a23,a24,h5,h6,hlen]<;>rfl)
     ·obtain rfl:i=T.length:=by omega
      have l2:¬(T.length:Int)<T.length:=by omega
      have hg1:=a01 (a2o T);have hg2:=λπ=>a02 π (a2o T);rw[List.take_length]at hall⊢;have hallT:=hall;by_cases hkT:T=[]
      ·have e2:T.map tnR=[]:=by rw[hkT];rfl
       rw[e2];simp only[a0a,a0b]
       (repeat first|simp only[ww]|(apply xa;simp+decide only[go_sem,l2,List.length_map];rfl;kernel_rfl))
       refine a0i (σ:=Nat) kp21_4 (λi=>[(1,.ptr 0 0 0),(3,.nilslice),(4,.nilslice),(9,.int .i64 (a4e V i)),(61,sl rv (V.map Vc.enc)),(62,.int .i64 V.length),(63,.int .i64 (i:Nat))]) (λ_=>[some (.row 3 [[sl rs (S.map Sg.enc),sl rt (T.map Tm.enc),sl rv (V.map Vc.enc)]])]) (λi=>V.length-i) (λi=>i≤V.length∧((V.take i).all λv=>a39 v S T.length)=true∧0≤a4e V i) 0 ?_ ⟨Nat.zero_le _,rfl,Int.le_refl _⟩ ?_
       ·have e0:=c0y V
        (simp+decide only[go_sem,a08,a03,e0]<;>rfl)
       ·rintro i ⟨hi,hall,hc0⟩
        have hcl:=b6t V i;by_cases hlt:i<V.length
        ·have l3:(i:Int)<V.length:=by omega
         obtain⟨v,hs⟩:∃v,V[i]?=some v:=⟨_,z9e hlt⟩
         have hsm:(V.map Vc.enc)[i]?=some (Vc.enc v):=by rw[List.getElem?_map,hs];rfl
         by_cases hv1:a39 v S T.length=true
         case neg=>
          have hv2:a39 v S T.length=false:=by simpa using hv1
          rw[c7d S T V hT16 (a8x hs hv2)]
          (repeat first|simp only[ww]|(apply xa;simp+decide only[go_sem,l3,hlt,hsm,hvc,hv2,List.length_map];rfl;kernel_rfl))
          (apply fqb;simp+decide only[go_sem]<;>rfl)
         have hall1:=a6x (p:=λv=>a39 v S T.length) hs hall hv1;have hw:IntKind.i64.wrap ((i:Int)+1)=((i+1:Nat):Int):=by rw[w64 (by omega) (by omega)];omega
         have hrp:1≤v.rep∧v.rep≤1000000:=by simp only[a39,Bool.and_eq_true,decide_eq_true_eq]at hv1;exact⟨hv1.2.2.1,hv1.2.2.2.1⟩
         have hcs:=c0x V hs hrp.1;have hw2:IntKind.i64.wrap (a4e V i+v.rep)=a4e V i+v.rep:=w64 (by omega) (by omega);by_cases hM:a4e V i+v.rep<1000001
         ·have hmn2:¬(1000001:Int)<a4e V i+v.rep:=by omega
          have hmn3:a4e V i+v.rep≤1000001:=by omega
          have hce:=hcs.1 hM
          (repeat first|simp only[ww]|(apply xa;simp+decide only[go_sem,l3,hlt,hsm,hvc,hv1,hw,hw2,hM,hmn2,hmn3,List.length_map];rfl;kernel_rfl))
          refine a1s (i+1) ?_ (by omega) ⟨by omega,hall1,by omega⟩
          (simp+decide only[go_sem,a08,a03,hce]<;>rfl)
         ·have hce:=hcs.2 (by omega);by_cases hM2:a4e V i+v.rep=1000001
          ·(repeat first|simp only[ww]|(apply xa;simp+decide only[go_sem,l3,hlt,hsm,hvc,hv1,hw,hw2,hM2,List.length_map];rfl;kernel_rfl))
           refine a1s (i+1) ?_ (by omega) ⟨by omega,hall1,by omega⟩
           (simp+decide only[go_sem,a08,a03,hce]<;>rfl)
          ·have hmn2:(1000001:Int)<a4e V i+v.rep:=by omega
           have hmn3:¬a4e V i+v.rep≤1000001:=by omega
           (repeat first|simp only[ww]|(apply xa;simp+decide only[go_sem,l3,hlt,hsm,hvc,hv1,hw,hw2,hM,hmn2,hmn3,List.length_map];rfl;kernel_rfl))
           refine a1s (i+1) ?_ (by omega) ⟨by omega,hall1,by omega⟩
           (simp+decide only[go_sem,a08,a03,hce]<;>rfl)
        ·obtain rfl:i=V.length:=by omega
         have l3:¬(V.length:Int)<V.length:=by omega
         rw[List.take_length]at hall;have hce:=b20 V;rw[c7e S T V hT16 hallS hallT hall];obtain⟨σ1,w1⟩:=b12 (d:=false) [some (.row 3 [[sl rs (S.map Sg.enc),sl rt (T.map Tm.enc),sl rv (V.map Vc.enc)]])] 1 (S.map Sg.name) (λhh=>absurd (by rw[hk];rfl) hh) (by rw[List.length_map];omega);obtain⟨σ2,w2⟩:=b12 (d:=false) [some (.row 3 [[sl rs (S.map Sg.enc),sl rt (T.map Tm.enc),sl rv (V.map Vc.enc)]])] 1 (T.map Tm.name) (λhh=>absurd (by rw[hkT];rfl) hh) (by rw[List.length_map];omega);rw[←a4v]at w1;rw[←a4t]at w2;rw[e1,a0a]at w1;rw[e2,a0a]at w2;have d1:decide (S.map Sg.name).Nodup=true:=decide_eq_true (by rw[hk];exact List.nodup_nil);have d2:decide (T.map Tm.name).Nodup=true:=decide_eq_true (by rw[hkT];exact List.nodup_nil);rw[d1]at w1⊢;rw[d2]at w2⊢;by_cases hsu:1000000<a19 V
         ·have l4:=hce.2 hsu;rw[if_pos hsu]
          (repeat first|simp only[ww]|(apply xa;simp+decide only[go_sem,l3,l4,w1,w2,List.length_map];rfl;kernel_rfl))
          (apply fqb;simp+decide only[go_sem]<;>rfl)
         ·have l4:¬1000000<a4e V V.length:=λh=>hsu (hce.1 h);rw[if_neg hsu]
          (repeat first|simp only[ww]|(apply xa;simp+decide only[go_sem,l3,l4,w1,w2,List.length_map];rfl;kernel_rfl))
          (apply fqb;simp+decide only[go_sem]<;>rfl)
      ·have hneT:T.map tnR≠[]:=by simpa using hkT
       rw[a0e 1 hneT,a0j 1 hneT,List.length_map]
       (repeat first|simp only[ww]|(apply xa;simp+decide only[go_sem,l2,List.length_map];rfl;kernel_rfl))
       refine a0i (σ:=Nat) kp21_4 (λi=>[(1,.ptr 0 0 0),(3,.nilslice),(4,.slice 1 0 T.length none),(9,.int .i64 (a4e V i)),(61,sl rv (V.map Vc.enc)),(62,.int .i64 V.length),(63,.int .i64 (i:Nat))]) (λ_=>[some (.row 3 [[sl rs (S.map Sg.enc),sl rt (T.map Tm.enc),sl rv (V.map Vc.enc)]]),some (.row 1 (T.map tnR))]) (λi=>V.length-i) (λi=>i≤V.length∧((V.take i).all λv=>a39 v S T.length)=true∧0≤a4e V i) 0 ?_ ⟨Nat.zero_le _,rfl,Int.le_refl _⟩ ?_
       ·have e0:=c0y V
        (simp+decide only[go_sem,a08,a03,e0,hg1,hg2]<;>rfl)
       ·rintro i ⟨hi,hall,hc0⟩
        have hcl:=b6t V i;by_cases hlt:i<V.length
        ·have l3:(i:Int)<V.length:=by omega
         obtain⟨v,hs⟩:∃v,V[i]?=some v:=⟨_,z9e hlt⟩
         have hsm:(V.map Vc.enc)[i]?=some (Vc.enc v):=by rw[List.getElem?_map,hs];rfl
         by_cases hv1:a39 v S T.length=true
         case neg=>
          have hv2:a39 v S T.length=false:=by simpa using hv1
          rw[c7d S T V hT16 (a8x hs hv2)]
          (repeat first|simp only[ww]|(apply xa;simp+decide only[go_sem,l3,hlt,hsm,hvc,hv2,List.length_map,hg1,hg2];rfl;kernel_rfl))
          (apply fqb;simp+decide only[go_sem,hg1,hg2]<;>rfl)
         have hall1:=a6x (p:=λv=>a39 v S T.length) hs hall hv1;have hw:IntKind.i64.wrap ((i:Int)+1)=((i+1:Nat):Int):=by rw[w64 (by omega) (by omega)];omega
         have hrp:1≤v.rep∧v.rep≤1000000:=by simp only[a39,Bool.and_eq_true,decide_eq_true_eq]at hv1;exact⟨hv1.2.2.1,hv1.2.2.2.1⟩
         have hcs:=c0x V hs hrp.1;have hw2:IntKind.i64.wrap (a4e V i+v.rep)=a4e V i+v.rep:=w64 (by omega) (by omega);by_cases hM:a4e V i+v.rep<1000001
         ·have hmn2:¬(1000001:Int)<a4e V i+v.rep:=by omega
          have hmn3:a4e V i+v.rep≤1000001:=by omega
          have hce:=hcs.1 hM
          (repeat first|simp only[ww]|(apply xa;simp+decide only[go_sem,l3,hlt,hsm,hvc,hv1,hw,hw2,hM,hmn2,hmn3,List.length_map,hg1,hg2];rfl;kernel_rfl))
          refine a1s (i+1) ?_ (by omega) ⟨by omega,hall1,by omega⟩
          (simp+decide only[go_sem,a08,a03,hce,hg1,hg2]<;>rfl)
         ·have hce:=hcs.2 (by omega);by_cases hM2:a4e V i+v.rep=1000001
          ·(repeat first|simp only[ww]|(apply xa;simp+decide only[go_sem,l3,hlt,hsm,hvc,hv1,hw,hw2,hM2,List.length_map,hg1,hg2];rfl;kernel_rfl))
           refine a1s (i+1) ?_ (by omega) ⟨by omega,hall1,by omega⟩
           (simp+decide only[go_sem,a08,a03,hce,hg1,hg2]<;>rfl)
          ·have hmn2:(1000001:Int)<a4e V i+v.rep:=by omega
           have hmn3:¬a4e V i+v.rep≤1000001:=by omega
           (repeat first|simp only[ww]|(apply xa;simp+decide only[go_sem,l3,hlt,hsm,hvc,hv1,hw,hw2,hM,hmn2,hmn3,List.length_map,hg1,hg2];rfl;kernel_rfl))
           refine a1s (i+1) ?_ (by omega) ⟨by omega,hall1,by omega⟩
           (simp+decide only[go_sem,a08,a03,hce,hg1,hg2]<;>rfl)
        ·obtain rfl:i=V.length:=by omega
         have l3:¬(V.length:Int)<V.length:=by omega
         rw[List.take_length]at hall;have hce:=b20 V;rw[c7e S T V hT16 hallS hallT hall];obtain⟨σ1,w1⟩:=b12 (d:=false) [some (.row 3 [[sl rs (S.map Sg.enc),sl rt (T.map Tm.enc),sl rv (V.map Vc.enc)]]),some (.row 1 (T.map tnR))] 1 (S.map Sg.name) (λhh=>absurd (by rw[hk];rfl) hh) (by rw[List.length_map];omega);obtain⟨σ2,w2⟩:=b12 (d:=false) [some (.row 3 [[sl rs (S.map Sg.enc),sl rt (T.map Tm.enc),sl rv (V.map Vc.enc)]]),some (.row 1 (T.map tnR))] 1 (T.map Tm.name) (λhh=>by rw[←a4t];rfl) (by rw[List.length_map];omega);rw[←a4v]at w1;rw[←a4t]at w2;rw[e1,a0a]at w1;rw[a0e 1 hneT,List.length_map]at w2;generalize decide (S.map Sg.name).Nodup=p1 at *;generalize decide (T.map Tm.name).Nodup=p2 at *;cases p1
         ·(repeat first|simp only[ww]|(apply xa;simp+decide only[go_sem,l3,w1,w2,List.length_map,hg1,hg2];rfl;kernel_rfl))
          (apply fqb;simp+decide only[go_sem,hg1,hg2]<;>rfl)
         ·cases p2
          ·(repeat first|simp only[ww]|(apply xa;simp+decide only[go_sem,l3,w1,w2,List.length_map,hg1,hg2];rfl;kernel_rfl))
           (apply fqb;simp+decide only[go_sem,hg1,hg2]<;>rfl)
          ·by_cases hsu:1000000<a19 V
           ·have l4:=hce.2 hsu;rw[if_pos hsu]
            (repeat first|simp only[ww]|(apply xa;simp+decide only[go_sem,l3,l4,w1,w2,List.length_map,hg1,hg2];rfl;kernel_rfl))
            (apply fqb;simp+decide only[go_sem,hg1,hg2]<;>rfl)
           ·have l4:¬1000000<a4e V V.length:=λh=>hsu (hce.1 h);rw[if_neg hsu]
            (repeat first|simp only[ww]|(apply xa;simp+decide only[go_sem,l3,l4,w1,w2,List.length_map,hg1,hg2];rfl;kernel_rfl))
            (apply fqb;simp+decide only[go_sem,hg1,hg2]<;>rfl)
   ·have hne:S.map snR≠[]:=by simpa using hk
    rw[a0e 1 hne,a0j 1 hne,List.length_map]
    (repeat first|simp only[ww]|(apply xa;simp+decide only[go_sem,l1,List.length_map];rfl;kernel_rfl))
    refine a0i (σ:=Nat) kp21_2 (λi=>[(1,.ptr 0 0 0),(3,.slice 1 0 S.length none),(4,grV 2 ((T.take i).map tnR)),(45,sl rt (T.map Tm.enc)),(46,.int .i64 T.length),(47,.int .i64 (i:Nat))]) (λi=>some (.row 3 [[sl rs (S.map Sg.enc),sl rt (T.map Tm.enc),sl rv (V.map Vc.enc)]])::some (.row 1 (S.map snR))::grH 1 ((T.take i).map tnR)) (λi=>T.length-i) (λi=>i≤T.length∧(T.take i).all a4r=true) 0 ?_ ⟨Nat.zero_le _,rfl⟩ ?_
    ·(simp+decide only[go_sem,a08,a03,List.take_zero,List.map_nil,a0a,a0b,hf1,hf2]<;>rfl)
    ·rintro i ⟨hi,hall⟩
     by_cases hlt:i<T.length
     ·have l1:(i:Int)<T.length:=by omega
      obtain⟨t,hs⟩:∃t,T[i]?=some t:=⟨_,z9e hlt⟩
      have hval:=htm;have hsm:(T.map Tm.enc)[i]?=some (Tm.enc t):=by rw[List.getElem?_map,hs];rfl
      by_cases hv1:a4r t=true
      case neg=>
       have hv2:a4r t=false:=by simpa using hv1
       rw[d69 S T V hT16 (a8x hs hv2)];by_cases hz:(T.take i).map tnR=[]
       ·rw[hz];simp only[a0a,a0b]
        (repeat first|simp only[ww]|(apply xa;simp+decide only[go_sem,l1,hlt,hsm,hval,hv2,List.length_map,hf1,hf2];rfl;kernel_rfl))
        (apply fqb;simp+decide only[go_sem,hf1,hf2]<;>rfl)
       ·rw[a0e 2 hz,a0j 1 hz]
        (repeat first|simp only[ww]|(apply xa;simp+decide only[go_sem,l1,hlt,hsm,hval,hv2,List.length_map,hf1,hf2];rfl;kernel_rfl))
        (apply fqb;simp+decide only[go_sem,hf1,hf2]<;>rfl)
      have hall1:=a6x hs hall hv1;have hw:IntKind.i64.wrap ((i:Int)+1)=((i+1:Nat):Int):=by rw[w64 (by omega) (by omega)];omega
      have hsr:(T.take (i+1)).map tnR=(T.take i).map tnR++[[.str t.name]]:=by rw[a3y hs,List.map_append];rfl
      have h5:=a01 (a2o (T.take (i+1)));have h6:=λπ=>a02 π (a2o (T.take (i+1)));have hlen:((T.take i).map tnR).length=i:=by rw[List.length_map,List.length_take];omega
      have hrm:i+1≤1000000000:=by omega
      by_cases hk:i=0
      ·subst hk;have e0:(T.take 0).map tnR=[]:=rfl;rw[e0]at hsr⊢;simp only[List.nil_append]at hsr
       (repeat first|simp only[ww]|(apply xa;simp+decide only[go_sem,l1,hlt,hsm,hval,hv1,hw,List.length_map,a0a,a0b,hf1,hf2];rfl;kernel_rfl))
       refine a1s (0+1) ?_ (by omega) ⟨by omega,hall1⟩
       (simp+decide only[go_sem,a08,a03,hsr,a1l,a1i,List.length_nil,hf1,hf2]<;>rfl)
      ·have hne:(T.take i).map tnR≠[]:=by intro e;rw[e]at hlen;simp at hlen;omega
       rw[a0e 2 hne,a0j 1 hne,hlen];rw[hsr]at h5 h6;generalize(T.take i).map tnR=R at hsr hlen h5 h6
       (repeat first|simp only[ww]|(apply xa;simp+decide only[go_sem,l1,hlt,hsm,hval,hv1,hw,hlen,hrm,List.length_map,hf1,hf2];rfl;kernel_rfl))
       refine a1s (i+1) ?_ (by omega) ⟨by omega,hall1⟩
       (simp+decide only[go_sem,a08,a03,hsr,a23,a24,h5,h6,hlen,hf1,hf2]<;>rfl)
     ·obtain rfl:i=T.length:=by omega
      have l2:¬(T.length:Int)<T.length:=by omega
      have hg1:=a01 (a2o T);have hg2:=λπ=>a02 π (a2o T);rw[List.take_length]at hall⊢;have hallT:=hall;by_cases hkT:T=[]
      ·have e2:T.map tnR=[]:=by rw[hkT];rfl
       rw[e2];simp only[a0a,a0b]
       (repeat first|simp only[ww]|(apply xa;simp+decide only[go_sem,l2,List.length_map,hf1,hf2];rfl;kernel_rfl))
       refine a0i (σ:=Nat) kp21_4 (λi=>[(1,.ptr 0 0 0),(3,.slice 1 0 S.length none),(4,.nilslice),(9,.int .i64 (a4e V i)),(61,sl rv (V.map Vc.enc)),(62,.int .i64 V.length),(63,.int .i64 (i:Nat))]) (λ_=>[some (.row 3 [[sl rs (S.map Sg.enc),sl rt (T.map Tm.enc),sl rv (V.map Vc.enc)]]),some (.row 1 (S.map snR))]) (λi=>V.length-i) (λi=>i≤V.length∧((V.take i).all λv=>a39 v S T.length)=true∧0≤a4e V i) 0 ?_ ⟨Nat.zero_le _,rfl,Int.le_refl _⟩ ?_
       ·have e0:=c0y V
        (simp+decide only[go_sem,a08,a03,e0,hf1,hf2]<;>rfl)
       ·rintro i ⟨hi,hall,hc0⟩
        have hcl:=b6t V i;by_cases hlt:i<V.length
        ·have l3:(i:Int)<V.length:=by omega
         obtain⟨v,hs⟩:∃v,V[i]?=some v:=⟨_,z9e hlt⟩
         have hsm:(V.map Vc.enc)[i]?=some (Vc.enc v):=by rw[List.getElem?_map,hs];rfl
         by_cases hv1:a39 v S T.length=true
         case neg=>
          have hv2:a39 v S T.length=false:=by simpa using hv1
          rw[c7d S T V hT16 (a8x hs hv2)]
          (repeat first|simp only[ww]|(apply xa;simp+decide only[go_sem,l3,hlt,hsm,hvc,hv2,List.length_map,hf1,hf2];rfl;kernel_rfl))
          (apply fqb;simp+decide only[go_sem,hf1,hf2]<;>rfl)
         have hall1:=a6x (p:=λv=>a39 v S T.length) hs hall hv1;have hw:IntKind.i64.wrap ((i:Int)+1)=((i+1:Nat):Int):=by rw[w64 (by omega) (by omega)];omega
         have hrp:1≤v.rep∧v.rep≤1000000:=by simp only[a39,Bool.and_eq_true,decide_eq_true_eq]at hv1;exact⟨hv1.2.2.1,hv1.2.2.2.1⟩
         have hcs:=c0x V hs hrp.1;have hw2:IntKind.i64.wrap (a4e V i+v.rep)=a4e V i+v.rep:=w64 (by omega) (by omega);by_cases hM:a4e V i+v.rep<1000001
         ·have hmn2:¬(1000001:Int)<a4e V i+v.rep:=by omega
          have hmn3:a4e V i+v.rep≤1000001:=by omega
          have hce:=hcs.1 hM
          (repeat first|simp only[ww]|(apply xa;simp+decide only[go_sem,l3,hlt,hsm,hvc,hv1,hw,hw2,hM,hmn2,hmn3,List.length_map,hf1,hf2];rfl;kernel_rfl))
          refine a1s (i+1) ?_ (by omega) ⟨by omega,hall1,by omega⟩
          (simp+decide only[go_sem,a08,a03,hce,hf1,hf2]<;>rfl)
         ·have hce:=hcs.2 (by omega);by_cases hM2:a4e V i+v.rep=1000001
          ·(repeat first|simp only[ww]|(apply xa;simp+decide only[go_sem,l3,hlt,hsm,hvc,hv1,hw,hw2,hM2,List.length_map,hf1,hf2];rfl;kernel_rfl))
           refine a1s (i+1) ?_ (by omega) ⟨by omega,hall1,by omega⟩
           (simp+decide only[go_sem,a08,a03,hce,hf1,hf2]<;>rfl)
          ·have hmn2:(1000001:Int)<a4e V i+v.rep:=by omega
           have hmn3:¬a4e V i+v.rep≤1000001:=by omega
           (repeat first|simp only[ww]|(apply xa;simp+decide only[go_sem,l3,hlt,hsm,hvc,hv1,hw,hw2,hM,hmn2,hmn3,List.length_map,hf1,hf2];rfl;kernel_rfl))
           refine a1s (i+1) ?_ (by omega) ⟨by omega,hall1,by omega⟩
           (simp+decide only[go_sem,a08,a03,hce,hf1,hf2]<;>rfl)
        ·obtain rfl:i=V.length:=by omega
         have l3:¬(V.length:Int)<V.length:=by omega
         rw[List.take_length]at hall;have hce:=b20 V;rw[c7e S T V hT16 hallS hallT hall];obtain⟨σ1,w1⟩:=b12 (d:=false) [some (.row 3 [[sl rs (S.map Sg.enc),sl rt (T.map Tm.enc),sl rv (V.map Vc.enc)]]),some (.row 1 (S.map snR))] 1 (S.map Sg.name) (λhh=>by rw[←a4v];rfl) (by rw[List.length_map];omega);obtain⟨σ2,w2⟩:=b12 (d:=false) [some (.row 3 [[sl rs (S.map Sg.enc),sl rt (T.map Tm.enc),sl rv (V.map Vc.enc)]]),some (.row 1 (S.map snR))] 2 (T.map Tm.name) (λhh=>absurd (by rw[hkT];rfl) hh) (by rw[List.length_map];omega);rw[←a4v]at w1;rw[←a4t]at w2;rw[a0e 1 hne,List.length_map]at w1;rw[e2,a0a]at w2;generalize decide (S.map Sg.name).Nodup=p1 at *;generalize decide (T.map Tm.name).Nodup=p2 at *;cases p1
         ·(repeat first|simp only[ww]|(apply xa;simp+decide only[go_sem,l3,w1,w2,List.length_map,hf1,hf2];rfl;kernel_rfl))
          (apply fqb;simp+decide only[go_sem,hf1,hf2]<;>rfl)
         ·cases p2
          ·(repeat first|simp only[ww]|(apply xa;simp+decide only[go_sem,l3,w1,w2,List.length_map,hf1,hf2];rfl;kernel_rfl))
           (apply fqb;simp+decide only[go_sem,hf1,hf2]<;>rfl)
          ·by_cases hsu:1000000<a19 V
           ·have l4:=hce.2 hsu;rw[if_pos hsu]
            (repeat first|simp only[ww]|(apply xa;simp+decide only[go_sem,l3,l4,w1,w2,List.length_map,hf1,hf2];rfl;kernel_rfl))
            (apply fqb;simp+decide only[go_sem,hf1,hf2]<;>rfl)
           ·have l4:¬1000000<a4e V V.length:=λh=>hsu (hce.1 h);rw[if_neg hsu]
            (repeat first|simp only[ww]|(apply xa;simp+decide only[go_sem,l3,l4,w1,w2,List.length_map,hf1,hf2];rfl;kernel_rfl))
            (apply fqb;simp+decide only[go_sem,hf1,hf2]<;>rfl)
      ·have hneT:T.map tnR≠[]:=by simpa using hkT
       rw[a0e 2 hneT,a0j 1 hneT,List.length_map]
       (repeat first|simp only[ww]|(apply xa;simp+decide only[go_sem,l2,List.length_map,hf1,hf2];rfl;kernel_rfl))
       refine a0i (σ:=Nat) kp21_4 (λi=>[(1,.ptr 0 0 0),(3,.slice 1 0 S.length none),(4,.slice 2 0 T.length none),(9,.int .i64 (a4e V i)),(61,sl rv (V.map Vc.enc)),(62,.int .i64 V.length),(63,.int .i64 (i:Nat))]) (λ_=>[some (.row 3 [[sl rs (S.map Sg.enc),sl rt (T.map Tm.enc),sl rv (V.map Vc.enc)]]),some (.row 1 (S.map snR)),some (.row 1 (T.map tnR))]) (λi=>V.length-i) (λi=>i≤V.length∧((V.take i).all λv=>a39 v S T.length)=true∧0≤a4e V i) 0 ?_ ⟨Nat.zero_le _,rfl,Int.le_refl _⟩ ?_
       ·have e0:=c0y V
        (simp+decide only[go_sem,a08,a03,e0,hf1,hf2,hg1,hg2]<;>rfl)
       ·rintro i ⟨hi,hall,hc0⟩
        have hcl:=b6t V i;by_cases hlt:i<V.length
        ·have l3:(i:Int)<V.length:=by omega
         obtain⟨v,hs⟩:∃v,V[i]?=some v:=⟨_,z9e hlt⟩
         have hsm:(V.map Vc.enc)[i]?=some (Vc.enc v):=by rw[List.getElem?_map,hs];rfl
         by_cases hv1:a39 v S T.length=true
         case neg=>
          have hv2:a39 v S T.length=false:=by simpa using hv1
          rw[c7d S T V hT16 (a8x hs hv2)]
          (repeat first|simp only[ww]|(apply xa;simp+decide only[go_sem,l3,hlt,hsm,hvc,hv2,List.length_map,hf1,hf2,hg1,hg2];rfl;kernel_rfl))
          (apply fqb;simp+decide only[go_sem,hf1,hf2,hg1,hg2]<;>rfl)
         have hall1:=a6x (p:=λv=>a39 v S T.length) hs hall hv1;have hw:IntKind.i64.wrap ((i:Int)+1)=((i+1:Nat):Int):=by rw[w64 (by omega) (by omega)];omega
         have hrp:1≤v.rep∧v.rep≤1000000:=by simp only[a39,Bool.and_eq_true,decide_eq_true_eq]at hv1;exact⟨hv1.2.2.1,hv1.2.2.2.1⟩
         have hcs:=c0x V hs hrp.1;have hw2:IntKind.i64.wrap (a4e V i+v.rep)=a4e V i+v.rep:=w64 (by omega) (by omega);by_cases hM:a4e V i+v.rep<1000001
         ·have hmn2:¬(1000001:Int)<a4e V i+v.rep:=by omega
          have hmn3:a4e V i+v.rep≤1000001:=by omega
          have hce:=hcs.1 hM
          (repeat first|simp only[ww]|(apply xa;simp+decide only[go_sem,l3,hlt,hsm,hvc,hv1,hw,hw2,hM,hmn2,hmn3,List.length_map,hf1,hf2,hg1,hg2];rfl;kernel_rfl))
          refine a1s (i+1) ?_ (by omega) ⟨by omega,hall1,by omega⟩
          (simp+decide only[go_sem,a08,a03,hce,hf1,hf2,hg1,hg2]<;>rfl)
         ·have hce:=hcs.2 (by omega);by_cases hM2:a4e V i+v.rep=1000001
          ·(repeat first|simp only[ww]|(apply xa;simp+decide only[go_sem,l3,hlt,hsm,hvc,hv1,hw,hw2,hM2,List.length_map,hf1,hf2,hg1,hg2];rfl;kernel_rfl))
           refine a1s (i+1) ?_ (by omega) ⟨by omega,hall1,by omega⟩
           (simp+decide only[go_sem,a08,a03,hce,hf1,hf2,hg1,hg2]<;>rfl)
          ·have hmn2:(1000001:Int)<a4e V i+v.rep:=by omega
           have hmn3:¬a4e V i+v.rep≤1000001:=by omega
           (repeat first|simp only[ww]|(apply xa;simp+decide only[go_sem,l3,hlt,hsm,hvc,hv1,hw,hw2,hM,hmn2,hmn3,List.length_map,hf1,hf2,hg1,hg2];rfl;kernel_rfl))
           refine a1s (i+1) ?_ (by omega) ⟨by omega,hall1,by omega⟩
           (simp+decide only[go_sem,a08,a03,hce,hf1,hf2,hg1,hg2]<;>rfl)
        ·obtain rfl:i=V.length:=by omega
         have l3:¬(V.length:Int)<V.length:=by omega
         rw[List.take_length]at hall;have hce:=b20 V;rw[c7e S T V hT16 hallS hallT hall];obtain⟨σ1,w1⟩:=b12 (d:=false) [some (.row 3 [[sl rs (S.map Sg.enc),sl rt (T.map Tm.enc),sl rv (V.map Vc.enc)]]),some (.row 1 (S.map snR)),some (.row 1 (T.map tnR))] 1 (S.map Sg.name) (λhh=>by rw[←a4v];rfl) (by rw[List.length_map];omega);obtain⟨σ2,w2⟩:=b12 (d:=false) [some (.row 3 [[sl rs (S.map Sg.enc),sl rt (T.map Tm.enc),sl rv (V.map Vc.enc)]]),some (.row 1 (S.map snR)),some (.row 1 (T.map tnR))] 2 (T.map Tm.name) (λhh=>by rw[←a4t];rfl) (by rw[List.length_map];omega);rw[←a4v]at w1;rw[←a4t]at w2;rw[a0e 1 hne,List.length_map]at w1;rw[a0e 2 hneT,List.length_map]at w2;generalize decide (S.map Sg.name).Nodup=p1 at *;generalize decide (T.map Tm.name).Nodup=p2 at *;cases p1
         ·(repeat first|simp only[ww]|(apply xa;simp+decide only[go_sem,l3,w1,w2,List.length_map,hf1,hf2,hg1,hg2];rfl;kernel_rfl))
          (apply fqb;simp+decide only[go_sem,hf1,hf2,hg1,hg2]<;>rfl)
         ·cases p2
          ·(repeat first|simp only[ww]|(apply xa;simp+decide only[go_sem,l3,w1,w2,List.length_map,hf1,hf2,hg1,hg2];rfl;kernel_rfl))
           (apply fqb;simp+decide only[go_sem,hf1,hf2,hg1,hg2]<;>rfl)
          ·by_cases hsu:1000000<a19 V
           ·have l4:=hce.2 hsu;rw[if_pos hsu]
            (repeat first|simp only[ww]|(apply xa;simp+decide only[go_sem,l3,l4,w1,w2,List.length_map,hf1,hf2,hg1,hg2];rfl;kernel_rfl))
            (apply fqb;simp+decide only[go_sem,hf1,hf2,hg1,hg2]<;>rfl)
           ·have l4:¬1000000<a4e V V.length:=λh=>hsu (hce.1 h);rw[if_neg hsu]
            (repeat first|simp only[ww]|(apply xa;simp+decide only[go_sem,l3,l4,w1,w2,List.length_map,hf1,hf2,hg1,hg2];rfl;kernel_rfl))
            (apply fqb;simp+decide only[go_sem,hf1,hf2,hg1,hg2]<;>rfl)
end Go.RInst
namespace Go.RInst
open Go.Proofs Go.Ax Go.Pc
variable [PR]
set_option maxRecDepth 100000
end Go.RInst
namespace Go.RInst
open Go.Proofs Go.Ax Go.Pc
variable [PR]
set_option maxRecDepth 100000
theorem a6h{g:Nat}{a:List AV}{H:a09}{r:AV×a09}(h:primH L.env g a H=some r):sem L.env Mf g a H=some r:=by refine a8l (by intro y hy;cases hy) 0 ?_;unfold a62;rw[h]
@[go_sem] theorem a9d(π:Nat→Option Nat)(t:Nat)(b:Bool)(k:Nat)(rows:List (List AV)):a0o π (.trow t b k rows) = .trow t b k (rows.map λr=>r.map (ren π)):=by rfl
@[go_sem] theorem d4c(t:Nat)(b:Bool)(k:Nat)(rows:List (List AV)):a3a (some (.trow t b k rows))=rows.flatMap a0z:=by rfl
def lnT(l:List (List UInt8)):List UInt8:=Lib.join l [32]++[10]
def okL(n:Nat)(l:List (List UInt8)):Prop:=0<l.length∧l.length≤1000∧n+(lnT l).length≤1000000
theorem d52(n:Nat)(c:Option Nat)(l:List (List UInt8))(hn:l.length=n)(h:okL 0 l):sem L.env Mf 24 [.slice 0 0 n c,.str [32]] [some (.row 1 (a1u l))]=some (.str (Lib.join l [32]),[some (.row 1 (a1u l))]):=by
 refine a6h ?_;show c4b [.slice 0 0 n c,.str [32]] [some (.row 1 (a1u l))]=_;obtain⟨h1,h2,h3⟩:=h;have h4:(Lib.join l [32]).length+1≤1000000:=by simpa[lnT]using h3
 have b1:Nat.beq n (a1u l).length=true:=by rw[Nat.beq_eq];simp[a1u,hn]
 have b2:Nat.blt 0 n=true:=by rw[Nat.blt_eq];omega
 have b4:unS (a1u l)=some l:=b5w l;have b5:okJ l [32]=true:=by unfold okJ b77;rw[Nat.ble_eq_true_of_le (by omega),Nat.ble_eq_true_of_le (by omega)];rfl
 simp only[c4b,b1,b2,b4,b5];rfl
def bd0:Option AObj:=some (.trow 82 true 2 [[.nilptr,.nilslice]])
def bdN(k c n:Nat):Option AObj:=some (.trow 82 true 2 [[.ptr k 0 0,.slice c 0 n none]])
def buf(s:List UInt8):Option AObj:=some (.trow 5 false 1 (a1j s))
theorem d3h(t:List UInt8)(ht:t≠[])(hl:t.length≤1000000):sem L.env Mf 36 [.ptr 0 0 0,.str t] [bd0]=some (.tuple [.int .i64 t.length,.nilifc],[bdN 0 1 t.length,buf t]):=by
 refine a6h ?_;show wsP [.ptr 0 0 0,.str t] [bd0]=_;have b1:Nat.ble t.length b77=true:=Nat.ble_eq_true_of_le (Nat.le_trans hl (by decide));cases t with
 |nil=>exact absurd rfl ht
 |cons a t=>simp only[wsP,bd0,b1];rfl
theorem d3g(s t:List UInt8)(ht:t≠[])(hl:s.length+t.length≤1000000):sem L.env Mf 36 [.ptr 0 0 0,.str t] [bdN 0 1 s.length,buf s]=some (.tuple [.int .i64 t.length,.nilifc],[bdN 0 2 (s++t).length,none,buf (s++t)]):=by
 refine a6h ?_;show wsP [.ptr 0 0 0,.str t] [bdN 0 1 s.length,buf s]=_;have b1:Nat.ble (s.length+t.length) b77=true:=Nat.ble_eq_true_of_le (Nat.le_trans hl (by decide));have b2:Nat.beq s.length (a1j s).length=true:=by rw[Nat.beq_eq];simp[a1j]
 have b3:a1j s++a1j t=a1j (s++t):=by simp[a1j]
 have b4:(!t.isEmpty)=true:=by cases t with|nil=>exact absurd rfl ht|cons=>rfl
 simp only[wsP,bdN,buf,b1,b2,b3,b4,List.length_append];rfl
theorem c8g(l:List (List UInt8)):lnT l≠[]:=by unfold lnT;simp
theorem a48(l:List (List UInt8)):FlatR (a1u l):=FlatR.map λ_=>rfl
theorem a0s(s:List UInt8):FlatR (a1j s):=FlatR.map λ_=>rfl
theorem d3j(n:Nat)(c:Option Nat)(l:List (List UInt8))(hn:l.length=n)(h:okL 0 l):sem L.env Mf 35 [.slice 0 0 n c,.ptr 1 0 0] [some (.row 1 (a1u l)),bd0]=some (.tuple [],[some (.row 1 (a1u l)),bdN 1 2 (lnT l).length,buf (lnT l)]):=by
 have hf:=a48 l;have h1:=λπ=>a02 π hf;have h2:=a01 hf;have hj:=d52 n c l hn h;have hw:=d3h (lnT l) (c8g l) (by have:=h.2.2;omega);have k1:a0n L.env false (sem L.env Mf) (.func (.func 24) [] []) [.slice 0 0 n c,.str [32]] [some (.row 1 (a1u l)),bd0]=some (.str (Lib.join l [32]),[some (.row 1 (a1u l)),bd0],[0]):=a44 (by kernel_rfl) (by kernel_rfl) rfl (b:=0) (o:=.row 1 (a1u l)) rfl (a0p hf) (FlatO.row hf) rfl (by rfl) hj rfl;have k2:a0n L.env false (sem L.env Mf) (.func (.func 36) [] []) [.ptr 1 0 0,.str (lnT l)] [some (.row 1 (a1u l)),bd0]=some (.tuple [.int .i64 (lnT l).length,.nilifc],[some (.row 1 (a1u l)),bdN 1 2 (lnT l).length,buf (lnT l)],[1]):=by have hc:=a0q (sem L.env Mf 36) [.ptr 1 0 0,.str (lnT l)] [some (.row 1 (a1u l)),bd0] (σ:=[1]) (by rfl) rfl rfl (args':=[.ptr 0 0 0,.str (lnT l)]) rfl (H0:=[bd0]) (by rfl) hw;refine a2t (by kernel_rfl) (by kernel_rfl) rfl (hc.trans ?_);have hb:=a02 (a1f [1] 2) (a0s (lnT l));simp+decide only[go_sem,bd0,bdN,buf,a0u,hb,h1];rfl
 (refine sv Tryz.f35 ?_;simp only[Tryz.f35,gS])
 have e:Lib.join l [32]++[10]=lnT l:=rfl;have hle:(Lib.join l [32]).length+1≤4611686018427387904:=by have:=h.2.2;simp[lnT]at this;omega
 (repeat first|simp only[ww]|(apply xa;simp+decide only[go_sem,k1,e,k2,hle];rfl;kernel_rfl))
 (apply fqb;simp+decide only[go_sem,h1,h2]<;>rfl)
theorem d3i(n:Nat)(c:Option Nat)(s:List UInt8)(l:List (List UInt8))(hn:l.length=n)(h:okL s.length l):sem L.env Mf 35 [.slice 0 0 n c,.ptr 1 0 0] [some (.row 1 (a1u l)),bdN 1 2 s.length,buf s]=some (.tuple [],[some (.row 1 (a1u l)),bdN 1 3 (s++lnT l).length,none,buf (s++lnT l)]):=by
 have hf:=a48 l;have h0:okL 0 l:=⟨h.1,h.2.1,by have:=h.2.2;omega⟩
 have h1:=λπ=>a02 π hf;have h2:=a01 hf;have hg:=a01 (a0s s);have hj:=d52 n c l hn h0;have hw:=d3g s (lnT l) (c8g l) h.2.2;have k1:a0n L.env false (sem L.env Mf) (.func (.func 24) [] []) [.slice 0 0 n c,.str [32]] [some (.row 1 (a1u l)),bdN 1 2 s.length,buf s]=some (.str (Lib.join l [32]),[some (.row 1 (a1u l)),bdN 1 2 s.length,buf s],[0]):=a44 (by kernel_rfl) (by kernel_rfl) rfl (b:=0) (o:=.row 1 (a1u l)) rfl (a0p hf) (FlatO.row hf) rfl (by rfl) hj rfl;have k2:a0n L.env false (sem L.env Mf) (.func (.func 36) [] []) [.ptr 1 0 0,.str (lnT l)] [some (.row 1 (a1u l)),bdN 1 2 s.length,buf s]=some (.tuple [.int .i64 (lnT l).length,.nilifc],[some (.row 1 (a1u l)),bdN 1 3 (s++lnT l).length,none,buf (s++lnT l)],[1,2]):=by
  have hb:=λπ=>a02 π (a0s s);have hb2:=λπ=>a02 π (a0s (s++lnT l));have hrc:a0l [some (AObj.row 1 (a1u l)),bdN 1 2 s.length,buf s] 1000000 (a0z [AV.ptr 1 0 0,.str (lnT l)]) []=[1,2]:=by show a0l _ 1000000 [1] []=_;rw[show(1000000:Nat)=999996+1+1+1+1 from rfl,a07 rfl];show a0l _ (999996+1+1+1) [1,2] [1]=_;rw[a9e rfl,a07 rfl];show a0l _ (999996+1) (a3a (buf s)++[]) [2,1]=_;rw[show a3a (buf s)=[]from hg];exact a15 _ _ _
  have hc:=a0q (sem L.env Mf 36) [.ptr 1 0 0,.str (lnT l)] [some (.row 1 (a1u l)),bdN 1 2 s.length,buf s] (σ:=[1,2]) hrc rfl rfl (args':=[.ptr 0 0 0,.str (lnT l)]) rfl (H0:=[bdN 0 1 s.length,buf s]) (by simp+decide only[go_sem,bdN,buf,a0x,hb]) hw;refine a2t (by kernel_rfl) (by kernel_rfl) rfl (hc.trans ?_);simp+decide only[go_sem,bdN,buf,a0u,hb2,h1];rfl
 have e:Lib.join l [32]++[10]=lnT l:=rfl;have hle:(Lib.join l [32]).length+1≤4611686018427387904:=by have:=h0.2.2;simp[lnT]at this;omega
 (refine sv Tryz.f35 ?_;simp only[Tryz.f35,gS])
 (repeat first|simp only[ww]|(apply xa;simp+decide only[go_sem,k1,e,k2,hle];rfl;kernel_rfl))
 (apply fqb;simp+decide only[go_sem,h1,h2]<;>rfl)
def e2h(H:a09)(c a:Nat)(s:List UInt8):Prop:=(s=[]∧a05 H c=bd0)∨(s≠[]∧a05 H c=bdN c a s.length∧a05 H a=buf s∧a≠c)
theorem a3m(H:a09)(k c a n:Nat)(cp:Option Nat)(s:List UInt8)(l:List (List UInt8))(hn:l.length=n)(h:okL s.length l)(hk:a05 H k=some (.row 1 (a1u l)))(hb:e2h H c a s)(hkc:k≠c)(hka:s≠[]→k≠a) :
 ∃H' a' σ,a0n L.env false (sem L.env Mf) (.func (.func 35) [] [.ptr c 0 0]) [.slice k 0 n cp] H=some (.tuple [],H',σ)∧e2h H' c a' (s++lnT l)∧H.length≤a'∧a'<H'.length∧H.length≤H'.length∧∀b,b<H.length→b≠c→(s≠[]→b≠a)→a05 H' b=a05 H b:=by
 have hlk:=a0r hk;have hf:=a48 l;have hfk:a3a (a05 H k)=[]:=by rw[hk];exact a0p hf
 have hkr:=λπ=>a02 π hf;have hne:s++lnT l≠[]:=by simp[lnT]
 rcases hb with ⟨rfl,hc⟩|⟨hs,hc,ha,hac⟩
 ·have hlc:=a0r (H:=H) (b:=c) (o:=.trow 82 true 2 [[.nilptr,.nilslice]]) hc;have hw:=d3j n cp l hn h;have hrc:a0l H 1000000 (a0z [AV.slice k 0 n cp,.ptr c 0 0]) []=[k,c]:=by
   show a0l H 1000000 [k,c] []=_;rw[show(1000000:Nat)=999997+1+1+1 from rfl,a07 rfl,hfk,List.nil_append,a07 (by simp[a04,a06,hkc]),hc];exact a15 _ _ _
  obtain⟨H',h1,h2,h3,h4,h5⟩:=a9u (E:=L.env) (call:=sem L.env Mf) (g:=35) (fs:=[]) (cs:=[.ptr c 0 0]) (ar:=[.slice k 0 n cp]) (H:=H) (σ:=[k,c]) (by kernel_rfl) (by kernel_rfl) rfl hrc (by simp[a11,a1a,a04,a06,hkc.symm]) (by simp[hlk,hlc]) (args':=[.slice 0 0 n cp,.ptr 1 0 0]) (by simp[ren,a38,List.idxOf?_cons,hkc]) (H0:=[some (.row 1 (a1u l)),bd0]) (by simp only[a0x,List.map_cons,List.map_nil,hk,hc,Option.map_some,a0o,hkr];rfl) hw rfl;refine⟨H',H.length,_,h1,.inr ⟨hne,?_,?_,by omega⟩,Nat.le_refl _,by rw[h2];show _<_+(3-2);omega,by omega,λb hb b1 _=>?_⟩
  ·rw[h3 1 c rfl];show some (a0o _ (AObj.trow 82 true 2 [[AV.ptr 1 0 0,AV.slice 2 0 (lnT l).length none]]))=_;rw[a9d];simp[ren,a1f,bdN,a4b];exact⟨rfl,rfl⟩
  ·have h50:=h5 0;rw[Nat.add_zero]at h50;rw[h50];show some (a0o _ (AObj.trow 5 false 1 (a1j (lnT l))))=_;rw[a9d,a02 _ (a0s _)];rfl
  ·by_cases hbk:b=k
   ·subst hbk;rw[h3 0 b rfl,hk];show some (a0o _ (AObj.row 1 (a1u l)))=_;simp only[a0o,hkr]
   ·exact h4 b hb (by simp[hbk,b1])
 ·have hlc:=a0r (H:=H) (b:=c) (o:=.trow 82 true 2 [[.ptr c 0 0,.slice a 0 s.length none]]) hc;have hla:=a0r (H:=H) (b:=a) (o:=.trow 5 false 1 (a1j s)) ha;have hka:=hka hs;have hw:=d3i n cp s l hn h;have hfa:a3a (a05 H a)=[]:=by rw[ha];exact a01 (a0s s)
  have hfc:a3a (a05 H c)=[c,a]:=by rw[hc];rfl
  have hbr:=λπ=>a02 π (a0s s);have hrc:a0l H 1000000 (a0z [AV.slice k 0 n cp,.ptr c 0 0]) []=[k,c,a]:=by show a0l H 1000000 [k,c] []=_;rw[show(1000000:Nat)=999995+1+1+1+1+1 from rfl,a07 rfl,hfk,List.nil_append,a07 (by simp[a04,a06,hkc]),hfc];show a0l H _ [c,a] _=_;rw[a9e (by simp[a04,a06]),a07 (by simp[a04,a06,hka,hac.symm]),hfa];exact a15 _ _ _
  obtain⟨H',h1,h2,h3,h4,h5⟩:=a9u (E:=L.env) (call:=sem L.env Mf) (g:=35) (fs:=[]) (cs:=[.ptr c 0 0]) (ar:=[.slice k 0 n cp]) (H:=H) (σ:=[k,c,a]) (by kernel_rfl) (by kernel_rfl) rfl hrc (by simp[a11,a1a,a04,a06,hkc.symm,hka.symm,hac]) (by simp[hlk,hlc,hla]) (args':=[.slice 0 0 n cp,.ptr 1 0 0]) (by simp[ren,a38,List.idxOf?_cons,hkc]) (H0:=[some (.row 1 (a1u l)),bdN 1 2 s.length,buf s]) (by simp only[a0x,List.map_cons,List.map_nil,hk,hc,ha,bdN,buf,Option.map_some,a9d,a0o,hkr,hbr];simp[ren,a4b,a38,List.idxOf?_cons,hkc,hka,hac.symm]) hw rfl;refine⟨H',H.length,_,h1,.inr ⟨hne,?_,?_,by omega⟩,Nat.le_refl _,by rw[h2];show _<_+(4-3);omega,by omega,λb hb b1 b2=>?_⟩
  ·rw[h3 1 c rfl];show some (a0o _ (AObj.trow 82 true 2 [[AV.ptr 1 0 0,AV.slice 3 0 (s++lnT l).length none]]))=_;rw[a9d];simp[ren,a1f,bdN,a4b];exact⟨rfl,rfl⟩
  ·have h50:=h5 0;rw[Nat.add_zero]at h50;rw[h50];show some (a0o _ (AObj.trow 5 false 1 (a1j (s++lnT l))))=_;rw[a9d,a02 _ (a0s _)];rfl
  ·by_cases hbk:b=k
   ·subst hbk;rw[h3 0 b rfl,hk];show some (a0o _ (AObj.row 1 (a1u l)))=_;simp only[a0o,hkr]
   ·exact h4 b hb (by simp[hbk,b1,b2 hs])
end Go.RInst
namespace Go.RInst
open Go.Proofs Go.Ax Go.Pc
variable [PR]
set_option maxRecDepth 100000
def b3z:List UInt8:=[115,105,103,110,97,108]
def a4u:List UInt8:=[116,105,109,105,110,103]
def a8a:List UInt8:=[118,101,99,116,111,114]
def inK:List UInt8:=[105,110]
def c3t:List UInt8:=[111,117,116]
def a6z(s:Sg):List (List UInt8):=[b3z,s.name,if s.dir=1 then c3t else inK]
def a57(t:Tm):List Int:=[t.per,t.dr,t.ri,t.fa,t.st]
def b02(t:Tm):List (List UInt8):=[a4u,t.name]++(a57 t).map Lib.itoa
def a8i(T:List Tm)(v:Vc):List (List UInt8):=match T[v.t.toNat]? with
 |some t=>[a8a,t.name,if v.cells=[]then[45]else v.cells]++(if v.rep=1 then[]else[Lib.itoa v.rep])
 |none=>[]
def txS(S:List Sg):List UInt8:=S.flatMap λs=>lnT (a6z s)
def txT(T:List Tm):List UInt8:=T.flatMap λt=>lnT (b02 t)
def txV(T:List Tm)(V:List Vc):List UInt8:=V.flatMap λv=>lnT (a8i T v)
def b95(S:List Sg)(T:List Tm)(V:List Vc):List UInt8:=txS S++txT T++txV T V
theorem e01{α:Type}(f:α→List UInt8)(l:List α){i:Nat}{x:α}(h:l[i]?=some x):(l.take (i+1)).flatMap f=(l.take i).flatMap f++f x:=by rw[a3y h];simp
theorem b35{α:Type}(f:α→List UInt8)(k:Nat):∀(l:List α),(∀x∈l,(f x).length≤k)→(l.flatMap f).length≤k*l.length
 | [],_=>by simp
 |a::l,h=>by have h1:=b35 f k l λx hx=>h x (by simp[hx]);have h2:=h a (by simp);rw[List.flatMap_cons,List.length_append,List.length_cons,Nat.mul_succ];omega
theorem d0z{α:Type}(f:α→List UInt8)(l:List α)(i:Nat):((l.take i).flatMap f).length≤(l.flatMap f).length:=by
 have e:l.flatMap f=(l.take i).flatMap f++(l.drop i).flatMap f:=by rw[←List.flatMap_append,List.take_append_drop]
 rw[e,List.length_append];omega
theorem c8v:∀(k n:Nat),n<10^(k+1)→(Lib.decDigits n).length≤k+1
 |0,n,h=>by rw[Lib.decDigits,dif_pos (by omega)];simp
 |k+1,n,h=>by
  rw[Lib.decDigits];by_cases hn:n<10
  ·rw[dif_pos hn];simp
  ·rw[dif_neg hn,List.length_append];have:=c8v k (n/10) (by rw[Nat.pow_succ]at h;omega);simp only[List.length_cons,List.length_nil];omega
theorem a6l(n:Int)(h0:0≤n)(h1:n≤1000000):(Lib.itoa n).length≤7:=by unfold Lib.itoa;rw[if_neg (by omega)];exact c8v 6 _ (by omega)
theorem b9l(l:List (List UInt8))(x:List UInt8):(lnT (x::l)).length=l.length+Lib.lens (x::l)+1:=by unfold lnT;rw[List.length_append,Lib.join_length];simp
theorem b6e{s:List UInt8}(h:a4d s=true):s.length≤32:=by
 cases s with
 |nil=>simp
 |cons a r=>simp only[a4d,Bool.and_eq_true,decide_eq_true_eq]at h;exact h.1
theorem b2q(x:List UInt8)(l:List (List UInt8)):Lib.lens (x::l)=x.length+Lib.lens l:=by simp[Lib.lens]
theorem b6i:Lib.lens []=0:=rfl
theorem b1o{s:Sg}(h:a8k s=true):(lnT (a6z s)).length≤150:=by simp only[a8k,Bool.and_eq_true]at h;have:=b6e h.1;unfold a6z;rw[b9l];simp only[b2q,b6i,List.length_cons,List.length_nil,b3z];split<;>simp[c3t,inK]<;>omega
theorem b1n{t:Tm}(h:a4r t=true):(lnT (b02 t)).length≤150:=by have h0:=c33 h;simp only[a4r,Bool.and_eq_true,decide_eq_true_eq]at h;have:=b6e h.1;have:=h0.dr0;have:=h0.ri;have:=h0.fa;have:=h0.per;have:=h0.top;have:=h0.st0;have:=h0.st1;have a1:=a6l t.per (by omega) (by omega);have a2:=a6l t.dr (by omega) (by omega);have a3:=a6l t.ri (by omega) (by omega);have a4:=a6l t.fa (by omega) (by omega);have a5:=a6l t.st (by omega) (by omega);unfold b02 a57;simp only[List.map_cons,List.map_nil,List.cons_append,List.nil_append];rw[b9l];simp only[b2q,b6i,List.length_cons,List.length_nil,a4u];omega
theorem b92(T:List Tm)(v:Vc)(t:Tm)(h:T[v.t.toNat]?=some t):a8i T v=[a8a,t.name,if v.cells=[]then[45]else v.cells]++(if v.rep=1 then[]else[Lib.itoa v.rep]):=by unfold a8i;rw[h]
theorem b1m{S:List Sg}{T:List Tm}{V:List Vc}(h:Valid S T V){v:Vc}(hv:v∈V):(lnT (a8i T v)).length≤200:=by
 have hk:=h.vc v hv;have hS:=h.hS;simp only[a39,Bool.and_eq_true,decide_eq_true_eq]at hk;obtain⟨t,ht⟩:∃t,T[v.t.toNat]?=some t:=⟨_,z9e (by omega)⟩
 have hto:=h.tm t (List.mem_of_getElem? ht);simp only[a4r,Bool.and_eq_true,decide_eq_true_eq]at hto;have:=b6e hto.1;have:=a4p _ _ hk.2.2.2.2;have a1:=a6l v.rep (by omega) (by omega);rw[b92 T v t ht];split<;>split<;>(simp only[List.cons_append,List.nil_append];rw[b9l];simp only[b2q,b6i,List.length_cons,List.length_nil,a8a];omega)
theorem b2t{d:Bool}(H:a09)(n:Int)(h0:0≤n)(h1:n≤1000000):a0n L.env d (sem L.env Mf) (.func (.func 37) [] []) [.int .i64 n] H=some (.str (Lib.itoa n),H,[]):=by
 have hp:sem L.env Mf 37 [.int .i64 n] []=some (.str (Lib.itoa n),[]):=by
  refine a8l (by intro y hy;cases hy) 0 ?_;have hq:L.env.prim 37 [.int .i64 n]=some (.str (Lib.itoa n),[]):=by
   show d2r [.int .i64 n]=_;have b1:(decide (0≤n)&&decide (n≤1000000000))=true:=by rw[decide_eq_true h0,decide_eq_true (by omega)];rfl
   simp only[d2r,b1];rfl
  unfold a62 primH;rw[hq]
 exact a0h (by kernel_rfl) (by kernel_rfl) rfl rfl hp rfl
def bdH(s:List UInt8):a09:=match s with
 | []=>[bd0]
 |_=>[bdN 1 2 s.length,buf s]
theorem b3o:bdH []=[some (.trow 82 true 2 [[.nilptr,.nilslice]])]:=rfl
theorem a50{s:List UInt8}(h:s≠[]):bdH s=[some (.trow 82 true 2 [[.ptr 1 0 0,.slice 2 0 s.length none]]),some (.trow 5 false 1 (a1j s))]:=by
 cases s with
 |nil=>exact absurd rfl h
 |cons=>rfl
theorem c3u{n:Nat}{l:List (List UInt8)}(h:n+(lnT l).length≤1000000)(h1:0<l.length)(h2:l.length≤1000):okL n l:=⟨h1,h2,h⟩
@[go_sem high] theorem d9g{H:a09}{n:Nat}{b:Nat}{todo acc:List Nat}(hn:(0<n)=True)(h:a1m acc b=true):a0l H n (b::todo) acc=a0l H (n-1) todo acc:=by
 obtain⟨m,rfl⟩:∃m,n=m+1:=⟨n-1,by have:=of_eq_true hn;omega⟩
 exact a9e h
@[go_sem high] theorem d9h{H:a09}{n:Nat}{b:Nat}{todo acc:List Nat}(hn:(0<n)=True)(h:a1m acc b=false):a0l H n (b::todo) acc=a0l H (n-1) (a3a (a05 H b)++todo) (b::acc):=by
 obtain⟨m,rfl⟩:∃m,n=m+1:=⟨n-1,by have:=of_eq_true hn;omega⟩
 exact a07 h
theorem e35(P:AObj):a0n L.env false (sem L.env Mf) (.func (.func 38) [] []) [.ptr 1 0 0] [some P,some (.trow 82 true 2 [[.nilptr,.nilslice]])]=some (.int .i64 0,[some P,some (.trow 82 true 2 [[.nilptr,.nilslice]])],[1]):=by have hp:sem L.env Mf 38 [.ptr 0 0 0] [bd0]=some (.int .i64 0,[bd0]):=a6h (by rfl);have hc:=a0q (sem L.env Mf 38) [.ptr 1 0 0] [some P,bd0] (σ:=[1]) (by rfl) rfl rfl (args':=[.ptr 0 0 0]) rfl (H0:=[bd0]) (by rfl) hp;exact a2t (by kernel_rfl) (by kernel_rfl) rfl (hc.trans (by rfl))
theorem e2q(P:AObj):a0n L.env false (sem L.env Mf) (.func (.func 39) [] []) [.ptr 1 0 0] [some P,some (.trow 82 true 2 [[.nilptr,.nilslice]])]=some (.str [],[some P,some (.trow 82 true 2 [[.nilptr,.nilslice]])],[1]):=by have hp:sem L.env Mf 39 [.ptr 0 0 0] [bd0]=some (.str [],[bd0]):=a6h (by rfl);have hc:=a0q (sem L.env Mf 39) [.ptr 1 0 0] [some P,bd0] (σ:=[1]) (by rfl) rfl rfl (args':=[.ptr 0 0 0]) rfl (H0:=[bd0]) (by rfl) hp;exact a2t (by kernel_rfl) (by kernel_rfl) rfl (hc.trans (by rfl))
theorem c0d(P:AObj)(s:List UInt8):a0l [some P,some (.trow 82 true 2 [[.ptr 1 0 0,.slice 2 0 s.length none]]),some (.trow 5 false 1 (a1j s))] 1000000 [1] []=[1,2]:=by rw[show(1000000:Nat)=999996+1+1+1+1 from rfl,a07 rfl];show a0l _ (999996+1+1+1) [1,2] [1]=_;rw[a9e rfl,a07 rfl];show a0l _ (999996+1) ((a1j s).flatMap a0z++[]) [2,1]=_;rw[a01 (a0s s)];exact a15 _ _ _
theorem e34(P:AObj)(s:List UInt8):a0n L.env false (sem L.env Mf) (.func (.func 38) [] []) [.ptr 1 0 0] [some P,some (.trow 82 true 2 [[.ptr 1 0 0,.slice 2 0 s.length none]]),some (.trow 5 false 1 (a1j s))]=some (.int .i64 s.length,[some P,some (.trow 82 true 2 [[.ptr 1 0 0,.slice 2 0 s.length none]]),some (.trow 5 false 1 (a1j s))],[1,2]):=by have hp:sem L.env Mf 38 [.ptr 0 0 0] [bdN 0 1 s.length,buf s]=some (.int .i64 s.length,[bdN 0 1 s.length,buf s]):=a6h (by rfl);have hb:=λπ=>a02 π (a0s s);have hc:=a0q (sem L.env Mf 38) [.ptr 1 0 0] _ (σ:=[1,2]) (c0d P s) rfl rfl (args':=[.ptr 0 0 0]) rfl (H0:=[bdN 0 1 s.length,buf s]) (by simp+decide only[go_sem,bdN,buf,a0x,hb]) hp;refine a2t (by kernel_rfl) (by kernel_rfl) rfl (hc.trans ?_);simp+decide only[go_sem,bdN,buf,a0u,hb]
theorem e2p(P:AObj)(s:List UInt8)(hs:s≠[])(hl:s.length≤1000000):a0n L.env false (sem L.env Mf) (.func (.func 39) [] []) [.ptr 1 0 0] [some P,some (.trow 82 true 2 [[.ptr 1 0 0,.slice 2 0 s.length none]]),some (.trow 5 false 1 (a1j s))]=some (.str s,[some P,some (.trow 82 true 2 [[.ptr 1 0 0,.slice 2 0 s.length none]]),none],[1,2]):=by
 have hp:sem L.env Mf 39 [.ptr 0 0 0] [bdN 0 1 s.length,buf s]=some (.str s,[bdN 0 1 s.length,none]):=by
  refine a6h ?_;show d3t [.ptr 0 0 0] [bdN 0 1 s.length,buf s]=_;have b1:Nat.beq s.length (a1j s).length=true:=by rw[Nat.beq_eq];simp[a1j]
  have b2:Nat.blt 0 s.length=true:=by rw[Nat.blt_eq];exact List.length_pos_iff.2 hs
  have b3:Nat.ble s.length b77=true:=Nat.ble_eq_true_of_le (Nat.le_trans hl (by decide));simp only[d3t,bdN,buf,b1,b2,b3,b7b];rfl
 have hb:=λπ=>a02 π (a0s s);have hc:=a0q (sem L.env Mf 39) [.ptr 1 0 0] _ (σ:=[1,2]) (c0d P s) rfl rfl (args':=[.ptr 0 0 0]) rfl (H0:=[bdN 0 1 s.length,buf s]) (by simp+decide only[go_sem,bdN,buf,a0x,hb]) hp;refine a2t (by kernel_rfl) (by kernel_rfl) rfl (hc.trans ?_);simp+decide only[go_sem,bdN,buf,a0u,hb]
end Go.RInst
namespace Go.RInst
set_option maxHeartbeats 200000000
open Go.Proofs Go.Ax Go.Pc
variable [PR]
set_option maxRecDepth 100000
theorem c65(rs rt rv:Option (Option Nat))(S:List Sg)(T:List Tm)(V:List Vc)(h:Valid S T V):sem L.env Mf 18 [.agg [sl rs (S.map Sg.enc),sl rt (T.map Tm.enc),sl rv (V.map Vc.enc)]] []=some (.tuple [.str (b95 S T V),.int .i64 0],[]):=by
 have hS:=h.hS;have hT:=h.hT;have hV:=h.hV;have hck:=λd H=>b5j (d:=d) H rs rt rv S T V h;have bS:=b35 (λs=>lnT (a6z s)) 200 S λs hs=>Nat.le_trans (b1o (h.sg s hs)) (by decide);have bT:=b35 (λt=>lnT (b02 t)) 200 T λt ht=>Nat.le_trans (b1n (h.tm t ht)) (by decide);have bV:=b35 (λv=>lnT (a8i T v)) 200 V λv hv=>b1m h hv;have b46:Nat.beq 46 82=false:=by decide
 have b82:Nat.beq 82 82=true:=by rfl
 have b41:Nat.beq 41 82=false:=by decide
 have hb5:∀s,(a1j s).flatMap a0z=[]:=λs=>a01 (a0s s);have hb6:∀π s,(a1j s).map (λr=>r.map (ren π))=a1j s:=λπ s=>a02 π (a0s s)
 (refine sv Tryz.f18 ?_;simp only[Tryz.f18,gS])
 (repeat first|simp only[ww]|(apply xa;simp+decide only[go_sem,hck,b82,List.length_map];rfl;kernel_rfl))
 refine a0i (σ:=Nat) kp18_0 (λi=>[(1,.ptr 0 0 0),(5,.ptr 1 0 0),(6,.func (.func 35) [] [.ptr 1 0 0]),(25,sl rs (S.map Sg.enc)),(26,.int .i64 S.length),(27,.int .i64 (i:Nat))]) (λi=>some (.row 3 [[sl rs (S.map Sg.enc),sl rt (T.map Tm.enc),sl rv (V.map Vc.enc)]])::bdH (txS (S.take i))) (λi=>S.length-i) (λi=>i≤S.length) 0 ?_ (Nat.zero_le _) ?_
 ·(simp+decide only[go_sem,a08,a03,b82]<;>rfl)
 ·intro i hi;by_cases hlt:i<S.length
  ·have l1:(i:Int)<S.length:=by omega
   obtain⟨s,hs⟩:∃s,S[i]?=some s:=⟨_,z9e hlt⟩
   have hsm:(S.map Sg.enc)[i]?=some (Sg.enc s):=by rw[List.getElem?_map,hs];rfl
   have hsm':Sg.enc s=[.str s.name,.int .u8 s.dir]:=rfl;have hw:IntKind.i64.wrap ((i:Int)+1)=((i+1:Nat):Int):=by rw[w64 (by omega) (by omega)];omega
   have hsok:=h.sg s (List.mem_of_getElem? hs);have hsl9:=b1o hsok;simp only[a8k,Bool.and_eq_true,decide_eq_true_eq]at hsok;have hdle:=hsok.2;have hps:txS (S.take (i+1))=txS (S.take i)++lnT (a6z s):=e01 _ S hs;have hle:=d0z (λs=>lnT (a6z s)) S i;have hok:okL (txS (S.take i)).length (a6z s):=c3u (by unfold txS;omega) (by unfold a6z;simp) (by unfold a6z;simp);generalize txS (S.take i)=tx at hps hok⊢;by_cases hne:tx=[]
   ·subst hne;rw[b3o];by_cases hd1:s.dir=1
    ·have hdd:=hd1;have hdi:(s.dir:Int)=1:=by omega
     have hsl:a6z s=[[115,105,103,110,97,108],s.name,[111,117,116]]:=by unfold a6z;rw[hdd];rfl
     obtain⟨H1,a1,σ1,g1,g2,g3,g4,g5,g6⟩:=a3m [some (.row 3 [[sl rs (S.map Sg.enc),sl rt (T.map Tm.enc),sl rv (V.map Vc.enc)]]),some (.trow 82 true 2 [[.nilptr,.nilslice]]),some (.row 2 [[.str s.name,.int .u8 (1:Int)]]),some (.row 1 [[.str [115,105,103,110,97,108]],[.str s.name],[.str [111,117,116]]])] 3 1 2 3 (some 3) [] (a6z s) rfl hok (by rw[hsl];rfl) (.inl ⟨rfl,rfl⟩) (by decide) (λ_=>by decide);rcases g2 with ⟨g2,_⟩|⟨_,q1,q2,q3⟩
     ·exact absurd g2 (by simp[lnT])
     have p0:a05 H1 0=some (.row 3 [[sl rs (S.map Sg.enc),sl rt (T.map Tm.enc),sl rv (V.map Vc.enc)]]):=g6 0 (by show 0<_;simp) (by decide) (by intro _;decide);have z7:a1<H1.length:=g4;have z8:0<H1.length:=by omega
     have z9:1<H1.length:=by have:4≤H1.length:=g5;omega
     have y5:4≤a1:=g3;have y0:¬0=a1:=by omega
     have y1:¬1=a1:=by omega
     have y2:¬a1=0:=by omega
     have y3:¬a1=1:=by omega
     have h5:=a01 (a0s ([]++lnT (a6z s)));have h6:=λπ=>a02 π (a0s ([]++lnT (a6z s)));rw[hsm']at hsm;rw[hdi]at hsm
     (repeat first|simp only[ww]|(apply xa;simp+decide only[go_sem,l1,hlt,hsm,hw,g1,List.length_map,b46];rfl;kernel_rfl))
     refine a1s (i+1) ?_ (by omega) (by omega);rw[hps,a50 (by simp[lnT])];simp+decide only[go_sem,a08,a03,p0,q1,q2,bdN,buf,hb5,hb6,y0,y1,y2,y3,z7,z8,z9,Nat.zero_le,Nat.not_lt_zero]<;>rfl
    ·have hdd:s.dir=0:=by omega
     have hdi:(s.dir:Int)=0:=by omega
     have hsl:a6z s=[[115,105,103,110,97,108],s.name,[105,110]]:=by unfold a6z;rw[hdd];rfl
     obtain⟨H1,a1,σ1,g1,g2,g3,g4,g5,g6⟩:=a3m [some (.row 3 [[sl rs (S.map Sg.enc),sl rt (T.map Tm.enc),sl rv (V.map Vc.enc)]]),some (.trow 82 true 2 [[.nilptr,.nilslice]]),some (.row 2 [[.str s.name,.int .u8 (0:Int)]]),some (.row 1 [[.str [115,105,103,110,97,108]],[.str s.name],[.str [105,110]]])] 3 1 2 3 (some 3) [] (a6z s) rfl hok (by rw[hsl];rfl) (.inl ⟨rfl,rfl⟩) (by decide) (λ_=>by decide);rcases g2 with ⟨g2,_⟩|⟨_,q1,q2,q3⟩
     ·exact absurd g2 (by simp[lnT])
     have p0:a05 H1 0=some (.row 3 [[sl rs (S.map Sg.enc),sl rt (T.map Tm.enc),sl rv (V.map Vc.enc)]]):=g6 0 (by show 0<_;simp) (by decide) (by intro _;decide);have z7:a1<H1.length:=g4;have z8:0<H1.length:=by omega
     have z9:1<H1.length:=by have:4≤H1.length:=g5;omega
     have y5:4≤a1:=g3;have y0:¬0=a1:=by omega
     have y1:¬1=a1:=by omega
     have y2:¬a1=0:=by omega
     have y3:¬a1=1:=by omega
     have h5:=a01 (a0s ([]++lnT (a6z s)));have h6:=λπ=>a02 π (a0s ([]++lnT (a6z s)));rw[hsm']at hsm;rw[hdi]at hsm
     (repeat first|simp only[ww]|(apply xa;simp+decide only[go_sem,l1,hlt,hsm,hw,g1,List.length_map,b46];rfl;kernel_rfl))
     refine a1s (i+1) ?_ (by omega) (by omega);rw[hps,a50 (by simp[lnT])];simp+decide only[go_sem,a08,a03,p0,q1,q2,bdN,buf,hb5,hb6,y0,y1,y2,y3,z7,z8,z9,Nat.zero_le,Nat.not_lt_zero]<;>rfl
   ·rw[a50 hne];by_cases hd1:s.dir=1
    ·have hdd:=hd1;have hdi:(s.dir:Int)=1:=by omega
     have hsl:a6z s=[[115,105,103,110,97,108],s.name,[111,117,116]]:=by unfold a6z;rw[hdd];rfl
     obtain⟨H1,a1,σ1,g1,g2,g3,g4,g5,g6⟩:=a3m [some (.row 3 [[sl rs (S.map Sg.enc),sl rt (T.map Tm.enc),sl rv (V.map Vc.enc)]]),some (.trow 82 true 2 [[.ptr 1 0 0,.slice 2 0 tx.length none]]),some (.trow 5 false 1 (a1j tx)),some (.row 2 [[.str s.name,.int .u8 (1:Int)]]),some (.row 1 [[.str [115,105,103,110,97,108]],[.str s.name],[.str [111,117,116]]])] 4 1 2 3 (some 3) tx (a6z s) rfl hok (by rw[hsl];rfl) (.inr ⟨hne,rfl,rfl,by decide⟩) (by decide) (λ_=>by decide);rcases g2 with ⟨g2,_⟩|⟨_,q1,q2,q3⟩
     ·exact absurd g2 (by simp[lnT])
     have p0:a05 H1 0=some (.row 3 [[sl rs (S.map Sg.enc),sl rt (T.map Tm.enc),sl rv (V.map Vc.enc)]]):=g6 0 (by show 0<_;simp) (by decide) (by intro _;decide);have z7:a1<H1.length:=g4;have z8:0<H1.length:=by omega
     have z9:1<H1.length:=by have:5≤H1.length:=g5;omega
     have y5:5≤a1:=g3;have y0:¬0=a1:=by omega
     have y1:¬1=a1:=by omega
     have y2:¬a1=0:=by omega
     have y3:¬a1=1:=by omega
     have h5:=a01 (a0s (tx++lnT (a6z s)));have h6:=λπ=>a02 π (a0s (tx++lnT (a6z s)));rw[hsm']at hsm;rw[hdi]at hsm
     (repeat first|simp only[ww]|(apply xa;simp+decide only[go_sem,l1,hlt,hsm,hw,g1,List.length_map,b46];rfl;kernel_rfl))
     refine a1s (i+1) ?_ (by omega) (by omega);rw[hps,a50 (by simp[lnT])];simp+decide only[go_sem,a08,a03,p0,q1,q2,bdN,buf,hb5,hb6,y0,y1,y2,y3,z7,z8,z9,Nat.zero_le,Nat.not_lt_zero]<;>rfl
    ·have hdd:s.dir=0:=by omega
     have hdi:(s.dir:Int)=0:=by omega
     have hsl:a6z s=[[115,105,103,110,97,108],s.name,[105,110]]:=by unfold a6z;rw[hdd];rfl
     obtain⟨H1,a1,σ1,g1,g2,g3,g4,g5,g6⟩:=a3m [some (.row 3 [[sl rs (S.map Sg.enc),sl rt (T.map Tm.enc),sl rv (V.map Vc.enc)]]),some (.trow 82 true 2 [[.ptr 1 0 0,.slice 2 0 tx.length none]]),some (.trow 5 false 1 (a1j tx)),some (.row 2 [[.str s.name,.int .u8 (0:Int)]]),some (.row 1 [[.str [115,105,103,110,97,108]],[.str s.name],[.str [105,110]]])] 4 1 2 3 (some 3) tx (a6z s) rfl hok (by rw[hsl];rfl) (.inr ⟨hne,rfl,rfl,by decide⟩) (by decide) (λ_=>by decide);rcases g2 with ⟨g2,_⟩|⟨_,q1,q2,q3⟩
     ·exact absurd g2 (by simp[lnT])
     have p0:a05 H1 0=some (.row 3 [[sl rs (S.map Sg.enc),sl rt (T.map Tm.enc),sl rv (V.map Vc.enc)]]):=g6 0 (by show 0<_;simp) (by decide) (by intro _;decide);have z7:a1<H1.length:=g4;have z8:0<H1.length:=by omega
     have z9:1<H1.length:=by have:5≤H1.length:=g5;omega
     have y5:5≤a1:=g3;have y0:¬0=a1:=by omega
     have y1:¬1=a1:=by omega
     have y2:¬a1=0:=by omega
     have y3:¬a1=1:=by omega
     have h5:=a01 (a0s (tx++lnT (a6z s)));have h6:=λπ=>a02 π (a0s (tx++lnT (a6z s)));rw[hsm']at hsm;rw[hdi]at hsm
     (repeat first|simp only[ww]|(apply xa;simp+decide only[go_sem,l1,hlt,hsm,hw,g1,List.length_map,b46];rfl;kernel_rfl))
     refine a1s (i+1) ?_ (by omega) (by omega);rw[hps,a50 (by simp[lnT])];simp+decide only[go_sem,a08,a03,p0,q1,q2,bdN,buf,hb5,hb6,y0,y1,y2,y3,z7,z8,z9,Nat.zero_le,Nat.not_lt_zero]<;>rfl
  ·obtain rfl:i=S.length:=by omega
   have l1:¬(S.length:Int)<S.length:=by omega
   rw[List.take_length]
   (repeat first|simp only[ww]|(apply xa;simp+decide only[go_sem,l1,List.length_map];rfl;kernel_rfl))
   have bS':(txS S).length≤200*S.length:=bS;have bT':(txT T).length≤200*T.length:=bT;have bV':(txV T V).length≤200*V.length:=bV;refine a0i (σ:=Nat) kp18_2 (λj=>[(1,.ptr 0 0 0),(5,.ptr 1 0 0),(6,.func (.func 35) [] [.ptr 1 0 0]),(42,sl rt (T.map Tm.enc)),(43,.int .i64 T.length),(44,.int .i64 (j:Nat))]) (λj=>some (.row 3 [[sl rs (S.map Sg.enc),sl rt (T.map Tm.enc),sl rv (V.map Vc.enc)]])::bdH (txS S++txT (T.take j))) (λj=>T.length-j) (λj=>j≤T.length) 0 ?_ (Nat.zero_le _) ?_
   ·have e0:txT (T.take 0)=[]:=rfl;rw[e0,List.append_nil];by_cases hne:txS S=[]
    ·rw[hne,b3o];(simp+decide only[go_sem,a08,a03]<;>rfl)
    ·rw[a50 hne];(simp+decide only[go_sem,a08,a03,hb5,hb6]<;>rfl)
   ·intro j hj;by_cases hlt:j<T.length
    ·have l2:(j:Int)<T.length:=by omega
     obtain⟨t,ht⟩:∃t,T[j]?=some t:=⟨_,z9e hlt⟩
     have hsm:(T.map Tm.enc)[j]?=some (Tm.enc t):=by rw[List.getElem?_map,ht];rfl
     have hw:IntKind.i64.wrap ((j:Int)+1)=((j+1:Nat):Int):=by rw[w64 (by omega) (by omega)];omega
     have htok:=h.tm t (List.mem_of_getElem? ht);have htl9:=b1n htok;have htn:∀n∈a57 t,0≤n∧n≤1000000:=by have h0:=c33 htok;have:=h0.dr0;have:=h0.ri;have:=h0.fa;have:=h0.per;have:=h0.top;have:=h0.st0;have:=h0.st1;intro n hn;simp only[a57,List.mem_cons,List.not_mem_nil,or_false]at hn;omega
     have hps:txS S++txT (T.take (j+1))=txS S++txT (T.take j)++lnT (b02 t):=by rw[List.append_assoc];congr 1;exact e01 _ T ht
     have hle:=d0z (λt=>lnT (b02 t)) T j;have hle':(txT (T.take j)).length≤(txT T).length:=hle;have hok:okL (txS S++txT (T.take j)).length (b02 t):=c3u (by rw[List.length_append];omega) (by unfold b02 a57;simp) (by unfold b02 a57;simp);generalize txS S++txT (T.take j)=tx at hps hok⊢;by_cases hne:tx=[]
     ·subst hne;rw[b3o]
      (repeat first|simp only[ww]|(apply xa;simp+decide only[go_sem,l2,hlt,hsm,b41,List.length_map];rfl;kernel_rfl))
      refine a0i (σ:=Nat) kp18_4 (λp=>[(1,.ptr 0 0 0),(5,.ptr 1 0 0),(6,.func (.func 35) [] [.ptr 1 0 0]),(12,.slice 2 0 (2+p) (if p=0 then some 2 else none)),(42,sl rt (T.map Tm.enc)),(43,.int .i64 T.length),(44,.int .i64 (j:Nat)),(61,.slice 3 0 5 (some 5)),(62,.int .i64 5),(63,.int .i64 (p:Nat))]) (λp=>[some (.row 3 [[sl rs (S.map Sg.enc),sl rt (T.map Tm.enc),sl rv (V.map Vc.enc)]]),some (.trow 82 true 2 [[.nilptr,.nilslice]]),some (.row 1 (a1u (a4u::t.name::((a57 t).take p).map Lib.itoa))),some (.row 1 ((a57 t).map λn=>[AV.int .i64 n]))]) (λp=>5-p) (λp=>p≤5) 0 ?_ (Nat.zero_le _) ?_
      ·(simp+decide only[go_sem,a08,a03,a57,List.take_zero,List.map_nil,List.append_nil,List.map_cons,a1u]<;>rfl)
      ·intro p hp;by_cases hpl:p<5
       ·have l3:(p:Int)<5:=by omega
        have hlen5:(a57 t).length=5:=rfl;obtain⟨n,hn⟩:∃n,(a57 t)[p]?=some n:=⟨_,z9e (by omega)⟩
        have hnb:=htn n (List.mem_of_getElem? hn);have hito:=λd H=>b2t (d:=d) H n hnb.1 hnb.2;have hnm:((a57 t).map λn=>[AV.int .i64 n])[p]?=some [AV.int .i64 n]:=by rw[List.getElem?_map,hn];rfl
        have hnl:((a57 t).map λn=>[AV.int .i64 n]).length=5:=rfl;have hwp:IntKind.i64.wrap ((p:Int)+1)=((p+1:Nat):Int):=by rw[w64 (by omega) (by omega)];omega
        have hL:a1u (a4u::t.name::((a57 t).take (p+1)).map Lib.itoa)=a1u (a4u::t.name::((a57 t).take p).map Lib.itoa)++[[.str (Lib.itoa n)]]:=by rw[a3y hn];simp[a1u]
        have hLl:(a1u (a4u::t.name::((a57 t).take p).map Lib.itoa)).length=2+p:=by simp[a1u,hlen5];omega
        have hL1:=a01 (a48 (a4u::t.name::((a57 t).take (p+1)).map Lib.itoa));have hL2:=λπ=>a02 π (a48 (a4u::t.name::((a57 t).take (p+1)).map Lib.itoa));have hM1:((a57 t).map λn=>[AV.int .i64 n]).flatMap a0z=[]:=a01 (FlatR.map λ_=>rfl);have hM2:∀π,((a57 t).map λn=>[AV.int .i64 n]).map (λr=>r.map (ren π))=(a57 t).map λn=>[AV.int .i64 n]:=λπ=>a02 π (FlatR.map λ_=>rfl);rw[hL]at hL1 hL2;generalize a1u (a4u::t.name::((a57 t).take p).map Lib.itoa)=R at *;generalize((a57 t).map λn=>[AV.int .i64 n])=R5 at *;have hrm:2+p+1≤1000000000:=by omega
        have hif:(if p+1=0 then some 2 else none)=(none:Option Nat):=if_neg (by omega);have hRt:p=0→R.take 2=R:=λh=>List.take_of_length_le (by omega);by_cases hp0:p=0
        ·subst hp0;have hRt:=hRt rfl
         (repeat first|simp only[ww]|(apply xa;simp+decide only[go_sem,l3,hpl,hnm,hnl,hito,hwp,hLl,hrm,hRt,if_pos];rfl;kernel_rfl))
         refine a1s (0+1) ?_ (by omega) (by omega)
         (simp+decide only[go_sem,a08,a03,hL,hL1,hL2,hM1,hM2,hif,hRt,Nat.add_zero]<;>rfl)
        ·rw[if_neg hp0]
         (repeat first|simp only[ww]|(apply xa;simp+decide only[go_sem,l3,hpl,hnm,hnl,hito,hwp,hLl,hrm];rfl;kernel_rfl))
         refine a1s (p+1) ?_ (by omega) (by omega)
         (simp+decide only[go_sem,a08,a03,hL,hL1,hL2,hM1,hM2,hif]<;>rfl)
       ·obtain rfl:p=5:=by omega
        have l3:¬((5:Nat):Int)<5:=by omega
        have eL:a4u::t.name::((a57 t).take 5).map Lib.itoa=b02 t:=rfl;rw[eL,if_neg (by omega)];obtain⟨H1,a1,σ1,g1,g2,g3,g4,g5,g6⟩:=a3m [some (.row 3 [[sl rs (S.map Sg.enc),sl rt (T.map Tm.enc),sl rv (V.map Vc.enc)]]),some (.trow 82 true 2 [[.nilptr,.nilslice]]),some (.row 1 (a1u (b02 t))),some (.row 1 ((a57 t).map λn=>[AV.int .i64 n]))] 2 1 2 7 none [] (b02 t) rfl hok rfl (.inl ⟨rfl,rfl⟩) (by decide) (λh=>absurd rfl h);rcases g2 with ⟨g2,_⟩|⟨_,q1,q2,q3⟩
        ·exact absurd g2 (by simp[lnT])
        have p0:a05 H1 0=some (.row 3 [[sl rs (S.map Sg.enc),sl rt (T.map Tm.enc),sl rv (V.map Vc.enc)]]):=g6 0 (by show 0<_;simp) (by decide) (by intro _;decide);have z7:a1<H1.length:=g4;have z8:0<H1.length:=by omega
        have z9:1<H1.length:=by have:4≤H1.length:=g5;omega
        have y5:4≤a1:=g3;have y0:¬0=a1:=by omega
        have y1:¬1=a1:=by omega
        have y2:¬a1=0:=by omega
        have y3:¬a1=1:=by omega
        have h5:=a01 (a0s ([]++lnT (b02 t)));have h6:=λπ=>a02 π (a0s ([]++lnT (b02 t)))
        (repeat first|simp only[ww]|(apply xa;simp+decide only[go_sem,l3,g1,hw,List.length_map];rfl;kernel_rfl))
        refine a1s (j+1) ?_ (by omega) (by omega);rw[hps,a50 (by simp[lnT])];simp+decide only[go_sem,a08,a03,p0,q1,q2,bdN,buf,hb5,hb6,y0,y1,y2,y3,z7,z8,z9,Nat.zero_le,Nat.not_lt_zero]<;>rfl
     ·rw[a50 hne]
      (repeat first|simp only[ww]|(apply xa;simp+decide only[go_sem,l2,hlt,hsm,b41,List.length_map];rfl;kernel_rfl))
      refine a0i (σ:=Nat) kp18_4 (λp=>[(1,.ptr 0 0 0),(5,.ptr 1 0 0),(6,.func (.func 35) [] [.ptr 1 0 0]),(12,.slice 3 0 (2+p) (if p=0 then some 2 else none)),(42,sl rt (T.map Tm.enc)),(43,.int .i64 T.length),(44,.int .i64 (j:Nat)),(61,.slice 4 0 5 (some 5)),(62,.int .i64 5),(63,.int .i64 (p:Nat))]) (λp=>[some (.row 3 [[sl rs (S.map Sg.enc),sl rt (T.map Tm.enc),sl rv (V.map Vc.enc)]]),some (.trow 82 true 2 [[.ptr 1 0 0,.slice 2 0 tx.length none]]),some (.trow 5 false 1 (a1j tx)),some (.row 1 (a1u (a4u::t.name::((a57 t).take p).map Lib.itoa))),some (.row 1 ((a57 t).map λn=>[AV.int .i64 n]))]) (λp=>5-p) (λp=>p≤5) 0 ?_ (Nat.zero_le _) ?_
      ·(simp+decide only[go_sem,a08,a03,hb5,hb6,a57,List.take_zero,List.map_nil,List.append_nil,List.map_cons,a1u]<;>rfl)
      ·intro p hp;by_cases hpl:p<5
       ·have l3:(p:Int)<5:=by omega
        have hlen5:(a57 t).length=5:=rfl;obtain⟨n,hn⟩:∃n,(a57 t)[p]?=some n:=⟨_,z9e (by omega)⟩
        have hnb:=htn n (List.mem_of_getElem? hn);have hito:=λd H=>b2t (d:=d) H n hnb.1 hnb.2;have hnm:((a57 t).map λn=>[AV.int .i64 n])[p]?=some [AV.int .i64 n]:=by rw[List.getElem?_map,hn];rfl
        have hnl:((a57 t).map λn=>[AV.int .i64 n]).length=5:=rfl;have hwp:IntKind.i64.wrap ((p:Int)+1)=((p+1:Nat):Int):=by rw[w64 (by omega) (by omega)];omega
        have hL:a1u (a4u::t.name::((a57 t).take (p+1)).map Lib.itoa)=a1u (a4u::t.name::((a57 t).take p).map Lib.itoa)++[[.str (Lib.itoa n)]]:=by rw[a3y hn];simp[a1u]
        have hLl:(a1u (a4u::t.name::((a57 t).take p).map Lib.itoa)).length=2+p:=by simp[a1u,hlen5];omega
        have hL1:=a01 (a48 (a4u::t.name::((a57 t).take (p+1)).map Lib.itoa));have hL2:=λπ=>a02 π (a48 (a4u::t.name::((a57 t).take (p+1)).map Lib.itoa));have hM1:((a57 t).map λn=>[AV.int .i64 n]).flatMap a0z=[]:=a01 (FlatR.map λ_=>rfl);have hM2:∀π,((a57 t).map λn=>[AV.int .i64 n]).map (λr=>r.map (ren π))=(a57 t).map λn=>[AV.int .i64 n]:=λπ=>a02 π (FlatR.map λ_=>rfl);rw[hL]at hL1 hL2;generalize a1u (a4u::t.name::((a57 t).take p).map Lib.itoa)=R at *;generalize((a57 t).map λn=>[AV.int .i64 n])=R5 at *;have hrm:2+p+1≤1000000000:=by omega
        have hif:(if p+1=0 then some 2 else none)=(none:Option Nat):=if_neg (by omega);have hRt:p=0→R.take 2=R:=λh=>List.take_of_length_le (by omega);by_cases hp0:p=0
        ·subst hp0;have hRt:=hRt rfl
         (repeat first|simp only[ww]|(apply xa;simp+decide only[go_sem,l3,hpl,hnm,hnl,hito,hwp,hLl,hrm,hRt,if_pos];rfl;kernel_rfl))
         refine a1s (0+1) ?_ (by omega) (by omega)
         (simp+decide only[go_sem,a08,a03,hL,hL1,hL2,hM1,hM2,hb5,hb6,hif,hRt,Nat.add_zero]<;>rfl)
        ·rw[if_neg hp0]
         (repeat first|simp only[ww]|(apply xa;simp+decide only[go_sem,l3,hpl,hnm,hnl,hito,hwp,hLl,hrm];rfl;kernel_rfl))
         refine a1s (p+1) ?_ (by omega) (by omega)
         (simp+decide only[go_sem,a08,a03,hL,hL1,hL2,hM1,hM2,hb5,hb6,hif]<;>rfl)
       ·obtain rfl:p=5:=by omega
        have l3:¬((5:Nat):Int)<5:=by omega
        have eL:a4u::t.name::((a57 t).take 5).map Lib.itoa=b02 t:=rfl;rw[eL,if_neg (by omega)];obtain⟨H1,a1,σ1,g1,g2,g3,g4,g5,g6⟩:=a3m [some (.row 3 [[sl rs (S.map Sg.enc),sl rt (T.map Tm.enc),sl rv (V.map Vc.enc)]]),some (.trow 82 true 2 [[.ptr 1 0 0,.slice 2 0 tx.length none]]),some (.trow 5 false 1 (a1j tx)),some (.row 1 (a1u (b02 t))),some (.row 1 ((a57 t).map λn=>[AV.int .i64 n]))] 3 1 2 7 none tx (b02 t) rfl hok rfl (.inr ⟨hne,rfl,rfl,by decide⟩) (by decide) (λ_=>by decide);rcases g2 with ⟨g2,_⟩|⟨_,q1,q2,q3⟩
        ·exact absurd g2 (by simp[lnT])
        have p0:a05 H1 0=some (.row 3 [[sl rs (S.map Sg.enc),sl rt (T.map Tm.enc),sl rv (V.map Vc.enc)]]):=g6 0 (by show 0<_;simp) (by decide) (by intro _;decide);have z7:a1<H1.length:=g4;have z8:0<H1.length:=by omega
        have z9:1<H1.length:=by have:5≤H1.length:=g5;omega
        have y5:5≤a1:=g3;have y0:¬0=a1:=by omega
        have y1:¬1=a1:=by omega
        have y2:¬a1=0:=by omega
        have y3:¬a1=1:=by omega
        have h5:=a01 (a0s (tx++lnT (b02 t)));have h6:=λπ=>a02 π (a0s (tx++lnT (b02 t)))
        (repeat first|simp only[ww]|(apply xa;simp+decide only[go_sem,l3,g1,hw,List.length_map];rfl;kernel_rfl))
        refine a1s (j+1) ?_ (by omega) (by omega);rw[hps,a50 (by simp[lnT])];simp+decide only[go_sem,a08,a03,p0,q1,q2,bdN,buf,hb5,hb6,y0,y1,y2,y3,z7,z8,z9,Nat.zero_le,Nat.not_lt_zero]<;>rfl
    ·obtain rfl:j=T.length:=by omega
     have l2:¬(T.length:Int)<T.length:=by omega
     rw[List.take_length]
     (repeat first|simp only[ww]|(apply xa;simp+decide only[go_sem,l2,List.length_map];rfl;kernel_rfl))
     refine a0i (σ:=Nat) kp18_6 (λq=>[(1,.ptr 0 0 0),(5,.ptr 1 0 0),(6,.func (.func 35) [] [.ptr 1 0 0]),(78,sl rv (V.map Vc.enc)),(79,.int .i64 V.length),(80,.int .i64 (q:Nat))]) (λq=>some (.row 3 [[sl rs (S.map Sg.enc),sl rt (T.map Tm.enc),sl rv (V.map Vc.enc)]])::bdH (txS S++txT T++txV T (V.take q))) (λq=>V.length-q) (λq=>q≤V.length) 0 ?_ (Nat.zero_le _) ?_
     ·have e0:txV T (V.take 0)=[]:=rfl;rw[e0,List.append_nil];by_cases hne:txS S++txT T=[]
      ·rw[hne,b3o];(simp+decide only[go_sem,a08,a03]<;>rfl)
      ·rw[a50 hne];(simp+decide only[go_sem,a08,a03,hb5,hb6]<;>rfl)
     ·intro q hq;by_cases hlt:q<V.length
      ·have l3:(q:Int)<V.length:=by omega
       obtain⟨v,hv⟩:∃v,V[q]?=some v:=⟨_,z9e hlt⟩
       have hsm:(V.map Vc.enc)[q]?=some (Vc.enc v):=by rw[List.getElem?_map,hv];rfl
       have hw:IntKind.i64.wrap ((q:Int)+1)=((q+1:Nat):Int):=by rw[w64 (by omega) (by omega)];omega
       have hvm:=List.mem_of_getElem? hv;have hvk:=h.vc v hvm;simp only[a39,Bool.and_eq_true,decide_eq_true_eq]at hvk;obtain⟨tn,htn⟩:∃tn:Nat,v.t=tn:=⟨v.t.toNat,by omega⟩
       have htl:tn<T.length:=by omega
       obtain⟨t,ht⟩:∃t,T[tn]?=some t:=⟨_,z9e htl⟩
       have hst:(T.map Tm.enc)[tn]?=some (Tm.enc t):=by rw[List.getElem?_map,ht];rfl
       have hvl:a8i T v=[a8a,t.name,if v.cells=[]then[45]else v.cells]++(if v.rep=1 then[]else[Lib.itoa v.rep]):=b92 T v t (by rw[htn];exact ht);have hvl9:=b1m h hvm;have hps:txS S++txT T++txV T (V.take (q+1))=txS S++txT T++txV T (V.take q)++lnT (a8i T v):=by rw[List.append_assoc (txS S++txT T)];congr 1;exact e01 _ V hv
       have hle:=d0z (λv=>lnT (a8i T v)) V q;have hle':(txV T (V.take q)).length≤(txV T V).length:=hle;have hok:okL (txS S++txT T++txV T (V.take q)).length (a8i T v):=c3u (by rw[List.length_append,List.length_append];omega) (by rw[hvl];simp) (by rw[hvl];split<;>split<;>simp);have hne:txS S++txT T++txV T (V.take q)≠[]:=by
        intro e;have e1:=(List.append_eq_nil_iff.1 e).1;have e2:=(List.append_eq_nil_iff.1 e1).2;cases T with
        |nil=>simp at htl
        |cons t0 T'=>simp[txT,lnT]at e2
       have hito:=λd H=>b2t (d:=d) H v.rep (by omega) (by omega);generalize txS S++txT T++txV T (V.take q)=tx at hps hok hne⊢;rw[a50 hne];by_cases hc:v.cells=[]
       ·by_cases hr:v.rep=1
        ·have hll:a8i T v=[[118,101,99,116,111,114],t.name,[45]]:=by rw[hvl];simp[hc,hr,a8a]
         obtain⟨H1,a1,σ1,g1,g2,g3,g4,g5,g6⟩:=a3m [some (.row 3 [[sl rs (S.map Sg.enc),sl rt (T.map Tm.enc),sl rv (V.map Vc.enc)]]),some (.trow 82 true 2 [[.ptr 1 0 0,.slice 2 0 tx.length none]]),some (.trow 5 false 1 (a1j tx)),some (.row 3 [[.int .i64 tn,.str [],.int .i64 1]]),some (.row 1 [[.str [118,101,99,116,111,114]],[.str t.name],[.str [45]]])] 4 1 2 3 (some 3) tx (a8i T v) (by rw[hll];rfl) hok (by rw[hll];rfl) (.inr ⟨hne,rfl,rfl,by decide⟩) (by decide) (λ_=>by decide);rcases g2 with ⟨g2,_⟩|⟨_,q1,q2,q3⟩
         ·exact absurd g2 (by simp[lnT])
         have p0:a05 H1 0=some (.row 3 [[sl rs (S.map Sg.enc),sl rt (T.map Tm.enc),sl rv (V.map Vc.enc)]]):=g6 0 (by show 0<_;simp) (by decide) (by intro _;decide);have z7:a1<H1.length:=g4;have z8:0<H1.length:=by omega
         have z9:1<H1.length:=by have:5≤H1.length:=g5;omega
         have y5:5≤a1:=g3;have y0:¬0=a1:=by omega
         have y1:¬1=a1:=by omega
         have y2:¬a1=0:=by omega
         have y3:¬a1=1:=by omega
         have h5:=a01 (a0s (tx++lnT (a8i T v)));have h6:=λπ=>a02 π (a0s (tx++lnT (a8i T v)))
         (repeat first|simp only[ww]|(apply xa;simp+decide only[go_sem,l3,hlt,hsm,hst,htn,htl,hc,hr,g1,hw,hito,List.length_map];rfl;kernel_rfl))
         refine a1s (q+1) ?_ (by omega) (by omega);rw[hps,a50 (by simp[lnT])];simp+decide only[go_sem,a08,a03,p0,q1,q2,bdN,buf,hb5,hb6,y0,y1,y2,y3,z7,z8,z9,Nat.zero_le,Nat.not_lt_zero]<;>rfl
        ·have hll:a8i T v=[[118,101,99,116,111,114],t.name,[45]]++[Lib.itoa v.rep]:=by rw[hvl];simp[hc,hr,a8a]
         obtain⟨H1,a1,σ1,g1,g2,g3,g4,g5,g6⟩:=a3m [some (.row 3 [[sl rs (S.map Sg.enc),sl rt (T.map Tm.enc),sl rv (V.map Vc.enc)]]),some (.trow 82 true 2 [[.ptr 1 0 0,.slice 2 0 tx.length none]]),some (.trow 5 false 1 (a1j tx)),some (.row 3 [[.int .i64 tn,.str [],.int .i64 v.rep]]),some (.row 1 [[.str [118,101,99,116,111,114]],[.str t.name],[.str [45]]]),some (.row 1 [[.str (Lib.itoa v.rep)]]),some (.row 1 [[.str [118,101,99,116,111,114]],[.str t.name],[.str [45]],[.str (Lib.itoa v.rep)]])] 6 1 2 4 none tx (a8i T v) (by rw[hll];rfl) hok (by rw[hll];rfl) (.inr ⟨hne,rfl,rfl,by decide⟩) (by decide) (λ_=>by decide);rcases g2 with ⟨g2,_⟩|⟨_,q1,q2,q3⟩
         ·exact absurd g2 (by simp[lnT])
         have p0:a05 H1 0=some (.row 3 [[sl rs (S.map Sg.enc),sl rt (T.map Tm.enc),sl rv (V.map Vc.enc)]]):=g6 0 (by show 0<_;simp) (by decide) (by intro _;decide);have z7:a1<H1.length:=g4;have z8:0<H1.length:=by omega
         have z9:1<H1.length:=by have:7≤H1.length:=g5;omega
         have y5:7≤a1:=g3;have y0:¬0=a1:=by omega
         have y1:¬1=a1:=by omega
         have y2:¬a1=0:=by omega
         have y3:¬a1=1:=by omega
         have h5:=a01 (a0s (tx++lnT (a8i T v)));have h6:=λπ=>a02 π (a0s (tx++lnT (a8i T v)))
         (repeat first|simp only[ww]|(apply xa;simp+decide only[go_sem,l3,hlt,hsm,hst,htn,htl,hc,hr,g1,hw,hito,List.length_map];rfl;kernel_rfl))
         refine a1s (q+1) ?_ (by omega) (by omega);rw[hps,a50 (by simp[lnT])];simp+decide only[go_sem,a08,a03,p0,q1,q2,bdN,buf,hb5,hb6,y0,y1,y2,y3,z7,z8,z9,Nat.zero_le,Nat.not_lt_zero]<;>rfl
       ·by_cases hr:v.rep=1
        ·have hll:a8i T v=[[118,101,99,116,111,114],t.name,v.cells]:=by rw[hvl];simp[hc,hr,a8a]
         obtain⟨H1,a1,σ1,g1,g2,g3,g4,g5,g6⟩:=a3m [some (.row 3 [[sl rs (S.map Sg.enc),sl rt (T.map Tm.enc),sl rv (V.map Vc.enc)]]),some (.trow 82 true 2 [[.ptr 1 0 0,.slice 2 0 tx.length none]]),some (.trow 5 false 1 (a1j tx)),some (.row 3 [[.int .i64 tn,.str v.cells,.int .i64 1]]),some (.row 1 [[.str [118,101,99,116,111,114]],[.str t.name],[.str v.cells]])] 4 1 2 3 (some 3) tx (a8i T v) (by rw[hll];rfl) hok (by rw[hll];rfl) (.inr ⟨hne,rfl,rfl,by decide⟩) (by decide) (λ_=>by decide);rcases g2 with ⟨g2,_⟩|⟨_,q1,q2,q3⟩
         ·exact absurd g2 (by simp[lnT])
         have p0:a05 H1 0=some (.row 3 [[sl rs (S.map Sg.enc),sl rt (T.map Tm.enc),sl rv (V.map Vc.enc)]]):=g6 0 (by show 0<_;simp) (by decide) (by intro _;decide);have z7:a1<H1.length:=g4;have z8:0<H1.length:=by omega
         have z9:1<H1.length:=by have:5≤H1.length:=g5;omega
         have y5:5≤a1:=g3;have y0:¬0=a1:=by omega
         have y1:¬1=a1:=by omega
         have y2:¬a1=0:=by omega
         have y3:¬a1=1:=by omega
         have h5:=a01 (a0s (tx++lnT (a8i T v)));have h6:=λπ=>a02 π (a0s (tx++lnT (a8i T v)))
         (repeat first|simp only[ww]|(apply xa;simp+decide only[go_sem,l3,hlt,hsm,hst,htn,htl,hc,hr,g1,hw,hito,List.length_map];rfl;kernel_rfl))
         refine a1s (q+1) ?_ (by omega) (by omega);rw[hps,a50 (by simp[lnT])];simp+decide only[go_sem,a08,a03,p0,q1,q2,bdN,buf,hb5,hb6,y0,y1,y2,y3,z7,z8,z9,Nat.zero_le,Nat.not_lt_zero]<;>rfl
        ·have hll:a8i T v=[[118,101,99,116,111,114],t.name,v.cells]++[Lib.itoa v.rep]:=by rw[hvl];simp[hc,hr,a8a]
         obtain⟨H1,a1,σ1,g1,g2,g3,g4,g5,g6⟩:=a3m [some (.row 3 [[sl rs (S.map Sg.enc),sl rt (T.map Tm.enc),sl rv (V.map Vc.enc)]]),some (.trow 82 true 2 [[.ptr 1 0 0,.slice 2 0 tx.length none]]),some (.trow 5 false 1 (a1j tx)),some (.row 3 [[.int .i64 tn,.str v.cells,.int .i64 v.rep]]),some (.row 1 [[.str [118,101,99,116,111,114]],[.str t.name],[.str v.cells]]),some (.row 1 [[.str (Lib.itoa v.rep)]]),some (.row 1 [[.str [118,101,99,116,111,114]],[.str t.name],[.str v.cells],[.str (Lib.itoa v.rep)]])] 6 1 2 4 none tx (a8i T v) (by rw[hll];rfl) hok (by rw[hll];rfl) (.inr ⟨hne,rfl,rfl,by decide⟩) (by decide) (λ_=>by decide);rcases g2 with ⟨g2,_⟩|⟨_,q1,q2,q3⟩
         ·exact absurd g2 (by simp[lnT])
         have p0:a05 H1 0=some (.row 3 [[sl rs (S.map Sg.enc),sl rt (T.map Tm.enc),sl rv (V.map Vc.enc)]]):=g6 0 (by show 0<_;simp) (by decide) (by intro _;decide);have z7:a1<H1.length:=g4;have z8:0<H1.length:=by omega
         have z9:1<H1.length:=by have:7≤H1.length:=g5;omega
         have y5:7≤a1:=g3;have y0:¬0=a1:=by omega
         have y1:¬1=a1:=by omega
         have y2:¬a1=0:=by omega
         have y3:¬a1=1:=by omega
         have h5:=a01 (a0s (tx++lnT (a8i T v)));have h6:=λπ=>a02 π (a0s (tx++lnT (a8i T v)))
         (repeat first|simp only[ww]|(apply xa;simp+decide only[go_sem,l3,hlt,hsm,hst,htn,htl,hc,hr,g1,hw,hito,List.length_map];rfl;kernel_rfl))
         refine a1s (q+1) ?_ (by omega) (by omega);rw[hps,a50 (by simp[lnT])];simp+decide only[go_sem,a08,a03,p0,q1,q2,bdN,buf,hb5,hb6,y0,y1,y2,y3,z7,z8,z9,Nat.zero_le,Nat.not_lt_zero]<;>rfl
      ·obtain rfl:q=V.length:=by omega
       have l3:¬(V.length:Int)<V.length:=by omega
       rw[List.take_length];have hbd:(txS S++txT T++txV T V).length≤1000000:=by rw[List.length_append,List.length_append];omega
       have htx:b95 S T V=txS S++txT T++txV T V:=rfl;rw[htx];generalize txS S++txT T++txV T V=tx at hbd⊢;by_cases hne:tx=[]
       ·subst hne;rw[b3o];have k1:=e35 (.row 3 [[sl rs (S.map Sg.enc),sl rt (T.map Tm.enc),sl rv (V.map Vc.enc)]]);have k2:=e2q (.row 3 [[sl rs (S.map Sg.enc),sl rt (T.map Tm.enc),sl rv (V.map Vc.enc)]])
        (repeat first|simp only[ww]|(apply xa;simp+decide only[go_sem,l3,k1,k2];rfl;kernel_rfl))
        (apply fqb;simp+decide only[go_sem]<;>rfl)
       ·rw[a50 hne];have k1:=e34 (.row 3 [[sl rs (S.map Sg.enc),sl rt (T.map Tm.enc),sl rv (V.map Vc.enc)]]) tx;have k2:=e2p (.row 3 [[sl rs (S.map Sg.enc),sl rt (T.map Tm.enc),sl rv (V.map Vc.enc)]]) tx hne hbd;have c9:¬(1048576:Int)<tx.length:=by omega
        (repeat first|simp only[ww]|(apply xa;simp+decide only[go_sem,l3,k1,k2,c9];rfl;kernel_rfl))
        (apply fqb;simp+decide only[go_sem]<;>rfl)
end Go.RInst
