/- Part of a proof. No condition. -/
import Derived.Test.YtmbmjfjagololaaGreatDoorRPg
import Derived.Test.YtmbmjfjagololaaGreatDoorAxE
set_option linter.unusedSectionVars false
set_option linter.unusedSimpArgs false
set_option linter.unusedVariables false
namespace Go.RInst
open Go.Proofs Go.Ax Go.Pc
variable [PR]
set_option maxRecDepth 100000
theorem nodup_adj:∀m:List (List UInt8),m.Pairwise (·≤ ·)→(∀k a b,m[k]?=some a→m[k+1]?=some b→¬b=a)→m.Nodup
 | [],_,_=>List.nodup_nil
 | [a],_,_=>by simp
 |a::b::r,hp,hd=>by
  have hp:=List.pairwise_cons.1 hp;have ih:=nodup_adj (b::r) hp.2 λk x y h1 h2=>hd (k+1) x y (by simpa using h1) (by simpa using h2);have hab:¬b=a:=hd 0 a b rfl rfl;refine List.nodup_cons.2 ⟨λhm=>?_,ih⟩;have h1:a≤b:=hp.1 b (by simp);have h2:b≤a:=by
   rcases List.mem_cons.1 hm with h|h
   ·exact absurd h.symm hab
   ·exact(List.pairwise_cons.1 hp.2).1 a h
  exact hab (List.le_antisymm h2 h1)
theorem first_nat(P:Nat→Prop):∀n:Nat,P n→∃j,P j∧∀k,k<j→¬P k:=by
 intro n
 induction n using Nat.strongRecOn with
 |_ n ih=>
  intro h;by_cases hk:∃k,k<n∧P k
  ·obtain⟨k,hk,hp⟩:=hk;exact ih k hk hp
  ·exact⟨n,h,λk hk' hp=>hk ⟨k,hk',hp⟩⟩
theorem dup_first(l:List (List UInt8))(h:¬l.Nodup):∃j x,1≤j∧j<(sortS l).length∧(sortS l)[j-1]?=some x∧(sortS l)[j]?=some x∧∀k a b,k+1<j→(sortS l)[k]?=some a→(sortS l)[k+1]?=some b→¬b=a:=by
 have hn:¬(sortS l).Nodup:=λhn=>h ((sortS_perm l).nodup hn);have hex:∃k,∃a,(sortS l)[k]?=some a∧(sortS l)[k+1]?=some a:=by apply Classical.byContradiction;intro hno;exact hn (nodup_adj _ (sortS_sorted l) λk a b h1 h2 e=>hno ⟨k,a,h1,by rw[h2,e]⟩)
 obtain⟨k,hk⟩:=hex;obtain⟨j,⟨x,h1,h2⟩,hmin⟩:=first_nat (λk=>∃a,(sortS l)[k]?=some a∧(sortS l)[k+1]?=some a) k hk;refine⟨j+1,x,by omega,(List.getElem?_eq_some_iff.1 h2).1,h1,h2,λk a b hk ha hb e=>?_⟩;exact hmin k (by omega) ⟨a,ha,by rw[hb,e]⟩
theorem twice_dup(n:Nat)(l:List (List UInt8))(hn:l.length=n)(h0:0<n)(h1:n≤1000)(hd:¬l.Nodup):sem L.env Mf 51 [.slice 0 0 n none] [some (.row 1 (l.map stR))]=some (.bool true,[some (.row 1 (l.map stR))]):=by
 have hr:=λπ=>renR_flat π (stR_flat l);have hrf:=refs_flatR (stR_flat l);have hfz:=λq d=>frzR_flat q d (stR_flat l);have hl':(sortS l).length=n:=by rw[(sortS_perm l).length_eq,hn]
 obtain⟨j,x,j1,j2,j3,j4,j5⟩:=dup_first l hd;obtain⟨r,⟨i,R,hi,hRl,hR,rfl⟩,hc⟩:=compact_dup n (sortS l) hl' h1 j j1 (by omega) j5 x j3 j4;have k1:=clone_call n l hn h0 h1;have k2:callV L.env false (sem L.env Mf) (.func (.func 70) [] []) [.slice 2 0 n none] [some (.row 1 (l.map stR)),some (.row 1 []),some (.row 1 (l.map stR))]=some (.tuple [],[some (.row 1 (l.map stR)),some (.row 1 []),some (.row 1 ((sortS l).map stR))],[2]):=callV_one' (by kernel_rfl) (by kernel_rfl) rfl (b:=2) (o:=.row 1 (l.map stR)) (o':=.row 1 ((sortS l).map stR)) rfl (refsO_flat (stR_flat l)) (FlatO.row (stR_flat l)) rfl rfl (sorts_ok n l hn h0 h1) (FlatO.row (stR_flat _)) rfl;have k3:callV L.env false (sem L.env Mf) (.func (.func 71) [] []) [.slice 2 0 n none] [some (.row 1 (l.map stR)),some (.row 1 []),some (.row 1 ((sortS l).map stR))]=some (.slice 2 0 i none,[some (.row 1 (l.map stR)),some (.row 1 []),some (.row 1 R)],[2]):=callV_one' (by kernel_rfl) (by kernel_rfl) rfl (b:=2) (o:=.row 1 ((sortS l).map stR)) (o':=.row 1 R) rfl (refsO_flat (stR_flat _)) (FlatO.row (stR_flat _)) rfl rfl hc (FlatO.row hR) rfl;have l1:(i:Int)<n:=by omega
 (refine sv Tryz.f51 ?_;simp only[Tryz.f51,gS])
 (repeat first|simp only[ww]|(apply xa;simp+decide only[go_sem,k1,k2,k3,l1];rfl;kernel_rfl))
 (apply fqb;simp+decide only[go_sem,hr,hfz,hrf]<;>rfl)
theorem tw_gen{d:Bool}(H:Heap)(b:Nat)(ns:List (List UInt8))(hH:ns≠[]→HeapF H b=some (.row 1 (ns.map stR)))(hn:ns.length≤1000):∃σ,callV L.env d (sem L.env Mf) (.func (.func 51) [] []) [grV b (ns.map stR)] H=some (.bool (!decide ns.Nodup),H,σ):=by
 by_cases hd:ns.Nodup
 ·rw[decide_eq_true hd];exact tw_call H b ns hH hn hd
 ·rw[decide_eq_false hd];cases ns with
  |nil=>exact absurd List.nodup_nil hd
  |cons a r=>refine⟨[b],?_⟩;rw[grV_ne b (by simp),List.length_map];exact callV_one (by kernel_rfl) (by kernel_rfl) rfl (hH (by simp)) (refsO_flat (stR_flat _)) (FlatO.row (stR_flat _)) rfl (ren_slice1 b 0 _ _▸rfl) (twice_dup (a::r).length (a::r) rfl (by simp) hn hd) rfl
end Go.RInst
namespace Go.RInst
open Go.Proofs Go.Ax Go.Pc
variable [PR]
set_option maxRecDepth 100000
/-- The error of a program. -/
def chkP(S:List Sg)(T:List Tm)(V:List Vc):Int:=if 16<T.length then 3 else if(S.all sgOk&&T.all tmOk&&V.all λv=>vcOk v S T.length)=false then 1 else if(!decide (S.map Sg.name).Nodup || !decide (T.map Tm.name).Nodup)=true then 5 else if 1000000<repSum V then 3 else 0
def csum(V:List Vc)(i:Nat):Int:=if repSum (V.take i)<1000001 then repSum (V.take i)else 1000001
theorem csum_0(V:List Vc):csum V 0=0:=rfl
theorem csum_le(V:List Vc)(i:Nat):csum V i≤1000001:=by unfold csum;split<;>omega
theorem csum_s(V:List Vc){i:Nat}{v:Vc}(h:V[i]?=some v)(hr:1≤v.rep):(csum V i+v.rep<1000001→csum V (i+1)=csum V i+v.rep)∧(1000001≤csum V i+v.rep→csum V (i+1)=1000001):=by have hs:=repSum_s V h;unfold csum;rw[hs];split<;>split<;>(constructor<;>omega)
theorem csum_end(V:List Vc):(1000000<csum V V.length↔1000000<repSum V):=by unfold csum;rw[List.take_length];split<;>omega
theorem all_not{α:Type}{p:α→Bool}{l:List α}{i:Nat}{x:α}(h:l[i]?=some x)(hp:p x=false):l.all p=false:=by rw[Bool.eq_false_iff];intro ha;have:=List.all_eq_true.1 ha x (List.mem_of_getElem? h);rw[hp]at this;cases this
theorem all_take{α:Type}{p:α→Bool}{l:List α}{i:Nat}{x:α}(h:l[i]?=some x)(ha:(l.take i).all p=true)(hp:p x=true):(l.take (i+1)).all p=true:=by rw[take_s h,List.all_append,ha];simp[hp]
theorem chk_lim(S:List Sg)(T:List Tm)(V:List Vc)(h:16<T.length):chkP S T V=3:=if_pos h
theorem chk_s(S:List Sg)(T:List Tm)(V:List Vc)(h:¬16<T.length)(hs:S.all sgOk=false):chkP S T V=1:=by unfold chkP;rw[if_neg h,hs];rfl
theorem chk_t(S:List Sg)(T:List Tm)(V:List Vc)(h:¬16<T.length)(hs:T.all tmOk=false):chkP S T V=1:=by unfold chkP;rw[if_neg h,hs,Bool.and_false];rfl
theorem chk_v(S:List Sg)(T:List Tm)(V:List Vc)(h:¬16<T.length)(hs:(V.all λv=>vcOk v S T.length)=false):chkP S T V=1:=by unfold chkP;rw[if_neg h,hs,Bool.and_false];rfl
theorem chk_r(S:List Sg)(T:List Tm)(V:List Vc)(h:¬16<T.length)(h1:S.all sgOk=true)(h2:T.all tmOk=true)(h3:(V.all λv=>vcOk v S T.length)=true):chkP S T V=if(!decide (S.map Sg.name).Nodup || !decide (T.map Tm.name).Nodup)=true then 5 else if 1000000<repSum V then 3 else 0:=by unfold chkP;rw[if_neg h,h1,h2,h3];rfl
set_option maxHeartbeats 8000000 in
theorem check_gen(rs rt rv:Option (Option Nat))(S:List Sg)(T:List Tm)(V:List Vc)(hS:S.length≤100)(hT:T.length≤100)(hV:V.length≤100):sem L.env Mf 21 [.agg [sl rs (S.map Sg.enc),sl rt (T.map Tm.enc),sl rv (V.map Vc.enc)]] []=some (.int .i64 (chkP S T V),[]):=by
 have c1:¬(256:Int)<S.length:=by omega
 have c3:¬(65536:Int)<V.length:=by omega
 have hsg:=λd H n k=>callV_flat (E:=L.env) (draw:=d) (call:=sem L.env Mf) (g:=48) (fs:=[]) (cs:=[]) (ar:=[.agg [.str n,.int .u8 (k:Nat)]]) (H:=H) (by kernel_rfl) (by kernel_rfl) rfl (by rfl) (sgv_ok n k) rfl;have htm:=λd H t=>callV_flat (E:=L.env) (draw:=d) (call:=sem L.env Mf) (g:=49) (fs:=[]) (cs:=[]) (ar:=[.agg (Tm.enc t)]) (H:=H) (by kernel_rfl) (by kernel_rfl) rfl (by rfl) (tmv_ok t) rfl;have hvc:=λd H v=>callV_flat (E:=L.env) (draw:=d) (call:=sem L.env Mf) (g:=50) (fs:=[]) (cs:=[]) (ar:=[.agg (Vc.enc v),.agg [sl rs (S.map Sg.enc),sl rt (T.map Tm.enc),sl rv (V.map Vc.enc)]]) (H:=H) (by kernel_rfl) (by kernel_rfl) rfl (by simp+decide only[go_sem]<;>rfl) (vecv_ok v rs rt S T (sl rv (V.map Vc.enc)) (by simp+decide only[go_sem]) (by simp+decide only[go_sem]) (by omega)) rfl;by_cases hT16:16<T.length
 ·have c2:(16:Int)<T.length:=by omega
  rw[chk_lim S T V hT16]
  (refine sv Tryz.f21 ?_;simp only[Tryz.f21,gS])
  (repeat first|simp only[ww]|(apply xa;simp+decide only[go_sem,c1,c2,c3,List.length_map];rfl;kernel_rfl))
  (apply fqb;simp+decide only[go_sem]<;>rfl)
 have c2:¬(16:Int)<T.length:=by omega
 (refine sv Tryz.f21 ?_;simp only[Tryz.f21,gS])
 (repeat first|simp only[ww]|(apply xa;simp+decide only[go_sem,c1,c2,c3,List.length_map];rfl;kernel_rfl))
 refine xp_loop3 (σ:=Nat) kp21_0 (λi=>[(1,.ptr 0 0 0),(3,grV 1 ((S.take i).map snR)),(4,.nilslice),(29,sl rs (S.map Sg.enc)),(30,.int .i64 S.length),(31,.int .i64 (i:Nat))]) (λi=>some (.row 3 [[sl rs (S.map Sg.enc),sl rt (T.map Tm.enc),sl rv (V.map Vc.enc)]])::grH 1 ((S.take i).map snR)) (λi=>S.length-i) (λi=>i≤S.length∧(S.take i).all sgOk=true) 0 ?_ ⟨Nat.zero_le _,rfl⟩ ?_
 ·(simp+decide only[go_sem,gcD_eq,gcIds_eq,List.take_zero,List.map_nil,grV_nil,grH_nil]<;>rfl)
 ·rintro i ⟨hi,hall⟩
  by_cases hlt:i<S.length
  ·have l1:(i:Int)<S.length:=by omega
   obtain⟨s,hs⟩:∃s,S[i]?=some s:=⟨_,List.getElem?_eq_getElem hlt⟩
   have hval:=hsg;have hsm:(S.map Sg.enc)[i]?=some (Sg.enc s):=by rw[List.getElem?_map,hs];rfl
   by_cases hv1:sgOk ⟨s.name,s.dir⟩=true
   case neg=>
    have hv2:sgOk ⟨s.name,s.dir⟩=false:=by simpa using hv1
    rw[chk_s S T V hT16 (all_not hs hv2)];by_cases hz:(S.take i).map snR=[]
    ·rw[hz];simp only[grV_nil,grH_nil]
     (repeat first|simp only[ww]|(apply xa;simp+decide only[go_sem,l1,hlt,hsm,hval,hv2,List.length_map];rfl;kernel_rfl))
     (apply fqb;simp+decide only[go_sem]<;>rfl)
    ·rw[grV_ne 1 hz,grH_ne 1 hz]
     (repeat first|simp only[ww]|(apply xa;simp+decide only[go_sem,l1,hlt,hsm,hval,hv2,List.length_map];rfl;kernel_rfl))
     (apply fqb;simp+decide only[go_sem]<;>rfl)
   have hall1:=all_take hs hall hv1;have hw:IntKind.i64.wrap ((i:Int)+1)=((i+1:Nat):Int):=by rw[w64 (by omega) (by omega)];omega
   have hsr:(S.take (i+1)).map snR=(S.take i).map snR++[[.str s.name]]:=by rw[take_s hs,List.map_append];rfl
   have h5:=refs_flatR (snR_flat (S.take (i+1)));have h6:=λπ=>renR_flat π (snR_flat (S.take (i+1)));have hlen:((S.take i).map snR).length=i:=by rw[List.length_map,List.length_take];omega
   have hrm:i+1≤1000000000:=by omega
   by_cases hk:i=0
   ·subst hk;have e0:(S.take 0).map snR=[]:=rfl;rw[e0]at hsr⊢;simp only[List.nil_append]at hsr
    (repeat first|simp only[ww]|(apply xa;simp+decide only[go_sem,l1,hlt,hsm,hval,hv1,hw,List.length_map,grV_nil,grH_nil];rfl;kernel_rfl))
    refine lp_n (0+1) ?_ (by omega) ⟨by omega,hall1⟩
    (simp+decide only[go_sem,gcD_eq,gcIds_eq,hsr,grV_cons,grH_cons,List.length_nil]<;>rfl)
   ·have hne:(S.take i).map snR≠[]:=by intro e;rw[e]at hlen;simp at hlen;omega
    rw[grV_ne 1 hne,grH_ne 1 hne,hlen];rw[hsr]at h5 h6;generalize(S.take i).map snR=R at hsr hlen h5 h6
    (repeat first|simp only[ww]|(apply xa;simp+decide only[go_sem,l1,hlt,hsm,hval,hv1,hw,hlen,hrm,List.length_map];rfl;kernel_rfl))
    refine lp_n (i+1) ?_ (by omega) ⟨by omega,hall1⟩
    (simp+decide only[go_sem,gcD_eq,gcIds_eq,hsr,grV_snoc,grH_snoc,h5,h6,hlen]<;>rfl)
  ·obtain rfl:i=S.length:=by omega
   have l1:¬(S.length:Int)<S.length:=by omega
   have hf1:=refs_flatR (snR_flat S);have hf2:=λπ=>renR_flat π (snR_flat S);rw[List.take_length]at hall⊢;have hallS:=hall;by_cases hk:S=[]
   ·have e1:S.map snR=[]:=by rw[hk];rfl
    rw[e1];simp only[grV_nil,grH_nil]
    (repeat first|simp only[ww]|(apply xa;simp+decide only[go_sem,l1,List.length_map];rfl;kernel_rfl))
    refine xp_loop3 (σ:=Nat) kp21_2 (λi=>[(1,.ptr 0 0 0),(3,.nilslice),(4,grV 1 ((T.take i).map tnR)),(45,sl rt (T.map Tm.enc)),(46,.int .i64 T.length),(47,.int .i64 (i:Nat))]) (λi=>some (.row 3 [[sl rs (S.map Sg.enc),sl rt (T.map Tm.enc),sl rv (V.map Vc.enc)]])::grH 1 ((T.take i).map tnR)) (λi=>T.length-i) (λi=>i≤T.length∧(T.take i).all tmOk=true) 0 ?_ ⟨Nat.zero_le _,rfl⟩ ?_
    ·(simp+decide only[go_sem,gcD_eq,gcIds_eq,List.take_zero,List.map_nil,grV_nil,grH_nil]<;>rfl)
    ·rintro i ⟨hi,hall⟩
     by_cases hlt:i<T.length
     ·have l1:(i:Int)<T.length:=by omega
      obtain⟨t,hs⟩:∃t,T[i]?=some t:=⟨_,List.getElem?_eq_getElem hlt⟩
      have hval:=htm;have hsm:(T.map Tm.enc)[i]?=some (Tm.enc t):=by rw[List.getElem?_map,hs];rfl
      by_cases hv1:tmOk t=true
      case neg=>
       have hv2:tmOk t=false:=by simpa using hv1
       rw[chk_t S T V hT16 (all_not hs hv2)];by_cases hz:(T.take i).map tnR=[]
       ·rw[hz];simp only[grV_nil,grH_nil]
        (repeat first|simp only[ww]|(apply xa;simp+decide only[go_sem,l1,hlt,hsm,hval,hv2,List.length_map];rfl;kernel_rfl))
        (apply fqb;simp+decide only[go_sem]<;>rfl)
       ·rw[grV_ne 1 hz,grH_ne 1 hz]
        (repeat first|simp only[ww]|(apply xa;simp+decide only[go_sem,l1,hlt,hsm,hval,hv2,List.length_map];rfl;kernel_rfl))
        (apply fqb;simp+decide only[go_sem]<;>rfl)
      have hall1:=all_take hs hall hv1;have hw:IntKind.i64.wrap ((i:Int)+1)=((i+1:Nat):Int):=by rw[w64 (by omega) (by omega)];omega
      have hsr:(T.take (i+1)).map tnR=(T.take i).map tnR++[[.str t.name]]:=by rw[take_s hs,List.map_append];rfl
      have h5:=refs_flatR (tnR_flat (T.take (i+1)));have h6:=λπ=>renR_flat π (tnR_flat (T.take (i+1)));have hlen:((T.take i).map tnR).length=i:=by rw[List.length_map,List.length_take];omega
      have hrm:i+1≤1000000000:=by omega
      by_cases hk:i=0
      ·subst hk;have e0:(T.take 0).map tnR=[]:=rfl;rw[e0]at hsr⊢;simp only[List.nil_append]at hsr
       (repeat first|simp only[ww]|(apply xa;simp+decide only[go_sem,l1,hlt,hsm,hval,hv1,hw,List.length_map,grV_nil,grH_nil];rfl;kernel_rfl))
       refine lp_n (0+1) ?_ (by omega) ⟨by omega,hall1⟩
       (simp+decide only[go_sem,gcD_eq,gcIds_eq,hsr,grV_cons,grH_cons,List.length_nil]<;>rfl)
      ·have hne:(T.take i).map tnR≠[]:=by intro e;rw[e]at hlen;simp at hlen;omega
       rw[grV_ne 1 hne,grH_ne 1 hne,hlen];rw[hsr]at h5 h6;generalize(T.take i).map tnR=R at hsr hlen h5 h6
       (repeat first|simp only[ww]|(apply xa;simp+decide only[go_sem,l1,hlt,hsm,hval,hv1,hw,hlen,hrm,List.length_map];rfl;kernel_rfl))
       refine lp_n (i+1) ?_ (by omega) ⟨by omega,hall1⟩
       (simp+decide only[go_sem,gcD_eq,gcIds_eq,hsr,grV_snoc,grH_snoc,h5,h6,hlen]<;>rfl)
     ·obtain rfl:i=T.length:=by omega
      have l2:¬(T.length:Int)<T.length:=by omega
      have hg1:=refs_flatR (tnR_flat T);have hg2:=λπ=>renR_flat π (tnR_flat T);rw[List.take_length]at hall⊢;have hallT:=hall;by_cases hkT:T=[]
      ·have e2:T.map tnR=[]:=by rw[hkT];rfl
       rw[e2];simp only[grV_nil,grH_nil]
       (repeat first|simp only[ww]|(apply xa;simp+decide only[go_sem,l2,List.length_map];rfl;kernel_rfl))
       refine xp_loop3 (σ:=Nat) kp21_4 (λi=>[(1,.ptr 0 0 0),(3,.nilslice),(4,.nilslice),(9,.int .i64 (csum V i)),(61,sl rv (V.map Vc.enc)),(62,.int .i64 V.length),(63,.int .i64 (i:Nat))]) (λ_=>[some (.row 3 [[sl rs (S.map Sg.enc),sl rt (T.map Tm.enc),sl rv (V.map Vc.enc)]])]) (λi=>V.length-i) (λi=>i≤V.length∧((V.take i).all λv=>vcOk v S T.length)=true∧0≤csum V i) 0 ?_ ⟨Nat.zero_le _,rfl,Int.le_refl _⟩ ?_
       ·have e0:=csum_0 V
        (simp+decide only[go_sem,gcD_eq,gcIds_eq,e0]<;>rfl)
       ·rintro i ⟨hi,hall,hc0⟩
        have hcl:=csum_le V i;by_cases hlt:i<V.length
        ·have l3:(i:Int)<V.length:=by omega
         obtain⟨v,hs⟩:∃v,V[i]?=some v:=⟨_,List.getElem?_eq_getElem hlt⟩
         have hsm:(V.map Vc.enc)[i]?=some (Vc.enc v):=by rw[List.getElem?_map,hs];rfl
         by_cases hv1:vcOk v S T.length=true
         case neg=>
          have hv2:vcOk v S T.length=false:=by simpa using hv1
          rw[chk_v S T V hT16 (all_not hs hv2)]
          (repeat first|simp only[ww]|(apply xa;simp+decide only[go_sem,l3,hlt,hsm,hvc,hv2,List.length_map];rfl;kernel_rfl))
          (apply fqb;simp+decide only[go_sem]<;>rfl)
         have hall1:=all_take (p:=λv=>vcOk v S T.length) hs hall hv1;have hw:IntKind.i64.wrap ((i:Int)+1)=((i+1:Nat):Int):=by rw[w64 (by omega) (by omega)];omega
         have hrp:1≤v.rep∧v.rep≤1000000:=by simp only[vcOk,Bool.and_eq_true,decide_eq_true_eq]at hv1;exact⟨hv1.2.2.1,hv1.2.2.2.1⟩
         have hcs:=csum_s V hs hrp.1;have hw2:IntKind.i64.wrap (csum V i+v.rep)=csum V i+v.rep:=w64 (by omega) (by omega);by_cases hM:csum V i+v.rep<1000001
         ·have hmn2:¬(1000001:Int)<csum V i+v.rep:=by omega
          have hmn3:csum V i+v.rep≤1000001:=by omega
          have hce:=hcs.1 hM
          (repeat first|simp only[ww]|(apply xa;simp+decide only[go_sem,l3,hlt,hsm,hvc,hv1,hw,hw2,hM,hmn2,hmn3,List.length_map];rfl;kernel_rfl))
          refine lp_n (i+1) ?_ (by omega) ⟨by omega,hall1,by omega⟩
          (simp+decide only[go_sem,gcD_eq,gcIds_eq,hce]<;>rfl)
         ·have hce:=hcs.2 (by omega);by_cases hM2:csum V i+v.rep=1000001
          ·(repeat first|simp only[ww]|(apply xa;simp+decide only[go_sem,l3,hlt,hsm,hvc,hv1,hw,hw2,hM2,List.length_map];rfl;kernel_rfl))
           refine lp_n (i+1) ?_ (by omega) ⟨by omega,hall1,by omega⟩
           (simp+decide only[go_sem,gcD_eq,gcIds_eq,hce]<;>rfl)
          ·have hmn2:(1000001:Int)<csum V i+v.rep:=by omega
           have hmn3:¬csum V i+v.rep≤1000001:=by omega
           (repeat first|simp only[ww]|(apply xa;simp+decide only[go_sem,l3,hlt,hsm,hvc,hv1,hw,hw2,hM,hmn2,hmn3,List.length_map];rfl;kernel_rfl))
           refine lp_n (i+1) ?_ (by omega) ⟨by omega,hall1,by omega⟩
           (simp+decide only[go_sem,gcD_eq,gcIds_eq,hce]<;>rfl)
        ·obtain rfl:i=V.length:=by omega
         have l3:¬(V.length:Int)<V.length:=by omega
         rw[List.take_length]at hall;have hce:=csum_end V;rw[chk_r S T V hT16 hallS hallT hall];obtain⟨σ1,w1⟩:=tw_gen (d:=false) [some (.row 3 [[sl rs (S.map Sg.enc),sl rt (T.map Tm.enc),sl rv (V.map Vc.enc)]])] 1 (S.map Sg.name) (λhh=>absurd (by rw[hk];rfl) hh) (by rw[List.length_map];omega);obtain⟨σ2,w2⟩:=tw_gen (d:=false) [some (.row 3 [[sl rs (S.map Sg.enc),sl rt (T.map Tm.enc),sl rv (V.map Vc.enc)]])] 1 (T.map Tm.name) (λhh=>absurd (by rw[hkT];rfl) hh) (by rw[List.length_map];omega);rw[←snR_str]at w1;rw[←tnR_str]at w2;rw[e1,grV_nil]at w1;rw[e2,grV_nil]at w2;have d1:decide (S.map Sg.name).Nodup=true:=decide_eq_true (by rw[hk];exact List.nodup_nil);have d2:decide (T.map Tm.name).Nodup=true:=decide_eq_true (by rw[hkT];exact List.nodup_nil);rw[d1]at w1⊢;rw[d2]at w2⊢;by_cases hsu:1000000<repSum V
         ·have l4:=hce.2 hsu;rw[if_pos hsu]
          (repeat first|simp only[ww]|(apply xa;simp+decide only[go_sem,l3,l4,w1,w2,List.length_map];rfl;kernel_rfl))
          (apply fqb;simp+decide only[go_sem]<;>rfl)
         ·have l4:¬1000000<csum V V.length:=λh=>hsu (hce.1 h);rw[if_neg hsu]
          (repeat first|simp only[ww]|(apply xa;simp+decide only[go_sem,l3,l4,w1,w2,List.length_map];rfl;kernel_rfl))
          (apply fqb;simp+decide only[go_sem]<;>rfl)
      ·have hneT:T.map tnR≠[]:=by simpa using hkT
       rw[grV_ne 1 hneT,grH_ne 1 hneT,List.length_map]
       (repeat first|simp only[ww]|(apply xa;simp+decide only[go_sem,l2,List.length_map];rfl;kernel_rfl))
       refine xp_loop3 (σ:=Nat) kp21_4 (λi=>[(1,.ptr 0 0 0),(3,.nilslice),(4,.slice 1 0 T.length none),(9,.int .i64 (csum V i)),(61,sl rv (V.map Vc.enc)),(62,.int .i64 V.length),(63,.int .i64 (i:Nat))]) (λ_=>[some (.row 3 [[sl rs (S.map Sg.enc),sl rt (T.map Tm.enc),sl rv (V.map Vc.enc)]]),some (.row 1 (T.map tnR))]) (λi=>V.length-i) (λi=>i≤V.length∧((V.take i).all λv=>vcOk v S T.length)=true∧0≤csum V i) 0 ?_ ⟨Nat.zero_le _,rfl,Int.le_refl _⟩ ?_
       ·have e0:=csum_0 V
        (simp+decide only[go_sem,gcD_eq,gcIds_eq,e0,hg1,hg2]<;>rfl)
       ·rintro i ⟨hi,hall,hc0⟩
        have hcl:=csum_le V i;by_cases hlt:i<V.length
        ·have l3:(i:Int)<V.length:=by omega
         obtain⟨v,hs⟩:∃v,V[i]?=some v:=⟨_,List.getElem?_eq_getElem hlt⟩
         have hsm:(V.map Vc.enc)[i]?=some (Vc.enc v):=by rw[List.getElem?_map,hs];rfl
         by_cases hv1:vcOk v S T.length=true
         case neg=>
          have hv2:vcOk v S T.length=false:=by simpa using hv1
          rw[chk_v S T V hT16 (all_not hs hv2)]
          (repeat first|simp only[ww]|(apply xa;simp+decide only[go_sem,l3,hlt,hsm,hvc,hv2,List.length_map,hg1,hg2];rfl;kernel_rfl))
          (apply fqb;simp+decide only[go_sem,hg1,hg2]<;>rfl)
         have hall1:=all_take (p:=λv=>vcOk v S T.length) hs hall hv1;have hw:IntKind.i64.wrap ((i:Int)+1)=((i+1:Nat):Int):=by rw[w64 (by omega) (by omega)];omega
         have hrp:1≤v.rep∧v.rep≤1000000:=by simp only[vcOk,Bool.and_eq_true,decide_eq_true_eq]at hv1;exact⟨hv1.2.2.1,hv1.2.2.2.1⟩
         have hcs:=csum_s V hs hrp.1;have hw2:IntKind.i64.wrap (csum V i+v.rep)=csum V i+v.rep:=w64 (by omega) (by omega);by_cases hM:csum V i+v.rep<1000001
         ·have hmn2:¬(1000001:Int)<csum V i+v.rep:=by omega
          have hmn3:csum V i+v.rep≤1000001:=by omega
          have hce:=hcs.1 hM
          (repeat first|simp only[ww]|(apply xa;simp+decide only[go_sem,l3,hlt,hsm,hvc,hv1,hw,hw2,hM,hmn2,hmn3,List.length_map,hg1,hg2];rfl;kernel_rfl))
          refine lp_n (i+1) ?_ (by omega) ⟨by omega,hall1,by omega⟩
          (simp+decide only[go_sem,gcD_eq,gcIds_eq,hce,hg1,hg2]<;>rfl)
         ·have hce:=hcs.2 (by omega);by_cases hM2:csum V i+v.rep=1000001
          ·(repeat first|simp only[ww]|(apply xa;simp+decide only[go_sem,l3,hlt,hsm,hvc,hv1,hw,hw2,hM2,List.length_map,hg1,hg2];rfl;kernel_rfl))
           refine lp_n (i+1) ?_ (by omega) ⟨by omega,hall1,by omega⟩
           (simp+decide only[go_sem,gcD_eq,gcIds_eq,hce,hg1,hg2]<;>rfl)
          ·have hmn2:(1000001:Int)<csum V i+v.rep:=by omega
           have hmn3:¬csum V i+v.rep≤1000001:=by omega
           (repeat first|simp only[ww]|(apply xa;simp+decide only[go_sem,l3,hlt,hsm,hvc,hv1,hw,hw2,hM,hmn2,hmn3,List.length_map,hg1,hg2];rfl;kernel_rfl))
           refine lp_n (i+1) ?_ (by omega) ⟨by omega,hall1,by omega⟩
           (simp+decide only[go_sem,gcD_eq,gcIds_eq,hce,hg1,hg2]<;>rfl)
        ·obtain rfl:i=V.length:=by omega
         have l3:¬(V.length:Int)<V.length:=by omega
         rw[List.take_length]at hall;have hce:=csum_end V;rw[chk_r S T V hT16 hallS hallT hall];obtain⟨σ1,w1⟩:=tw_gen (d:=false) [some (.row 3 [[sl rs (S.map Sg.enc),sl rt (T.map Tm.enc),sl rv (V.map Vc.enc)]]),some (.row 1 (T.map tnR))] 1 (S.map Sg.name) (λhh=>absurd (by rw[hk];rfl) hh) (by rw[List.length_map];omega);obtain⟨σ2,w2⟩:=tw_gen (d:=false) [some (.row 3 [[sl rs (S.map Sg.enc),sl rt (T.map Tm.enc),sl rv (V.map Vc.enc)]]),some (.row 1 (T.map tnR))] 1 (T.map Tm.name) (λhh=>by rw[←tnR_str];rfl) (by rw[List.length_map];omega);rw[←snR_str]at w1;rw[←tnR_str]at w2;rw[e1,grV_nil]at w1;rw[grV_ne 1 hneT,List.length_map]at w2;generalize decide (S.map Sg.name).Nodup=p1 at *;generalize decide (T.map Tm.name).Nodup=p2 at *;cases p1
         ·(repeat first|simp only[ww]|(apply xa;simp+decide only[go_sem,l3,w1,w2,List.length_map,hg1,hg2];rfl;kernel_rfl))
          (apply fqb;simp+decide only[go_sem,hg1,hg2]<;>rfl)
         ·cases p2
          ·(repeat first|simp only[ww]|(apply xa;simp+decide only[go_sem,l3,w1,w2,List.length_map,hg1,hg2];rfl;kernel_rfl))
           (apply fqb;simp+decide only[go_sem,hg1,hg2]<;>rfl)
          ·by_cases hsu:1000000<repSum V
           ·have l4:=hce.2 hsu;rw[if_pos hsu]
            (repeat first|simp only[ww]|(apply xa;simp+decide only[go_sem,l3,l4,w1,w2,List.length_map,hg1,hg2];rfl;kernel_rfl))
            (apply fqb;simp+decide only[go_sem,hg1,hg2]<;>rfl)
           ·have l4:¬1000000<csum V V.length:=λh=>hsu (hce.1 h);rw[if_neg hsu]
            (repeat first|simp only[ww]|(apply xa;simp+decide only[go_sem,l3,l4,w1,w2,List.length_map,hg1,hg2];rfl;kernel_rfl))
            (apply fqb;simp+decide only[go_sem,hg1,hg2]<;>rfl)
   ·have hne:S.map snR≠[]:=by simpa using hk
    rw[grV_ne 1 hne,grH_ne 1 hne,List.length_map]
    (repeat first|simp only[ww]|(apply xa;simp+decide only[go_sem,l1,List.length_map];rfl;kernel_rfl))
    refine xp_loop3 (σ:=Nat) kp21_2 (λi=>[(1,.ptr 0 0 0),(3,.slice 1 0 S.length none),(4,grV 2 ((T.take i).map tnR)),(45,sl rt (T.map Tm.enc)),(46,.int .i64 T.length),(47,.int .i64 (i:Nat))]) (λi=>some (.row 3 [[sl rs (S.map Sg.enc),sl rt (T.map Tm.enc),sl rv (V.map Vc.enc)]])::some (.row 1 (S.map snR))::grH 1 ((T.take i).map tnR)) (λi=>T.length-i) (λi=>i≤T.length∧(T.take i).all tmOk=true) 0 ?_ ⟨Nat.zero_le _,rfl⟩ ?_
    ·(simp+decide only[go_sem,gcD_eq,gcIds_eq,List.take_zero,List.map_nil,grV_nil,grH_nil,hf1,hf2]<;>rfl)
    ·rintro i ⟨hi,hall⟩
     by_cases hlt:i<T.length
     ·have l1:(i:Int)<T.length:=by omega
      obtain⟨t,hs⟩:∃t,T[i]?=some t:=⟨_,List.getElem?_eq_getElem hlt⟩
      have hval:=htm;have hsm:(T.map Tm.enc)[i]?=some (Tm.enc t):=by rw[List.getElem?_map,hs];rfl
      by_cases hv1:tmOk t=true
      case neg=>
       have hv2:tmOk t=false:=by simpa using hv1
       rw[chk_t S T V hT16 (all_not hs hv2)];by_cases hz:(T.take i).map tnR=[]
       ·rw[hz];simp only[grV_nil,grH_nil]
        (repeat first|simp only[ww]|(apply xa;simp+decide only[go_sem,l1,hlt,hsm,hval,hv2,List.length_map,hf1,hf2];rfl;kernel_rfl))
        (apply fqb;simp+decide only[go_sem,hf1,hf2]<;>rfl)
       ·rw[grV_ne 2 hz,grH_ne 1 hz]
        (repeat first|simp only[ww]|(apply xa;simp+decide only[go_sem,l1,hlt,hsm,hval,hv2,List.length_map,hf1,hf2];rfl;kernel_rfl))
        (apply fqb;simp+decide only[go_sem,hf1,hf2]<;>rfl)
      have hall1:=all_take hs hall hv1;have hw:IntKind.i64.wrap ((i:Int)+1)=((i+1:Nat):Int):=by rw[w64 (by omega) (by omega)];omega
      have hsr:(T.take (i+1)).map tnR=(T.take i).map tnR++[[.str t.name]]:=by rw[take_s hs,List.map_append];rfl
      have h5:=refs_flatR (tnR_flat (T.take (i+1)));have h6:=λπ=>renR_flat π (tnR_flat (T.take (i+1)));have hlen:((T.take i).map tnR).length=i:=by rw[List.length_map,List.length_take];omega
      have hrm:i+1≤1000000000:=by omega
      by_cases hk:i=0
      ·subst hk;have e0:(T.take 0).map tnR=[]:=rfl;rw[e0]at hsr⊢;simp only[List.nil_append]at hsr
       (repeat first|simp only[ww]|(apply xa;simp+decide only[go_sem,l1,hlt,hsm,hval,hv1,hw,List.length_map,grV_nil,grH_nil,hf1,hf2];rfl;kernel_rfl))
       refine lp_n (0+1) ?_ (by omega) ⟨by omega,hall1⟩
       (simp+decide only[go_sem,gcD_eq,gcIds_eq,hsr,grV_cons,grH_cons,List.length_nil,hf1,hf2]<;>rfl)
      ·have hne:(T.take i).map tnR≠[]:=by intro e;rw[e]at hlen;simp at hlen;omega
       rw[grV_ne 2 hne,grH_ne 1 hne,hlen];rw[hsr]at h5 h6;generalize(T.take i).map tnR=R at hsr hlen h5 h6
       (repeat first|simp only[ww]|(apply xa;simp+decide only[go_sem,l1,hlt,hsm,hval,hv1,hw,hlen,hrm,List.length_map,hf1,hf2];rfl;kernel_rfl))
       refine lp_n (i+1) ?_ (by omega) ⟨by omega,hall1⟩
       (simp+decide only[go_sem,gcD_eq,gcIds_eq,hsr,grV_snoc,grH_snoc,h5,h6,hlen,hf1,hf2]<;>rfl)
     ·obtain rfl:i=T.length:=by omega
      have l2:¬(T.length:Int)<T.length:=by omega
      have hg1:=refs_flatR (tnR_flat T);have hg2:=λπ=>renR_flat π (tnR_flat T);rw[List.take_length]at hall⊢;have hallT:=hall;by_cases hkT:T=[]
      ·have e2:T.map tnR=[]:=by rw[hkT];rfl
       rw[e2];simp only[grV_nil,grH_nil]
       (repeat first|simp only[ww]|(apply xa;simp+decide only[go_sem,l2,List.length_map,hf1,hf2];rfl;kernel_rfl))
       refine xp_loop3 (σ:=Nat) kp21_4 (λi=>[(1,.ptr 0 0 0),(3,.slice 1 0 S.length none),(4,.nilslice),(9,.int .i64 (csum V i)),(61,sl rv (V.map Vc.enc)),(62,.int .i64 V.length),(63,.int .i64 (i:Nat))]) (λ_=>[some (.row 3 [[sl rs (S.map Sg.enc),sl rt (T.map Tm.enc),sl rv (V.map Vc.enc)]]),some (.row 1 (S.map snR))]) (λi=>V.length-i) (λi=>i≤V.length∧((V.take i).all λv=>vcOk v S T.length)=true∧0≤csum V i) 0 ?_ ⟨Nat.zero_le _,rfl,Int.le_refl _⟩ ?_
       ·have e0:=csum_0 V
        (simp+decide only[go_sem,gcD_eq,gcIds_eq,e0,hf1,hf2]<;>rfl)
       ·rintro i ⟨hi,hall,hc0⟩
        have hcl:=csum_le V i;by_cases hlt:i<V.length
        ·have l3:(i:Int)<V.length:=by omega
         obtain⟨v,hs⟩:∃v,V[i]?=some v:=⟨_,List.getElem?_eq_getElem hlt⟩
         have hsm:(V.map Vc.enc)[i]?=some (Vc.enc v):=by rw[List.getElem?_map,hs];rfl
         by_cases hv1:vcOk v S T.length=true
         case neg=>
          have hv2:vcOk v S T.length=false:=by simpa using hv1
          rw[chk_v S T V hT16 (all_not hs hv2)]
          (repeat first|simp only[ww]|(apply xa;simp+decide only[go_sem,l3,hlt,hsm,hvc,hv2,List.length_map,hf1,hf2];rfl;kernel_rfl))
          (apply fqb;simp+decide only[go_sem,hf1,hf2]<;>rfl)
         have hall1:=all_take (p:=λv=>vcOk v S T.length) hs hall hv1;have hw:IntKind.i64.wrap ((i:Int)+1)=((i+1:Nat):Int):=by rw[w64 (by omega) (by omega)];omega
         have hrp:1≤v.rep∧v.rep≤1000000:=by simp only[vcOk,Bool.and_eq_true,decide_eq_true_eq]at hv1;exact⟨hv1.2.2.1,hv1.2.2.2.1⟩
         have hcs:=csum_s V hs hrp.1;have hw2:IntKind.i64.wrap (csum V i+v.rep)=csum V i+v.rep:=w64 (by omega) (by omega);by_cases hM:csum V i+v.rep<1000001
         ·have hmn2:¬(1000001:Int)<csum V i+v.rep:=by omega
          have hmn3:csum V i+v.rep≤1000001:=by omega
          have hce:=hcs.1 hM
          (repeat first|simp only[ww]|(apply xa;simp+decide only[go_sem,l3,hlt,hsm,hvc,hv1,hw,hw2,hM,hmn2,hmn3,List.length_map,hf1,hf2];rfl;kernel_rfl))
          refine lp_n (i+1) ?_ (by omega) ⟨by omega,hall1,by omega⟩
          (simp+decide only[go_sem,gcD_eq,gcIds_eq,hce,hf1,hf2]<;>rfl)
         ·have hce:=hcs.2 (by omega);by_cases hM2:csum V i+v.rep=1000001
          ·(repeat first|simp only[ww]|(apply xa;simp+decide only[go_sem,l3,hlt,hsm,hvc,hv1,hw,hw2,hM2,List.length_map,hf1,hf2];rfl;kernel_rfl))
           refine lp_n (i+1) ?_ (by omega) ⟨by omega,hall1,by omega⟩
           (simp+decide only[go_sem,gcD_eq,gcIds_eq,hce,hf1,hf2]<;>rfl)
          ·have hmn2:(1000001:Int)<csum V i+v.rep:=by omega
           have hmn3:¬csum V i+v.rep≤1000001:=by omega
           (repeat first|simp only[ww]|(apply xa;simp+decide only[go_sem,l3,hlt,hsm,hvc,hv1,hw,hw2,hM,hmn2,hmn3,List.length_map,hf1,hf2];rfl;kernel_rfl))
           refine lp_n (i+1) ?_ (by omega) ⟨by omega,hall1,by omega⟩
           (simp+decide only[go_sem,gcD_eq,gcIds_eq,hce,hf1,hf2]<;>rfl)
        ·obtain rfl:i=V.length:=by omega
         have l3:¬(V.length:Int)<V.length:=by omega
         rw[List.take_length]at hall;have hce:=csum_end V;rw[chk_r S T V hT16 hallS hallT hall];obtain⟨σ1,w1⟩:=tw_gen (d:=false) [some (.row 3 [[sl rs (S.map Sg.enc),sl rt (T.map Tm.enc),sl rv (V.map Vc.enc)]]),some (.row 1 (S.map snR))] 1 (S.map Sg.name) (λhh=>by rw[←snR_str];rfl) (by rw[List.length_map];omega);obtain⟨σ2,w2⟩:=tw_gen (d:=false) [some (.row 3 [[sl rs (S.map Sg.enc),sl rt (T.map Tm.enc),sl rv (V.map Vc.enc)]]),some (.row 1 (S.map snR))] 2 (T.map Tm.name) (λhh=>absurd (by rw[hkT];rfl) hh) (by rw[List.length_map];omega);rw[←snR_str]at w1;rw[←tnR_str]at w2;rw[grV_ne 1 hne,List.length_map]at w1;rw[e2,grV_nil]at w2;generalize decide (S.map Sg.name).Nodup=p1 at *;generalize decide (T.map Tm.name).Nodup=p2 at *;cases p1
         ·(repeat first|simp only[ww]|(apply xa;simp+decide only[go_sem,l3,w1,w2,List.length_map,hf1,hf2];rfl;kernel_rfl))
          (apply fqb;simp+decide only[go_sem,hf1,hf2]<;>rfl)
         ·cases p2
          ·(repeat first|simp only[ww]|(apply xa;simp+decide only[go_sem,l3,w1,w2,List.length_map,hf1,hf2];rfl;kernel_rfl))
           (apply fqb;simp+decide only[go_sem,hf1,hf2]<;>rfl)
          ·by_cases hsu:1000000<repSum V
           ·have l4:=hce.2 hsu;rw[if_pos hsu]
            (repeat first|simp only[ww]|(apply xa;simp+decide only[go_sem,l3,l4,w1,w2,List.length_map,hf1,hf2];rfl;kernel_rfl))
            (apply fqb;simp+decide only[go_sem,hf1,hf2]<;>rfl)
           ·have l4:¬1000000<csum V V.length:=λh=>hsu (hce.1 h);rw[if_neg hsu]
            (repeat first|simp only[ww]|(apply xa;simp+decide only[go_sem,l3,l4,w1,w2,List.length_map,hf1,hf2];rfl;kernel_rfl))
            (apply fqb;simp+decide only[go_sem,hf1,hf2]<;>rfl)
      ·have hneT:T.map tnR≠[]:=by simpa using hkT
       rw[grV_ne 2 hneT,grH_ne 1 hneT,List.length_map]
       (repeat first|simp only[ww]|(apply xa;simp+decide only[go_sem,l2,List.length_map,hf1,hf2];rfl;kernel_rfl))
       refine xp_loop3 (σ:=Nat) kp21_4 (λi=>[(1,.ptr 0 0 0),(3,.slice 1 0 S.length none),(4,.slice 2 0 T.length none),(9,.int .i64 (csum V i)),(61,sl rv (V.map Vc.enc)),(62,.int .i64 V.length),(63,.int .i64 (i:Nat))]) (λ_=>[some (.row 3 [[sl rs (S.map Sg.enc),sl rt (T.map Tm.enc),sl rv (V.map Vc.enc)]]),some (.row 1 (S.map snR)),some (.row 1 (T.map tnR))]) (λi=>V.length-i) (λi=>i≤V.length∧((V.take i).all λv=>vcOk v S T.length)=true∧0≤csum V i) 0 ?_ ⟨Nat.zero_le _,rfl,Int.le_refl _⟩ ?_
       ·have e0:=csum_0 V
        (simp+decide only[go_sem,gcD_eq,gcIds_eq,e0,hf1,hf2,hg1,hg2]<;>rfl)
       ·rintro i ⟨hi,hall,hc0⟩
        have hcl:=csum_le V i;by_cases hlt:i<V.length
        ·have l3:(i:Int)<V.length:=by omega
         obtain⟨v,hs⟩:∃v,V[i]?=some v:=⟨_,List.getElem?_eq_getElem hlt⟩
         have hsm:(V.map Vc.enc)[i]?=some (Vc.enc v):=by rw[List.getElem?_map,hs];rfl
         by_cases hv1:vcOk v S T.length=true
         case neg=>
          have hv2:vcOk v S T.length=false:=by simpa using hv1
          rw[chk_v S T V hT16 (all_not hs hv2)]
          (repeat first|simp only[ww]|(apply xa;simp+decide only[go_sem,l3,hlt,hsm,hvc,hv2,List.length_map,hf1,hf2,hg1,hg2];rfl;kernel_rfl))
          (apply fqb;simp+decide only[go_sem,hf1,hf2,hg1,hg2]<;>rfl)
         have hall1:=all_take (p:=λv=>vcOk v S T.length) hs hall hv1;have hw:IntKind.i64.wrap ((i:Int)+1)=((i+1:Nat):Int):=by rw[w64 (by omega) (by omega)];omega
         have hrp:1≤v.rep∧v.rep≤1000000:=by simp only[vcOk,Bool.and_eq_true,decide_eq_true_eq]at hv1;exact⟨hv1.2.2.1,hv1.2.2.2.1⟩
         have hcs:=csum_s V hs hrp.1;have hw2:IntKind.i64.wrap (csum V i+v.rep)=csum V i+v.rep:=w64 (by omega) (by omega);by_cases hM:csum V i+v.rep<1000001
         ·have hmn2:¬(1000001:Int)<csum V i+v.rep:=by omega
          have hmn3:csum V i+v.rep≤1000001:=by omega
          have hce:=hcs.1 hM
          (repeat first|simp only[ww]|(apply xa;simp+decide only[go_sem,l3,hlt,hsm,hvc,hv1,hw,hw2,hM,hmn2,hmn3,List.length_map,hf1,hf2,hg1,hg2];rfl;kernel_rfl))
          refine lp_n (i+1) ?_ (by omega) ⟨by omega,hall1,by omega⟩
          (simp+decide only[go_sem,gcD_eq,gcIds_eq,hce,hf1,hf2,hg1,hg2]<;>rfl)
         ·have hce:=hcs.2 (by omega);by_cases hM2:csum V i+v.rep=1000001
          ·(repeat first|simp only[ww]|(apply xa;simp+decide only[go_sem,l3,hlt,hsm,hvc,hv1,hw,hw2,hM2,List.length_map,hf1,hf2,hg1,hg2];rfl;kernel_rfl))
           refine lp_n (i+1) ?_ (by omega) ⟨by omega,hall1,by omega⟩
           (simp+decide only[go_sem,gcD_eq,gcIds_eq,hce,hf1,hf2,hg1,hg2]<;>rfl)
          ·have hmn2:(1000001:Int)<csum V i+v.rep:=by omega
           have hmn3:¬csum V i+v.rep≤1000001:=by omega
           (repeat first|simp only[ww]|(apply xa;simp+decide only[go_sem,l3,hlt,hsm,hvc,hv1,hw,hw2,hM,hmn2,hmn3,List.length_map,hf1,hf2,hg1,hg2];rfl;kernel_rfl))
           refine lp_n (i+1) ?_ (by omega) ⟨by omega,hall1,by omega⟩
           (simp+decide only[go_sem,gcD_eq,gcIds_eq,hce,hf1,hf2,hg1,hg2]<;>rfl)
        ·obtain rfl:i=V.length:=by omega
         have l3:¬(V.length:Int)<V.length:=by omega
         rw[List.take_length]at hall;have hce:=csum_end V;rw[chk_r S T V hT16 hallS hallT hall];obtain⟨σ1,w1⟩:=tw_gen (d:=false) [some (.row 3 [[sl rs (S.map Sg.enc),sl rt (T.map Tm.enc),sl rv (V.map Vc.enc)]]),some (.row 1 (S.map snR)),some (.row 1 (T.map tnR))] 1 (S.map Sg.name) (λhh=>by rw[←snR_str];rfl) (by rw[List.length_map];omega);obtain⟨σ2,w2⟩:=tw_gen (d:=false) [some (.row 3 [[sl rs (S.map Sg.enc),sl rt (T.map Tm.enc),sl rv (V.map Vc.enc)]]),some (.row 1 (S.map snR)),some (.row 1 (T.map tnR))] 2 (T.map Tm.name) (λhh=>by rw[←tnR_str];rfl) (by rw[List.length_map];omega);rw[←snR_str]at w1;rw[←tnR_str]at w2;rw[grV_ne 1 hne,List.length_map]at w1;rw[grV_ne 2 hneT,List.length_map]at w2;generalize decide (S.map Sg.name).Nodup=p1 at *;generalize decide (T.map Tm.name).Nodup=p2 at *;cases p1
         ·(repeat first|simp only[ww]|(apply xa;simp+decide only[go_sem,l3,w1,w2,List.length_map,hf1,hf2,hg1,hg2];rfl;kernel_rfl))
          (apply fqb;simp+decide only[go_sem,hf1,hf2,hg1,hg2]<;>rfl)
         ·cases p2
          ·(repeat first|simp only[ww]|(apply xa;simp+decide only[go_sem,l3,w1,w2,List.length_map,hf1,hf2,hg1,hg2];rfl;kernel_rfl))
           (apply fqb;simp+decide only[go_sem,hf1,hf2,hg1,hg2]<;>rfl)
          ·by_cases hsu:1000000<repSum V
           ·have l4:=hce.2 hsu;rw[if_pos hsu]
            (repeat first|simp only[ww]|(apply xa;simp+decide only[go_sem,l3,l4,w1,w2,List.length_map,hf1,hf2,hg1,hg2];rfl;kernel_rfl))
            (apply fqb;simp+decide only[go_sem,hf1,hf2,hg1,hg2]<;>rfl)
           ·have l4:¬1000000<csum V V.length:=λh=>hsu (hce.1 h);rw[if_neg hsu]
            (repeat first|simp only[ww]|(apply xa;simp+decide only[go_sem,l3,l4,w1,w2,List.length_map,hf1,hf2,hg1,hg2];rfl;kernel_rfl))
            (apply fqb;simp+decide only[go_sem,hf1,hf2,hg1,hg2]<;>rfl)
end Go.RInst
namespace Go.RInst
open Go.Proofs Go.Ax Go.Pc
variable [PR]
set_option maxRecDepth 100000
theorem name_len0{s:List UInt8}(h:nameB s=true):s.length≤32:=by
 cases s with
 |nil=>simp
 |cons a r=>simp only[nameB,Bool.and_eq_true,decide_eq_true_eq]at h;exact h.1
theorem nd_snoc(l:List (List UInt8))(x:List UInt8):decide (l++[x]).Nodup=(decide l.Nodup && !(l.any λy=>decide (y=x))):=by
 rw[Bool.eq_iff_iff,decide_eq_true_eq,Bool.and_eq_true,decide_eq_true_eq,List.nodup_append];simp only[List.any_eq_true,Bool.not_eq_true',Bool.eq_false_iff,ne_eq,decide_eq_true_eq];constructor
 ·rintro⟨h1,_,h3⟩
  exact⟨h1,λ⟨y,hy,e⟩=>h3 y hy x (by simp) e⟩
 ·rintro⟨h1,h2⟩
  refine⟨h1,by simp,λa ha b hb e=>h2 ⟨a,ha,?_⟩⟩;rw[e];simpa using hb
theorem any_s{α:Type}(p:α→Bool){l:List α}{i:Nat}{x:α}(h:l[i]?=some x):(l.take (i+1)).any p=((l.take i).any p||p x):=by rw[take_s h,List.any_append];simp
theorem lname_ok(s:List UInt8):sem L.env Mf 28 [.str s] []=some (.bool (nameB s),[]):=by
 by_cases h0:s.length=0
 ·have:s=[]:=List.eq_nil_of_length_eq_zero h0;subst this
  (refine sv Tryz.f28 ?_;simp only[Tryz.f28,gS])
  (repeat first|simp only[ww]|(apply xa;simp+decide only[go_sem];rfl;kernel_rfl))
  (apply fqb;simp+decide only[go_sem,nameB]<;>rfl)
 have c0:¬(s.length:Int)=0:=by omega
 by_cases h1:s.length≤32
 case neg=>
  have c1:(32:Int)<s.length:=by omega
  have e:nameB s=false:=by rw[Bool.eq_false_iff];intro h;exact h1 (name_len0 h)
  rw[e]
  (refine sv Tryz.f28 ?_;simp only[Tryz.f28,gS])
  (repeat first|simp only[ww]|(apply xa;simp+decide only[go_sem,c0,c1];rfl;kernel_rfl))
  (apply fqb;simp+decide only[go_sem]<;>rfl)
 have c1:¬(32:Int)<s.length:=by omega
 obtain⟨a,ha⟩:∃a,s[0]?=some a:=⟨_,List.getElem?_eq_getElem (by omega)⟩
 have hl0:0<s.length:=by omega
 have hnb:nameB s=(!(decide (a.toNat=35))&&s.all nameC):=by
  cases s with
  |nil=>simp at h0
  |cons b r=>
   have:b=a:=by simpa using ha
   subst this;have hd:Nat.beq b.toNat 35=decide (b.toNat=35):=by rw[Bool.eq_iff_iff,Nat.beq_eq];simp
   simp only[nameB,h1,hd,decide_true,Bool.true_and]
 rw[hnb];by_cases h2:a.toNat=35
 ·have c2:(a.toNat:Int)=35:=by omega
  rw[decide_eq_true h2]
  (refine sv Tryz.f28 ?_;simp only[Tryz.f28,gS])
  (repeat first|simp only[ww]|(apply xa;simp+decide only[go_sem,c0,c1,ha,hl0,c2];rfl;kernel_rfl))
  (apply fqb;simp+decide only[go_sem]<;>rfl)
 have c2:¬(a.toNat:Int)=35:=by omega
 rw[decide_eq_false h2]
 (refine sv Tryz.f28 ?_;simp only[Tryz.f28,gS])
 (repeat first|simp only[ww]|(apply xa;simp+decide only[go_sem,c0,c1,ha,hl0,c2];rfl;kernel_rfl))
 refine xp_loop3 (σ:=Nat) kp28_0 (λi=>[(0,.str s),(3,.int .i64 (i:Nat))]) (λ_=>[]) (λi=>s.length-i) (λi=>i≤s.length∧(s.take i).all nameC=true) 0 ?_ ⟨Nat.zero_le _,rfl⟩ ?_
 ·(simp+decide only[go_sem,gcD_eq,gcIds_eq]<;>rfl)
 ·rintro i ⟨hi,hall⟩
  by_cases hlt:i<s.length
  ·have l1:(i:Int)<s.length:=by omega
   obtain⟨b,hb⟩:∃b,s[i]?=some b:=⟨_,List.getElem?_eq_getElem hlt⟩
   have hw:IntKind.i64.wrap ((i:Int)+1)=((i+1:Nat):Int):=by rw[w64 (by omega) (by omega)];omega
   by_cases d1:b.toNat<33
   ·have e1:(b.toNat:Int)<33:=by omega
    have e:s.all nameC=false:=all_not hb (by simp[nameC];omega);rw[e]
    (repeat first|simp only[ww]|(apply xa;simp+decide only[go_sem,l1,hlt,hb,e1];rfl;kernel_rfl))
    (apply fqb;simp+decide only[go_sem]<;>rfl)
   have e1:¬(b.toNat:Int)<33:=by omega
   by_cases d2:126<b.toNat
   ·have e2:(126:Int)<b.toNat:=by omega
    have e:s.all nameC=false:=all_not hb (by simp[nameC];omega);rw[e]
    (repeat first|simp only[ww]|(apply xa;simp+decide only[go_sem,l1,hlt,hb,e1,e2];rfl;kernel_rfl))
    (apply fqb;simp+decide only[go_sem]<;>rfl)
   have e2:¬(126:Int)<b.toNat:=by omega
   (repeat first|simp only[ww]|(apply xa;simp+decide only[go_sem,l1,hlt,hb,e1,e2,hw];rfl;kernel_rfl))
   refine lp_n (i+1) ?_ (by omega) ⟨by omega,all_take hb hall (by simp[nameC];omega)⟩
   (simp+decide only[go_sem,gcD_eq,gcIds_eq]<;>rfl)
  ·obtain rfl:i=s.length:=by omega
   have l1:¬(s.length:Int)<s.length:=by omega
   rw[List.take_length]at hall;rw[hall]
   (repeat first|simp only[ww]|(apply xa;simp+decide only[go_sem,l1];rfl;kernel_rfl))
   (apply fqb;simp+decide only[go_sem]<;>rfl)
theorem lname_call{d:Bool}(H:Heap)(s:List UInt8):callV L.env d (sem L.env Mf) (.func (.func 28) [] []) [.str s] H=some (.bool (nameB s),H,[]):=callV_flat (by kernel_rfl) (by kernel_rfl) rfl rfl (lname_ok s) rfl
/-- Names of the first i, one of them twice. -/
def dupS(S:List Sg)(i:Nat):Bool:=!decide ((S.take i).map Sg.name).Nodup
def dupT(T:List Tm)(i:Nat):Bool:=!decide ((T.take i).map Tm.name).Nodup
theorem dupS_s{S:List Sg}{i:Nat}{s:Sg}(h:S[i]?=some s):dupS S (i+1)=(dupS S i||(S.take i).any λx=>decide (x.name=s.name)):=by unfold dupS;rw[take_s h,List.map_append,List.map_cons,List.map_nil,nd_snoc,List.any_map];cases decide ((S.take i).map Sg.name).Nodup<;>simp[Function.comp_def]
theorem dupT_s{T:List Tm}{i:Nat}{t:Tm}(h:T[i]?=some t):dupT T (i+1)=(dupT T i||(T.take i).any λx=>decide (x.name=t.name)):=by unfold dupT;rw[take_s h,List.map_append,List.map_cons,List.map_nil,nd_snoc,List.any_map];cases decide ((T.take i).map Tm.name).Nodup<;>simp[Function.comp_def]
set_option maxHeartbeats 16000000 in
theorem lcheck_ok(rs rt rv:Option (Option Nat))(S:List Sg)(T:List Tm)(V:List Vc)(hS:S.length≤100)(hT:T.length≤100)(hV:V.length≤100):sem L.env Mf 25 [.agg [sl rs (S.map Sg.enc),sl rt (T.map Tm.enc),sl rv (V.map Vc.enc)]] []=some (.int .i64 (chkP S T V),[]):=by
 have c1:¬(256:Int)<S.length:=by omega
 have c3:¬(65536:Int)<V.length:=by omega
 have hnm:=λd H n=>lname_call (d:=d) H n;have b41:Nat.beq 41 82=false:=by decide
 by_cases hT16:16<T.length
 ·have c2:(16:Int)<T.length:=by omega
  rw[chk_lim S T V hT16]
  (refine sv Tryz.f25 ?_;simp only[Tryz.f25,gS])
  (repeat first|simp only[ww]|(apply xa;simp+decide only[go_sem,c1,c2,c3,List.length_map];rfl;kernel_rfl))
  (apply fqb;simp+decide only[go_sem]<;>rfl)
 have c2:¬(16:Int)<T.length:=by omega
 (refine sv Tryz.f25 ?_;simp only[Tryz.f25,gS])
 (repeat first|simp only[ww]|(apply xa;simp+decide only[go_sem,c1,c2,c3,List.length_map];rfl;kernel_rfl))
 refine xp_loop3 (σ:=Nat) kp25_0 (λi=>[(1,.ptr 0 0 0),(3,.bool (dupS S i)),(4,.int .i64 (i:Nat))]) (λi=>[some (.row 3 [[sl rs (S.map Sg.enc),sl rt (T.map Tm.enc),sl rv (V.map Vc.enc)]])]) (λi=>S.length-i) (λi=>i≤S.length∧(S.take i).all sgOk=true) 0 ?_ ⟨Nat.zero_le _,rfl⟩ ?_
 ·have e0:dupS S 0=false:=rfl
  (simp+decide only[go_sem,gcD_eq,gcIds_eq,e0]<;>rfl)
 ·rintro i ⟨hi,hall⟩
  by_cases hlt:i<S.length
  ·have l1:(i:Int)<S.length:=by omega
   obtain⟨s,hs⟩:∃s,S[i]?=some s:=⟨_,List.getElem?_eq_getElem hlt⟩
   have hsm:(S.map Sg.enc)[i]?=some (Sg.enc s):=by rw[List.getElem?_map,hs];rfl
   have hw:IntKind.i64.wrap ((i:Int)+1)=((i+1:Nat):Int):=by rw[w64 (by omega) (by omega)];omega
   by_cases hn:nameB s.name=true
   case neg=>
    have hn2:nameB s.name=false:=by simpa using hn
    rw[chk_s S T V hT16 (all_not hs (by simp[sgOk,hn2]))]
    (repeat first|simp only[ww]|(apply xa;simp+decide only[go_sem,l1,hlt,hsm,hnm,hn2,List.length_map];rfl;kernel_rfl))
    (apply fqb;simp+decide only[go_sem]<;>rfl)
   by_cases hd:1<s.dir
   ·have d1:(1:Int)<s.dir:=by omega
    rw[chk_s S T V hT16 (all_not hs (by simp[sgOk];omega))]
    (repeat first|simp only[ww]|(apply xa;simp+decide only[go_sem,l1,hlt,hsm,hnm,hn,d1,List.length_map];rfl;kernel_rfl))
    (apply fqb;simp+decide only[go_sem]<;>rfl)
   have d1:¬(1:Int)<s.dir:=by omega
   have hsk:sgOk s=true:=by simp[sgOk,hn];omega
   have hds:=dupS_s hs
   (repeat first|simp only[ww]|(apply xa;simp+decide only[go_sem,l1,hlt,hsm,hnm,hn,d1,List.length_map];rfl;kernel_rfl))
   refine xp_loop3 (σ:=Nat) kp25_2 (λk=>[(1,.ptr 0 0 0),(3,.bool (dupS S i||(S.take k).any λx=>decide (x.name=s.name))),(4,.int .i64 (i:Nat)),(5,.int .i64 (k:Nat))]) (λ_=>[some (.row 3 [[sl rs (S.map Sg.enc),sl rt (T.map Tm.enc),sl rv (V.map Vc.enc)]])]) (λk=>i-k) (λk=>k≤i) 0 ?_ (Nat.zero_le _) ?_
   ·(simp+decide only[go_sem,gcD_eq,gcIds_eq,List.any_nil,Bool.or_false]<;>rfl)
   ·intro k hk;by_cases hkl:k<i
    ·have l2:(k:Int)<i:=by omega
     have hks:k<S.length:=by omega
     obtain⟨u,hu⟩:∃u,S[k]?=some u:=⟨_,List.getElem?_eq_getElem hks⟩
     have hum:(S.map Sg.enc)[k]?=some (Sg.enc u):=by rw[List.getElem?_map,hu];rfl
     have hwk:IntKind.i64.wrap ((k:Int)+1)=((k+1:Nat):Int):=by rw[w64 (by omega) (by omega)];omega
     have ha:=any_s (λx:Sg=>decide (x.name=s.name)) hu;have hb:(dupS S i||(S.take (k+1)).any λx=>decide (x.name=s.name))=((dupS S i||(S.take k).any λx=>decide (x.name=s.name))||decide (u.name=s.name)):=by rw[ha];exact(Bool.or_assoc _ _ _).symm
     generalize(dupS S i||(S.take k).any λx=>decide (x.name=s.name))=q at hb⊢;cases q
     ·(repeat first|simp only[ww]|(apply xa;simp+decide only[go_sem,l2,hks,hum,hlt,hsm,hwk,List.length_map];rfl;kernel_rfl))
      refine lp_n (k+1) ?_ (by omega) (by omega)
      (simp+decide only[go_sem,gcD_eq,gcIds_eq,hb,Bool.false_or]<;>rfl)
     ·(repeat first|simp only[ww]|(apply xa;simp+decide only[go_sem,l2,hks,hum,hlt,hsm,hwk,List.length_map];rfl;kernel_rfl))
      refine lp_n (k+1) ?_ (by omega) (by omega)
      (simp+decide only[go_sem,gcD_eq,gcIds_eq,hb,Bool.true_or]<;>rfl)
    ·obtain rfl:k=i:=by omega
     have l2:¬(k:Int)<k:=by omega
     rw[←hds]
     (repeat first|simp only[ww]|(apply xa;simp+decide only[go_sem,l2,hw];rfl;kernel_rfl))
     refine lp_n (k+1) ?_ (by omega) ⟨by omega,all_take hs hall hsk⟩
     (simp+decide only[go_sem,gcD_eq,gcIds_eq]<;>rfl)
  ·obtain rfl:i=S.length:=by omega
   have l1:¬(S.length:Int)<S.length:=by omega
   rw[List.take_length]at hall;have hallS:=hall;have hD1:dupS S S.length = !decide (S.map Sg.name).Nodup:=by unfold dupS;rw[List.take_length]
   rw[hD1]
   (repeat first|simp only[ww]|(apply xa;simp+decide only[go_sem,l1,List.length_map];rfl;kernel_rfl))
   refine xp_loop3 (σ:=Nat) kp25_4 (λi=>[(1,.ptr 0 0 0),(3,.bool (!decide (S.map Sg.name).Nodup||dupT T i)),(6,.int .i64 (i:Nat))]) (λi=>[some (.row 3 [[sl rs (S.map Sg.enc),sl rt (T.map Tm.enc),sl rv (V.map Vc.enc)]])]) (λi=>T.length-i) (λi=>i≤T.length∧(T.take i).all tmOk=true) 0 ?_ ⟨Nat.zero_le _,rfl⟩ ?_
   ·have e0:(!decide (S.map Sg.name).Nodup||dupT T 0) = !decide (S.map Sg.name).Nodup:=by simp[dupT]
    (simp+decide only[go_sem,gcD_eq,gcIds_eq,e0]<;>rfl)
   ·rintro i ⟨hi,hall⟩
    by_cases hlt:i<T.length
    ·have l1:(i:Int)<T.length:=by omega
     obtain⟨t,hs⟩:∃t,T[i]?=some t:=⟨_,List.getElem?_eq_getElem hlt⟩
     have hsm:(T.map Tm.enc)[i]?=some (Tm.enc t):=by rw[List.getElem?_map,hs];rfl
     have hw:IntKind.i64.wrap ((i:Int)+1)=((i+1:Nat):Int):=by rw[w64 (by omega) (by omega)];omega
     by_cases hn:nameB t.name=true
     case neg=>
      have hn2:nameB t.name=false:=by simpa using hn
      rw[chk_t S T V hT16 (all_not hs (by simp[tmOk,hn2]))]
      (repeat first|simp only[ww]|(apply xa;simp+decide only[go_sem,l1,hlt,hsm,hnm,hn2,b41,List.length_map];rfl;kernel_rfl))
      (apply fqb;simp+decide only[go_sem]<;>rfl)
     by_cases q0:t.per<1
     ·have hf:tmOk t=false:=by
       rw[Bool.eq_false_iff];intro h;simp only[tmOk,Bool.and_eq_true,decide_eq_true_eq]at h;omega
      rw[chk_t S T V hT16 (all_not hs hf)]
      (repeat first|simp only[ww]|(apply xa;simp+decide only[go_sem,l1,hlt,hsm,hnm,hn,q0,b41,List.length_map];rfl;kernel_rfl))
      (apply fqb;simp+decide only[go_sem]<;>rfl)
     by_cases q1:1000000<t.per
     ·have hf:tmOk t=false:=by
       rw[Bool.eq_false_iff];intro h;simp only[tmOk,Bool.and_eq_true,decide_eq_true_eq]at h;omega
      rw[chk_t S T V hT16 (all_not hs hf)]
      (repeat first|simp only[ww]|(apply xa;simp+decide only[go_sem,l1,hlt,hsm,hnm,hn,q0,q1,b41,List.length_map];rfl;kernel_rfl))
      (apply fqb;simp+decide only[go_sem]<;>rfl)
     by_cases q2:t.dr<0
     ·have hf:tmOk t=false:=by
       rw[Bool.eq_false_iff];intro h;simp only[tmOk,Bool.and_eq_true,decide_eq_true_eq]at h;omega
      rw[chk_t S T V hT16 (all_not hs hf)]
      (repeat first|simp only[ww]|(apply xa;simp+decide only[go_sem,l1,hlt,hsm,hnm,hn,q0,q1,q2,b41,List.length_map];rfl;kernel_rfl))
      (apply fqb;simp+decide only[go_sem]<;>rfl)
     by_cases q3:t.ri≤t.dr
     ·have hf:tmOk t=false:=by
       rw[Bool.eq_false_iff];intro h;simp only[tmOk,Bool.and_eq_true,decide_eq_true_eq]at h;omega
      rw[chk_t S T V hT16 (all_not hs hf)]
      (repeat first|simp only[ww]|(apply xa;simp+decide only[go_sem,l1,hlt,hsm,hnm,hn,q0,q1,q2,q3,b41,List.length_map];rfl;kernel_rfl))
      (apply fqb;simp+decide only[go_sem]<;>rfl)
     by_cases q4:t.fa≤t.ri
     ·have hf:tmOk t=false:=by
       rw[Bool.eq_false_iff];intro h;simp only[tmOk,Bool.and_eq_true,decide_eq_true_eq]at h;omega
      rw[chk_t S T V hT16 (all_not hs hf)]
      (repeat first|simp only[ww]|(apply xa;simp+decide only[go_sem,l1,hlt,hsm,hnm,hn,q0,q1,q2,q3,q4,b41,List.length_map];rfl;kernel_rfl))
      (apply fqb;simp+decide only[go_sem]<;>rfl)
     by_cases q5:t.per≤t.fa
     ·have hf:tmOk t=false:=by
       rw[Bool.eq_false_iff];intro h;simp only[tmOk,Bool.and_eq_true,decide_eq_true_eq]at h;omega
      rw[chk_t S T V hT16 (all_not hs hf)]
      (repeat first|simp only[ww]|(apply xa;simp+decide only[go_sem,l1,hlt,hsm,hnm,hn,q0,q1,q2,q3,q4,q5,b41,List.length_map];rfl;kernel_rfl))
      (apply fqb;simp+decide only[go_sem]<;>rfl)
     by_cases q6:t.st<0
     ·have hf:tmOk t=false:=by
       rw[Bool.eq_false_iff];intro h;simp only[tmOk,Bool.and_eq_true,decide_eq_true_eq]at h;omega
      rw[chk_t S T V hT16 (all_not hs hf)]
      (repeat first|simp only[ww]|(apply xa;simp+decide only[go_sem,l1,hlt,hsm,hnm,hn,q0,q1,q2,q3,q4,q5,q6,b41,List.length_map];rfl;kernel_rfl))
      (apply fqb;simp+decide only[go_sem]<;>rfl)
     by_cases q7:t.per≤t.st
     ·have hf:tmOk t=false:=by
       rw[Bool.eq_false_iff];intro h;simp only[tmOk,Bool.and_eq_true,decide_eq_true_eq]at h;omega
      rw[chk_t S T V hT16 (all_not hs hf)]
      (repeat first|simp only[ww]|(apply xa;simp+decide only[go_sem,l1,hlt,hsm,hnm,hn,q0,q1,q2,q3,q4,q5,q6,q7,b41,List.length_map];rfl;kernel_rfl))
      (apply fqb;simp+decide only[go_sem]<;>rfl)
     have htk:tmOk t=true:=by simp only[tmOk,hn,Bool.true_and,Bool.and_eq_true,decide_eq_true_eq];refine⟨by omega,by omega,by omega,by omega,by omega,by omega,by omega,by omega⟩
     have hds:=dupT_s hs;generalize hp1:(!decide (S.map Sg.name).Nodup)=p1 at *
     (repeat first|simp only[ww]|(apply xa;simp+decide only[go_sem,l1,hlt,hsm,hnm,hn,q0,q1,q2,q3,q4,q5,q6,q7,b41,List.length_map];rfl;kernel_rfl))
     refine xp_loop3 (σ:=Nat) kp25_6 (λk=>[(1,.ptr 0 0 0),(3,.bool ((p1||dupT T i)||(T.take k).any λx=>decide (x.name=t.name))),(6,.int .i64 (i:Nat)),(7,.ptr 1 0 0),(8,.int .i64 (k:Nat))]) (λ_=>[some (.row 3 [[sl rs (S.map Sg.enc),sl rt (T.map Tm.enc),sl rv (V.map Vc.enc)]]),some (.row 6 [Tm.enc t])]) (λk=>i-k) (λk=>k≤i) 0 ?_ (Nat.zero_le _) ?_
     ·(simp+decide only[go_sem,gcD_eq,gcIds_eq,List.any_nil,Bool.or_false]<;>rfl)
     ·intro k hk;by_cases hkl:k<i
      ·have l2:(k:Int)<i:=by omega
       have hks:k<T.length:=by omega
       obtain⟨u,hu⟩:∃u,T[k]?=some u:=⟨_,List.getElem?_eq_getElem hks⟩
       have hum:(T.map Tm.enc)[k]?=some (Tm.enc u):=by rw[List.getElem?_map,hu];rfl
       have hwk:IntKind.i64.wrap ((k:Int)+1)=((k+1:Nat):Int):=by rw[w64 (by omega) (by omega)];omega
       have ha:=any_s (λx:Tm=>decide (x.name=t.name)) hu;have hb:((p1||dupT T i)||(T.take (k+1)).any λx=>decide (x.name=t.name))=(((p1||dupT T i)||(T.take k).any λx=>decide (x.name=t.name))||decide (u.name=t.name)):=by rw[ha];exact(Bool.or_assoc _ _ _).symm
       generalize((p1||dupT T i)||(T.take k).any λx=>decide (x.name=t.name))=q at hb⊢;cases q
       ·(repeat first|simp only[ww]|(apply xa;simp+decide only[go_sem,l2,hks,hum,hwk,List.length_map];rfl;kernel_rfl))
        refine lp_n (k+1) ?_ (by omega) (by omega)
        (simp+decide only[go_sem,gcD_eq,gcIds_eq,hb,Bool.false_or]<;>rfl)
       ·(repeat first|simp only[ww]|(apply xa;simp+decide only[go_sem,l2,hks,hum,hwk,List.length_map];rfl;kernel_rfl))
        refine lp_n (k+1) ?_ (by omega) (by omega)
        (simp+decide only[go_sem,gcD_eq,gcIds_eq,hb,Bool.true_or]<;>rfl)
      ·obtain rfl:k=i:=by omega
       have l2:¬(k:Int)<k:=by omega
       rw[Bool.or_assoc,←hds]
       (repeat first|simp only[ww]|(apply xa;simp+decide only[go_sem,l2,hw];rfl;kernel_rfl))
       refine lp_n (k+1) ?_ (by omega) ⟨by omega,all_take hs hall htk⟩
       (simp+decide only[go_sem,gcD_eq,gcIds_eq]<;>rfl)
    ·obtain rfl:i=T.length:=by omega
     have l1:¬(T.length:Int)<T.length:=by omega
     rw[List.take_length]at hall;have hallT:=hall;have hD2:dupT T T.length = !decide (T.map Tm.name).Nodup:=by unfold dupT;rw[List.take_length]
     rw[hD2]
     (repeat first|simp only[ww]|(apply xa;simp+decide only[go_sem,l1,List.length_map];rfl;kernel_rfl))
     generalize hp2:(!decide (S.map Sg.name).Nodup || !decide (T.map Tm.name).Nodup)=p2 at *;refine xp_loop3 (σ:=Nat) kp25_8 (λi=>[(1,.ptr 0 0 0),(3,.bool p2),(9,.int .i64 (repSum (V.take i))),(10,.int .i64 (i:Nat))]) (λi=>[some (.row 3 [[sl rs (S.map Sg.enc),sl rt (T.map Tm.enc),sl rv (V.map Vc.enc)]])]) (λi=>V.length-i) (λi=>i≤V.length∧((V.take i).all λv=>vcOk v S T.length)=true∧0≤repSum (V.take i)∧repSum (V.take i)≤1000000*i) 0 ?_ ⟨Nat.zero_le _,rfl,Int.le_refl _,Int.le_refl _⟩ ?_
     ·have e0:repSum (V.take 0)=0:=rfl
      (simp+decide only[go_sem,gcD_eq,gcIds_eq,e0]<;>rfl)
     ·rintro i ⟨hi,hall,hs0,hs1⟩
      by_cases hlt:i<V.length
      ·have l1:(i:Int)<V.length:=by omega
       obtain⟨v,hs⟩:∃v,V[i]?=some v:=⟨_,List.getElem?_eq_getElem hlt⟩
       have hsm:(V.map Vc.enc)[i]?=some (Vc.enc v):=by rw[List.getElem?_map,hs];rfl
       have hw:IntKind.i64.wrap ((i:Int)+1)=((i+1:Nat):Int):=by rw[w64 (by omega) (by omega)];omega
       by_cases q0:v.t<0
       ·have hf:vcOk v S T.length=false:=by
         rw[Bool.eq_false_iff];intro h;simp only[vcOk,Bool.and_eq_true,decide_eq_true_eq]at h;omega
        rw[chk_v S T V hT16 (all_not (p:=λv=>vcOk v S T.length) hs hf)]
        (repeat first|simp only[ww]|(apply xa;simp+decide only[go_sem,l1,hlt,hsm,q0,List.length_map];rfl;kernel_rfl))
        (apply fqb;simp+decide only[go_sem]<;>rfl)
       by_cases q1:(T.length:Int)≤v.t
       ·have hf:vcOk v S T.length=false:=by
         rw[Bool.eq_false_iff];intro h;simp only[vcOk,Bool.and_eq_true,decide_eq_true_eq]at h;omega
        rw[chk_v S T V hT16 (all_not (p:=λv=>vcOk v S T.length) hs hf)]
        (repeat first|simp only[ww]|(apply xa;simp+decide only[go_sem,l1,hlt,hsm,q0,q1,List.length_map];rfl;kernel_rfl))
        (apply fqb;simp+decide only[go_sem]<;>rfl)
       by_cases q2:v.rep<1
       ·have hf:vcOk v S T.length=false:=by
         rw[Bool.eq_false_iff];intro h;simp only[vcOk,Bool.and_eq_true,decide_eq_true_eq]at h;omega
        rw[chk_v S T V hT16 (all_not (p:=λv=>vcOk v S T.length) hs hf)]
        (repeat first|simp only[ww]|(apply xa;simp+decide only[go_sem,l1,hlt,hsm,q0,q1,q2,List.length_map];rfl;kernel_rfl))
        (apply fqb;simp+decide only[go_sem]<;>rfl)
       by_cases q3:1000000<v.rep
       ·have hf:vcOk v S T.length=false:=by
         rw[Bool.eq_false_iff];intro h;simp only[vcOk,Bool.and_eq_true,decide_eq_true_eq]at h;omega
        rw[chk_v S T V hT16 (all_not (p:=λv=>vcOk v S T.length) hs hf)]
        (repeat first|simp only[ww]|(apply xa;simp+decide only[go_sem,l1,hlt,hsm,q0,q1,q2,q3,List.length_map];rfl;kernel_rfl))
        (apply fqb;simp+decide only[go_sem]<;>rfl)
       by_cases q4:v.cells.length=S.length
       case neg=>
        have q5:¬(v.cells.length:Int)=S.length:=by omega
        have hf:vcOk v S T.length=false:=by rw[Bool.eq_false_iff];intro h;simp only[vcOk,Bool.and_eq_true,decide_eq_true_eq]at h;exact q4 (cells_len _ _ h.2.2.2.2).symm
        rw[chk_v S T V hT16 (all_not (p:=λv=>vcOk v S T.length) hs hf)]
        (repeat first|simp only[ww]|(apply xa;simp+decide only[go_sem,l1,hlt,hsm,q0,q1,q2,q3,q5,List.length_map];rfl;kernel_rfl))
        (apply fqb;simp+decide only[go_sem]<;>rfl)
       have hrs:=repSum_s V hs;have hw2:IntKind.i64.wrap (repSum (V.take i)+v.rep)=repSum (V.take (i+1)):=by rw[w64 (by omega) (by omega)];omega
       (repeat first|simp only[ww]|(apply xa;simp+decide only[go_sem,l1,hlt,hsm,q0,q1,q2,q3,q4,List.length_map];rfl;kernel_rfl))
       refine xp_loop3 (σ:=Nat) kp25_10 (λk=>[(1,.ptr 0 0 0),(3,.bool p2),(9,.int .i64 (repSum (V.take i))),(10,.int .i64 (i:Nat)),(11,.ptr 1 0 0),(12,.int .i64 (k:Nat))]) (λ_=>[some (.row 3 [[sl rs (S.map Sg.enc),sl rt (T.map Tm.enc),sl rv (V.map Vc.enc)]]),some (.row 3 [Vc.enc v])]) (λk=>v.cells.length-k) (λk=>k≤v.cells.length∧∀(j:Nat) (s:Sg) (c:UInt8),j<k→S[j]?=some s→v.cells[j]?=some c→(letters s.dir).contains c=true) 0 ?_ ⟨Nat.zero_le _,λj s c h=>by omega⟩ ?_
       ·(simp+decide only[go_sem,gcD_eq,gcIds_eq]<;>rfl)
       ·rintro k ⟨hk,hcl⟩
        by_cases hkl:k<v.cells.length
        ·have l2:(k:Int)<v.cells.length:=by omega
         have hks:k<S.length:=by omega
         obtain⟨s,hu⟩:∃s,S[k]?=some s:=⟨_,List.getElem?_eq_getElem hks⟩
         obtain⟨c,hc⟩:∃c,v.cells[k]?=some c:=⟨_,List.getElem?_eq_getElem hkl⟩
         have hum:(S.map Sg.enc)[k]?=some (Sg.enc s):=by rw[List.getElem?_map,hu];rfl
         have hwk:IntKind.i64.wrap ((k:Int)+1)=((k+1:Nat):Int):=by rw[w64 (by omega) (by omega)];omega
         have hsd:=List.all_eq_true.1 hallS s (List.mem_of_getElem? hu);simp only[sgOk,Bool.and_eq_true,decide_eq_true_eq]at hsd;have hbad:(letters s.dir).contains c=false→chkP S T V=1:=λhb=>chk_v S T V hT16 (all_not (p:=λv=>vcOk v S T.length) hs (by simp only[vcOk,cells_false S v.cells k s c hu hc hb,Bool.and_false]));have hgood:(letters s.dir).contains c=true→∀(j:Nat) (s:Sg) (c:UInt8),j<k+1→S[j]?=some s→v.cells[j]?=some c→(letters s.dir).contains c=true:=by
          intro hg j s' c' hj h1 h2;by_cases hjk:j=k
          ·subst hjk;rw[hu]at h1;rw[hc]at h2;cases h1;cases h2;exact hg
          ·exact hcl j s' c' (by omega) h1 h2
         by_cases hd:s.dir=1
         case pos=>
          have hdi:(s.dir:Int)=1:=by omega
          have hdn:s.dir=1:=by omega
          rw[hdn]at hbad hgood;by_cases e88:c.toNat=88
          ·have hcc:c=88:=UInt8.toNat_inj.1 e88;subst hcc
           (repeat first|simp only[ww]|(apply xa;simp+decide only[go_sem,l2,hkl,hks,hum,hc,hdi,hwk,List.length_map];rfl;kernel_rfl))
           refine lp_n (k+1) ?_ (by omega) ⟨by omega,hgood (by decide)⟩
           (simp+decide only[go_sem,gcD_eq,gcIds_eq]<;>rfl)
          by_cases e48:c.toNat=48
          ·have hcc:c=48:=UInt8.toNat_inj.1 e48;subst hcc;rw[hbad (by decide)]
           (repeat first|simp only[ww]|(apply xa;simp+decide only[go_sem,l2,hkl,hks,hum,hc,hdi,hwk,List.length_map];rfl;kernel_rfl))
           (apply fqb;simp+decide only[go_sem]<;>rfl)
          by_cases e49:c.toNat=49
          ·have hcc:c=49:=UInt8.toNat_inj.1 e49;subst hcc;rw[hbad (by decide)]
           (repeat first|simp only[ww]|(apply xa;simp+decide only[go_sem,l2,hkl,hks,hum,hc,hdi,hwk,List.length_map];rfl;kernel_rfl))
           (apply fqb;simp+decide only[go_sem]<;>rfl)
          by_cases e80:c.toNat=80
          ·have hcc:c=80:=UInt8.toNat_inj.1 e80;subst hcc;rw[hbad (by decide)]
           (repeat first|simp only[ww]|(apply xa;simp+decide only[go_sem,l2,hkl,hks,hum,hc,hdi,hwk,List.length_map];rfl;kernel_rfl))
           (apply fqb;simp+decide only[go_sem]<;>rfl)
          by_cases e76:c.toNat=76
          ·have hcc:c=76:=UInt8.toNat_inj.1 e76;subst hcc
           (repeat first|simp only[ww]|(apply xa;simp+decide only[go_sem,l2,hkl,hks,hum,hc,hdi,hwk,List.length_map];rfl;kernel_rfl))
           refine lp_n (k+1) ?_ (by omega) ⟨by omega,hgood (by decide)⟩
           (simp+decide only[go_sem,gcD_eq,gcIds_eq]<;>rfl)
          by_cases e72:c.toNat=72
          ·have hcc:c=72:=UInt8.toNat_inj.1 e72;subst hcc
           (repeat first|simp only[ww]|(apply xa;simp+decide only[go_sem,l2,hkl,hks,hum,hc,hdi,hwk,List.length_map];rfl;kernel_rfl))
           refine lp_n (k+1) ?_ (by omega) ⟨by omega,hgood (by decide)⟩
           (simp+decide only[go_sem,gcD_eq,gcIds_eq]<;>rfl)
          have f88:¬(c.toNat:Int)=88:=by omega
          have f48:¬(c.toNat:Int)=48:=by omega
          have f49:¬(c.toNat:Int)=49:=by omega
          have f80:¬(c.toNat:Int)=80:=by omega
          have f76:¬(c.toNat:Int)=76:=by omega
          have f72:¬(c.toNat:Int)=72:=by omega
          have hnc:(letters 1).contains c=false:=by
           have hne:∀x:UInt8,x.toNat=88∨x.toNat=48∨x.toNat=49∨x.toNat=80∨x.toNat=76∨x.toNat=72→(c==x)=false:=by intro x hx;rw[beq_eq_false_iff_ne];intro e;subst e;omega
           show([76,72,88]:List UInt8).contains c=false;simp only[List.contains_cons,hne 88 (by decide),hne 48 (by decide),hne 49 (by decide),hne 80 (by decide),hne 76 (by decide),hne 72 (by decide),List.contains_nil,Bool.or_false]
          rw[hbad hnc]
          (repeat first|simp only[ww]|(apply xa;simp+decide only[go_sem,l2,hkl,hks,hum,hc,hdi,f88,f48,f49,f80,f76,f72,List.length_map];rfl;kernel_rfl))
          (apply fqb;simp+decide only[go_sem]<;>rfl)
         case neg=>
          have hdi:(s.dir:Int)=0:=by omega
          have hdn:s.dir=0:=by omega
          rw[hdn]at hbad hgood;by_cases e88:c.toNat=88
          ·have hcc:c=88:=UInt8.toNat_inj.1 e88;subst hcc
           (repeat first|simp only[ww]|(apply xa;simp+decide only[go_sem,l2,hkl,hks,hum,hc,hdi,hwk,List.length_map];rfl;kernel_rfl))
           refine lp_n (k+1) ?_ (by omega) ⟨by omega,hgood (by decide)⟩
           (simp+decide only[go_sem,gcD_eq,gcIds_eq]<;>rfl)
          by_cases e48:c.toNat=48
          ·have hcc:c=48:=UInt8.toNat_inj.1 e48;subst hcc
           (repeat first|simp only[ww]|(apply xa;simp+decide only[go_sem,l2,hkl,hks,hum,hc,hdi,hwk,List.length_map];rfl;kernel_rfl))
           refine lp_n (k+1) ?_ (by omega) ⟨by omega,hgood (by decide)⟩
           (simp+decide only[go_sem,gcD_eq,gcIds_eq]<;>rfl)
          by_cases e49:c.toNat=49
          ·have hcc:c=49:=UInt8.toNat_inj.1 e49;subst hcc
           (repeat first|simp only[ww]|(apply xa;simp+decide only[go_sem,l2,hkl,hks,hum,hc,hdi,hwk,List.length_map];rfl;kernel_rfl))
           refine lp_n (k+1) ?_ (by omega) ⟨by omega,hgood (by decide)⟩
           (simp+decide only[go_sem,gcD_eq,gcIds_eq]<;>rfl)
          by_cases e80:c.toNat=80
          ·have hcc:c=80:=UInt8.toNat_inj.1 e80;subst hcc
           (repeat first|simp only[ww]|(apply xa;simp+decide only[go_sem,l2,hkl,hks,hum,hc,hdi,hwk,List.length_map];rfl;kernel_rfl))
           refine lp_n (k+1) ?_ (by omega) ⟨by omega,hgood (by decide)⟩
           (simp+decide only[go_sem,gcD_eq,gcIds_eq]<;>rfl)
          by_cases e76:c.toNat=76
          ·have hcc:c=76:=UInt8.toNat_inj.1 e76;subst hcc;rw[hbad (by decide)]
           (repeat first|simp only[ww]|(apply xa;simp+decide only[go_sem,l2,hkl,hks,hum,hc,hdi,hwk,List.length_map];rfl;kernel_rfl))
           (apply fqb;simp+decide only[go_sem]<;>rfl)
          by_cases e72:c.toNat=72
          ·have hcc:c=72:=UInt8.toNat_inj.1 e72;subst hcc;rw[hbad (by decide)]
           (repeat first|simp only[ww]|(apply xa;simp+decide only[go_sem,l2,hkl,hks,hum,hc,hdi,hwk,List.length_map];rfl;kernel_rfl))
           (apply fqb;simp+decide only[go_sem]<;>rfl)
          have f88:¬(c.toNat:Int)=88:=by omega
          have f48:¬(c.toNat:Int)=48:=by omega
          have f49:¬(c.toNat:Int)=49:=by omega
          have f80:¬(c.toNat:Int)=80:=by omega
          have f76:¬(c.toNat:Int)=76:=by omega
          have f72:¬(c.toNat:Int)=72:=by omega
          have hnc:(letters 0).contains c=false:=by
           have hne:∀x:UInt8,x.toNat=88∨x.toNat=48∨x.toNat=49∨x.toNat=80∨x.toNat=76∨x.toNat=72→(c==x)=false:=by intro x hx;rw[beq_eq_false_iff_ne];intro e;subst e;omega
           show([48,49,88,80]:List UInt8).contains c=false;simp only[List.contains_cons,hne 88 (by decide),hne 48 (by decide),hne 49 (by decide),hne 80 (by decide),hne 76 (by decide),hne 72 (by decide),List.contains_nil,Bool.or_false]
          rw[hbad hnc]
          (repeat first|simp only[ww]|(apply xa;simp+decide only[go_sem,l2,hkl,hks,hum,hc,hdi,f88,f48,f49,f80,f76,f72,List.length_map];rfl;kernel_rfl))
          (apply fqb;simp+decide only[go_sem]<;>rfl)
        ·obtain rfl:k=v.cells.length:=by omega
         have l2:¬(v.cells.length:Int)<v.cells.length:=by omega
         have hco:cellsOk S v.cells=true:=cells_true S v.cells (by omega) λj s c h1 h2=>hcl j s c (List.getElem?_eq_some_iff.1 h2).1 h1 h2;have hvk:vcOk v S T.length=true:=by simp only[vcOk,hco,Bool.and_true,Bool.and_eq_true,decide_eq_true_eq];refine⟨by omega,by omega,by omega,by omega⟩
         (repeat first|simp only[ww]|(apply xa;simp+decide only[go_sem,l2,hw,hw2];rfl;kernel_rfl))
         refine lp_n (i+1) ?_ (by omega) ⟨by omega,all_take (p:=λv=>vcOk v S T.length) hs hall hvk,by omega,by omega⟩
         (simp+decide only[go_sem,gcD_eq,gcIds_eq]<;>rfl)
      ·obtain rfl:i=V.length:=by omega
       have l1:¬(V.length:Int)<V.length:=by omega
       rw[List.take_length]at hall⊢;rw[chk_r S T V hT16 hallS hallT hall,hp2];cases p2
       case true=>
        (repeat first|simp only[ww]|(apply xa;simp+decide only[go_sem,l1,List.length_map];rfl;kernel_rfl))
        (apply fqb;simp+decide only[go_sem]<;>rfl)
       by_cases hsu:1000000<repSum V
       ·rw[if_pos hsu]
        (repeat first|simp only[ww]|(apply xa;simp+decide only[go_sem,l1,hsu,List.length_map];rfl;kernel_rfl))
        (apply fqb;simp+decide only[go_sem]<;>rfl)
       ·rw[if_neg hsu]
        (repeat first|simp only[ww]|(apply xa;simp+decide only[go_sem,l1,hsu,List.length_map];rfl;kernel_rfl))
        (apply fqb;simp+decide only[go_sem]<;>rfl)
end Go.RInst
namespace Go.RInst
open Go.Proofs Go.Ax Go.Pc
variable [PR]
set_option maxRecDepth 100000
theorem prim_sem{g:Nat}{a:List AV}{H:Heap}{r:AV×Heap}(h:primH L.env g a H=some r):sem L.env Mf g a H=some r:=by refine sem_run (by intro y hy;cases hy) 0 ?_;unfold runFn;rw[h]
@[go_sem] theorem ren_trow(π:Nat→Option Nat)(t:Nat)(b:Bool)(k:Nat)(rows:List (List AV)):renObj π (.trow t b k rows) = .trow t b k (rows.map λr=>r.map (ren π)):=by rfl
@[go_sem] theorem refs_trow(t:Nat)(b:Bool)(k:Nat)(rows:List (List AV)):refsO (some (.trow t b k rows))=rows.flatMap refsL:=by rfl
/-- A line of text. -/
def lnT(l:List (List UInt8)):List UInt8:=Lib.join l [32]++[10]
def okL(n:Nat)(l:List (List UInt8)):Prop:=0<l.length∧l.length≤1000∧n+(lnT l).length≤1000000
theorem jn_ok(n:Nat)(c:Option Nat)(l:List (List UInt8))(hn:l.length=n)(h:okL 0 l):sem L.env Mf 24 [.slice 0 0 n c,.str [32]] [some (.row 1 (strsR l))]=some (.str (Lib.join l [32]),[some (.row 1 (strsR l))]):=by
 refine prim_sem ?_;show joinP [.slice 0 0 n c,.str [32]] [some (.row 1 (strsR l))]=_;obtain⟨h1,h2,h3⟩:=h;have h4:(Lib.join l [32]).length+1≤1000000:=by simpa[lnT]using h3
 have b1:Nat.beq n (strsR l).length=true:=by rw[Nat.beq_eq];simp[strsR,hn]
 have b2:Nat.blt 0 n=true:=by rw[Nat.blt_eq];omega
 have b4:unS (strsR l)=some l:=unS_strs l;have b5:okJ l [32]=true:=by unfold okJ bigB;rw[Nat.ble_eq_true_of_le (by omega),Nat.ble_eq_true_of_le (by omega)];rfl
 simp only[joinP,b1,b2,b4,b5];rfl
def bd0:Option AObj:=some (.trow 82 true 2 [[.nilptr,.nilslice]])
def bdN(k c n:Nat):Option AObj:=some (.trow 82 true 2 [[.ptr k 0 0,.slice c 0 n none]])
def buf(s:List UInt8):Option AObj:=some (.trow 5 false 1 (bytesR s))
theorem ws0_ok(t:List UInt8)(ht:t≠[])(hl:t.length≤1000000):sem L.env Mf 36 [.ptr 0 0 0,.str t] [bd0]=some (.tuple [.int .i64 t.length,.nilifc],[bdN 0 1 t.length,buf t]):=by
 refine prim_sem ?_;show wsP [.ptr 0 0 0,.str t] [bd0]=_;have b1:Nat.ble t.length bigB=true:=Nat.ble_eq_true_of_le (Nat.le_trans hl (by decide));cases t with
 |nil=>exact absurd rfl ht
 |cons a t=>simp only[wsP,bd0,b1];rfl
theorem ws1_ok(s t:List UInt8)(ht:t≠[])(hl:s.length+t.length≤1000000):sem L.env Mf 36 [.ptr 0 0 0,.str t] [bdN 0 1 s.length,buf s]=some (.tuple [.int .i64 t.length,.nilifc],[bdN 0 2 (s++t).length,none,buf (s++t)]):=by
 refine prim_sem ?_;show wsP [.ptr 0 0 0,.str t] [bdN 0 1 s.length,buf s]=_;have b1:Nat.ble (s.length+t.length) bigB=true:=Nat.ble_eq_true_of_le (Nat.le_trans hl (by decide));have b2:Nat.beq s.length (bytesR s).length=true:=by rw[Nat.beq_eq];simp[bytesR]
 have b3:bytesR s++bytesR t=bytesR (s++t):=by simp[bytesR]
 have b4:(!t.isEmpty)=true:=by cases t with|nil=>exact absurd rfl ht|cons=>rfl
 simp only[wsP,bdN,buf,b1,b2,b3,b4,List.length_append];rfl
theorem lnT_ne(l:List (List UInt8)):lnT l≠[]:=by unfold lnT;simp
theorem strsR_flat(l:List (List UInt8)):FlatR (strsR l):=FlatR.map λ_=>rfl
theorem bytesR_flat(s:List UInt8):FlatR (bytesR s):=FlatR.map λ_=>rfl
theorem wl0_ok(n:Nat)(c:Option Nat)(l:List (List UInt8))(hn:l.length=n)(h:okL 0 l):sem L.env Mf 35 [.slice 0 0 n c,.ptr 1 0 0] [some (.row 1 (strsR l)),bd0]=some (.tuple [],[some (.row 1 (strsR l)),bdN 1 2 (lnT l).length,buf (lnT l)]):=by
 have hf:=strsR_flat l;have h1:=λπ=>renR_flat π hf;have h2:=refs_flatR hf;have hj:=jn_ok n c l hn h;have hw:=ws0_ok (lnT l) (lnT_ne l) (by have:=h.2.2;omega);have k1:callV L.env false (sem L.env Mf) (.func (.func 24) [] []) [.slice 0 0 n c,.str [32]] [some (.row 1 (strsR l)),bd0]=some (.str (Lib.join l [32]),[some (.row 1 (strsR l)),bd0],[0]):=callV_one (by kernel_rfl) (by kernel_rfl) rfl (b:=0) (o:=.row 1 (strsR l)) rfl (refsO_flat hf) (FlatO.row hf) rfl (by rfl) hj rfl;have k2:callV L.env false (sem L.env Mf) (.func (.func 36) [] []) [.ptr 1 0 0,.str (lnT l)] [some (.row 1 (strsR l)),bd0]=some (.tuple [.int .i64 (lnT l).length,.nilifc],[some (.row 1 (strsR l)),bdN 1 2 (lnT l).length,buf (lnT l)],[1]):=by have hc:=callLoc_eq (sem L.env Mf 36) [.ptr 1 0 0,.str (lnT l)] [some (.row 1 (strsR l)),bd0] (σ:=[1]) (by rfl) rfl rfl (args':=[.ptr 0 0 0,.str (lnT l)]) rfl (H0:=[bd0]) (by rfl) hw;refine callV_eqn (by kernel_rfl) (by kernel_rfl) rfl (hc.trans ?_);have hb:=renR_flat (backOf [1] 2) (bytesR_flat (lnT l));simp+decide only[go_sem,bd0,bdN,buf,putBack,hb,h1];rfl
 (refine sv Tryz.f35 ?_;simp only[Tryz.f35,gS])
 have e:Lib.join l [32]++[10]=lnT l:=rfl;have hle:(Lib.join l [32]).length+1≤4611686018427387904:=by have:=h.2.2;simp[lnT]at this;omega
 (repeat first|simp only[ww]|(apply xa;simp+decide only[go_sem,k1,e,k2,hle];rfl;kernel_rfl))
 (apply fqb;simp+decide only[go_sem,h1,h2]<;>rfl)
theorem wl1_ok(n:Nat)(c:Option Nat)(s:List UInt8)(l:List (List UInt8))(hn:l.length=n)(h:okL s.length l):sem L.env Mf 35 [.slice 0 0 n c,.ptr 1 0 0] [some (.row 1 (strsR l)),bdN 1 2 s.length,buf s]=some (.tuple [],[some (.row 1 (strsR l)),bdN 1 3 (s++lnT l).length,none,buf (s++lnT l)]):=by
 have hf:=strsR_flat l;have h0:okL 0 l:=⟨h.1,h.2.1,by have:=h.2.2;omega⟩
 have h1:=λπ=>renR_flat π hf;have h2:=refs_flatR hf;have hg:=refs_flatR (bytesR_flat s);have hj:=jn_ok n c l hn h0;have hw:=ws1_ok s (lnT l) (lnT_ne l) h.2.2;have k1:callV L.env false (sem L.env Mf) (.func (.func 24) [] []) [.slice 0 0 n c,.str [32]] [some (.row 1 (strsR l)),bdN 1 2 s.length,buf s]=some (.str (Lib.join l [32]),[some (.row 1 (strsR l)),bdN 1 2 s.length,buf s],[0]):=callV_one (by kernel_rfl) (by kernel_rfl) rfl (b:=0) (o:=.row 1 (strsR l)) rfl (refsO_flat hf) (FlatO.row hf) rfl (by rfl) hj rfl;have k2:callV L.env false (sem L.env Mf) (.func (.func 36) [] []) [.ptr 1 0 0,.str (lnT l)] [some (.row 1 (strsR l)),bdN 1 2 s.length,buf s]=some (.tuple [.int .i64 (lnT l).length,.nilifc],[some (.row 1 (strsR l)),bdN 1 3 (s++lnT l).length,none,buf (s++lnT l)],[1,2]):=by
  have hb:=λπ=>renR_flat π (bytesR_flat s);have hb2:=λπ=>renR_flat π (bytesR_flat (s++lnT l));have hrc:reach [some (AObj.row 1 (strsR l)),bdN 1 2 s.length,buf s] 1000000 (refsL [AV.ptr 1 0 0,.str (lnT l)]) []=[1,2]:=by show reach _ 1000000 [1] []=_;rw[show(1000000:Nat)=999996+1+1+1+1 from rfl,reach_new rfl];show reach _ (999996+1+1+1) [1,2] [1]=_;rw[reach_old rfl,reach_new rfl];show reach _ (999996+1) (refsO (buf s)++[]) [2,1]=_;rw[show refsO (buf s)=[]from hg];exact reach_done _ _ _
  have hc:=callLoc_eq (sem L.env Mf 36) [.ptr 1 0 0,.str (lnT l)] [some (.row 1 (strsR l)),bdN 1 2 s.length,buf s] (σ:=[1,2]) hrc rfl rfl (args':=[.ptr 0 0 0,.str (lnT l)]) rfl (H0:=[bdN 0 1 s.length,buf s]) (by simp+decide only[go_sem,bdN,buf,smallH,hb]) hw;refine callV_eqn (by kernel_rfl) (by kernel_rfl) rfl (hc.trans ?_);simp+decide only[go_sem,bdN,buf,putBack,hb2,h1];rfl
 have e:Lib.join l [32]++[10]=lnT l:=rfl;have hle:(Lib.join l [32]).length+1≤4611686018427387904:=by have:=h0.2.2;simp[lnT]at this;omega
 (refine sv Tryz.f35 ?_;simp only[Tryz.f35,gS])
 (repeat first|simp only[ww]|(apply xa;simp+decide only[go_sem,k1,e,k2,hle];rfl;kernel_rfl))
 (apply fqb;simp+decide only[go_sem,h1,h2]<;>rfl)
/-- The builder whose text is s lies at c, its buffer at a. -/
def BdAt(H:Heap)(c a:Nat)(s:List UInt8):Prop:=(s=[]∧HeapF H c=bd0)∨(s≠[]∧HeapF H c=bdN c a s.length∧HeapF H a=buf s∧a≠c)
/-- A line is written. -/
theorem line_call(H:Heap)(k c a n:Nat)(cp:Option Nat)(s:List UInt8)(l:List (List UInt8))(hn:l.length=n)(h:okL s.length l)(hk:HeapF H k=some (.row 1 (strsR l)))(hb:BdAt H c a s)(hkc:k≠c)(hka:s≠[]→k≠a) :
 ∃H' a' σ,callV L.env false (sem L.env Mf) (.func (.func 35) [] [.ptr c 0 0]) [.slice k 0 n cp] H=some (.tuple [],H',σ)∧BdAt H' c a' (s++lnT l)∧H.length≤a'∧a'<H'.length∧H.length≤H'.length∧∀b,b<H.length→b≠c→(s≠[]→b≠a)→HeapF H' b=HeapF H b:=by
 have hlk:=heapF_lt hk;have hf:=strsR_flat l;have hfk:refsO (HeapF H k)=[]:=by rw[hk];exact refsO_flat hf
 have hkr:=λπ=>renR_flat π hf;have hne:s++lnT l≠[]:=by simp[lnT]
 rcases hb with ⟨rfl,hc⟩|⟨hs,hc,ha,hac⟩
 ·have hlc:=heapF_lt (H:=H) (b:=c) (o:=.trow 82 true 2 [[.nilptr,.nilslice]]) hc;have hw:=wl0_ok n cp l hn h;have hrc:reach H 1000000 (refsL [AV.slice k 0 n cp,.ptr c 0 0]) []=[k,c]:=by
   show reach H 1000000 [k,c] []=_;rw[show(1000000:Nat)=999997+1+1+1 from rfl,reach_new rfl,hfk,List.nil_append,reach_new (by simp[containsN_cons,containsN_nil,hkc]),hc];exact reach_done _ _ _
  obtain⟨H',h1,h2,h3,h4,h5⟩:=callV_any (E:=L.env) (call:=sem L.env Mf) (g:=35) (fs:=[]) (cs:=[.ptr c 0 0]) (ar:=[.slice k 0 n cp]) (H:=H) (σ:=[k,c]) (by kernel_rfl) (by kernel_rfl) rfl hrc (by simp[nodupB_cons,nodupB_nil,containsN_cons,containsN_nil,hkc.symm]) (by simp[hlk,hlc]) (args':=[.slice 0 0 n cp,.ptr 1 0 0]) (by simp[ren,piOf,List.idxOf?_cons,hkc]) (H0:=[some (.row 1 (strsR l)),bd0]) (by simp only[smallH,List.map_cons,List.map_nil,hk,hc,Option.map_some,renObj,hkr];rfl) hw rfl;refine⟨H',H.length,_,h1,.inr ⟨hne,?_,?_,by omega⟩,Nat.le_refl _,by rw[h2];show _<_+(3-2);omega,by omega,λb hb b1 _=>?_⟩
  ·rw[h3 1 c rfl];show some (renObj _ (AObj.trow 82 true 2 [[AV.ptr 1 0 0,AV.slice 2 0 (lnT l).length none]]))=_;rw[ren_trow];simp[ren,backOf,bdN,renB];exact⟨rfl,rfl⟩
  ·have h50:=h5 0;rw[Nat.add_zero]at h50;rw[h50];show some (renObj _ (AObj.trow 5 false 1 (bytesR (lnT l))))=_;rw[ren_trow,renR_flat _ (bytesR_flat _)];rfl
  ·by_cases hbk:b=k
   ·subst hbk;rw[h3 0 b rfl,hk];show some (renObj _ (AObj.row 1 (strsR l)))=_;simp only[renObj,hkr]
   ·exact h4 b hb (by simp[hbk,b1])
 ·have hlc:=heapF_lt (H:=H) (b:=c) (o:=.trow 82 true 2 [[.ptr c 0 0,.slice a 0 s.length none]]) hc;have hla:=heapF_lt (H:=H) (b:=a) (o:=.trow 5 false 1 (bytesR s)) ha;have hka:=hka hs;have hw:=wl1_ok n cp s l hn h;have hfa:refsO (HeapF H a)=[]:=by rw[ha];exact refs_flatR (bytesR_flat s)
  have hfc:refsO (HeapF H c)=[c,a]:=by rw[hc];rfl
  have hbr:=λπ=>renR_flat π (bytesR_flat s);have hrc:reach H 1000000 (refsL [AV.slice k 0 n cp,.ptr c 0 0]) []=[k,c,a]:=by show reach H 1000000 [k,c] []=_;rw[show(1000000:Nat)=999995+1+1+1+1+1 from rfl,reach_new rfl,hfk,List.nil_append,reach_new (by simp[containsN_cons,containsN_nil,hkc]),hfc];show reach H _ [c,a] _=_;rw[reach_old (by simp[containsN_cons,containsN_nil]),reach_new (by simp[containsN_cons,containsN_nil,hka,hac.symm]),hfa];exact reach_done _ _ _
  obtain⟨H',h1,h2,h3,h4,h5⟩:=callV_any (E:=L.env) (call:=sem L.env Mf) (g:=35) (fs:=[]) (cs:=[.ptr c 0 0]) (ar:=[.slice k 0 n cp]) (H:=H) (σ:=[k,c,a]) (by kernel_rfl) (by kernel_rfl) rfl hrc (by simp[nodupB_cons,nodupB_nil,containsN_cons,containsN_nil,hkc.symm,hka.symm,hac]) (by simp[hlk,hlc,hla]) (args':=[.slice 0 0 n cp,.ptr 1 0 0]) (by simp[ren,piOf,List.idxOf?_cons,hkc]) (H0:=[some (.row 1 (strsR l)),bdN 1 2 s.length,buf s]) (by simp only[smallH,List.map_cons,List.map_nil,hk,hc,ha,bdN,buf,Option.map_some,ren_trow,renObj,hkr,hbr];simp[ren,renB,piOf,List.idxOf?_cons,hkc,hka,hac.symm]) hw rfl;refine⟨H',H.length,_,h1,.inr ⟨hne,?_,?_,by omega⟩,Nat.le_refl _,by rw[h2];show _<_+(4-3);omega,by omega,λb hb b1 b2=>?_⟩
  ·rw[h3 1 c rfl];show some (renObj _ (AObj.trow 82 true 2 [[AV.ptr 1 0 0,AV.slice 3 0 (s++lnT l).length none]]))=_;rw[ren_trow];simp[ren,backOf,bdN,renB];exact⟨rfl,rfl⟩
  ·have h50:=h5 0;rw[Nat.add_zero]at h50;rw[h50];show some (renObj _ (AObj.trow 5 false 1 (bytesR (s++lnT l))))=_;rw[ren_trow,renR_flat _ (bytesR_flat _)];rfl
  ·by_cases hbk:b=k
   ·subst hbk;rw[h3 0 b rfl,hk];show some (renObj _ (AObj.row 1 (strsR l)))=_;simp only[renObj,hkr]
   ·exact h4 b hb (by simp[hbk,b1,b2 hs])
end Go.RInst
namespace Go.RInst
open Go.Proofs Go.Ax Go.Pc
variable [PR]
set_option maxRecDepth 100000
def sigK0:List UInt8:=[115,105,103,110,97,108]
def timK0:List UInt8:=[116,105,109,105,110,103]
def vecK0:List UInt8:=[118,101,99,116,111,114]
def inK:List UInt8:=[105,110]
def outK:List UInt8:=[111,117,116]
def sigL(s:Sg):List (List UInt8):=[sigK0,s.name,if s.dir=1 then outK else inK]
def timN(t:Tm):List Int:=[t.per,t.dr,t.ri,t.fa,t.st]
def timL(t:Tm):List (List UInt8):=[timK0,t.name]++(timN t).map Lib.itoa
def vecL(T:List Tm)(v:Vc):List (List UInt8):=match T[v.t.toNat]? with
 |some t=>[vecK0,t.name,if v.cells=[]then[45]else v.cells]++(if v.rep=1 then[]else[Lib.itoa v.rep])
 |none=>[]
def txS(S:List Sg):List UInt8:=S.flatMap λs=>lnT (sigL s)
def txT(T:List Tm):List UInt8:=T.flatMap λt=>lnT (timL t)
def txV(T:List Tm)(V:List Vc):List UInt8:=V.flatMap λv=>lnT (vecL T v)
def text(S:List Sg)(T:List Tm)(V:List Vc):List UInt8:=txS S++txT T++txV T V
theorem fm_s{α:Type}(f:α→List UInt8)(l:List α){i:Nat}{x:α}(h:l[i]?=some x):(l.take (i+1)).flatMap f=(l.take i).flatMap f++f x:=by rw[take_s h];simp
theorem fm_len{α:Type}(f:α→List UInt8)(k:Nat):∀(l:List α),(∀x∈l,(f x).length≤k)→(l.flatMap f).length≤k*l.length
 | [],_=>by simp
 |a::l,h=>by have h1:=fm_len f k l λx hx=>h x (by simp[hx]);have h2:=h a (by simp);rw[List.flatMap_cons,List.length_append,List.length_cons,Nat.mul_succ];omega
theorem fm_le{α:Type}(f:α→List UInt8)(l:List α)(i:Nat):((l.take i).flatMap f).length≤(l.flatMap f).length:=by
 have e:l.flatMap f=(l.take i).flatMap f++(l.drop i).flatMap f:=by rw[←List.flatMap_append,List.take_append_drop]
 rw[e,List.length_append];omega
theorem dd_len:∀(k n:Nat),n<10^(k+1)→(Lib.decDigits n).length≤k+1
 |0,n,h=>by rw[Lib.decDigits,dif_pos (by omega)];simp
 |k+1,n,h=>by
  rw[Lib.decDigits];by_cases hn:n<10
  ·rw[dif_pos hn];simp
  ·rw[dif_neg hn,List.length_append];have:=dd_len k (n/10) (by rw[Nat.pow_succ]at h;omega);simp only[List.length_cons,List.length_nil];omega
theorem itoa_len(n:Int)(h0:0≤n)(h1:n≤1000000):(Lib.itoa n).length≤7:=by unfold Lib.itoa;rw[if_neg (by omega)];exact dd_len 6 _ (by omega)
theorem lnT_len(l:List (List UInt8))(x:List UInt8):(lnT (x::l)).length=l.length+Lib.lens (x::l)+1:=by unfold lnT;rw[List.length_append,Lib.join_length];simp
theorem name_len{s:List UInt8}(h:nameB s=true):s.length≤32:=by
 cases s with
 |nil=>simp
 |cons a r=>simp only[nameB,Bool.and_eq_true,decide_eq_true_eq]at h;exact h.1
theorem lens_cons(x:List UInt8)(l:List (List UInt8)):Lib.lens (x::l)=x.length+Lib.lens l:=by simp[Lib.lens]
theorem lens_nil:Lib.lens []=0:=rfl
theorem sigL_len{s:Sg}(h:sgOk s=true):(lnT (sigL s)).length≤150:=by simp only[sgOk,Bool.and_eq_true]at h;have:=name_len h.1;unfold sigL;rw[lnT_len];simp only[lens_cons,lens_nil,List.length_cons,List.length_nil,sigK0];split<;>simp[outK,inK]<;>omega
theorem timL_len{t:Tm}(h:tmOk t=true):(lnT (timL t)).length≤150:=by have h0:=tIn_of h;simp only[tmOk,Bool.and_eq_true,decide_eq_true_eq]at h;have:=name_len h.1;have:=h0.dr0;have:=h0.ri;have:=h0.fa;have:=h0.per;have:=h0.top;have:=h0.st0;have:=h0.st1;have a1:=itoa_len t.per (by omega) (by omega);have a2:=itoa_len t.dr (by omega) (by omega);have a3:=itoa_len t.ri (by omega) (by omega);have a4:=itoa_len t.fa (by omega) (by omega);have a5:=itoa_len t.st (by omega) (by omega);unfold timL timN;simp only[List.map_cons,List.map_nil,List.cons_append,List.nil_append];rw[lnT_len];simp only[lens_cons,lens_nil,List.length_cons,List.length_nil,timK0];omega
theorem vecL_ne(T:List Tm)(v:Vc)(t:Tm)(h:T[v.t.toNat]?=some t):vecL T v=[vecK0,t.name,if v.cells=[]then[45]else v.cells]++(if v.rep=1 then[]else[Lib.itoa v.rep]):=by unfold vecL;rw[h]
theorem vecL_len{S:List Sg}{T:List Tm}{V:List Vc}(h:Valid S T V){v:Vc}(hv:v∈V):(lnT (vecL T v)).length≤200:=by
 have hk:=h.vc v hv;have hS:=h.hS;simp only[vcOk,Bool.and_eq_true,decide_eq_true_eq]at hk;obtain⟨t,ht⟩:∃t,T[v.t.toNat]?=some t:=⟨_,List.getElem?_eq_getElem (by omega)⟩
 have hto:=h.tm t (List.mem_of_getElem? ht);simp only[tmOk,Bool.and_eq_true,decide_eq_true_eq]at hto;have:=name_len hto.1;have:=cells_len _ _ hk.2.2.2.2;have a1:=itoa_len v.rep (by omega) (by omega);rw[vecL_ne T v t ht];split<;>split<;>(simp only[List.cons_append,List.nil_append];rw[lnT_len];simp only[lens_cons,lens_nil,List.length_cons,List.length_nil,vecK0];omega)
theorem itoa_call{d:Bool}(H:Heap)(n:Int)(h0:0≤n)(h1:n≤1000000):callV L.env d (sem L.env Mf) (.func (.func 37) [] []) [.int .i64 n] H=some (.str (Lib.itoa n),H,[]):=by
 have hp:sem L.env Mf 37 [.int .i64 n] []=some (.str (Lib.itoa n),[]):=by
  refine sem_run (by intro y hy;cases hy) 0 ?_;have hq:L.env.prim 37 [.int .i64 n]=some (.str (Lib.itoa n),[]):=by
   show itoP [.int .i64 n]=_;have b1:(decide (0≤n)&&decide (n≤1000000000))=true:=by rw[decide_eq_true h0,decide_eq_true (by omega)];rfl
   simp only[itoP,b1];rfl
  unfold runFn primH;rw[hq]
 exact callV_flat (by kernel_rfl) (by kernel_rfl) rfl rfl hp rfl
/-- The builder with this text, its buffer next to it. -/
def bdH(s:List UInt8):Heap:=match s with
 | []=>[bd0]
 |_=>[bdN 1 2 s.length,buf s]
theorem bdH_nil:bdH []=[some (.trow 82 true 2 [[.nilptr,.nilslice]])]:=rfl
theorem bdH_ne{s:List UInt8}(h:s≠[]):bdH s=[some (.trow 82 true 2 [[.ptr 1 0 0,.slice 2 0 s.length none]]),some (.trow 5 false 1 (bytesR s))]:=by
 cases s with
 |nil=>exact absurd rfl h
 |cons=>rfl
theorem okL_of{n:Nat}{l:List (List UInt8)}(h:n+(lnT l).length≤1000000)(h1:0<l.length)(h2:l.length≤1000):okL n l:=⟨h1,h2,h⟩
@[go_sem high] theorem reach_o{H:Heap}{n:Nat}{b:Nat}{todo acc:List Nat}(hn:(0<n)=True)(h:containsN acc b=true):reach H n (b::todo) acc=reach H (n-1) todo acc:=by
 obtain⟨m,rfl⟩:∃m,n=m+1:=⟨n-1,by have:=of_eq_true hn;omega⟩
 exact reach_old h
@[go_sem high] theorem reach_n{H:Heap}{n:Nat}{b:Nat}{todo acc:List Nat}(hn:(0<n)=True)(h:containsN acc b=false):reach H n (b::todo) acc=reach H (n-1) (refsO (HeapF H b)++todo) (b::acc):=by
 obtain⟨m,rfl⟩:∃m,n=m+1:=⟨n-1,by have:=of_eq_true hn;omega⟩
 exact reach_new h
theorem len0(P:AObj):callV L.env false (sem L.env Mf) (.func (.func 38) [] []) [.ptr 1 0 0] [some P,some (.trow 82 true 2 [[.nilptr,.nilslice]])]=some (.int .i64 0,[some P,some (.trow 82 true 2 [[.nilptr,.nilslice]])],[1]):=by have hp:sem L.env Mf 38 [.ptr 0 0 0] [bd0]=some (.int .i64 0,[bd0]):=prim_sem (by rfl);have hc:=callLoc_eq (sem L.env Mf 38) [.ptr 1 0 0] [some P,bd0] (σ:=[1]) (by rfl) rfl rfl (args':=[.ptr 0 0 0]) rfl (H0:=[bd0]) (by rfl) hp;exact callV_eqn (by kernel_rfl) (by kernel_rfl) rfl (hc.trans (by rfl))
theorem str0(P:AObj):callV L.env false (sem L.env Mf) (.func (.func 39) [] []) [.ptr 1 0 0] [some P,some (.trow 82 true 2 [[.nilptr,.nilslice]])]=some (.str [],[some P,some (.trow 82 true 2 [[.nilptr,.nilslice]])],[1]):=by have hp:sem L.env Mf 39 [.ptr 0 0 0] [bd0]=some (.str [],[bd0]):=prim_sem (by rfl);have hc:=callLoc_eq (sem L.env Mf 39) [.ptr 1 0 0] [some P,bd0] (σ:=[1]) (by rfl) rfl rfl (args':=[.ptr 0 0 0]) rfl (H0:=[bd0]) (by rfl) hp;exact callV_eqn (by kernel_rfl) (by kernel_rfl) rfl (hc.trans (by rfl))
theorem reach_b1(P:AObj)(s:List UInt8):reach [some P,some (.trow 82 true 2 [[.ptr 1 0 0,.slice 2 0 s.length none]]),some (.trow 5 false 1 (bytesR s))] 1000000 [1] []=[1,2]:=by rw[show(1000000:Nat)=999996+1+1+1+1 from rfl,reach_new rfl];show reach _ (999996+1+1+1) [1,2] [1]=_;rw[reach_old rfl,reach_new rfl];show reach _ (999996+1) ((bytesR s).flatMap refsL++[]) [2,1]=_;rw[refs_flatR (bytesR_flat s)];exact reach_done _ _ _
theorem len1(P:AObj)(s:List UInt8):callV L.env false (sem L.env Mf) (.func (.func 38) [] []) [.ptr 1 0 0] [some P,some (.trow 82 true 2 [[.ptr 1 0 0,.slice 2 0 s.length none]]),some (.trow 5 false 1 (bytesR s))]=some (.int .i64 s.length,[some P,some (.trow 82 true 2 [[.ptr 1 0 0,.slice 2 0 s.length none]]),some (.trow 5 false 1 (bytesR s))],[1,2]):=by have hp:sem L.env Mf 38 [.ptr 0 0 0] [bdN 0 1 s.length,buf s]=some (.int .i64 s.length,[bdN 0 1 s.length,buf s]):=prim_sem (by rfl);have hb:=λπ=>renR_flat π (bytesR_flat s);have hc:=callLoc_eq (sem L.env Mf 38) [.ptr 1 0 0] _ (σ:=[1,2]) (reach_b1 P s) rfl rfl (args':=[.ptr 0 0 0]) rfl (H0:=[bdN 0 1 s.length,buf s]) (by simp+decide only[go_sem,bdN,buf,smallH,hb]) hp;refine callV_eqn (by kernel_rfl) (by kernel_rfl) rfl (hc.trans ?_);simp+decide only[go_sem,bdN,buf,putBack,hb]
theorem str1(P:AObj)(s:List UInt8)(hs:s≠[])(hl:s.length≤1000000):callV L.env false (sem L.env Mf) (.func (.func 39) [] []) [.ptr 1 0 0] [some P,some (.trow 82 true 2 [[.ptr 1 0 0,.slice 2 0 s.length none]]),some (.trow 5 false 1 (bytesR s))]=some (.str s,[some P,some (.trow 82 true 2 [[.ptr 1 0 0,.slice 2 0 s.length none]]),none],[1,2]):=by
 have hp:sem L.env Mf 39 [.ptr 0 0 0] [bdN 0 1 s.length,buf s]=some (.str s,[bdN 0 1 s.length,none]):=by
  refine prim_sem ?_;show strP [.ptr 0 0 0] [bdN 0 1 s.length,buf s]=_;have b1:Nat.beq s.length (bytesR s).length=true:=by rw[Nat.beq_eq];simp[bytesR]
  have b2:Nat.blt 0 s.length=true:=by rw[Nat.blt_eq];exact List.length_pos_iff.2 hs
  have b3:Nat.ble s.length bigB=true:=Nat.ble_eq_true_of_le (Nat.le_trans hl (by decide));simp only[strP,bdN,buf,b1,b2,b3,unB_bytes];rfl
 have hb:=λπ=>renR_flat π (bytesR_flat s);have hc:=callLoc_eq (sem L.env Mf 39) [.ptr 1 0 0] _ (σ:=[1,2]) (reach_b1 P s) rfl rfl (args':=[.ptr 0 0 0]) rfl (H0:=[bdN 0 1 s.length,buf s]) (by simp+decide only[go_sem,bdN,buf,smallH,hb]) hp;refine callV_eqn (by kernel_rfl) (by kernel_rfl) rfl (hc.trans ?_);simp+decide only[go_sem,bdN,buf,putBack,hb]
end Go.RInst
namespace Go.RInst
open Go.Proofs Go.Ax Go.Pc
variable [PR]
set_option maxRecDepth 100000
set_option maxHeartbeats 8000000 in
theorem write_ok(rs rt rv:Option (Option Nat))(S:List Sg)(T:List Tm)(V:List Vc)(h:Valid S T V):sem L.env Mf 18 [.agg [sl rs (S.map Sg.enc),sl rt (T.map Tm.enc),sl rv (V.map Vc.enc)]] []=some (.tuple [.str (text S T V),.int .i64 0],[]):=by
 have hS:=h.hS;have hT:=h.hT;have hV:=h.hV;have hck:=λd H=>check_call (d:=d) H rs rt rv S T V h;have bS:=fm_len (λs=>lnT (sigL s)) 200 S λs hs=>Nat.le_trans (sigL_len (h.sg s hs)) (by decide);have bT:=fm_len (λt=>lnT (timL t)) 200 T λt ht=>Nat.le_trans (timL_len (h.tm t ht)) (by decide);have bV:=fm_len (λv=>lnT (vecL T v)) 200 V λv hv=>vecL_len h hv;have b46:Nat.beq 46 82=false:=by decide
 have b82:Nat.beq 82 82=true:=by rfl
 have b41:Nat.beq 41 82=false:=by decide
 have hb5:∀s,(bytesR s).flatMap refsL=[]:=λs=>refs_flatR (bytesR_flat s);have hb6:∀π s,(bytesR s).map (λr=>r.map (ren π))=bytesR s:=λπ s=>renR_flat π (bytesR_flat s)
 (refine sv Tryz.f18 ?_;simp only[Tryz.f18,gS])
 (repeat first|simp only[ww]|(apply xa;simp+decide only[go_sem,hck,b82,List.length_map];rfl;kernel_rfl))
 refine xp_loop3 (σ:=Nat) kp18_0 (λi=>[(1,.ptr 0 0 0),(5,.ptr 1 0 0),(6,.func (.func 35) [] [.ptr 1 0 0]),(25,sl rs (S.map Sg.enc)),(26,.int .i64 S.length),(27,.int .i64 (i:Nat))]) (λi=>some (.row 3 [[sl rs (S.map Sg.enc),sl rt (T.map Tm.enc),sl rv (V.map Vc.enc)]])::bdH (txS (S.take i))) (λi=>S.length-i) (λi=>i≤S.length) 0 ?_ (Nat.zero_le _) ?_
 ·(simp+decide only[go_sem,gcD_eq,gcIds_eq,b82]<;>rfl)
 ·intro i hi;by_cases hlt:i<S.length
  ·have l1:(i:Int)<S.length:=by omega
   obtain⟨s,hs⟩:∃s,S[i]?=some s:=⟨_,List.getElem?_eq_getElem hlt⟩
   have hsm:(S.map Sg.enc)[i]?=some (Sg.enc s):=by rw[List.getElem?_map,hs];rfl
   have hsm':Sg.enc s=[.str s.name,.int .u8 s.dir]:=rfl;have hw:IntKind.i64.wrap ((i:Int)+1)=((i+1:Nat):Int):=by rw[w64 (by omega) (by omega)];omega
   have hsok:=h.sg s (List.mem_of_getElem? hs);have hsl9:=sigL_len hsok;simp only[sgOk,Bool.and_eq_true,decide_eq_true_eq]at hsok;have hdle:=hsok.2;have hps:txS (S.take (i+1))=txS (S.take i)++lnT (sigL s):=fm_s _ S hs;have hle:=fm_le (λs=>lnT (sigL s)) S i;have hok:okL (txS (S.take i)).length (sigL s):=okL_of (by unfold txS;omega) (by unfold sigL;simp) (by unfold sigL;simp);generalize txS (S.take i)=tx at hps hok⊢;by_cases hne:tx=[]
   ·subst hne;rw[bdH_nil];by_cases hd1:s.dir=1
    ·have hdd:=hd1;have hdi:(s.dir:Int)=1:=by omega
     have hsl:sigL s=[[115,105,103,110,97,108],s.name,[111,117,116]]:=by unfold sigL;rw[hdd];rfl
     obtain⟨H1,a1,σ1,g1,g2,g3,g4,g5,g6⟩:=line_call [some (.row 3 [[sl rs (S.map Sg.enc),sl rt (T.map Tm.enc),sl rv (V.map Vc.enc)]]),some (.trow 82 true 2 [[.nilptr,.nilslice]]),some (.row 2 [[.str s.name,.int .u8 (1:Int)]]),some (.row 1 [[.str [115,105,103,110,97,108]],[.str s.name],[.str [111,117,116]]])] 3 1 2 3 (some 3) [] (sigL s) rfl hok (by rw[hsl];rfl) (.inl ⟨rfl,rfl⟩) (by decide) (λ_=>by decide);rcases g2 with ⟨g2,_⟩|⟨_,q1,q2,q3⟩
     ·exact absurd g2 (by simp[lnT])
     have p0:HeapF H1 0=some (.row 3 [[sl rs (S.map Sg.enc),sl rt (T.map Tm.enc),sl rv (V.map Vc.enc)]]):=g6 0 (by show 0<_;simp) (by decide) (by intro _;decide);have z7:a1<H1.length:=g4;have z8:0<H1.length:=by omega
     have z9:1<H1.length:=by have:4≤H1.length:=g5;omega
     have y5:4≤a1:=g3;have y0:¬0=a1:=by omega
     have y1:¬1=a1:=by omega
     have y2:¬a1=0:=by omega
     have y3:¬a1=1:=by omega
     have h5:=refs_flatR (bytesR_flat ([]++lnT (sigL s)));have h6:=λπ=>renR_flat π (bytesR_flat ([]++lnT (sigL s)));rw[hsm']at hsm;rw[hdi]at hsm
     (repeat first|simp only[ww]|(apply xa;simp+decide only[go_sem,l1,hlt,hsm,hw,g1,List.length_map,b46];rfl;kernel_rfl))
     refine lp_n (i+1) ?_ (by omega) (by omega);rw[hps,bdH_ne (by simp[lnT])];simp+decide only[go_sem,gcD_eq,gcIds_eq,p0,q1,q2,bdN,buf,hb5,hb6,y0,y1,y2,y3,z7,z8,z9,Nat.zero_le,Nat.not_lt_zero]<;>rfl
    ·have hdd:s.dir=0:=by omega
     have hdi:(s.dir:Int)=0:=by omega
     have hsl:sigL s=[[115,105,103,110,97,108],s.name,[105,110]]:=by unfold sigL;rw[hdd];rfl
     obtain⟨H1,a1,σ1,g1,g2,g3,g4,g5,g6⟩:=line_call [some (.row 3 [[sl rs (S.map Sg.enc),sl rt (T.map Tm.enc),sl rv (V.map Vc.enc)]]),some (.trow 82 true 2 [[.nilptr,.nilslice]]),some (.row 2 [[.str s.name,.int .u8 (0:Int)]]),some (.row 1 [[.str [115,105,103,110,97,108]],[.str s.name],[.str [105,110]]])] 3 1 2 3 (some 3) [] (sigL s) rfl hok (by rw[hsl];rfl) (.inl ⟨rfl,rfl⟩) (by decide) (λ_=>by decide);rcases g2 with ⟨g2,_⟩|⟨_,q1,q2,q3⟩
     ·exact absurd g2 (by simp[lnT])
     have p0:HeapF H1 0=some (.row 3 [[sl rs (S.map Sg.enc),sl rt (T.map Tm.enc),sl rv (V.map Vc.enc)]]):=g6 0 (by show 0<_;simp) (by decide) (by intro _;decide);have z7:a1<H1.length:=g4;have z8:0<H1.length:=by omega
     have z9:1<H1.length:=by have:4≤H1.length:=g5;omega
     have y5:4≤a1:=g3;have y0:¬0=a1:=by omega
     have y1:¬1=a1:=by omega
     have y2:¬a1=0:=by omega
     have y3:¬a1=1:=by omega
     have h5:=refs_flatR (bytesR_flat ([]++lnT (sigL s)));have h6:=λπ=>renR_flat π (bytesR_flat ([]++lnT (sigL s)));rw[hsm']at hsm;rw[hdi]at hsm
     (repeat first|simp only[ww]|(apply xa;simp+decide only[go_sem,l1,hlt,hsm,hw,g1,List.length_map,b46];rfl;kernel_rfl))
     refine lp_n (i+1) ?_ (by omega) (by omega);rw[hps,bdH_ne (by simp[lnT])];simp+decide only[go_sem,gcD_eq,gcIds_eq,p0,q1,q2,bdN,buf,hb5,hb6,y0,y1,y2,y3,z7,z8,z9,Nat.zero_le,Nat.not_lt_zero]<;>rfl
   ·rw[bdH_ne hne];by_cases hd1:s.dir=1
    ·have hdd:=hd1;have hdi:(s.dir:Int)=1:=by omega
     have hsl:sigL s=[[115,105,103,110,97,108],s.name,[111,117,116]]:=by unfold sigL;rw[hdd];rfl
     obtain⟨H1,a1,σ1,g1,g2,g3,g4,g5,g6⟩:=line_call [some (.row 3 [[sl rs (S.map Sg.enc),sl rt (T.map Tm.enc),sl rv (V.map Vc.enc)]]),some (.trow 82 true 2 [[.ptr 1 0 0,.slice 2 0 tx.length none]]),some (.trow 5 false 1 (bytesR tx)),some (.row 2 [[.str s.name,.int .u8 (1:Int)]]),some (.row 1 [[.str [115,105,103,110,97,108]],[.str s.name],[.str [111,117,116]]])] 4 1 2 3 (some 3) tx (sigL s) rfl hok (by rw[hsl];rfl) (.inr ⟨hne,rfl,rfl,by decide⟩) (by decide) (λ_=>by decide);rcases g2 with ⟨g2,_⟩|⟨_,q1,q2,q3⟩
     ·exact absurd g2 (by simp[lnT])
     have p0:HeapF H1 0=some (.row 3 [[sl rs (S.map Sg.enc),sl rt (T.map Tm.enc),sl rv (V.map Vc.enc)]]):=g6 0 (by show 0<_;simp) (by decide) (by intro _;decide);have z7:a1<H1.length:=g4;have z8:0<H1.length:=by omega
     have z9:1<H1.length:=by have:5≤H1.length:=g5;omega
     have y5:5≤a1:=g3;have y0:¬0=a1:=by omega
     have y1:¬1=a1:=by omega
     have y2:¬a1=0:=by omega
     have y3:¬a1=1:=by omega
     have h5:=refs_flatR (bytesR_flat (tx++lnT (sigL s)));have h6:=λπ=>renR_flat π (bytesR_flat (tx++lnT (sigL s)));rw[hsm']at hsm;rw[hdi]at hsm
     (repeat first|simp only[ww]|(apply xa;simp+decide only[go_sem,l1,hlt,hsm,hw,g1,List.length_map,b46];rfl;kernel_rfl))
     refine lp_n (i+1) ?_ (by omega) (by omega);rw[hps,bdH_ne (by simp[lnT])];simp+decide only[go_sem,gcD_eq,gcIds_eq,p0,q1,q2,bdN,buf,hb5,hb6,y0,y1,y2,y3,z7,z8,z9,Nat.zero_le,Nat.not_lt_zero]<;>rfl
    ·have hdd:s.dir=0:=by omega
     have hdi:(s.dir:Int)=0:=by omega
     have hsl:sigL s=[[115,105,103,110,97,108],s.name,[105,110]]:=by unfold sigL;rw[hdd];rfl
     obtain⟨H1,a1,σ1,g1,g2,g3,g4,g5,g6⟩:=line_call [some (.row 3 [[sl rs (S.map Sg.enc),sl rt (T.map Tm.enc),sl rv (V.map Vc.enc)]]),some (.trow 82 true 2 [[.ptr 1 0 0,.slice 2 0 tx.length none]]),some (.trow 5 false 1 (bytesR tx)),some (.row 2 [[.str s.name,.int .u8 (0:Int)]]),some (.row 1 [[.str [115,105,103,110,97,108]],[.str s.name],[.str [105,110]]])] 4 1 2 3 (some 3) tx (sigL s) rfl hok (by rw[hsl];rfl) (.inr ⟨hne,rfl,rfl,by decide⟩) (by decide) (λ_=>by decide);rcases g2 with ⟨g2,_⟩|⟨_,q1,q2,q3⟩
     ·exact absurd g2 (by simp[lnT])
     have p0:HeapF H1 0=some (.row 3 [[sl rs (S.map Sg.enc),sl rt (T.map Tm.enc),sl rv (V.map Vc.enc)]]):=g6 0 (by show 0<_;simp) (by decide) (by intro _;decide);have z7:a1<H1.length:=g4;have z8:0<H1.length:=by omega
     have z9:1<H1.length:=by have:5≤H1.length:=g5;omega
     have y5:5≤a1:=g3;have y0:¬0=a1:=by omega
     have y1:¬1=a1:=by omega
     have y2:¬a1=0:=by omega
     have y3:¬a1=1:=by omega
     have h5:=refs_flatR (bytesR_flat (tx++lnT (sigL s)));have h6:=λπ=>renR_flat π (bytesR_flat (tx++lnT (sigL s)));rw[hsm']at hsm;rw[hdi]at hsm
     (repeat first|simp only[ww]|(apply xa;simp+decide only[go_sem,l1,hlt,hsm,hw,g1,List.length_map,b46];rfl;kernel_rfl))
     refine lp_n (i+1) ?_ (by omega) (by omega);rw[hps,bdH_ne (by simp[lnT])];simp+decide only[go_sem,gcD_eq,gcIds_eq,p0,q1,q2,bdN,buf,hb5,hb6,y0,y1,y2,y3,z7,z8,z9,Nat.zero_le,Nat.not_lt_zero]<;>rfl
  ·obtain rfl:i=S.length:=by omega
   have l1:¬(S.length:Int)<S.length:=by omega
   rw[List.take_length]
   (repeat first|simp only[ww]|(apply xa;simp+decide only[go_sem,l1,List.length_map];rfl;kernel_rfl))
   have bS':(txS S).length≤200*S.length:=bS;have bT':(txT T).length≤200*T.length:=bT;have bV':(txV T V).length≤200*V.length:=bV;refine xp_loop3 (σ:=Nat) kp18_2 (λj=>[(1,.ptr 0 0 0),(5,.ptr 1 0 0),(6,.func (.func 35) [] [.ptr 1 0 0]),(42,sl rt (T.map Tm.enc)),(43,.int .i64 T.length),(44,.int .i64 (j:Nat))]) (λj=>some (.row 3 [[sl rs (S.map Sg.enc),sl rt (T.map Tm.enc),sl rv (V.map Vc.enc)]])::bdH (txS S++txT (T.take j))) (λj=>T.length-j) (λj=>j≤T.length) 0 ?_ (Nat.zero_le _) ?_
   ·have e0:txT (T.take 0)=[]:=rfl;rw[e0,List.append_nil];by_cases hne:txS S=[]
    ·rw[hne,bdH_nil];(simp+decide only[go_sem,gcD_eq,gcIds_eq]<;>rfl)
    ·rw[bdH_ne hne];(simp+decide only[go_sem,gcD_eq,gcIds_eq,hb5,hb6]<;>rfl)
   ·intro j hj;by_cases hlt:j<T.length
    ·have l2:(j:Int)<T.length:=by omega
     obtain⟨t,ht⟩:∃t,T[j]?=some t:=⟨_,List.getElem?_eq_getElem hlt⟩
     have hsm:(T.map Tm.enc)[j]?=some (Tm.enc t):=by rw[List.getElem?_map,ht];rfl
     have hw:IntKind.i64.wrap ((j:Int)+1)=((j+1:Nat):Int):=by rw[w64 (by omega) (by omega)];omega
     have htok:=h.tm t (List.mem_of_getElem? ht);have htl9:=timL_len htok;have htn:∀n∈timN t,0≤n∧n≤1000000:=by have h0:=tIn_of htok;have:=h0.dr0;have:=h0.ri;have:=h0.fa;have:=h0.per;have:=h0.top;have:=h0.st0;have:=h0.st1;intro n hn;simp only[timN,List.mem_cons,List.not_mem_nil,or_false]at hn;omega
     have hps:txS S++txT (T.take (j+1))=txS S++txT (T.take j)++lnT (timL t):=by rw[List.append_assoc];congr 1;exact fm_s _ T ht
     have hle:=fm_le (λt=>lnT (timL t)) T j;have hle':(txT (T.take j)).length≤(txT T).length:=hle;have hok:okL (txS S++txT (T.take j)).length (timL t):=okL_of (by rw[List.length_append];omega) (by unfold timL timN;simp) (by unfold timL timN;simp);generalize txS S++txT (T.take j)=tx at hps hok⊢;by_cases hne:tx=[]
     ·subst hne;rw[bdH_nil]
      (repeat first|simp only[ww]|(apply xa;simp+decide only[go_sem,l2,hlt,hsm,b41,List.length_map];rfl;kernel_rfl))
      refine xp_loop3 (σ:=Nat) kp18_4 (λp=>[(1,.ptr 0 0 0),(5,.ptr 1 0 0),(6,.func (.func 35) [] [.ptr 1 0 0]),(12,.slice 2 0 (2+p) (if p=0 then some 2 else none)),(42,sl rt (T.map Tm.enc)),(43,.int .i64 T.length),(44,.int .i64 (j:Nat)),(61,.slice 3 0 5 (some 5)),(62,.int .i64 5),(63,.int .i64 (p:Nat))]) (λp=>[some (.row 3 [[sl rs (S.map Sg.enc),sl rt (T.map Tm.enc),sl rv (V.map Vc.enc)]]),some (.trow 82 true 2 [[.nilptr,.nilslice]]),some (.row 1 (strsR (timK0::t.name::((timN t).take p).map Lib.itoa))),some (.row 1 ((timN t).map λn=>[AV.int .i64 n]))]) (λp=>5-p) (λp=>p≤5) 0 ?_ (Nat.zero_le _) ?_
      ·(simp+decide only[go_sem,gcD_eq,gcIds_eq,timN,List.take_zero,List.map_nil,List.append_nil,List.map_cons,strsR]<;>rfl)
      ·intro p hp;by_cases hpl:p<5
       ·have l3:(p:Int)<5:=by omega
        have hlen5:(timN t).length=5:=rfl;obtain⟨n,hn⟩:∃n,(timN t)[p]?=some n:=⟨_,List.getElem?_eq_getElem (by omega)⟩
        have hnb:=htn n (List.mem_of_getElem? hn);have hito:=λd H=>itoa_call (d:=d) H n hnb.1 hnb.2;have hnm:((timN t).map λn=>[AV.int .i64 n])[p]?=some [AV.int .i64 n]:=by rw[List.getElem?_map,hn];rfl
        have hnl:((timN t).map λn=>[AV.int .i64 n]).length=5:=rfl;have hwp:IntKind.i64.wrap ((p:Int)+1)=((p+1:Nat):Int):=by rw[w64 (by omega) (by omega)];omega
        have hL:strsR (timK0::t.name::((timN t).take (p+1)).map Lib.itoa)=strsR (timK0::t.name::((timN t).take p).map Lib.itoa)++[[.str (Lib.itoa n)]]:=by rw[take_s hn];simp[strsR]
        have hLl:(strsR (timK0::t.name::((timN t).take p).map Lib.itoa)).length=2+p:=by simp[strsR,hlen5];omega
        have hL1:=refs_flatR (strsR_flat (timK0::t.name::((timN t).take (p+1)).map Lib.itoa));have hL2:=λπ=>renR_flat π (strsR_flat (timK0::t.name::((timN t).take (p+1)).map Lib.itoa));have hM1:((timN t).map λn=>[AV.int .i64 n]).flatMap refsL=[]:=refs_flatR (FlatR.map λ_=>rfl);have hM2:∀π,((timN t).map λn=>[AV.int .i64 n]).map (λr=>r.map (ren π))=(timN t).map λn=>[AV.int .i64 n]:=λπ=>renR_flat π (FlatR.map λ_=>rfl);rw[hL]at hL1 hL2;generalize strsR (timK0::t.name::((timN t).take p).map Lib.itoa)=R at *;generalize((timN t).map λn=>[AV.int .i64 n])=R5 at *;have hrm:2+p+1≤1000000000:=by omega
        have hif:(if p+1=0 then some 2 else none)=(none:Option Nat):=if_neg (by omega);have hRt:p=0→R.take 2=R:=λh=>List.take_of_length_le (by omega);by_cases hp0:p=0
        ·subst hp0;have hRt:=hRt rfl
         (repeat first|simp only[ww]|(apply xa;simp+decide only[go_sem,l3,hpl,hnm,hnl,hito,hwp,hLl,hrm,hRt,if_pos];rfl;kernel_rfl))
         refine lp_n (0+1) ?_ (by omega) (by omega)
         (simp+decide only[go_sem,gcD_eq,gcIds_eq,hL,hL1,hL2,hM1,hM2,hif,hRt,Nat.add_zero]<;>rfl)
        ·rw[if_neg hp0]
         (repeat first|simp only[ww]|(apply xa;simp+decide only[go_sem,l3,hpl,hnm,hnl,hito,hwp,hLl,hrm];rfl;kernel_rfl))
         refine lp_n (p+1) ?_ (by omega) (by omega)
         (simp+decide only[go_sem,gcD_eq,gcIds_eq,hL,hL1,hL2,hM1,hM2,hif]<;>rfl)
       ·obtain rfl:p=5:=by omega
        have l3:¬((5:Nat):Int)<5:=by omega
        have eL:timK0::t.name::((timN t).take 5).map Lib.itoa=timL t:=rfl;rw[eL,if_neg (by omega)];obtain⟨H1,a1,σ1,g1,g2,g3,g4,g5,g6⟩:=line_call [some (.row 3 [[sl rs (S.map Sg.enc),sl rt (T.map Tm.enc),sl rv (V.map Vc.enc)]]),some (.trow 82 true 2 [[.nilptr,.nilslice]]),some (.row 1 (strsR (timL t))),some (.row 1 ((timN t).map λn=>[AV.int .i64 n]))] 2 1 2 7 none [] (timL t) rfl hok rfl (.inl ⟨rfl,rfl⟩) (by decide) (λh=>absurd rfl h);rcases g2 with ⟨g2,_⟩|⟨_,q1,q2,q3⟩
        ·exact absurd g2 (by simp[lnT])
        have p0:HeapF H1 0=some (.row 3 [[sl rs (S.map Sg.enc),sl rt (T.map Tm.enc),sl rv (V.map Vc.enc)]]):=g6 0 (by show 0<_;simp) (by decide) (by intro _;decide);have z7:a1<H1.length:=g4;have z8:0<H1.length:=by omega
        have z9:1<H1.length:=by have:4≤H1.length:=g5;omega
        have y5:4≤a1:=g3;have y0:¬0=a1:=by omega
        have y1:¬1=a1:=by omega
        have y2:¬a1=0:=by omega
        have y3:¬a1=1:=by omega
        have h5:=refs_flatR (bytesR_flat ([]++lnT (timL t)));have h6:=λπ=>renR_flat π (bytesR_flat ([]++lnT (timL t)))
        (repeat first|simp only[ww]|(apply xa;simp+decide only[go_sem,l3,g1,hw,List.length_map];rfl;kernel_rfl))
        refine lp_n (j+1) ?_ (by omega) (by omega);rw[hps,bdH_ne (by simp[lnT])];simp+decide only[go_sem,gcD_eq,gcIds_eq,p0,q1,q2,bdN,buf,hb5,hb6,y0,y1,y2,y3,z7,z8,z9,Nat.zero_le,Nat.not_lt_zero]<;>rfl
     ·rw[bdH_ne hne]
      (repeat first|simp only[ww]|(apply xa;simp+decide only[go_sem,l2,hlt,hsm,b41,List.length_map];rfl;kernel_rfl))
      refine xp_loop3 (σ:=Nat) kp18_4 (λp=>[(1,.ptr 0 0 0),(5,.ptr 1 0 0),(6,.func (.func 35) [] [.ptr 1 0 0]),(12,.slice 3 0 (2+p) (if p=0 then some 2 else none)),(42,sl rt (T.map Tm.enc)),(43,.int .i64 T.length),(44,.int .i64 (j:Nat)),(61,.slice 4 0 5 (some 5)),(62,.int .i64 5),(63,.int .i64 (p:Nat))]) (λp=>[some (.row 3 [[sl rs (S.map Sg.enc),sl rt (T.map Tm.enc),sl rv (V.map Vc.enc)]]),some (.trow 82 true 2 [[.ptr 1 0 0,.slice 2 0 tx.length none]]),some (.trow 5 false 1 (bytesR tx)),some (.row 1 (strsR (timK0::t.name::((timN t).take p).map Lib.itoa))),some (.row 1 ((timN t).map λn=>[AV.int .i64 n]))]) (λp=>5-p) (λp=>p≤5) 0 ?_ (Nat.zero_le _) ?_
      ·(simp+decide only[go_sem,gcD_eq,gcIds_eq,hb5,hb6,timN,List.take_zero,List.map_nil,List.append_nil,List.map_cons,strsR]<;>rfl)
      ·intro p hp;by_cases hpl:p<5
       ·have l3:(p:Int)<5:=by omega
        have hlen5:(timN t).length=5:=rfl;obtain⟨n,hn⟩:∃n,(timN t)[p]?=some n:=⟨_,List.getElem?_eq_getElem (by omega)⟩
        have hnb:=htn n (List.mem_of_getElem? hn);have hito:=λd H=>itoa_call (d:=d) H n hnb.1 hnb.2;have hnm:((timN t).map λn=>[AV.int .i64 n])[p]?=some [AV.int .i64 n]:=by rw[List.getElem?_map,hn];rfl
        have hnl:((timN t).map λn=>[AV.int .i64 n]).length=5:=rfl;have hwp:IntKind.i64.wrap ((p:Int)+1)=((p+1:Nat):Int):=by rw[w64 (by omega) (by omega)];omega
        have hL:strsR (timK0::t.name::((timN t).take (p+1)).map Lib.itoa)=strsR (timK0::t.name::((timN t).take p).map Lib.itoa)++[[.str (Lib.itoa n)]]:=by rw[take_s hn];simp[strsR]
        have hLl:(strsR (timK0::t.name::((timN t).take p).map Lib.itoa)).length=2+p:=by simp[strsR,hlen5];omega
        have hL1:=refs_flatR (strsR_flat (timK0::t.name::((timN t).take (p+1)).map Lib.itoa));have hL2:=λπ=>renR_flat π (strsR_flat (timK0::t.name::((timN t).take (p+1)).map Lib.itoa));have hM1:((timN t).map λn=>[AV.int .i64 n]).flatMap refsL=[]:=refs_flatR (FlatR.map λ_=>rfl);have hM2:∀π,((timN t).map λn=>[AV.int .i64 n]).map (λr=>r.map (ren π))=(timN t).map λn=>[AV.int .i64 n]:=λπ=>renR_flat π (FlatR.map λ_=>rfl);rw[hL]at hL1 hL2;generalize strsR (timK0::t.name::((timN t).take p).map Lib.itoa)=R at *;generalize((timN t).map λn=>[AV.int .i64 n])=R5 at *;have hrm:2+p+1≤1000000000:=by omega
        have hif:(if p+1=0 then some 2 else none)=(none:Option Nat):=if_neg (by omega);have hRt:p=0→R.take 2=R:=λh=>List.take_of_length_le (by omega);by_cases hp0:p=0
        ·subst hp0;have hRt:=hRt rfl
         (repeat first|simp only[ww]|(apply xa;simp+decide only[go_sem,l3,hpl,hnm,hnl,hito,hwp,hLl,hrm,hRt,if_pos];rfl;kernel_rfl))
         refine lp_n (0+1) ?_ (by omega) (by omega)
         (simp+decide only[go_sem,gcD_eq,gcIds_eq,hL,hL1,hL2,hM1,hM2,hb5,hb6,hif,hRt,Nat.add_zero]<;>rfl)
        ·rw[if_neg hp0]
         (repeat first|simp only[ww]|(apply xa;simp+decide only[go_sem,l3,hpl,hnm,hnl,hito,hwp,hLl,hrm];rfl;kernel_rfl))
         refine lp_n (p+1) ?_ (by omega) (by omega)
         (simp+decide only[go_sem,gcD_eq,gcIds_eq,hL,hL1,hL2,hM1,hM2,hb5,hb6,hif]<;>rfl)
       ·obtain rfl:p=5:=by omega
        have l3:¬((5:Nat):Int)<5:=by omega
        have eL:timK0::t.name::((timN t).take 5).map Lib.itoa=timL t:=rfl;rw[eL,if_neg (by omega)];obtain⟨H1,a1,σ1,g1,g2,g3,g4,g5,g6⟩:=line_call [some (.row 3 [[sl rs (S.map Sg.enc),sl rt (T.map Tm.enc),sl rv (V.map Vc.enc)]]),some (.trow 82 true 2 [[.ptr 1 0 0,.slice 2 0 tx.length none]]),some (.trow 5 false 1 (bytesR tx)),some (.row 1 (strsR (timL t))),some (.row 1 ((timN t).map λn=>[AV.int .i64 n]))] 3 1 2 7 none tx (timL t) rfl hok rfl (.inr ⟨hne,rfl,rfl,by decide⟩) (by decide) (λ_=>by decide);rcases g2 with ⟨g2,_⟩|⟨_,q1,q2,q3⟩
        ·exact absurd g2 (by simp[lnT])
        have p0:HeapF H1 0=some (.row 3 [[sl rs (S.map Sg.enc),sl rt (T.map Tm.enc),sl rv (V.map Vc.enc)]]):=g6 0 (by show 0<_;simp) (by decide) (by intro _;decide);have z7:a1<H1.length:=g4;have z8:0<H1.length:=by omega
        have z9:1<H1.length:=by have:5≤H1.length:=g5;omega
        have y5:5≤a1:=g3;have y0:¬0=a1:=by omega
        have y1:¬1=a1:=by omega
        have y2:¬a1=0:=by omega
        have y3:¬a1=1:=by omega
        have h5:=refs_flatR (bytesR_flat (tx++lnT (timL t)));have h6:=λπ=>renR_flat π (bytesR_flat (tx++lnT (timL t)))
        (repeat first|simp only[ww]|(apply xa;simp+decide only[go_sem,l3,g1,hw,List.length_map];rfl;kernel_rfl))
        refine lp_n (j+1) ?_ (by omega) (by omega);rw[hps,bdH_ne (by simp[lnT])];simp+decide only[go_sem,gcD_eq,gcIds_eq,p0,q1,q2,bdN,buf,hb5,hb6,y0,y1,y2,y3,z7,z8,z9,Nat.zero_le,Nat.not_lt_zero]<;>rfl
    ·obtain rfl:j=T.length:=by omega
     have l2:¬(T.length:Int)<T.length:=by omega
     rw[List.take_length]
     (repeat first|simp only[ww]|(apply xa;simp+decide only[go_sem,l2,List.length_map];rfl;kernel_rfl))
     refine xp_loop3 (σ:=Nat) kp18_6 (λq=>[(1,.ptr 0 0 0),(5,.ptr 1 0 0),(6,.func (.func 35) [] [.ptr 1 0 0]),(78,sl rv (V.map Vc.enc)),(79,.int .i64 V.length),(80,.int .i64 (q:Nat))]) (λq=>some (.row 3 [[sl rs (S.map Sg.enc),sl rt (T.map Tm.enc),sl rv (V.map Vc.enc)]])::bdH (txS S++txT T++txV T (V.take q))) (λq=>V.length-q) (λq=>q≤V.length) 0 ?_ (Nat.zero_le _) ?_
     ·have e0:txV T (V.take 0)=[]:=rfl;rw[e0,List.append_nil];by_cases hne:txS S++txT T=[]
      ·rw[hne,bdH_nil];(simp+decide only[go_sem,gcD_eq,gcIds_eq]<;>rfl)
      ·rw[bdH_ne hne];(simp+decide only[go_sem,gcD_eq,gcIds_eq,hb5,hb6]<;>rfl)
     ·intro q hq;by_cases hlt:q<V.length
      ·have l3:(q:Int)<V.length:=by omega
       obtain⟨v,hv⟩:∃v,V[q]?=some v:=⟨_,List.getElem?_eq_getElem hlt⟩
       have hsm:(V.map Vc.enc)[q]?=some (Vc.enc v):=by rw[List.getElem?_map,hv];rfl
       have hw:IntKind.i64.wrap ((q:Int)+1)=((q+1:Nat):Int):=by rw[w64 (by omega) (by omega)];omega
       have hvm:=List.mem_of_getElem? hv;have hvk:=h.vc v hvm;simp only[vcOk,Bool.and_eq_true,decide_eq_true_eq]at hvk;obtain⟨tn,htn⟩:∃tn:Nat,v.t=tn:=⟨v.t.toNat,by omega⟩
       have htl:tn<T.length:=by omega
       obtain⟨t,ht⟩:∃t,T[tn]?=some t:=⟨_,List.getElem?_eq_getElem htl⟩
       have hst:(T.map Tm.enc)[tn]?=some (Tm.enc t):=by rw[List.getElem?_map,ht];rfl
       have hvl:vecL T v=[vecK0,t.name,if v.cells=[]then[45]else v.cells]++(if v.rep=1 then[]else[Lib.itoa v.rep]):=vecL_ne T v t (by rw[htn];exact ht);have hvl9:=vecL_len h hvm;have hps:txS S++txT T++txV T (V.take (q+1))=txS S++txT T++txV T (V.take q)++lnT (vecL T v):=by rw[List.append_assoc (txS S++txT T)];congr 1;exact fm_s _ V hv
       have hle:=fm_le (λv=>lnT (vecL T v)) V q;have hle':(txV T (V.take q)).length≤(txV T V).length:=hle;have hok:okL (txS S++txT T++txV T (V.take q)).length (vecL T v):=okL_of (by rw[List.length_append,List.length_append];omega) (by rw[hvl];simp) (by rw[hvl];split<;>split<;>simp);have hne:txS S++txT T++txV T (V.take q)≠[]:=by
        intro e;have e1:=(List.append_eq_nil_iff.1 e).1;have e2:=(List.append_eq_nil_iff.1 e1).2;cases T with
        |nil=>simp at htl
        |cons t0 T'=>simp[txT,lnT]at e2
       have hito:=λd H=>itoa_call (d:=d) H v.rep (by omega) (by omega);generalize txS S++txT T++txV T (V.take q)=tx at hps hok hne⊢;rw[bdH_ne hne];by_cases hc:v.cells=[]
       ·by_cases hr:v.rep=1
        ·have hll:vecL T v=[[118,101,99,116,111,114],t.name,[45]]:=by rw[hvl];simp[hc,hr,vecK0]
         obtain⟨H1,a1,σ1,g1,g2,g3,g4,g5,g6⟩:=line_call [some (.row 3 [[sl rs (S.map Sg.enc),sl rt (T.map Tm.enc),sl rv (V.map Vc.enc)]]),some (.trow 82 true 2 [[.ptr 1 0 0,.slice 2 0 tx.length none]]),some (.trow 5 false 1 (bytesR tx)),some (.row 3 [[.int .i64 tn,.str [],.int .i64 1]]),some (.row 1 [[.str [118,101,99,116,111,114]],[.str t.name],[.str [45]]])] 4 1 2 3 (some 3) tx (vecL T v) (by rw[hll];rfl) hok (by rw[hll];rfl) (.inr ⟨hne,rfl,rfl,by decide⟩) (by decide) (λ_=>by decide);rcases g2 with ⟨g2,_⟩|⟨_,q1,q2,q3⟩
         ·exact absurd g2 (by simp[lnT])
         have p0:HeapF H1 0=some (.row 3 [[sl rs (S.map Sg.enc),sl rt (T.map Tm.enc),sl rv (V.map Vc.enc)]]):=g6 0 (by show 0<_;simp) (by decide) (by intro _;decide);have z7:a1<H1.length:=g4;have z8:0<H1.length:=by omega
         have z9:1<H1.length:=by have:5≤H1.length:=g5;omega
         have y5:5≤a1:=g3;have y0:¬0=a1:=by omega
         have y1:¬1=a1:=by omega
         have y2:¬a1=0:=by omega
         have y3:¬a1=1:=by omega
         have h5:=refs_flatR (bytesR_flat (tx++lnT (vecL T v)));have h6:=λπ=>renR_flat π (bytesR_flat (tx++lnT (vecL T v)))
         (repeat first|simp only[ww]|(apply xa;simp+decide only[go_sem,l3,hlt,hsm,hst,htn,htl,hc,hr,g1,hw,hito,List.length_map];rfl;kernel_rfl))
         refine lp_n (q+1) ?_ (by omega) (by omega);rw[hps,bdH_ne (by simp[lnT])];simp+decide only[go_sem,gcD_eq,gcIds_eq,p0,q1,q2,bdN,buf,hb5,hb6,y0,y1,y2,y3,z7,z8,z9,Nat.zero_le,Nat.not_lt_zero]<;>rfl
        ·have hll:vecL T v=[[118,101,99,116,111,114],t.name,[45]]++[Lib.itoa v.rep]:=by rw[hvl];simp[hc,hr,vecK0]
         obtain⟨H1,a1,σ1,g1,g2,g3,g4,g5,g6⟩:=line_call [some (.row 3 [[sl rs (S.map Sg.enc),sl rt (T.map Tm.enc),sl rv (V.map Vc.enc)]]),some (.trow 82 true 2 [[.ptr 1 0 0,.slice 2 0 tx.length none]]),some (.trow 5 false 1 (bytesR tx)),some (.row 3 [[.int .i64 tn,.str [],.int .i64 v.rep]]),some (.row 1 [[.str [118,101,99,116,111,114]],[.str t.name],[.str [45]]]),some (.row 1 [[.str (Lib.itoa v.rep)]]),some (.row 1 [[.str [118,101,99,116,111,114]],[.str t.name],[.str [45]],[.str (Lib.itoa v.rep)]])] 6 1 2 4 none tx (vecL T v) (by rw[hll];rfl) hok (by rw[hll];rfl) (.inr ⟨hne,rfl,rfl,by decide⟩) (by decide) (λ_=>by decide);rcases g2 with ⟨g2,_⟩|⟨_,q1,q2,q3⟩
         ·exact absurd g2 (by simp[lnT])
         have p0:HeapF H1 0=some (.row 3 [[sl rs (S.map Sg.enc),sl rt (T.map Tm.enc),sl rv (V.map Vc.enc)]]):=g6 0 (by show 0<_;simp) (by decide) (by intro _;decide);have z7:a1<H1.length:=g4;have z8:0<H1.length:=by omega
         have z9:1<H1.length:=by have:7≤H1.length:=g5;omega
         have y5:7≤a1:=g3;have y0:¬0=a1:=by omega
         have y1:¬1=a1:=by omega
         have y2:¬a1=0:=by omega
         have y3:¬a1=1:=by omega
         have h5:=refs_flatR (bytesR_flat (tx++lnT (vecL T v)));have h6:=λπ=>renR_flat π (bytesR_flat (tx++lnT (vecL T v)))
         (repeat first|simp only[ww]|(apply xa;simp+decide only[go_sem,l3,hlt,hsm,hst,htn,htl,hc,hr,g1,hw,hito,List.length_map];rfl;kernel_rfl))
         refine lp_n (q+1) ?_ (by omega) (by omega);rw[hps,bdH_ne (by simp[lnT])];simp+decide only[go_sem,gcD_eq,gcIds_eq,p0,q1,q2,bdN,buf,hb5,hb6,y0,y1,y2,y3,z7,z8,z9,Nat.zero_le,Nat.not_lt_zero]<;>rfl
       ·by_cases hr:v.rep=1
        ·have hll:vecL T v=[[118,101,99,116,111,114],t.name,v.cells]:=by rw[hvl];simp[hc,hr,vecK0]
         obtain⟨H1,a1,σ1,g1,g2,g3,g4,g5,g6⟩:=line_call [some (.row 3 [[sl rs (S.map Sg.enc),sl rt (T.map Tm.enc),sl rv (V.map Vc.enc)]]),some (.trow 82 true 2 [[.ptr 1 0 0,.slice 2 0 tx.length none]]),some (.trow 5 false 1 (bytesR tx)),some (.row 3 [[.int .i64 tn,.str v.cells,.int .i64 1]]),some (.row 1 [[.str [118,101,99,116,111,114]],[.str t.name],[.str v.cells]])] 4 1 2 3 (some 3) tx (vecL T v) (by rw[hll];rfl) hok (by rw[hll];rfl) (.inr ⟨hne,rfl,rfl,by decide⟩) (by decide) (λ_=>by decide);rcases g2 with ⟨g2,_⟩|⟨_,q1,q2,q3⟩
         ·exact absurd g2 (by simp[lnT])
         have p0:HeapF H1 0=some (.row 3 [[sl rs (S.map Sg.enc),sl rt (T.map Tm.enc),sl rv (V.map Vc.enc)]]):=g6 0 (by show 0<_;simp) (by decide) (by intro _;decide);have z7:a1<H1.length:=g4;have z8:0<H1.length:=by omega
         have z9:1<H1.length:=by have:5≤H1.length:=g5;omega
         have y5:5≤a1:=g3;have y0:¬0=a1:=by omega
         have y1:¬1=a1:=by omega
         have y2:¬a1=0:=by omega
         have y3:¬a1=1:=by omega
         have h5:=refs_flatR (bytesR_flat (tx++lnT (vecL T v)));have h6:=λπ=>renR_flat π (bytesR_flat (tx++lnT (vecL T v)))
         (repeat first|simp only[ww]|(apply xa;simp+decide only[go_sem,l3,hlt,hsm,hst,htn,htl,hc,hr,g1,hw,hito,List.length_map];rfl;kernel_rfl))
         refine lp_n (q+1) ?_ (by omega) (by omega);rw[hps,bdH_ne (by simp[lnT])];simp+decide only[go_sem,gcD_eq,gcIds_eq,p0,q1,q2,bdN,buf,hb5,hb6,y0,y1,y2,y3,z7,z8,z9,Nat.zero_le,Nat.not_lt_zero]<;>rfl
        ·have hll:vecL T v=[[118,101,99,116,111,114],t.name,v.cells]++[Lib.itoa v.rep]:=by rw[hvl];simp[hc,hr,vecK0]
         obtain⟨H1,a1,σ1,g1,g2,g3,g4,g5,g6⟩:=line_call [some (.row 3 [[sl rs (S.map Sg.enc),sl rt (T.map Tm.enc),sl rv (V.map Vc.enc)]]),some (.trow 82 true 2 [[.ptr 1 0 0,.slice 2 0 tx.length none]]),some (.trow 5 false 1 (bytesR tx)),some (.row 3 [[.int .i64 tn,.str v.cells,.int .i64 v.rep]]),some (.row 1 [[.str [118,101,99,116,111,114]],[.str t.name],[.str v.cells]]),some (.row 1 [[.str (Lib.itoa v.rep)]]),some (.row 1 [[.str [118,101,99,116,111,114]],[.str t.name],[.str v.cells],[.str (Lib.itoa v.rep)]])] 6 1 2 4 none tx (vecL T v) (by rw[hll];rfl) hok (by rw[hll];rfl) (.inr ⟨hne,rfl,rfl,by decide⟩) (by decide) (λ_=>by decide);rcases g2 with ⟨g2,_⟩|⟨_,q1,q2,q3⟩
         ·exact absurd g2 (by simp[lnT])
         have p0:HeapF H1 0=some (.row 3 [[sl rs (S.map Sg.enc),sl rt (T.map Tm.enc),sl rv (V.map Vc.enc)]]):=g6 0 (by show 0<_;simp) (by decide) (by intro _;decide);have z7:a1<H1.length:=g4;have z8:0<H1.length:=by omega
         have z9:1<H1.length:=by have:7≤H1.length:=g5;omega
         have y5:7≤a1:=g3;have y0:¬0=a1:=by omega
         have y1:¬1=a1:=by omega
         have y2:¬a1=0:=by omega
         have y3:¬a1=1:=by omega
         have h5:=refs_flatR (bytesR_flat (tx++lnT (vecL T v)));have h6:=λπ=>renR_flat π (bytesR_flat (tx++lnT (vecL T v)))
         (repeat first|simp only[ww]|(apply xa;simp+decide only[go_sem,l3,hlt,hsm,hst,htn,htl,hc,hr,g1,hw,hito,List.length_map];rfl;kernel_rfl))
         refine lp_n (q+1) ?_ (by omega) (by omega);rw[hps,bdH_ne (by simp[lnT])];simp+decide only[go_sem,gcD_eq,gcIds_eq,p0,q1,q2,bdN,buf,hb5,hb6,y0,y1,y2,y3,z7,z8,z9,Nat.zero_le,Nat.not_lt_zero]<;>rfl
      ·obtain rfl:q=V.length:=by omega
       have l3:¬(V.length:Int)<V.length:=by omega
       rw[List.take_length];have hbd:(txS S++txT T++txV T V).length≤1000000:=by rw[List.length_append,List.length_append];omega
       have htx:text S T V=txS S++txT T++txV T V:=rfl;rw[htx];generalize txS S++txT T++txV T V=tx at hbd⊢;by_cases hne:tx=[]
       ·subst hne;rw[bdH_nil];have k1:=len0 (.row 3 [[sl rs (S.map Sg.enc),sl rt (T.map Tm.enc),sl rv (V.map Vc.enc)]]);have k2:=str0 (.row 3 [[sl rs (S.map Sg.enc),sl rt (T.map Tm.enc),sl rv (V.map Vc.enc)]])
        (repeat first|simp only[ww]|(apply xa;simp+decide only[go_sem,l3,k1,k2];rfl;kernel_rfl))
        (apply fqb;simp+decide only[go_sem]<;>rfl)
       ·rw[bdH_ne hne];have k1:=len1 (.row 3 [[sl rs (S.map Sg.enc),sl rt (T.map Tm.enc),sl rv (V.map Vc.enc)]]) tx;have k2:=str1 (.row 3 [[sl rs (S.map Sg.enc),sl rt (T.map Tm.enc),sl rv (V.map Vc.enc)]]) tx hne hbd;have c9:¬(1048576:Int)<tx.length:=by omega
        (repeat first|simp only[ww]|(apply xa;simp+decide only[go_sem,l3,k1,k2,c9];rfl;kernel_rfl))
        (apply fqb;simp+decide only[go_sem]<;>rfl)
end Go.RInst
