/- Part of a proof. No condition. -/
import Derived.Test.YtmbmjfjagololaaGreatDoorRRn
import Derived.Test.YtmbmjfjagololaaGreatDoorRPh
import Derived.Test.YtmbmjfjagololaaGreatDoorRRj
import Derived.Test.YtmbmjfjagololaaGreatDoorRPi
import Derived.Test.YtmbmjfjagololaaGreatDoorRPg
import Derived.Test.YtmbmjfjagololaaGreatDoorRPe
set_option linter.unusedSectionVars false
set_option linter.unusedSimpArgs false
set_option linter.unusedVariables false
namespace Go.RInst
open Go.Proofs Go.Ax Go.Pc
variable [PR]
set_option maxRecDepth 100000
/-! ### loose texts -/
def dbl(u:List UInt8):List UInt8:=u.flatMap λb=>if b=32 then[32,32]else[b]
theorem d29(a b:List UInt8):dbl (a++b)=dbl a++dbl b:=List.flatMap_append ..
theorem a8e(b:UInt8)(u:List UInt8):dbl (b::u)=(if b=32 then[32,32]else[b])++dbl u:=List.flatMap_cons ..
theorem d74(u:List UInt8)(h:∀b∈u,b≠32):dbl u=u:=by
 induction u with
 |nil=>rfl
 |cons b u ih=>rw[a8e,if_neg (h b (by simp)),ih λx hx=>h x (by simp[hx])];rfl
theorem c05(u:List UInt8):(dbl u).length≤2*u.length:=by
 induction u with
 |nil=>simp[dbl]
 |cons b u ih=>rw[a8e,List.length_append,List.length_cons];split<;>simp<;>omega
theorem d27{c:UInt8}(hc:c≠32){u:List UInt8}(h:∀b∈u,b≠c):∀b∈dbl u,b≠c:=by
 intro b hb;simp only[dbl,List.mem_flatMap]at hb;obtain⟨x,hx,hb⟩:=hb;split at hb
 ·simp at hb;rw[hb];exact hc.symm
 ·simp at hb;rw[hb];exact h x hx
theorem a80(w:List UInt8)(l:List (List UInt8)):a38 (w::l)=if w=[]then a38 l else w::a38 l:=by unfold a38;rw[List.filter_cons];by_cases h:w=[]<;>simp[h]
theorem b8s:∀u:List UInt8,(a00 32 (dbl u)).head?=(a00 32 u).head?∧a38 (a00 32 (dbl u)).tail=a38 (a00 32 u).tail
 | []=>⟨rfl,rfl⟩
 |b::u=>by
  obtain⟨h1,h2⟩:=b8s u;obtain⟨p,ps,hp⟩:∃p ps,a00 32 u=p::ps:=by
   cases hs:a00 32 u with
   |nil=>exact absurd hs (a4p 32 u)
   |cons p ps=>exact⟨p,ps,rfl⟩
  obtain⟨q,qs,hq⟩:∃q qs,a00 32 (dbl u)=q::qs:=by
   cases hs:a00 32 (dbl u)with
   |nil=>exact absurd hs (a4p 32 _)
   |cons p ps=>exact⟨p,ps,rfl⟩
  rw[hp,hq]at h1 h2;simp only[List.head?_cons,Option.some.injEq,List.tail_cons]at h1 h2;rw[a8e];by_cases hb:b=32
  ·rw[if_pos hb];have e1:a00 32 ([32,32]++dbl u)=[]::[]::q::qs:=by
    show a00 32 (32::32::dbl u)=_;rw[a00,if_pos rfl,a00,if_pos rfl,hq]
   have e2:a00 32 (b::u)=[]::p::ps:=by rw[a00,if_pos hb,hp]
   rw[e1,e2];refine⟨rfl,?_⟩;simp only[List.tail_cons];rw[a80,if_pos rfl,a80,a80,h1,h2]
  ·rw[if_neg hb];have e1:a00 32 ([b]++dbl u)=(b::q)::qs:=by
    show a00 32 (b::dbl u)=_;rw[a00,if_neg hb,hq]
   have e2:a00 32 (b::u)=(b::p)::ps:=by rw[a00,if_neg hb,hp]
   rw[e1,e2];exact⟨by simp[h1],h2⟩
theorem d28(u:List UInt8):a38 (a00 32 (dbl u))=a38 (a00 32 u):=by
 obtain⟨h1,h2⟩:=b8s u;cases hp:a00 32 u with
 |nil=>exact absurd hp (a4p 32 u)
 |cons p ps=>
  cases hq:a00 32 (dbl u)with
  |nil=>exact absurd hq (a4p 32 _)
  |cons q qs=>rw[hp,hq]at h1 h2;simp only[List.head?_cons,Option.some.injEq,List.tail_cons]at h1 h2;rw[a80,a80,h1,h2]
theorem c85{r:Rd}{u:List UInt8}(hl:u.length≤2048):a3w r (dbl u)=a3w r u:=by have:=c05 u;unfold a3w;rw[if_pos (by omega),if_pos (by omega),d28]
theorem c5v:∀(L:List (List UInt8)) (r:Rd),(∀u∈L,u.length≤2048)→a2u r (L.map dbl)=a2u r L
 | [],r,_=>rfl
 |u::L,r,h=>by
  rw[List.map_cons,a4e,a4e,c85 (h u (by simp))];cases a3w r u with
  |none=>rfl
  |some r'=>exact c5v L r' λx hx=>h x (by simp[hx])
theorem c1l:∀(w:List UInt8) (ws:List (List UInt8)),dbl (Lib.join (w::ws) [10])=Lib.join ((w::ws).map dbl) [10]
 |w,[]=>by rw[Lib.join_one];simp[Lib.join_one]
 |w,v::ws=>by
  have ih:=c1l v ws;have e:∀(a b:List UInt8) (l:List (List UInt8)),Lib.join (a::b::l) [10]=a++10::Lib.join (b::l) [10]:=by intro a b l;rw[Lib.join_cons,Lib.join_cons];simp[Lib.joinTail]
  rw[e,d29,a8e,if_neg (by decide),ih];simp only[List.map_cons];rw[e];rfl
/-! lines, one put in -/
theorem a9k:∀(A B:List (List UInt8)) (r:Rd),a2u r (A++B)=(a2u r A).bind λr'=>a2u r' B
 | [],B,r=>rfl
 |s::A,B,r=>by
  rw[List.cons_append,a4e,a4e];cases a3w r s with
  |none=>rfl
  |some r'=>exact a9k A B r'
theorem c4i{L:List (List UInt8)}{r rf:Rd}(h:a2u r L=some rf)(i:Nat)(m:List UInt8)(hm:∀r,a3w r m=some r):a2u r (L.take i++m::L.drop i)=some rf:=by
 rw[←List.take_append_drop i L,a9k]at h;rw[a9k];cases hh:a2u r (L.take i)with
 |none=>rw[hh]at h;cases h
 |some r1=>rw[hh]at h;simp only[Option.bind_some]at h⊢;rw[a4e,hm];exact h
theorem b4z(c:UInt8):∀(s:List UInt8),∀x∈a00 c s,∀b∈x,b≠c
 | [],x,hx,b,hb=>by simp[a00]at hx;subst hx;cases hb
 |a::s,x,hx,b,hb=>by
  have ih:=b4z c s;rw[a00]at hx;split at hx
  ·rcases List.mem_cons.1 hx with rfl|hx
   ·cases hb
   ·exact ih x hx b hb
  ·rename_i hac;split at hx
   ·rename_i p ps hp;rcases List.mem_cons.1 hx with rfl|hx
    ·rcases List.mem_cons.1 hb with rfl|hb
     ·exact hac
     ·exact ih p (by rw[hp];simp) b hb
    ·exact ih x (by rw[hp];simp[hx]) b hb
   ·rename_i hp;exact absurd hp (a4p c s)
theorem b2l(c:UInt8)(L:List (List UInt8))(hne:L≠[])(h:∀x∈L,∀b∈x,b≠c):a00 c (Lib.join L [c])=L:=by
 cases L with
 |nil=>exact absurd rfl hne
 |cons w ws=>exact b0c c w ws h
/-! the texts of the law -/
def a9n(k:Nat):List UInt8:=if k=0 then[]else if k=1 then[32,32,32]else if k=2 then[35,32,118,101,99,116,111,114]else[32,35,120,32,121]
theorem c4t(k:Nat)(hk:k<4)(r:Rd):a3w r (a9n k)=some r:=by
 have key:∀m:List UInt8,m.length≤4096→(a38 (a00 32 m)=[]∨∃a tl,a38 (a00 32 m)=(35::a)::tl)→a3w r m=some r:=by
  intro m hl hd;unfold a3w;rw[if_pos hl];rcases hd with hd|⟨a,tl,hd⟩
  ·rw[hd];rfl
  ·rw[hd,a9j,if_pos (show(35::a).head?=some (35:UInt8)from rfl)]
 match k,hk with
 |0,_=>exact key [] (by simp) (.inl rfl)
 |1,_=>exact key [32,32,32] (by simp) (.inl rfl)
 |2,_=>exact key [35,32,118,101,99,116,111,114] (by simp) (.inr ⟨[],[[118,101,99,116,111,114]],rfl⟩)
 |3,_=>exact key [32,35,120,32,121] (by simp) (.inr ⟨[120],[[121]],rfl⟩)
theorem c4u(k:Nat)(hk:k<4):∀b∈a9n k,b≠10:=by
 match k,hk with
 |0,_=>decide
 |1,_=>decide
 |2,_=>decide
 |3,_=>decide
theorem c0z(k:Nat)(hk:k<4):(a9n k).length≤8:=by
 match k,hk with
 |0,_=>decide
 |1,_=>decide
 |2,_=>decide
 |3,_=>decide
theorem d0i(r:Rd):a2u r (a00 10 soT)=none:=by
 have e:a00 10 soT=[soT]:=by rfl
 have e2:a38 (a00 32 soT)=[b2o,[97],[111,110]]:=by rfl
 have hl:a3w r soT=none:=by
  unfold a3w;rw[if_pos (by decide),e2,a9j,if_neg (by decide),if_pos rfl];unfold rdS;exact if_neg λh=>by
   rcases h.1 with h|h
   ·exact absurd h (by decide)
   ·exact absurd h (by decide)
 rw[e,a4e,hl]
section
variable {S:List Sg}{T:List Tm}{V:List Vc}(h:Valid S T V)
include h
def c2f(S:List Sg)(T:List Tm)(V:List Vc):List (List (List UInt8)):=S.map a6j++T.map a91++V.map (a8m T)
omit h in
theorem b4y:a5k S T V=(c2f S T V).flatMap lnT:=by unfold a5k txS txT txV c2f;rw[List.flatMap_append,List.flatMap_append];simp only[List.flatMap_map]
theorem b6t:∀ws∈c2f S T V,c9c ws∧(lnT ws).length≤200∧ws≠[]:=by
 intro ws hws;unfold c2f at hws;rcases List.mem_append.1 hws with hws|hws
 ·rcases List.mem_append.1 hws with hws|hws
  ·obtain⟨s,hs,rfl⟩:=List.mem_map.1 hws;have hok:=h.sg s hs;have hl:=a9e hok;simp only[b1r,Bool.and_eq_true]at hok;refine⟨?_,by omega,by unfold a6j;simp⟩;intro w hw;simp only[a6j,List.mem_cons,List.not_mem_nil,or_false]at hw;rcases hw with rfl|rfl|rfl
   ·exact⟨by decide,by decide⟩
   ·exact a6d hok.1
   ·split<;>exact⟨by decide,by decide⟩
  ·obtain⟨t,ht,rfl⟩:=List.mem_map.1 hws;have hok:=h.tm t ht;have hl:=a9b hok;have hin:=c0k hok;have i1:=hin.dr0;have i2:=hin.ri;have i3:=hin.fa;have i4:=hin.per;have i5:=hin.top;have i6:=hin.st0;have i7:=hin.st1;have hnm:a43 t.name=true:=by simp only[a5j,Bool.and_eq_true]at hok;exact hok.1
   refine⟨?_,by omega,by unfold a91;simp⟩;intro w hw;simp only[a91,a56,List.map_cons,List.map_nil,List.cons_append,List.nil_append,List.mem_cons,List.not_mem_nil,or_false]at hw;rcases hw with rfl|rfl|rfl|rfl|rfl|rfl|rfl
   ·exact⟨by decide,by decide⟩
   ·exact a6d hnm
   ·exact a3q _ (a3r t.per (by omega) (by omega)).1
   ·exact a3q _ (a3r t.dr (by omega) (by omega)).1
   ·exact a3q _ (a3r t.ri (by omega) (by omega)).1
   ·exact a3q _ (a3r t.fa (by omega) (by omega)).1
   ·exact a3q _ (a3r t.st (by omega) (by omega)).1
 ·obtain⟨v,hv,rfl⟩:=List.mem_map.1 hws;have hok:=h.vc v hv;have hl:=a99 h hv;simp only[a55,Bool.and_eq_true,decide_eq_true_eq]at hok;obtain⟨b1,b2,b3,b4,b5⟩:=hok;obtain⟨t,htm⟩:∃t,T[v.t.toNat]?=some t:=⟨_,z9e (by omega)⟩
  have hnm:a43 t.name=true:=by have:=h.tm t (List.mem_of_getElem? htm);simp only[a5j,Bool.and_eq_true]at this;exact this.1
  have hvl:=b69 T v t htm;have hcw:=b5v b5;refine⟨?_,hl,by rw[hvl];simp⟩;intro w hw;rw[hvl]at hw;rcases List.mem_append.1 hw with hw|hw
  ·simp only[List.mem_cons,List.not_mem_nil,or_false]at hw;rcases hw with rfl|rfl|rfl
   ·exact⟨by decide,by decide⟩
   ·exact a6d hnm
   ·by_cases hc:v.cells=[]
    ·rw[if_pos hc];exact⟨by decide,by decide⟩
    ·rw[if_neg hc];exact⟨hc,λb hb=>⟨(hcw b hb).1,(hcw b hb).2.1⟩⟩
  ·split at hw
   ·cases hw
   ·rw[List.mem_singleton.1 hw];exact a3q _ (a3r v.rep (by omega) (by omega)).1
omit h in
theorem a8o:∀(LL:List (List (List UInt8))),(∀ws∈LL,c9c ws∧(lnT ws).length≤200∧ws≠[])→a00 10 (LL.flatMap lnT)=LL.map (λws=>Lib.join ws [32])++[[]]
 | [],_=>rfl
 |ws::LL,hh=>by
  have ih:=a8o LL λx hx=>hh x (by simp[hx]);obtain⟨h1,_,h3⟩:=hh ws (by simp);have hb:∀b∈Lib.join ws [32],b≠10:=by
   cases ws with
   |nil=>exact absurd rfl h3
   |cons w r=>exact a6e 10 w r 32 (by decide) λx hx b hb=>((h1 x hx).2 b hb).2
  have e:(ws::LL).flatMap lnT=Lib.join ws [32]++10::LL.flatMap lnT:=by simp[lnT]
  rw[e,a65 10 _ _ hb,ih];rfl
theorem c26:∀u∈a00 10 (a5k S T V),u.length≤200:=by
 intro u hu;rw[b4y,a8o _ (b6t h)]at hu;rcases List.mem_append.1 hu with hu|hu
 ·obtain⟨ws,hws,rfl⟩:=List.mem_map.1 hu;have:=(b6t h ws hws).2.1;simp only[lnT,List.length_append,List.length_singleton]at this;omega
 ·simp at hu;rw[hu];simp
theorem c2c(i k:Nat)(hk:k<4):a2u ⟨[],[],[],0⟩ (a00 10 (Lib.join ((a00 10 (a5k S T V)).take i++a9n k::(a00 10 (a5k S T V)).drop i) [10]))=some ⟨S,T,V,a1d V⟩∧
 a2u ⟨[],[],[],0⟩ (a00 10 (dbl (Lib.join ((a00 10 (a5k S T V)).take i++a9n k::(a00 10 (a5k S T V)).drop i) [10])))=some ⟨S,T,V,a1d V⟩:=by
 have hb:=b8w h;have hp:=c26 h;have hn:=b4z 10 (a5k S T V);generalize a00 10 (a5k S T V)=L at hb hp hn⊢;have hins:=c4i hb i (a9n k) (c4t k hk);have hne:L.take i++a9n k::L.drop i≠[]:=by simp
 have hno:∀x∈L.take i++a9n k::L.drop i,∀b∈x,b≠10:=by
  intro x hx;rcases List.mem_append.1 hx with hx|hx
  ·exact hn x (List.mem_of_mem_take hx)
  ·rcases List.mem_cons.1 hx with rfl|hx
   ·exact c4u k hk
   ·exact hn x (List.mem_of_mem_drop hx)
 have hsh:∀x∈L.take i++a9n k::L.drop i,x.length≤2048:=by
  intro x hx;rcases List.mem_append.1 hx with hx|hx
  ·have:=hp x (List.mem_of_mem_take hx);omega
  ·rcases List.mem_cons.1 hx with rfl|hx
   ·have:=c0z k hk;omega
   ·have:=hp x (List.mem_of_mem_drop hx);omega
 generalize L.take i++a9n k::L.drop i=M at *;refine⟨by rw[b2l 10 M hne hno];exact hins,?_⟩;cases M with
 |nil=>exact absurd rfl hne
 |cons w ws=>
  rw[c1l,b2l 10 _ (by simp) ?_,c5v _ _ hsh]
  ·exact hins
  ·intro x hx;obtain⟨y,hy,rfl⟩:=List.mem_map.1 hx;exact d27 (by decide) (hno y hy)
omit h in
theorem b9y{α:Type}(A:List α):A=[]∨∃B u,A=B++[u]:=by
 rcases List.eq_nil_or_concat A with h|⟨B,u,h⟩
 ·exact .inl h
 ·exact .inr ⟨B,u,by rw[h,List.concat_eq_append]⟩
theorem c3t:a2u ⟨[],[],[],0⟩ (a00 10 (Lib.trimSuffix (a5k S T V) [10]))=some ⟨S,T,V,a1d V⟩:=by
 have hb:=b8w h;have hok:=b6t h;have ht:a5k S T V=(c2f S T V).flatMap lnT:=b4y;rw[ht]at hb⊢;generalize c2f S T V=LL at *;rcases b9y LL with rfl|⟨A,ws,rfl⟩
 ·exact hb
 ·have e:(A++[ws]).flatMap lnT=(A.flatMap lnT++Lib.join ws [32])++[10]:=by simp[lnT]
  have etr:Lib.trimSuffix ((A++[ws]).flatMap lnT) [10]=A.flatMap lnT++Lib.join ws [32]:=by
   rw[e];generalize A.flatMap lnT++Lib.join ws [32]=P;unfold Lib.trimSuffix;have hs:Lib.hasSuffix (P++[10]) [10]=true:=by unfold Lib.hasSuffix;simp
   rw[if_pos hs];simp
  have hs2:a00 10 (A.flatMap lnT++Lib.join ws [32])=(A++[ws]).map λws=>Lib.join ws [32]:=by
   have hA:∀(A:List (List (List UInt8))),(∀ws∈A,c9c ws∧(lnT ws).length≤200∧ws≠[])→∀z,a00 10 (A.flatMap lnT++z)=A.map (λws=>Lib.join ws [32])++a00 10 z:=by
    intro A
    induction A with
    |nil=>intro _ z;rfl
    |cons v A ih=>
     intro hh z;obtain⟨h1,_,h3⟩:=hh v (by simp);have hb:∀b∈Lib.join v [32],b≠10:=by
      cases v with
      |nil=>exact absurd rfl h3
      |cons w r=>exact a6e 10 w r 32 (by decide) λx hx b hb=>((h1 x hx).2 b hb).2
     have e:(v::A).flatMap lnT++z=Lib.join v [32]++10::(A.flatMap lnT++z):=by simp[lnT]
     rw[e,a65 10 _ _ hb,ih (λx hx=>hh x (by simp[hx])) z];rfl
   rw[hA A (λx hx=>hok x (by simp[hx]))];obtain⟨h1,_,h3⟩:=hok ws (by simp);have hb:∀b∈Lib.join ws [32],b≠10:=by
    cases ws with
    |nil=>exact absurd rfl h3
    |cons w r=>exact a6e 10 w r 32 (by decide) λx hx b hb=>((h1 x hx).2 b hb).2
   rw[b7o 10 _ hb];simp
  rw[a8o _ hok,a9k]at hb;rw[etr,hs2];cases hh:a2u ⟨[],[],[],0⟩ ((A++[ws]).map λws=>Lib.join ws [32])with
  |none=>rw[hh]at hb;cases hb
  |some r1=>rw[hh]at hb;exact(b7w r1).symm.trans hb
end
end Go.RInst
namespace Go.RInst
set_option maxHeartbeats 200000000
open Go.Proofs Go.Ax Go.Pc
variable [PR]
set_option maxRecDepth 100000
/-! ### spaces doubled: strings.ReplaceAll; joins of parts -/
theorem d2i(s:List UInt8)(a b:Nat)(h1:a≤b)(h2:b≤s.length)(h:FHeap):a1v L.env h 9 (.str s) (some (.int .i64 a)) (some (.int .i64 b)) none=some (.str ((s.drop a).take (b-a))):=by
 have hu:L.env.und 9=some .string:=by kernel_rfl
 unfold a1v;rw[hu];have e:inB (b:Int) s.length=true:=by rw[b6x];exact decide_eq_true h2
 have e2:inB (a:Int) b=true:=by rw[b6x];exact decide_eq_true h1
 simp only[a78,e,e2,cond_true,Int.toNat_natCast];rw[List.drop_take]
theorem b3u:∀s:List UInt8,0<s.count 32→∃m:Nat,Lib.indexByte s 32=m∧m<s.length∧dbl s=s.take m++[32,32]++dbl (s.drop (m+1))∧s.count 32=(s.drop (m+1)).count 32+1
 | [],h=>by simp at h
 |b::r,h=>by
  by_cases hb:b=32
  ·refine⟨0,?_,by simp,?_,?_⟩
   ·unfold Lib.indexByte;rw[if_pos (by simp[hb])];rfl
   ·rw[a8e,if_pos hb];rfl
   ·rw[hb,List.count_cons_self];rfl
  ·rw[List.count_cons_of_ne hb]at h;obtain⟨m,h1,h2,h3,h4⟩:=b3u r h;refine⟨m+1,?_,by simp;omega,?_,?_⟩
   ·unfold Lib.indexByte;rw[if_neg (by simp[hb]),h1];have:((m:Int) == -1)=false:=by rw[beq_eq_false_iff_ne];omega
    rw[this];rfl
   ·rw[a8e,if_neg hb,h3];rfl
   ·rw[List.count_cons_of_ne hb,h4];rfl
theorem c1k(s:List UInt8)(h:s.count 32=0):dbl s=s:=d74 s λb hb e=>by subst e;exact absurd (List.count_pos_iff.2 hb) (by omega)
theorem b9s(s:List UInt8):a0h [bdN 0 1 s.length,buf s] 1000000 [0] []=[0,1]:=by rw[show(1000000:Nat)=999996+1+1+1+1 from rfl,a07 rfl];show a0h _ (999996+1+1+1) [0,1] [0]=_;rw[a6c rfl,a07 rfl];show a0h _ (999996+1) ((a1f s).flatMap a0w++[]) [1,0]=_;rw[a01 (a0e s)];exact a13 _ _ _
theorem c4h(s:List UInt8):a0h [bdN 0 2 s.length,none,buf s] 1000000 [0] []=[0,2]:=by rw[show(1000000:Nat)=999996+1+1+1+1 from rfl,a07 rfl];show a0h _ (999996+1+1+1) [0,2] [0]=_;rw[a6c rfl,a07 rfl];show a0h _ (999996+1) ((a1f s).flatMap a0w++[]) [2,0]=_;rw[a01 (a0e s)];exact a13 _ _ _
theorem d4i(s:List UInt8)(hl:s.length≤1000000):sem L.env Mf 36 [.ptr 0 0 0,.str []] [bdN 0 1 s.length,buf s]=some (.tuple [.int .i64 0,.nilifc],[bdN 0 1 s.length,buf s]):=by
 refine a42 ?_;show wsP [.ptr 0 0 0,.str []] [bdN 0 1 s.length,buf s]=_;have b1:Nat.ble (s.length+([]:List UInt8).length) b44=true:=Nat.ble_eq_true_of_le (Nat.le_trans hl (by decide));have b2:Nat.beq s.length (a1f s).length=true:=by rw[Nat.beq_eq];simp[a1f]
 simp only[wsP,bdN,buf,b1,b2];rfl
theorem c0i(s:List UInt8)(hl:s.length≤1000000):a0j L.env false (sem L.env Mf) (.func (.func 36) [] []) [.ptr 0 0 0,.str []] [bdN 0 1 s.length,buf s]=some (.tuple [.int .i64 0,.nilifc],[bdN 0 1 s.length,buf s],[0,1]):=by have hb:=λπ=>a02 π (a0e s);have hc:=a0o (sem L.env Mf 36) [.ptr 0 0 0,.str []] _ (σ:=[0,1]) (b9s s) rfl rfl (args':=[.ptr 0 0 0,.str []]) rfl (H0:=[bdN 0 1 s.length,buf s]) (by simp+decide only[go_sem,bdN,buf,a0u,hb]) (d4i s hl);refine a1x (by kernel_rfl) (by kernel_rfl) rfl (hc.trans ?_);simp+decide only[go_sem,bdN,buf,a0s,hb];rfl
theorem b66(s t:List UInt8)(ht:t≠[])(hl:s.length+t.length≤1000000):a0j L.env false (sem L.env Mf) (.func (.func 36) [] []) [.ptr 0 0 0,.str t] [bdN 0 1 s.length,buf s]=some (.tuple [.int .i64 t.length,.nilifc],[bdN 0 2 (s++t).length,none,buf (s++t)],[0,1]):=by have hb:=λπ=>a02 π (a0e s);have hb2:=λπ=>a02 π (a0e (s++t));have hc:=a0o (sem L.env Mf 36) [.ptr 0 0 0,.str t] _ (σ:=[0,1]) (b9s s) rfl rfl (args':=[.ptr 0 0 0,.str t]) rfl (H0:=[bdN 0 1 s.length,buf s]) (by simp+decide only[go_sem,bdN,buf,a0u,hb]) (c3f s t ht hl);refine a1x (by kernel_rfl) (by kernel_rfl) rfl (hc.trans ?_);simp+decide only[go_sem,bdN,buf,a0s,hb,hb2];rfl
theorem c71(s t:List UInt8)(ht:t≠[])(hl:s.length+t.length≤1000000):a0j L.env false (sem L.env Mf) (.func (.func 36) [] []) [.ptr 0 0 0,.str t] [bdN 0 2 s.length,none,buf s]=some (.tuple [.int .i64 t.length,.nilifc],[bdN 0 3 (s++t).length,none,none,buf (s++t)],[0,2]):=by have hb:=λπ=>a02 π (a0e s);have hb2:=λπ=>a02 π (a0e (s++t));have hc:=a0o (sem L.env Mf 36) [.ptr 0 0 0,.str t] _ (σ:=[0,2]) (c4h s) rfl rfl (args':=[.ptr 0 0 0,.str t]) rfl (H0:=[bdN 0 1 s.length,buf s]) (by simp+decide only[go_sem,bdN,buf,a0u,hb]) (c3f s t ht hl);refine a1x (by kernel_rfl) (by kernel_rfl) rfl (hc.trans ?_);simp+decide only[go_sem,bdN,buf,a0s,hb,hb2];rfl
theorem c3y(s:List UInt8)(hs:s≠[])(hl:s.length≤1000000):sem L.env Mf 39 [.ptr 0 0 0] [bdN 0 1 s.length,buf s]=some (.str s,[bdN 0 1 s.length,none]):=by
 refine a42 ?_;show d0c [.ptr 0 0 0] [bdN 0 1 s.length,buf s]=_;have b1:Nat.beq s.length (a1f s).length=true:=by rw[Nat.beq_eq];simp[a1f]
 have b2:Nat.blt 0 s.length=true:=by rw[Nat.blt_eq];exact List.length_pos_iff.2 hs
 have b3:Nat.ble s.length b44=true:=Nat.ble_eq_true_of_le (Nat.le_trans hl (by decide));simp only[d0c,bdN,buf,b1,b2,b3,b2h];rfl
theorem c40(s:List UInt8)(hs:s≠[])(hl:s.length≤1000000):a0j L.env false (sem L.env Mf) (.func (.func 39) [] []) [.ptr 0 0 0] [bdN 0 1 s.length,buf s]=some (.str s,[bdN 0 1 s.length,none],[0,1]):=by have hb:=λπ=>a02 π (a0e s);have hc:=a0o (sem L.env Mf 39) [.ptr 0 0 0] _ (σ:=[0,1]) (b9s s) rfl rfl (args':=[.ptr 0 0 0]) rfl (H0:=[bdN 0 1 s.length,buf s]) (by simp+decide only[go_sem,bdN,buf,a0u,hb]) (c3y s hs hl);refine a1x (by kernel_rfl) (by kernel_rfl) rfl (hc.trans ?_);simp+decide only[go_sem,bdN,buf,a0s,hb]
theorem c3z(s:List UInt8)(hs:s≠[])(hl:s.length≤1000000):a0j L.env false (sem L.env Mf) (.func (.func 39) [] []) [.ptr 0 0 0] [bdN 0 2 s.length,none,buf s]=some (.str s,[bdN 0 2 s.length,none,none],[0,2]):=by have hb:=λπ=>a02 π (a0e s);have hc:=a0o (sem L.env Mf 39) [.ptr 0 0 0] _ (σ:=[0,2]) (c4h s) rfl rfl (args':=[.ptr 0 0 0]) rfl (H0:=[bdN 0 1 s.length,buf s]) (by simp+decide only[go_sem,bdN,buf,a0u,hb]) (c3y s hs hl);refine a1x (by kernel_rfl) (by kernel_rfl) rfl (hc.trans ?_);simp+decide only[go_sem,bdN,buf,a0s,hb]
theorem c5d(n:Nat)(h0:0<n)(hl:n≤1000000):a0j L.env false (sem L.env Mf) (.func (.func 53) [] []) [.ptr 0 0 0,.int .i64 n] [bd0]=some (.tuple [],[bdN 0 1 0,buf []],[0]):=by
 have hg:sem L.env Mf 53 [.ptr 0 0 0,.int .i64 n] [bd0]=some (.tuple [],[bdN 0 1 0,buf []]):=by refine a42 ?_;show c5e [.ptr 0 0 0,.int .i64 n] [bd0]=_;have b1:decide ((0:Int)<(n:Int))=true:=decide_eq_true (by omega);have b2:decide ((n:Int)≤1000000000)=true:=decide_eq_true (by omega);simp only[c5e,bd0,b1,b2];rfl
 have hc:=a0o (sem L.env Mf 53) [.ptr 0 0 0,.int .i64 n] [bd0] (σ:=[0]) (by rfl) rfl rfl (args':=[.ptr 0 0 0,.int .i64 n]) rfl (H0:=[bd0]) (by rfl) hg;exact a1x (by kernel_rfl) (by kernel_rfl) rfl (hc.trans (by rfl))
theorem d5a(s:List UInt8)(hl:s.length≤400000):sem L.env Mf 58 [.str s,.str [32],.str [32,32],.int .i64 (-1)] []=some (.str (dbl s),[]):=by
 have hcn:=λd H=>c1o (d:=d) H s 32;have hdl:=c05 s;have hcl:s.count 32≤s.length:=List.count_le_length;by_cases h0:s.count 32=0
 ·rw[h0]at hcn;rw[c1k s h0]
  (refine sv Tryz.f58 ?_;simp only[Tryz.f58,gS])
  (repeat first|simp only[ww]|(apply xa;simp+decide only[go_sem,hcn];rfl;kernel_rfl))
  (apply fqb;simp+decide only[go_sem]<;>rfl)
 ·obtain⟨n,hn⟩:∃n,n=s.count 32:=⟨_,rfl⟩
  rw[←hn]at hcn h0 hcl;have l0:¬(n:Int)=0:=by omega
  have hw1:IntKind.i64.wrap ((n:Int)*1)=(n:Int):=by rw[Int.mul_one];exact w64 (by omega) (by omega)
  have hw2:IntKind.i64.wrap ((s.length:Int)+(n:Int))=((s.length+n:Nat):Int):=by rw[w64 (by omega) (by omega)];omega
  have hgr:=c5d (s.length+n) (by omega) (by omega);have hne:dbl s≠[]:=by intro e;obtain⟨m,_,_,h3,_⟩:=b3u s (by omega);rw[h3]at e;simp at e
  have hn0:=λh=>b2c s 0 (Nat.zero_le _) h;have hbt:Nat.beq 82 82=true:=rfl;have hw0:IntKind.i64.wrap (((2:Nat):Int)-((1:Nat):Int))=1:=by decide
  simp only[bd0,bdN,buf]at hgr;have hr0:=λπ=>a02 π (a0e []);have hr1:=a01 (a0e [])
  (refine sv Tryz.f58 ?_;simp only[Tryz.f58,gS])
  (repeat first|simp only[ww]|(apply xa;simp+decide only[go_sem,hcn,l0,hw0,hw1,hw2,hgr,hbt,cond_true];rfl;kernel_rfl))
  refine a0p (σ:=List UInt8×Nat×Nat) kp58_0 (λq=>[(0,.str s),(1,.str [32]),(2,.str [32,32]),(10,.ptr 0 0 0),(11,.int .i64 q.2.1),(52,.int .i64 n),(53,.int .i64 q.2.2)]) (λq=>[bdN 0 1 q.1.length,buf q.1]) (λq=>n-q.2.2) (λq=>dbl s=q.1++dbl (s.drop q.2.1)∧q.2.1≤s.length∧q.2.2+(s.drop q.2.1).count 32=n) ([],0,0) ?_ ⟨rfl,Nat.zero_le _,by simp[hn]⟩ ?_
  ·(simp+decide only[go_sem,a09,a05,hr0,hr1,bdN,buf,List.length_nil]<;>rfl)
  ·rintro⟨B,st,i⟩ ⟨h1,h2,h3⟩
   simp only at h1 h2 h3⊢;have hBl:B.length≤(dbl s).length:=by rw[h1];simp
   by_cases hc:(s.drop st).count 32=0
   ·have l1:¬(i:Int)<(n:Int):=by omega
    have hR:=c1k _ hc;rw[hR]at h1;have s2:=λh=>b2c s st h2 h;by_cases he:s.drop st=[]
    ·rw[he,List.append_nil]at h1;rw[he]at s2;have hw:=c0i B (by omega);have hs:=c40 B (by rw[←h1];exact hne) (by omega);rw[h1];simp only[bdN,buf]at hw hs
     (repeat first|simp only[ww]|(apply xa;simp+decide only[go_sem,l1,s2,hw,hs,bdN,buf];rfl;kernel_rfl))
     (apply fqb;simp+decide only[go_sem]<;>rfl)
    ·have hw:=b66 B (s.drop st) he (by have:=congrArg List.length h1;simp only[List.length_append]at this;omega);have hs:=c3z (B++s.drop st) (by rw[←h1];exact hne) (by rw[←h1];omega);rw[←h1]at hw hs;simp only[bdN,buf]at hw hs
     (repeat first|simp only[ww]|(apply xa;simp+decide only[go_sem,l1,s2,hw,hs,bdN,buf];rfl;kernel_rfl))
     (apply fqb;simp+decide only[go_sem]<;>rfl)
   ·obtain⟨m,i1,i2,i3,i4⟩:=b3u (s.drop st) (by omega);have hd:=List.length_drop (i:=st) (l:=s);have l1:(i:Int)<(n:Int):=by omega
    have hix:=λd H=>c16 (d:=d) H (s.drop st) 32;rw[i1]at hix;have s1:=λh=>b2c s st h2 h;have s2:=λh=>d2i s st (st+m) (by omega) (by omega) h;rw[Nat.add_sub_cancel_left]at s2;have hw5:IntKind.i64.wrap ((st:Int)+(m:Int))=((st+m:Nat):Int):=by rw[w64 (by omega) (by omega)];omega
    have hw6:IntKind.i64.wrap (((st+m:Nat):Int)+((1:Nat):Int))=((st+m+1:Nat):Int):=by rw[w64 (by omega) (by omega)];omega
    have hw7:IntKind.i64.wrap ((i:Int)+1)=((i+1:Nat):Int):=by rw[w64 (by omega) (by omega)];omega
    rw[i3]at h1;rw[i4]at h3;rw[List.drop_drop]at h1 h3;have hle:=congrArg List.length h1;simp only[List.length_append,List.length_cons,List.length_nil]at hle;by_cases hm:m=0
    ·have ht:(s.drop st).take m=[]:=by rw[hm];rfl
     rw[ht,List.nil_append]at h1;have hwn:=c0i B (by omega);have hwa:=b66 B [32,32] (by simp) (by simp only[List.length_cons,List.length_nil];omega);have e3:=a01 (a0e (B++[32,32]));have e4:=λπ=>a02 π (a0e (B++[32,32]));simp only[bdN,buf]at hwn hwa
     (repeat first|simp only[ww]|(apply xa;simp+decide only[go_sem,l1,hix,s1,s2,hw5,hw6,hw7,ht,hwn,hwa,bdN,buf];rfl;kernel_rfl))
     refine a22 (B++[32,32],st+m+1,i+1) ?_ (by simp only;omega) ⟨by rw[h1];simp[List.append_assoc,Nat.add_assoc],by simp only;omega,by show i+1+(s.drop (st+(m+1))).count 32=n;omega⟩
     (simp+decide only[go_sem,a09,a05,e3,e4,bdN,buf]<;>rfl)
    ·have ht:(s.drop st).take m≠[]:=by
      intro e;have:=congrArg List.length e;rw[List.length_take]at this;simp at this;omega
     have htl:((s.drop st).take m).length=m:=by rw[List.length_take];omega
     have hwa:=b66 B ((s.drop st).take m) ht (by omega);have hwb:=c71 (B++(s.drop st).take m) [32,32] (by simp) (by simp only[List.length_append,List.length_cons,List.length_nil];omega);have e3:=a01 (a0e (B++(s.drop st).take m++[32,32]));have e4:=λπ=>a02 π (a0e (B++(s.drop st).take m++[32,32]));simp only[bdN,buf,List.length_append]at hwa hwb
     (repeat first|simp only[ww]|(apply xa;simp+decide only[go_sem,l1,hix,s1,s2,hw5,hw6,hw7,hwa,hwb,bdN,buf];rfl;kernel_rfl))
     refine a22 (B++(s.drop st).take m++[32,32],st+m+1,i+1) ?_ (by simp only;omega) ⟨by rw[h1];simp[List.append_assoc,Nat.add_assoc],by simp only;omega,by show i+1+(s.drop (st+(m+1))).count 32=n;omega⟩
     (simp+decide only[go_sem,a09,a05,e3,e4,bdN,buf]<;>rfl)
theorem c4a(s:List UInt8)(hl:s.length≤400000):sem L.env Mf 29 [.str s,.str [32],.str [32,32]] []=some (.str (dbl s),[]):=by
 have h:=λd H=>a0l (E:=L.env) (draw:=d) (call:=sem L.env Mf) (g:=58) (fs:=[]) (cs:=[]) (ar:=[.str s,.str [32],.str [32,32],.int .i64 (-1)]) (H:=H) (by kernel_rfl) (by kernel_rfl) rfl (by rfl) (d5a s hl) rfl
 (refine sv Tryz.f29 ?_;simp only[Tryz.f29,gS])
 (repeat first|simp only[ww]|(apply xa;simp+decide only[go_sem,h];rfl;kernel_rfl))
 (apply fqb;simp+decide only[go_sem]<;>rfl)
end Go.RInst
namespace Go.RInst
open Go.Proofs Go.Ax Go.Pc
noncomputable def prB:List AV→Option (AV×a08)
 | [.str s]=>bif s==soT then some (soV,[])else bif decide (s.length≤1048576)then(match a2u ⟨[],[],[],0⟩ (a00 10 s)with|some r=>some (b7v r,[])|none=>none)else none
 |_=>none
@[reducible] noncomputable def PR2:PR:=⟨prB⟩
theorem dr2:DrOk (@L PR2).env:=@dr PR2 (@c1e PR2 (λa r h0=>by
 have h:prB a=some r:=h0;clear h0;unfold prB at h;split at h
 ·rename_i s;rw[cond_eq_ite,cond_eq_ite]at h;split at h
  ·rename_i hs;have hs:s=soT:=by simpa using hs
   subst hs;cases h;refine⟨rfl,λI K ρ w cargs rel hn ha=>?_⟩;have h0:=@d0h PR0 dr0 I K ρ w cargs rel hn ha;rw[a3m (E:=(@L PR0).env) (by decide)]at h0;rw[a3m (E:=(@L PR2).env) (by decide)];refine Calls.mono h0 ?_
   rintro en w' ⟨c,I',ρ',h1,h2,h3⟩
   exact⟨c,I',ρ',h1,⟨h2.imm,h2.map,h2.ext,h2.rel,h2.nrel,h2.low⟩,h3⟩
  ·split at h
   ·rename_i hl;have hl:s.length≤1048576:=by simpa using hl
    split at h
    ·rename_i rf hrf;cases h;refine⟨rfl,λI K ρ w cargs rel hn ha=>?_⟩;have h0:=@c4g PR0 dr0 s hl (b7v rf) (@c4e PR0 s hl rf hrf) I K ρ w cargs rel hn ha;rw[a3m (E:=(@L PR0).env) (by decide)]at h0;rw[a3m (E:=(@L PR2).env) (by decide)];refine Calls.mono h0 ?_
     rintro en w' ⟨c,I',ρ',h1,h2,h3⟩
     exact⟨c,I',ρ',h1,⟨h2.imm,h2.map,h2.ext,h2.rel,h2.nrel,h2.low⟩,h3⟩
    ·cases h
   ·cases h
 ·cases h))
theorem c4m(s:List UInt8):prB [.str s]=bif s==soT then some (soV,[])else bif decide (s.length≤1048576)then(match a2u ⟨[],[],[],0⟩ (a00 10 s)with|some r=>some (b7v r,[])|none=>none)else none:=rfl
theorem pr2_so:PR2.pr [.str soT]=some (soV,[]):=by show prB [.str soT]=_;rw[c4m,show(soT==soT)=true from by simp];rfl
theorem pr2_rd{s:List UInt8}{r:Rd}(hs:s≠soT)(hl:s.length≤1048576)(h:a2u ⟨[],[],[],0⟩ (a00 10 s)=some r):PR2.pr [.str s]=some (b7v r,[]):=by show prB [.str s]=_;rw[c4m,show(s==soT)=false from by simpa using hs,show decide (s.length≤1048576)=true from decide_eq_true hl];simp only[cond_false,cond_true,h]
end Go.RInst
namespace Go.RInst
open Go.Proofs Go.Ax Go.Pc
variable [PR]
set_option maxRecDepth 100000
theorem c5x(R:List (List AV)):∃a,clA R=sl a R:=by
 cases R with
 |nil=>exact⟨none,rfl⟩
 |cons x l=>exact⟨some (some (x::l).length),by rw[b9m];rfl⟩
end Go.RInst
namespace Go.RInst
open Go.Proofs Go.Ax Go.Pc
end Go.RInst
namespace Go.RInst
set_option maxHeartbeats 200000000
open Go.Proofs Go.Ax Go.Pc
variable [PR]
set_option maxRecDepth 100000
/-! ### the law ProgramsLoose -/
theorem d61(o n:Nat)(c:Option Nat)(l:List (List UInt8))(ho:o+n≤l.length)(h0:0<n)(hs:n≤1000000)(hj:(Lib.join ((l.drop o).take n) [10]).length≤1000000):sem L.env Mf 24 [.slice 0 o n c,.str [10]] [some (.row 1 (sR l))]=some (.str (Lib.join ((l.drop o).take n) [10]),[some (.row 1 (sR l))]):=by
 refine a42 ?_;have hz:b8g [.slice 0 o n c,.str [10]]=false:=by show Nat.beq n 0=false;rw[←Bool.not_eq_true,Nat.beq_eq];omega
 rw[b9z,hz];show c00 [.slice 0 o n c,.str [10]] [some (.row 1 (sR l))]=_;have b1:Nat.ble (o+n) (sR l).length=true:=by rw[Nat.ble_eq,b2r];exact ho
 have b0:((sR l).drop o).take n=a1s ((l.drop o).take n):=by unfold sR a1s;rw[←List.map_drop,←List.map_take]
 have b2:Nat.blt 0 n=true:=by rw[Nat.blt_eq];omega
 have b4:unS (a1s ((l.drop o).take n))=some ((l.drop o).take n):=b1w _;have b5:okJ ((l.drop o).take n) [10]=true:=by unfold okJ b44;rw[Nat.ble_eq_true_of_le (by rw[List.length_take];omega),Nat.ble_eq_true_of_le (by omega)];rfl
 simp only[c00,b0,b1,b2,b4,b5];rfl
theorem e0x(c:Option Nat)(l:List (List UInt8)):sem L.env Mf 24 [.slice 0 0 0 c,.str [10]] [some (.row 1 (sR l))]=some (.str [],[some (.row 1 (sR l))]):=by
 have hf1:=λπ=>a02 π (a10 l);have hf2:=a01 (a10 l);have hf3:=λq d=>a15 q d (a10 l)
 (refine sv Tryz.f24 ?_;simp only[Tryz.f24,gS])
 (repeat first|simp only[ww]|(apply xa;simp+decide only[go_sem];rfl;kernel_rfl))
 (apply fqb;simp+decide only[go_sem,hf1,hf2,hf3]<;>rfl)
theorem b6v(s:List UInt8):∀(A:List (List UInt8)) (B:List (List UInt8)),A≠[]→B≠[]→Lib.join (A++B) s=Lib.join A s++s++Lib.join B s:=by
 have e:∀(a b:List UInt8) (l:List (List UInt8)),Lib.join (a::b::l) s=a++s++Lib.join (b::l) s:=by intro a b l;rw[Lib.join_cons,Lib.join_cons];simp[Lib.joinTail]
 intro A
 induction A with
 |nil=>intro B h;exact absurd rfl h
 |cons a A ih=>
  intro B _ hB;cases A with
  |nil=>
   cases B with
   |nil=>exact absurd rfl hB
   |cons b B=>rw[List.singleton_append,e,Lib.join_one]
  |cons a2 A=>have:=ih B (by simp) hB;rw[List.cons_append,List.cons_append,e,←List.cons_append,this,e];simp only[List.append_assoc]
theorem c12(L:List (List UInt8))(i:Nat)(m:List UInt8)(hi:i<L.length):Lib.join (L.take i++m::L.drop i) [10]=(if i=0 then[]else Lib.join (L.take i) [10]++[10])++(m++[10]++Lib.join (L.drop i) [10]):=by
 have hd:L.drop i≠[]:=by intro e;have:=congrArg List.length e;simp at this;omega
 have h1:Lib.join (m::L.drop i) [10]=m++[10]++Lib.join (L.drop i) [10]:=by have:=b6v [10] [m] (L.drop i) (by simp) hd;rw[Lib.join_one]at this;exact this
 by_cases h:i=0
 ·subst h;rw[if_pos rfl,List.nil_append,←h1];rfl
 ·rw[if_neg h,b6v [10] _ _ (by intro e;have:=congrArg List.length e;rw[List.length_take]at this;simp only[List.length_nil]at this;omega) (by simp),h1]
theorem b5f(c:UInt8):∀s:List UInt8,Lib.join (a00 c s) [c]=s
 | []=>by simp[a00,Lib.join_one]
 |b::r=>by
  have ih:=b5f c r;have e:∀(a b:List UInt8) (l:List (List UInt8)),Lib.join (a::b::l) [c]=a++c::Lib.join (b::l) [c]:=by intro a b l;rw[Lib.join_cons,Lib.join_cons];simp[Lib.joinTail]
  cases hs:a00 c r with
  |nil=>exact absurd hs (a4p c r)
  |cons p ps=>
   rw[hs]at ih;rw[a00];by_cases hb:b=c
   ·rw[if_pos hb,hs,e,ih,hb];rfl
   ·rw[if_neg hb,hs];show Lib.join ((b::p)::ps) [c]=_;rw[←ih,Lib.join_cons,Lib.join_cons];rfl
theorem d1n(s:List UInt8)(i:Nat)(m:List UInt8)(hi:i<(a00 10 s).length) :
 (Lib.join ((a00 10 s).take i++m::(a00 10 s).drop i) [10]).length=s.length+m.length+1∧(Lib.join ((a00 10 s).take i) [10]).length≤s.length∧(Lib.join ((a00 10 s).drop i) [10]).length≤s.length:=by
 have hj:=b5f 10 s;rw[c12 _ i m hi];generalize a00 10 s=L at *;have hd:L.drop i≠[]:=by intro e;have:=congrArg List.length e;simp at this;omega
 by_cases h:i=0
 ·subst h;rw[if_pos rfl];have e0:Lib.join (L.take 0) [10]=[]:=rfl;rw[e0,List.drop_zero,hj];simp only[List.length_append,List.length_nil,List.length_cons];omega
 ·have:=b6v [10] (L.take i) (L.drop i) (by intro e;have:=congrArg List.length e;rw[List.length_take]at this;simp only[List.length_nil]at this;omega) hd;rw[List.take_append_drop,hj]at this;have hl:=congrArg List.length this;rw[if_neg h];simp only[List.length_append,List.length_nil,List.length_cons]at hl⊢;omega
theorem c3u{d:Bool}(H:a08)(s:List UInt8)(hl:s.length≤1000000):a0j L.env d (sem L.env Mf) (.func (.func 30) [] []) [.str s,.str [10]] H=some (.str (Lib.trimSuffix s [10]),H,[]):=by
 have hp:sem L.env Mf 30 [.str s,.str [10]] []=some (.str (Lib.trimSuffix s [10]),[]):=by
  refine a7i (by intro y hy;cases hy) 0 ?_;have hq:L.env.prim 30 [.str s,.str [10]]=some (.str (Lib.trimSuffix s [10]),[]):=by have b:Nat.ble s.length b44=true:=Nat.ble_eq_true_of_le (Nat.le_trans hl (by decide));show(bif Nat.ble s.length b44 then some (AV.str (Lib.trimSuffix s [10]),([]:a08))else none)=_;rw[b];rfl
  unfold a5v primH;rw[hq]
 exact a0l (by kernel_rfl) (by kernel_rfl) rfl rfl hp rfl
theorem c78(s:List UInt8):(Lib.trimSuffix s [10]).length≤s.length:=by
 unfold Lib.trimSuffix;split
 ·rw[List.length_take];omega
 ·exact Nat.le_refl _
theorem feq(z:Bool):a93 L.env .eql 56 (.agg [.int .i64 0,.int .i64 0]) (.agg [.int .i64 0,.int .i64 0]) z=some (.bool true):=by kernel_rfl
theorem e0n{s:List UInt8}{r:Rd}(h:a2u ⟨[],[],[],0⟩ (a00 10 s)=some r):s≠soT:=by
 rintro rfl
 rw[d0i]at h;cases h
theorem c3x{S:List Sg}{T:List Tm}{V:List Vc}(h:Valid S T V):(a5k S T V).length≤43200:=by have hS:=h.hS;have hT:=h.hT;have hV:=h.hV;have bS:=b3i (λs=>lnT (a6j s)) 200 S λs hs=>Nat.le_trans (a9e (h.sg s hs)) (by decide);have bT:=b3i (λt=>lnT (a91 t)) 200 T λt ht=>Nat.le_trans (a9b (h.tm t ht)) (by decide);have bV:=b3i (λv=>lnT (a8m T v)) 200 V λv hv=>a99 h hv;unfold a5k txS txT txV;rw[List.length_append,List.length_append];omega
theorem loose_law(hso:PR.pr [.str soT]=some (soV,[]))(hrd:∀(s:List UInt8) (r:Rd),s≠soT→s.length≤1048576→a2u ⟨[],[],[],0⟩ (a00 10 s)=some r→PR.pr [.str s]=some (b7v r,[]))(r0 r1 r2:Option (Option Nat))(N:List (List UInt8))(X:List Tm)(Y:List Vc)(hN:N.length<9223372036854775808)(hX:X.length<9223372036854775808)(hY:Y.length<9223372036854775808)(z0 z1 z2:Nat)(hz0:z0<65536)(hz1:z1<65536)(hz2:z2<65536) :
 sem L.env Mf 8 [.agg [sl r0 (N.map stR),sl r1 (X.map Tm.enc),sl r2 (Y.map Vc.enc)],.agg [.int .u16 z0,.int .u16 z1,.int .u16 z2]] []=some (.bool true,[]):=by
 have hlv:=λd H=>c2d hso (d:=d) H;obtain⟨r,rfl,hgd⟩:=d1r r0 r1 r2 N X Y hN hX hY;have hvg:=c2n (min N.length 8) (by omega) X Y;have hgood:=λd H=>a0l (E:=L.env) (draw:=d) (call:=sem L.env Mf) (g:=9) (fs:=[]) (cs:=[]) (ar:=[.agg [sl r0 (N.map stR),sl r1 (X.map Tm.enc),sl r2 (Y.map Vc.enc)]]) (H:=H) (by kernel_rfl) (by kernel_rfl) rfl (by simp+decide only[go_sem]<;>rfl) hgd (by simp+decide only[go_sem]<;>rfl);generalize a6t (min N.length 8)=S at hvg hgood;generalize a2m X (min X.length 3)=T at hvg hgood;generalize(if X=[]then[]else a1e (min N.length 8) (min X.length 3) Y (min Y.length 12))=V at hvg hgood;have hS:=hvg.hS;have hT:=hvg.hT;have hV:=hvg.hV;have hfe:=feq
 -- what Read answers
 have hread:∀(s:List UInt8),s.length≤1048576→a2u ⟨[],[],[],0⟩ (a00 10 s)=some ⟨S,T,V,a1d V⟩→∃(a' b' c':Option (Option Nat)),(∀d H,a0j L.env d (sem L.env Mf) (.func (.func 19) [] []) [.str s] H=some (.tuple [.agg [sl a' (S.map Sg.enc),sl b' (T.map Tm.enc),sl c' (V.map Vc.enc)],.agg [.int .i64 0,.int .i64 0]],H,[]))∧
  (∀d H,a0j L.env d (sem L.env Mf) (.func (.func 20) [] []) [.agg [sl a' (S.map Sg.enc),sl b' (T.map Tm.enc),sl c' (V.map Vc.enc)],.agg [sl none (S.map Sg.enc),sl none (T.map Tm.enc),sl none (V.map Vc.enc)]] H=some (.bool true,H,[])):=by
  intro s hl hr;obtain⟨a',ea⟩:=c5x (S.map Sg.enc);obtain⟨b',eb⟩:=c5x (T.map Tm.enc);obtain⟨c',ec⟩:=c5x (V.map Vc.enc);have hp:=hrd s _ (e0n hr) hl hr;unfold b7v at hp;simp only[ea,eb,ec]at hp;exact⟨a',b',c',λd H=>a0l (by kernel_rfl) (by kernel_rfl) rfl rfl (c0v hp) (by simp+decide only[go_sem]),λd H=>a0l (by kernel_rfl) (by kernel_rfl) rfl (by simp+decide only[go_sem]<;>rfl) (d0p a' none b' none c' none S T V (by omega) (by omega) (by omega)) rfl⟩
 have hw:=λd H=>a0l (E:=L.env) (draw:=d) (call:=sem L.env Mf) (g:=18) (fs:=[]) (cs:=[]) (ar:=[.agg [sl none (S.map Sg.enc),sl none (T.map Tm.enc),sl none (V.map Vc.enc)]]) (H:=H) (by kernel_rfl) (by kernel_rfl) rfl (by simp+decide only[go_sem]<;>rfl) (c72 none none none S T V hvg) rfl;have htl:=c3x hvg;obtain⟨n,hn⟩:∃n,n=(a00 10 (a5k S T V)).length:=⟨_,rfl⟩
 have hn0:0<n:=by rw[hn];exact List.length_pos_iff.2 (a4p 10 _)
 have hnl:n≤43201:=by rw[hn,a0v];have:(a5k S T V).count 10≤(a5k S T V).length:=List.count_le_length;omega
 obtain⟨i,hi⟩:∃i,i=z0%n:=⟨_,rfl⟩
 have hin:i<n:=by rw[hi];exact Nat.mod_lt _ hn0
 obtain⟨k,hk⟩:∃k,k=z1%4:=⟨_,rfl⟩
 have hk4:k<4:=by omega
 obtain⟨rd1,rd2⟩:=c2c hvg i k hk4;obtain⟨il1,il2,il3⟩:=d1n (a5k S T V) i (a9n k) (by omega);have hml:=c0z k hk4;have hins:=c12 (a00 10 (a5k S T V)) i (a9n k) (by omega);have htr:=c3t hvg;have htrl:=c78 (a5k S T V);have htc:=λd H=>c3u (d:=d) H (a5k S T V) (by omega);obtain⟨a3,b3,c3,hR3,hM3⟩:=hread _ (by omega) htr;have hsp:=λH=>a1u H (a5k S T V) 10 (by omega);have hj1:0<i→_:=λh0=>d61 0 i (some n) (a00 10 (a5k S T V)) (by omega) h0 (by omega) (by rw[List.drop_zero];omega);have hj2:=d61 i (n-i) (some (n-i)) (a00 10 (a5k S T V)) (by omega) (by omega) (by omega) (by rw[List.take_of_length_le (by rw[List.length_drop];omega)];omega);rw[List.take_of_length_le (by rw[List.length_drop];omega)]at hj2;rw[List.drop_zero]at hj1;have hj0:=e0x (some n) (a00 10 (a5k S T V));have hg:([[AV.str []],[AV.str [32,32,32]],[AV.str [35,32,118,101,99,116,111,114]],[AV.str [32,35,120,32,121]]]:List (List AV))[k]?=some [AV.str (a9n k)]:=by
  match k,hk4 with
  |0,_=>rfl
  |1,_=>rfl
  |2,_=>rfl
  |3,_=>rfl
 simp only[←hn]at hsp;have hm0:(z0:Int).tmod (n:Int)=(i:Int):=by rw[Int.tmod_eq_emod_of_nonneg (by omega),hi];omega
 have hm1:(z1:Int).tmod 4=(k:Int):=by rw[Int.tmod_eq_emod_of_nonneg (by omega),hk];omega
 have hm2:(z2:Int).tmod 2=((z2%2:Nat):Int):=by rw[Int.tmod_eq_emod_of_nonneg (by omega)];omega
 have hwz:IntKind.i64.wrap (z0:Int)=(z0:Int):=w64 (by omega) (by omega);have hn00:¬(n:Int)=0:=by omega
 have hfl:=a10 (a00 10 (a5k S T V));have hsl:=b2r (a00 10 (a5k S T V));rw[←hn]at hsl;have J2:∀o0 o1 o2 o4,a0j L.env false (sem L.env Mf) (.func (.func 24) [] []) [.slice 3 i (n-i) (some (n-i)),.str [10]] [o0,o1,o2,some (.row 1 (sR (a00 10 (a5k S T V)))),o4]=some (.str (Lib.join ((a00 10 (a5k S T V)).drop i) [10]),[o0,o1,o2,some (.row 1 (sR (a00 10 (a5k S T V)))),o4],[3]):=λo0 o1 o2 o4=>a3c (by kernel_rfl) (by kernel_rfl) rfl (b:=3) (o:=.row 1 (sR (a00 10 (a5k S T V)))) rfl (a0r hfl) (FlatO.row hfl) rfl (by rfl) hj2 rfl;have J1:∃P,(∀o0 o1 o2 o4,a0j L.env false (sem L.env Mf) (.func (.func 24) [] []) [.slice 3 0 i (some n),.str [10]] [o0,o1,o2,some (.row 1 (sR (a00 10 (a5k S T V)))),o4]=some (.str P,[o0,o1,o2,some (.row 1 (sR (a00 10 (a5k S T V)))),o4],[3]))∧P.length≤50000∧(if i=0 then P else P++[10])=(if i=0 then[]else Lib.join ((a00 10 (a5k S T V)).take i) [10]++[10]):=by
  by_cases hi0:i=0
  ·refine⟨[],λo0 o1 o2 o4=>?_,by simp,by rw[if_pos hi0,if_pos hi0]⟩;rw[hi0];exact a3c (by kernel_rfl) (by kernel_rfl) rfl (b:=3) (o:=.row 1 (sR (a00 10 (a5k S T V)))) rfl (a0r hfl) (FlatO.row hfl) rfl (by rfl) hj0 rfl
  ·refine⟨_,λo0 o1 o2 o4=>a3c (by kernel_rfl) (by kernel_rfl) rfl (b:=3) (o:=.row 1 (sR (a00 10 (a5k S T V)))) rfl (a0r hfl) (FlatO.row hfl) rfl (by rfl) (hj1 (by omega)) rfl,by omega,by rw[if_neg hi0,if_neg hi0]⟩
 obtain⟨P,J1,hPl,hP⟩:=J1;rw[←hP]at hins;clear hP hj0 hj1 hj2;rw[hins]at rd1 rd2;generalize a9n k=m at *;generalize Lib.join ((a00 10 (a5k S T V)).drop i) [10]=D at *;have hl1:m.length+1≤4611686018427387904:=by omega
 have hl2:m.length+1+D.length≤4611686018427387904:=by omega
 have hl3:P.length+1≤4611686018427387904:=by omega
 have hl4:P.length+1+(m.length+1+D.length)≤4611686018427387904:=by omega
 have hl5:P.length+(m.length+1+D.length)≤4611686018427387904:=by omega
 have hin2:i≤n:=by omega
 have main:∀(t u:List UInt8),t.length≤200000→a2u ⟨[],[],[],0⟩ (a00 10 t)=some ⟨S,T,V,a1d V⟩→a2u ⟨[],[],[],0⟩ (a00 10 (dbl t))=some ⟨S,T,V,a1d V⟩→∃(a1 b1 c1 a2 b2 c2:Option (Option Nat)),(∀d H,a0j L.env d (sem L.env Mf) (.func (.func 19) [] []) [.str t] H=some (.tuple [.agg [sl a1 (S.map Sg.enc),sl b1 (T.map Tm.enc),sl c1 (V.map Vc.enc)],.agg [.int .i64 0,.int .i64 0]],H,[]))∧
  (∀d H,a0j L.env d (sem L.env Mf) (.func (.func 20) [] []) [.agg [sl a1 (S.map Sg.enc),sl b1 (T.map Tm.enc),sl c1 (V.map Vc.enc)],.agg [sl none (S.map Sg.enc),sl none (T.map Tm.enc),sl none (V.map Vc.enc)]] H=some (.bool true,H,[]))∧
  (∀d H,a0j L.env d (sem L.env Mf) (.func (.func 19) [] []) [.str (dbl t)] H=some (.tuple [.agg [sl a2 (S.map Sg.enc),sl b2 (T.map Tm.enc),sl c2 (V.map Vc.enc)],.agg [.int .i64 0,.int .i64 0]],H,[]))∧
  (∀d H,a0j L.env d (sem L.env Mf) (.func (.func 20) [] []) [.agg [sl a2 (S.map Sg.enc),sl b2 (T.map Tm.enc),sl c2 (V.map Vc.enc)],.agg [sl none (S.map Sg.enc),sl none (T.map Tm.enc),sl none (V.map Vc.enc)]] H=some (.bool true,H,[]))∧
  (∀d H,a0j L.env d (sem L.env Mf) (.func (.func 29) [] []) [.str t,.str [32],.str [32,32]] H=some (.str (dbl t),H,[])):=by
  intro t u ht h1 h2;have:=c05 t;obtain⟨a1,b1,c1,x1,y1⟩:=hread t (by omega) h1;obtain⟨a2,b2,c2,x2,y2⟩:=hread (dbl t) (by omega) h2;exact⟨a1,b1,c1,a2,b2,c2,x1,y1,x2,y2,λd H=>a0l (by kernel_rfl) (by kernel_rfl) rfl rfl (c4a t (by omega)) rfl⟩
 by_cases hi0:i=0
 ·have c1:¬(0:Int)<(i:Int):=by omega
  rw[if_pos hi0]at rd1 rd2;obtain⟨q1,q2,q3,q4,q5,q6,hR1,hM1,hR2,hM2,hrp⟩:=main _ [] (by simp only[List.length_append,List.length_cons,List.length_nil];omega) rd1 rd2;by_cases h2:z2%2=1
  ·have c2:(z2%2:Nat)=(1:Int):=by omega
   (refine sv Tryz.f8 ?_;simp only[Tryz.f8,gS])
   (repeat first|simp only[ww]|(apply xa;simp+decide only[go_sem,hgood,hw,hsp,hm0,hm1,hwz,hn00,hg,J1,J2,hk4,hsl,hin,hin2,Nat.zero_add,hl1,hl2,hl3,hl4,hl5,hm2,htc,hR3,hM3,hfe,hlv,c1,c2,hrp,hR2,hM2];rfl;kernel_rfl))
   (apply fqb;simp+decide only[go_sem]<;>rfl)
  ·have c2:¬(z2%2:Nat)=(1:Int):=by omega
   (refine sv Tryz.f8 ?_;simp only[Tryz.f8,gS])
   (repeat first|simp only[ww]|(apply xa;simp+decide only[go_sem,hgood,hw,hsp,hm0,hm1,hwz,hn00,hg,J1,J2,hk4,hsl,hin,hin2,Nat.zero_add,hl1,hl2,hl3,hl4,hl5,hm2,htc,hR3,hM3,hfe,hlv,c1,c2,hR1,hM1];rfl;kernel_rfl))
   (apply fqb;simp+decide only[go_sem]<;>rfl)
 ·have c1:(0:Int)<(i:Int):=by omega
  rw[if_neg hi0]at rd1 rd2;obtain⟨q1,q2,q3,q4,q5,q6,hR1,hM1,hR2,hM2,hrp⟩:=main _ [] (by simp only[List.length_append,List.length_cons,List.length_nil];omega) rd1 rd2;by_cases h2:z2%2=1
  ·have c2:(z2%2:Nat)=(1:Int):=by omega
   (refine sv Tryz.f8 ?_;simp only[Tryz.f8,gS])
   (repeat first|simp only[ww]|(apply xa;simp+decide only[go_sem,hgood,hw,hsp,hm0,hm1,hwz,hn00,hg,J1,J2,hk4,hsl,hin,hin2,Nat.zero_add,hl1,hl2,hl3,hl4,hl5,hm2,htc,hR3,hM3,hfe,hlv,c1,c2,hrp,hR2,hM2];rfl;kernel_rfl))
   (apply fqb;simp+decide only[go_sem]<;>rfl)
  ·have c2:¬(z2%2:Nat)=(1:Int):=by omega
   (refine sv Tryz.f8 ?_;simp only[Tryz.f8,gS])
   (repeat first|simp only[ww]|(apply xa;simp+decide only[go_sem,hgood,hw,hsp,hm0,hm1,hwz,hn00,hg,J1,J2,hk4,hsl,hin,hin2,Nat.zero_add,hl1,hl2,hl3,hl4,hl5,hm2,htc,hR3,hM3,hfe,hlv,c1,c2,hR1,hM1];rfl;kernel_rfl))
   (apply fqb;simp+decide only[go_sem]<;>rfl)
end Go.RInst
