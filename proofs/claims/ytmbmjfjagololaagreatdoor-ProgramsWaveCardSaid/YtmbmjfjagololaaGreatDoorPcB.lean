/- Programs as plain data: names, signals, timing sets, vectors, and what Read makes of a line. -/
import GoSem.Core.Utf8
import Derived.Lib.Bytealg
set_option linter.unusedSimpArgs false
set_option linter.unusedVariables false
namespace Go.Pc
/-! ### names -/
def nameC(b:UInt8):Bool:=decide (33≤b.toNat)&&decide (b.toNat≤126)
def nameB(s:List UInt8):Bool:=match s with
 | []=>false
 |a::r=>decide (s.length≤32)&&(!(Nat.beq a.toNat 35)&&s.all nameC)
/-! ### programs -/
structure Sg where
 name:List UInt8
 dir:Nat
structure Tm where
 name:List UInt8
 per:Int
 dr:Int
 ri:Int
 fa:Int
 st:Int
structure Vc where
 t:Int
 cells:List UInt8
 rep:Int
def sgOk(s:Sg):Bool:=nameB s.name&&decide (s.dir≤1)
def tmOk(t:Tm):Bool:=nameB t.name&&(decide (1≤t.per)&&(decide (t.per≤1000000)&&(decide (0≤t.dr)&&(decide (t.dr<t.ri)&&(decide (t.ri<t.fa)&&(decide (t.fa<t.per)&&(decide (0≤t.st)&&decide (t.st<t.per))))))))
def letters(d:Nat):List UInt8:=if d=1 then[76,72,88]else[48,49,88,80]
def cellsOk:List Sg→List UInt8→Bool
 | [],[]=>true
 |s::S,c::cs=>(letters s.dir).contains c&&cellsOk S cs
 |_,_=>false
def vcOk(v:Vc)(S:List Sg)(nt:Nat):Bool:=decide (0≤v.t)&&(decide (v.t<nt)&&(decide (1≤v.rep)&&(decide (v.rep≤1000000)&&cellsOk S v.cells)))
theorem get_at(s:List UInt8)(i:Nat)(h:i<s.length):((⟨s.toArray⟩:ByteArray).get! i)=s[i]:=by show(s.toArray)[i]! = s[i];simp[h]
theorem decode_lt{s:List UInt8}{i:Nat}{b:UInt8}(h:s[i]?=some b)(hb:b.toNat<128):Utf8.decode ⟨s.toArray⟩ i=(b.toNat,1):=by obtain⟨hi,he⟩:=List.getElem?_eq_some_iff.1 h;unfold Utf8.decode;simp only[Nat.add_zero,get_at s i hi,he];rw[if_pos hb]
theorem decode_ge{s:List UInt8}{i:Nat}{b:UInt8}(h:s[i]?=some b)(hb:128≤b.toNat):128≤(Utf8.decode ⟨s.toArray⟩ i).1:=by
 obtain⟨hi,he⟩:=List.getElem?_eq_some_iff.1 h;unfold Utf8.decode;simp only[Nat.add_zero,get_at s i hi,he];rw[if_neg (by omega)];have hr:Utf8.runeError=65533:=rfl;split
 ·split
  ·assumption
  ·rw[hr];decide
 ·split
  ·split
   ·rename_i hc;simp only[Bool.and_eq_true,decide_eq_true_eq]at hc;have:=hc.1;show 128≤_;omega
   ·rw[hr];decide
  ·split
   ·split
    ·rename_i hc;simp only[Bool.and_eq_true,decide_eq_true_eq]at hc;have:=hc.1;show 128≤_;omega
    ·rw[hr];decide
   ·rw[hr];decide
theorem cells_true:∀(S:List Sg) (cs:List UInt8),S.length=cs.length→(∀(i:Nat) (s:Sg) (c:UInt8),S[i]?=some s→cs[i]?=some c→(letters s.dir).contains c=true)→cellsOk S cs=true
 | [],[],_,_=>rfl
 | [],_::_,h,_=>by simp at h
 |_::_,[],h,_=>by simp at h
 |s::S,c::cs,h,hh=>by simp only[cellsOk,Bool.and_eq_true];exact⟨hh 0 s c rfl rfl,cells_true S cs (by simpa using h) λi s c h1 h2=>hh (i+1) s c h1 h2⟩
theorem cells_false:∀(S:List Sg) (cs:List UInt8) (i:Nat) (s:Sg) (c:UInt8),S[i]?=some s→cs[i]?=some c→(letters s.dir).contains c=false→cellsOk S cs=false
 | [],cs,i,s,c,h1,_,_=>by simp at h1
 |_::_,[],i,s,c,_,h2,_=>by simp at h2
 |s0::S,c0::cs,0,s,c,h1,h2,h3=>by cases h1;cases h2;simp only[cellsOk,h3,Bool.false_and]
 |s0::S,c0::cs,i+1,s,c,h1,h2,h3=>by simp only[cellsOk,cells_false S cs i s c h1 h2 h3,Bool.and_false]
theorem cells_len:∀(S:List Sg) (cs:List UInt8),cellsOk S cs=true→S.length=cs.length
 | [],[],_=>rfl
 | [],_::_,h=>by simp[cellsOk]at h
 |_::_,[],h=>by simp[cellsOk]at h
 |_::S,_::cs,h=>by simp only[cellsOk,Bool.and_eq_true]at h;simp[cells_len S cs h.2]
theorem ib_no(s:List UInt8)(c:UInt8)(h:s.contains c=false):Go.Lib.indexByte s c = -1:=by
 induction s with
 |nil=>rfl
 |cons b l ih=>rw[List.contains_cons,Bool.or_eq_false_iff]at h;have hb:(b==c)=false:=beq_eq_false_iff_ne.2 λe=>beq_eq_false_iff_ne.1 h.1 e.symm;unfold Go.Lib.indexByte;rw[hb,ih h.2];rfl
theorem ib_yes(s:List UInt8)(c:UInt8)(h:s.contains c=true):0≤Go.Lib.indexByte s c:=by
 induction s with
 |nil=>cases h
 |cons b l ih=>
  unfold Go.Lib.indexByte;split
  ·omega
  ·rename_i hb;have hl:l.contains c=true:=by
    rw[List.contains_cons,Bool.or_eq_true]at h;rcases h with h|h
    ·exact absurd (beq_iff_eq.2 (beq_iff_eq.1 h).symm) hb
    ·exact h
   have h0:=ih hl;have h1:(Go.Lib.indexByte l c == -1)=false:=beq_eq_false_iff_ne.2 (by omega);rw[if_neg (by rw[h1];decide)];omega
structure Ev3 where
 A:List (Int×Nat)
 t:Int
 c:Nat
def Ev3.put(e:Ev3)(x:Int)(k:Nat):Ev3:=if e.c=k then e else if e.t=x then⟨e.A,e.t,k⟩else⟨e.A++[(e.t,e.c)],x,k⟩
def Ev3.all(e:Ev3):List (Int×Nat):=e.A++[(e.t,e.c)]
theorem Ev3.put_len(e:Ev3)(x:Int)(k:Nat):(e.put x k).A.length≤e.A.length+1:=by
 unfold Ev3.put;split
 ·omega
 ·split<;>simp
def wvStep(T:List Tm)(i:Nat)(s:Ev3×Int)(v:Vc):Ev3×Int:=match T[v.t.toNat]?,v.cells[i]? with
 |some t,some c=>(if c.toNat=80 then((s.1.put (s.2+t.dr) 48).put (s.2+t.ri) 49).put (s.2+t.fa) 48 else s.1.put (s.2+t.dr) c.toNat,s.2+t.per)
 |_,_=>s
def wvS(T:List Tm)(i:Nat)(L:List Vc):Ev3×Int:=L.foldl (wvStep T i) (⟨[],0,88⟩,0)
structure VIn(ns nt:Nat)(v:Vc):Prop where
 t0:0≤v.t
 t1:v.t<nt
 cl:v.cells.length=ns
structure TIn(t:Tm):Prop where
 dr0:0≤t.dr
 ri:t.dr<t.ri
 fa:t.ri<t.fa
 per:t.fa<t.per
 top:t.per≤1000000
 st0:0≤t.st
 st1:t.st<t.per
theorem tIn_of{t:Tm}(h:tmOk t=true):TIn t:=by simp only[tmOk,Bool.and_eq_true,decide_eq_true_eq]at h;obtain⟨_,h1,h2,h3,h4,h5,h6,h7,h8⟩:=h;exact⟨h3,h4,h5,h6,h2,h7,h8⟩
theorem wvS_s(T:List Tm)(i:Nat)(L:List Vc){k:Nat}{v:Vc}(h:L[k]?=some v):wvS T i (L.take (k+1))=wvStep T i (wvS T i (L.take k)) v:=by unfold wvS;rw[List.take_add_one,h];simp
theorem wvS_bound(T:List Tm)(i:Nat)(hT:∀t∈T,TIn t):∀(L:List Vc) (s:Ev3×Int),0≤s.2→0≤(L.foldl (wvStep T i) s).2∧(L.foldl (wvStep T i) s).2≤s.2+1000000*L.length∧(L.foldl (wvStep T i) s).1.A.length≤s.1.A.length+3*L.length
 | [],s,h=>by simp;omega
 |v::L,s,h=>by
  have h1:0≤(wvStep T i s v).2∧(wvStep T i s v).2≤s.2+1000000∧(wvStep T i s v).1.A.length≤s.1.A.length+3:=by
   unfold wvStep;split
   ·rename_i t c h1 h2;have ht:=hT t (List.mem_of_getElem? h1);have:=ht.top;have:=ht.per;have:=ht.fa;have:=ht.ri;have:=ht.dr0;refine⟨by simp only;omega,by simp only;omega,?_⟩;simp only;split
    ·have a1:=Ev3.put_len s.1 (s.2+t.dr) 48;have a2:=Ev3.put_len (s.1.put (s.2+t.dr) 48) (s.2+t.ri) 49;have a3:=Ev3.put_len ((s.1.put (s.2+t.dr) 48).put (s.2+t.ri) 49) (s.2+t.fa) 48;omega
    ·have a1:=Ev3.put_len s.1 (s.2+t.dr) c.toNat;omega
   ·omega
  obtain⟨k1,k2,k3⟩:=wvS_bound T i hT L (wvStep T i s v) h1.1;simp only[List.foldl_cons,List.length_cons];omega
def stStep(T:List Tm)(i:Nat)(s:List (Int×Nat)×Int)(v:Vc):List (Int×Nat)×Int:=match T[v.t.toNat]?,v.cells[i]? with
 |some t,some c=>(if c.toNat=88 then s.1 else s.1++[(s.2+t.st,c.toNat)],s.2+t.per)
 |_,_=>s
def stS(T:List Tm)(i:Nat)(L:List Vc):List (Int×Nat)×Int:=L.foldl (stStep T i) ([],0)
theorem stS_s(T:List Tm)(i:Nat)(L:List Vc){k:Nat}{v:Vc}(h:L[k]?=some v):stS T i (L.take (k+1))=stStep T i (stS T i (L.take k)) v:=by unfold stS;rw[List.take_add_one,h];simp
theorem stS_bound(T:List Tm)(i:Nat)(hT:∀t∈T,TIn t):∀(L:List Vc) (s:List (Int×Nat)×Int),0≤s.2→0≤(L.foldl (stStep T i) s).2∧(L.foldl (stStep T i) s).2≤s.2+1000000*L.length∧(L.foldl (stStep T i) s).1.length≤s.1.length+L.length
 | [],s,h=>by simp;omega
 |v::L,s,h=>by
  have h1:0≤(stStep T i s v).2∧(stStep T i s v).2≤s.2+1000000∧(stStep T i s v).1.length≤s.1.length+1:=by
   unfold stStep;split
   ·rename_i t c h1 h2;have ht:=hT t (List.mem_of_getElem? h1);have:=ht.top;have:=ht.per;have:=ht.fa;have:=ht.ri;have:=ht.dr0;refine⟨by simp only;omega,by simp only;omega,?_⟩;simp only;split<;>simp
   ·omega
  obtain⟨k1,k2,k3⟩:=stS_bound T i hT L (stStep T i s v) h1.1;simp only[List.foldl_cons,List.length_cons];omega
end Go.Pc
/- What a program drives, as plain data. -/
namespace Go.Pc
def drStep(T:List Tm)(i:Nat)(x:Int)(s:Nat×Int)(v:Vc):Nat×Int:=match T[v.t.toNat]?,v.cells[i]? with
 |some t,some c=>(if s.2+t.dr≤x then(if c.toNat=80 then(if s.2+t.ri≤x∧x<s.2+t.fa then 49 else 48)else c.toNat)else s.1,s.2+t.per)
 |_,_=>s
def drS(T:List Tm)(i:Nat)(x:Int)(L:List Vc):Nat×Int:=L.foldl (drStep T i x) (88,0)
theorem drS_s(T:List Tm)(i:Nat)(x:Int)(L:List Vc){k:Nat}{v:Vc}(h:L[k]?=some v):drS T i x (L.take (k+1))=drStep T i x (drS T i x (L.take k)) v:=by unfold drS;rw[List.take_add_one,h];simp
theorem drS_bound(T:List Tm)(i:Nat)(x:Int)(hT:∀t∈T,TIn t):∀(L:List Vc) (s:Nat×Int),0≤s.2→0≤(L.foldl (drStep T i x) s).2∧(L.foldl (drStep T i x) s).2≤s.2+1000000*L.length
 | [],s,h=>by simp;omega
 |v::L,s,h=>by
  have h1:0≤(drStep T i x s v).2∧(drStep T i x s v).2≤s.2+1000000:=by
   unfold drStep;split
   ·rename_i t c h1 h2;have ht:=hT t (List.mem_of_getElem? h1);have:=ht.top;have:=ht.per;have:=ht.fa;have:=ht.ri;have:=ht.dr0;exact⟨by simp only;omega,by simp only;omega⟩
   ·omega
  obtain⟨k1,k2⟩:=drS_bound T i x hT L (drStep T i x s v) h1.1;simp only[List.foldl_cons,List.length_cons];omega
structure EvOk(E:List (Int×Nat))(fin:Int)(val:Int→Nat):Prop where
 ne:0<E.length
 first:∀a:Int×Nat,E[0]?=some a→a.1=0
 asc:∀(j k:Nat) (a b:Int×Nat),j<k→E[j]?=some a→E[k]?=some b→a.1<b.1
 diff:∀(j:Nat) (a b:Int×Nat),E[j]?=some a→E[j+1]?=some b→b.2≠a.2
 top:∀(j:Nat) (a:Int×Nat),E[j]?=some a→a.1≤fin
 val:∀(x:Int) (j:Nat) (a:Int×Nat),0≤x→E[j]?=some a→a.1≤x→(∀(k:Nat) (b:Int×Nat),j<k→E[k]?=some b→x<b.1)→a.2=val x
theorem stF_pre(T:List Tm)(i:Nat):∀(L:List Vc) (s:List (Int×Nat)×Int),∃R,(L.foldl (stStep T i) s).1=s.1++R
 | [],s=>⟨[],by simp⟩
 |v::L,s=>by
  obtain⟨R,hR⟩:=stF_pre T i L (stStep T i s v);have h1:∃R0,(stStep T i s v).1=s.1++R0:=by
   unfold stStep;split
   ·simp only;split
    ·exact⟨[],by simp⟩
    ·exact⟨_,rfl⟩
   ·exact⟨[],by simp⟩
  obtain⟨R0,h1⟩:=h1;exact⟨R0++R,by rw[List.foldl_cons,hR,h1,List.append_assoc]⟩
theorem stS_pre(T:List Tm)(i:Nat)(W:List Vc)(k:Nat):∃R,(stS T i W).1=(stS T i (W.take k)).1++R:=by
 have h:=stF_pre T i (W.drop k) (stS T i (W.take k));obtain⟨R,h⟩:=h;refine⟨R,?_⟩;rw[←h]
 conv=>lhs;rw[←List.take_append_drop k W]
 unfold stS;rw[List.foldl_append]
end Go.Pc
/- The events of a wave tell what the program drives. -/
namespace Go.Pc
def vAt(E:List (Int×Nat))(x:Int):Nat:=E.foldl (λu a=>if a.1≤x then a.2 else u) 88
theorem vAt_snoc(A:List (Int×Nat))(a:Int×Nat)(x:Int):vAt (A++[a]) x=if a.1≤x then a.2 else vAt A x:=by unfold vAt;rw[List.foldl_append];rfl
theorem vAt_late(x:Int):∀(B:List (Int×Nat)) (u:Nat),(∀b∈B,x<b.1)→B.foldl (λu a=>if a.1≤x then a.2 else u) u=u
 | [],_,_=>rfl
 |b::B,u,h=>by have:=h b (by simp);rw[List.foldl_cons,if_neg (by omega)];exact vAt_late x B u λc hc=>h c (by simp[hc])
theorem vAt_get{E:List (Int×Nat)}{x:Int}{j:Nat}{a:Int×Nat}(h:E[j]?=some a)(ha:a.1≤x)(hl:∀(k:Nat) (b:Int×Nat),j<k→E[k]?=some b→x<b.1):vAt E x=a.2:=by
 have e:E=(E.take j++[a])++E.drop (j+1):=by
  conv=>lhs;rw[←List.take_append_drop (j+1) E]
  rw[List.take_add_one,h];rfl
 have h1:vAt E x=vAt (E.take j++[a]) x:=by
  conv=>lhs;rw[e]
  unfold vAt;rw[List.foldl_append];refine vAt_late x _ _ ?_;intro b hb;obtain⟨k,hk⟩:=List.mem_iff_getElem?.1 hb;rw[List.getElem?_drop]at hk;exact hl _ b (by omega) hk
 rw[h1,vAt_snoc,if_pos ha]
structure EvI(e:Ev3):Prop where
 first:∀a:Int×Nat,e.all[0]?=some a→a.1=0
 asc:e.all.Pairwise λa b=>a.1<b.1
 diff:∀(j:Nat) (a b:Int×Nat),e.all[j]?=some a→e.all[j+1]?=some b→b.2≠a.2
theorem EvI.low{e:Ev3}(h:EvI e):0≤e.t:=by
 cases hA:e.A with
 |nil=>have:=h.first (e.t,e.c) (by simp[Ev3.all,hA]);simp only at this;omega
 |cons a r=>have h1:=h.first a (by simp[Ev3.all,hA]);have h2:=h.asc;simp only[Ev3.all,hA,List.cons_append,List.pairwise_cons]at h2;have:=h2.1 (e.t,e.c) (by simp);simp only at this;omega
theorem put_ok{e:Ev3}(h:EvI e){x0:Int}(k:Nat)(hx:e.t<x0∨e.t=x0∧e.A=[]):EvI (e.put x0 k)∧(e.put x0 k).t≤x0∧∀x,0≤x→vAt (e.put x0 k).all x=if x0≤x then k else vAt e.all x:=by
 have hlow:=h.low;by_cases hc:e.c=k
 ·have hp:e.put x0 k=e:=by simp[Ev3.put,hc]
  rw[hp];refine⟨h,by omega,λx _=>?_⟩;by_cases hxx:x0≤x
  ·rw[if_pos hxx];unfold Ev3.all;rw[vAt_snoc,if_pos (by simp only;omega)];exact hc
  ·rw[if_neg hxx]
 ·by_cases ht:e.t=x0
  ·have hA:e.A=[]:=by rcases hx with h|h;omega;exact h.2
   have hp:e.put x0 k=⟨e.A,e.t,k⟩:=by simp[Ev3.put,hc,ht]
   have h0:=h.first (e.t,e.c) (by simp[Ev3.all,hA]);simp only at h0;rw[hp];refine⟨⟨λa ha=>?_,?_,λj a b _ hb=>?_⟩,by simp only;omega,λx hx0=>?_⟩
   ·simp[Ev3.all,hA]at ha;rw[←ha];exact h0
   ·simp[Ev3.all,hA]
   ·simp[Ev3.all,hA]at hb
   ·rw[if_pos (by omega)];unfold Ev3.all;rw[vAt_snoc,if_pos (by simp only;omega)]
  ·have hp:e.put x0 k=⟨e.A++[(e.t,e.c)],x0,k⟩:=by simp[Ev3.put,hc,ht]
   have hlt:e.t<x0:=by rcases hx with h|h;exact h;exact absurd h.1 ht
   have hal:(⟨e.A++[(e.t,e.c)],x0,k⟩:Ev3).all=e.all++[(x0,k)]:=rfl;have hpos:0<e.all.length:=by simp[Ev3.all]
   have hlast:∀a∈e.all,a.1≤e.t:=by
    intro a ha;have h2:=h.asc;simp only[Ev3.all,List.mem_append,List.mem_singleton]at ha;rcases ha with ha|rfl
    ·simp only[Ev3.all,List.pairwise_append]at h2;have:=h2.2.2 a ha (e.t,e.c) (by simp);simp only at this;omega
    ·exact Int.le_refl _
   rw[hp,hal];refine⟨⟨λa ha=>?_,?_,λj a b ha hb=>?_⟩,Int.le_refl _,λx _=>?_⟩
   ·rw[hal,List.getElem?_append_left hpos]at ha;exact h.first a ha
   ·rw[hal,List.pairwise_append];refine⟨h.asc,by simp,λa ha b hb=>?_⟩;simp only[List.mem_singleton]at hb;subst hb;have:=hlast a ha;simp only;omega
   ·rw[hal]at ha hb;by_cases hj:j+1<e.all.length
    ·rw[List.getElem?_append_left (by omega)]at ha hb;exact h.diff j a b ha hb
    ·have hj2:=(List.getElem?_eq_some_iff.1 hb).1;simp only[List.length_append,List.length_cons,List.length_nil]at hj2;have hje:j+1=e.all.length:=by omega
     rw[List.getElem?_append_right (by omega),hje,Nat.sub_self]at hb;rw[List.getElem?_append_left (by omega)]at ha;cases hb;have hl:e.all.length=e.A.length+1:=by simp[Ev3.all]
     have hjA:j=e.A.length:=by omega
     rw[hjA]at ha;simp only[Ev3.all,List.getElem?_append_right (Nat.le_refl _),Nat.sub_self]at ha;cases ha;exact λh=>hc h.symm
   ·rw[vAt_snoc]
structure WvI(s:Ev3×Int)(f:Int→Nat×Int):Prop where
 ev:EvI s.1
 now:s.1.t<s.2∨s.1.t=0∧s.2=0∧s.1.A=[]
 dr:∀x,(f x).2=s.2
 val:∀x,0≤x→vAt s.1.all x=(f x).1
theorem wvI_step(T:List Tm)(i:Nat)(hT:∀t∈T,TIn t){s:Ev3×Int}{f:Int→Nat×Int}(h:WvI s f)(v:Vc):WvI (wvStep T i s v) (λx=>drStep T i x (f x) v):=by
 obtain⟨e,now⟩:=s;have hnow:=h.now;simp only at hnow;unfold wvStep drStep;cases ht:T[v.t.toNat]? with
 |none=>exact h
 |some t=>
  cases hc:v.cells[i]? with
  |none=>exact h
  |some c=>
   have hti:=hT t (List.mem_of_getElem? ht);have i1:=hti.dr0;have i2:=hti.ri;have i3:=hti.fa;have i4:=hti.per;simp only;have hx0:e.t<now+t.dr∨e.t=now+t.dr∧e.A=[]:=by
    rcases hnow with hn|⟨a1,a2,a3⟩
    ·left;omega
    ·by_cases h0:t.dr=0
     ·right;exact⟨by omega,a3⟩
     ·left;omega
   obtain⟨p1,p2,p3⟩:=put_ok (e:=e) (k:=if c.toNat=80 then 48 else c.toNat) h.ev hx0;by_cases hP:c.toNat=80
   ·rw[if_pos hP]at p1 p2 p3⊢;obtain⟨q1,q2,q3⟩:=put_ok (k:=49) p1 (x0:=now+t.ri) (.inl (by omega));obtain⟨r1,r2,r3⟩:=put_ok (k:=48) q1 (x0:=now+t.fa) (.inl (by omega));refine⟨r1,.inl (by simp only;omega),λx=>by simp only[h.dr x],λx hx=>?_⟩;simp only[h.dr x,if_pos hP];rw[r3 x hx,q3 x hx,p3 x hx,h.val x hx];by_cases g1:now+t.dr≤x
    ·rw[if_pos g1,if_pos g1];by_cases g2:now+t.ri≤x
     ·by_cases g3:now+t.fa≤x
      ·rw[if_pos g3,if_neg (by omega)]
      ·rw[if_neg g3,if_pos g2,if_pos ⟨g2,by omega⟩]
     ·rw[if_neg (by omega),if_neg g2,if_neg (by omega)]
    ·rw[if_neg (by omega),if_neg (by omega),if_neg g1,if_neg g1]
   ·rw[if_neg hP]at p1 p2 p3⊢;refine⟨p1,.inl (by simp only;omega),λx=>by simp only[h.dr x],λx hx=>?_⟩;simp only[h.dr x,if_neg hP];rw[p3 x hx,h.val x hx]
theorem wvI_fold(T:List Tm)(i:Nat)(hT:∀t∈T,TIn t):∀(W:List Vc) (s:Ev3×Int) (f:Int→Nat×Int),WvI s f→WvI (W.foldl (wvStep T i) s) (λx=>W.foldl (drStep T i x) (f x))
 | [],_,_,h=>h
 |v::W,s,f,h=>wvI_fold T i hT W _ _ (wvI_step T i hT h v)
theorem evOk_wv(T:List Tm)(i:Nat)(hT:∀t∈T,TIn t)(W:List Vc):EvOk (wvS T i W).1.all (wvS T i W).2 (λx=>(drS T i x W).1):=by
 have h:WvI (wvS T i W) (λx=>drS T i x W):=wvI_fold T i hT W (⟨[],0,88⟩,0) (λ_=>(88,0)) ⟨⟨λa ha=>by simp[Ev3.all]at ha;rw[←ha],by simp[Ev3.all],λj a b _ hb=>by simp[Ev3.all]at hb⟩,.inr ⟨rfl,rfl,rfl⟩,λ_=>rfl,λx hx=>by simp[vAt,Ev3.all]⟩;generalize wvS T i W=s at h;obtain⟨e,now⟩:=s;have hpw:=h.ev.asc;refine⟨by simp[Ev3.all],h.ev.first,λj k a b hjk ha hb=>?_,h.ev.diff,λj a ha=>?_,λx j a hx ha hax hl=>?_⟩
 ·obtain⟨l1,e1⟩:=List.getElem?_eq_some_iff.1 ha;obtain⟨l2,e2⟩:=List.getElem?_eq_some_iff.1 hb;have:=List.pairwise_iff_getElem.1 hpw j k l1 l2 hjk;rw[e1,e2]at this;exact this
 ·have hm:=List.mem_of_getElem? ha;have hn:=h.now;simp only at hn;have:a.1≤e.t:=by
   simp only[Ev3.all,List.mem_append,List.mem_singleton]at hm;rcases hm with hm|rfl
   ·simp only[Ev3.all,List.pairwise_append]at hpw;have:=hpw.2.2 a hm (e.t,e.c) (by simp);simp only at this;omega
   ·exact Int.le_refl _
  simp only;omega
 ·rw[←h.val x hx];exact(vAt_get ha hax hl).symm
end Go.Pc
