/- PcSrt: an array of numbers as rows. -/
import Derived.Test.YtbmkmaobejlkgaaGreatDoorAxD
import Derived.Sort.AssemblyPlain
import Derived.Lib.SlicesMore
set_option linter.unusedSimpArgs false
set_option linter.unusedVariables false
namespace Go.Pc
open Go.Ax Go.Sort
def rwA(d:Array Int):List (List AV):=d.toList.map λx=>[AV.int .i64 x]
theorem a15(d:Array Int):(rwA d).length=d.size:=by simp[rwA]
theorem a0c{d:Array Int}{rest:List (List AV)}{i:Nat}(h:i<d.size):(rwA d++rest)[i]?=some [AV.int .i64 d[i]!]:=by rw[List.getElem?_append_left (by rw[a15];exact h)];unfold rwA;rw[List.getElem?_map,Array.getElem?_toList,Array.getElem?_eq_getElem h,getElem!_pos d i h];rfl
theorem c0s{d:Array Int}{rest:List (List AV)}{i:Nat}{x:Int}(h:i<d.size):(rwA d++rest).set i [AV.int .i64 x]=rwA (d.setIfInBounds i x)++rest:=by rw[List.set_append_left _ _ (by rw[a15];exact h)];unfold rwA;rw[Array.toList_setIfInBounds,List.map_set]
theorem swp_size(d:Array Int)(i j:Nat):(swp d i j).size=d.size:=by simp[swp]
theorem a1z{d:Array Int}{rest:List (List AV)}{i j:Nat}(hi:i<d.size)(hj:j<d.size):((rwA d++rest).set i [AV.int .i64 d[j]!]).set j [AV.int .i64 d[i]!]=rwA (swp d i j)++rest:=by rw[c0s hi,c0s (by simpa using hj)];rfl
theorem d03(d:Array Int):FlatR (rwA d):=FlatR.map λ_=>rfl
theorem a06{d:Array Int}{rest:List (List AV)}(h:FlatR rest):FlatR (rwA d++rest):=by
 intro r hr;rcases List.mem_append.1 hr with h'|h'
 ·exact d03 d r h'
 ·exact h r h'
theorem b5c(a j:Nat)(d:Array Int):insInner ltInt a (j+1) d=if j+1>a&&ltInt d[j+1]! d[j]! then insInner ltInt a j (swp d (j+1) j)else d:=by rfl
theorem b5b(a b i:Nat)(d:Array Int):insOuter ltInt a b i d=if i<b then insOuter ltInt a b (i+1) (insInner ltInt a i d)else d:=by conv=>lhs;unfold insOuter
theorem a1e{d:Array Int}{rest:List (List AV)}{i j:Nat}{x:Int}(hi:i<d.size)(hj:j<d.size):∃y,((rwA d++rest).set i [AV.int .i64 x])[j]?=some [AV.int .i64 y]:=by rw[c0s hi];exact⟨_,a0c (by simpa using hj)⟩
theorem a9m(hi f r:Nat)(d:Array Int):siftDown ltInt hi f r d=if 2*r+1≥hi then d else
 if 2*r+1+1<hi&&ltInt d[f+(2*r+1)]! d[f+(2*r+1)+1]! then
  (if !ltInt d[f+r]! d[f+(2*r+2)]! then d else if 2*r+2<hi then siftDown ltInt hi f (2*r+2) (swp d (f+r) (f+(2*r+2)))else d)
 else(if !ltInt d[f+r]! d[f+(2*r+1)]! then d else siftDown ltInt hi f (2*r+1) (swp d (f+r) (f+(2*r+1)))):=by
 conv=>lhs;unfold siftDown
 simp only[dite_eq_ite]
theorem a7f(p:Int→Bool)(d:Array Int)(j i:Nat):scanUp p d j i=if i≤j&&p d[i]! then scanUp p d j (i+1)else i:=by conv=>lhs;unfold scanUp
theorem a4m(p:Int→Bool)(d:Array Int)(i j:Nat):scanDown p d i (j+1)=if i≤j+1&&p d[j+1]! then scanDown p d i j else j+1:=rfl
theorem c4b(a i j:Nat)(d:Array Int):partLoop ltInt a i j d=if scanUp (λx=>ltInt x d[a]!) d j i>scanDown (λx=>!ltInt x d[a]!) d (scanUp (λx=>ltInt x d[a]!) d j i) j then(scanDown (λx=>!ltInt x d[a]!) d (scanUp (λx=>ltInt x d[a]!) d j i) j,d)else
 if scanDown (λx=>!ltInt x d[a]!) d (scanUp (λx=>ltInt x d[a]!) d j i) j-1+1-(scanUp (λx=>ltInt x d[a]!) d j i+1)<j+1-i then partLoop ltInt a (scanUp (λx=>ltInt x d[a]!) d j i+1) (scanDown (λx=>!ltInt x d[a]!) d (scanUp (λx=>ltInt x d[a]!) d j i) j-1) (swp d (scanUp (λx=>ltInt x d[a]!) d j i) (scanDown (λx=>!ltInt x d[a]!) d (scanUp (λx=>ltInt x d[a]!) d j i) j))else(scanDown (λx=>!ltInt x d[a]!) d (scanUp (λx=>ltInt x d[a]!) d j i) j,d):=by
 conv=>lhs;unfold partLoop
 simp only[dite_eq_ite]
end Go.Pc
/- PcPck: selections of tests: what remains uncovered. Plain. -/
namespace Go.Pc
def a1d(a b:List Nat):Bool:=a.any λx=>b.contains x
def unc(r acc:List Nat):Bool:=!r.isEmpty && !a1d r acc
def a4g(tb:List (List Nat))(l:List Nat):Bool:=tb.all λr=>!unc r l
def b44(m:Nat)(p:Nat→Bool):List Int:=((List.range m).filter p).map λ(i:Nat)=>(i:Int)
theorem b1m{m:Nat}{p:Nat→Bool}{z:Int}:z∈b44 m p↔∃i:Nat,z=i∧i<m∧p i=true:=by
 unfold b44;simp only[List.mem_map,List.mem_filter,List.mem_range];constructor
 ·rintro⟨i,⟨h1,h2⟩,rfl⟩;exact⟨i,rfl,h1,h2⟩
 ·rintro⟨i,rfl,h1,h2⟩;exact⟨i,⟨h1,h2⟩,rfl⟩
theorem b31{m:Nat}{p:Nat→Bool}{i:Nat}:(i:Int)∈b44 m p↔i<m∧p i=true:=by
 rw[b1m];constructor
 ·rintro⟨j,h,h1,h2⟩;have:i=j:=by omega
  subst this;exact⟨h1,h2⟩
 ·rintro⟨h1,h2⟩;exact⟨i,rfl,h1,h2⟩
theorem b04{m:Nat}{p q:Nat→Bool}(h:∀i,i<m→p i=q i):b44 m p=b44 m q:=by
 unfold b44
 congr 1
 exact List.filter_congr λi hi=>h i (List.mem_range.1 hi)
theorem c1b{m:Nat}{p q:Nat→Bool}{f:Int→Bool}(h:∀i:Nat,i<m→p i=true→f i=q i):(b44 m p).filter f=b44 m λi=>p i&&q i:=by
 unfold b44;rw[List.filter_map,List.filter_filter]
 congr 1
 refine List.filter_congr λi hi=>?_;have hm:=List.mem_range.1 hi;simp only[Function.comp];cases hp:p i with
 |false=>simp
 |true=>simp[h i hm hp]
theorem b03(m:Nat)(p:Nat→Bool):(b44 m p).Nodup:=by unfold b44;refine List.Pairwise.map _ (λa b hab e=>hab (by omega)) (List.nodup_range.filter _)
theorem b30(m:Nat)(p:Nat→Bool):b44 (m+1) p=b44 m p++if p m then[(m:Int)]else[]:=by
 unfold b44;rw[List.range_succ,List.filter_append,List.map_append]
 congr 1
 cases h:p m<;>simp[h]
theorem c2z(m:Nat)(p:Nat→Bool):(b44 m p).length≤m:=by unfold b44;rw[List.length_map];exact Nat.le_trans (List.length_filter_le _ _) (by simp)
def a1j(tb:List (List Nat))(i:Nat):List Nat:=tb.getD i []
def a4o(tb:List (List Nat))(acc:List Nat):List Int:=b44 tb.length λi=>unc (a1j tb i) acc
def c0g(tb:List (List Nat))(t:Nat):List Int:=b44 tb.length λi=>(a1j tb i).contains t
theorem a34{a b:List Nat}:a1d a b=true↔∃x∈a,x∈b:=by unfold a1d;simp only[List.any_eq_true,List.contains_iff_mem]
theorem b55(r acc:List Nat)(t:Nat):a1d r (acc++[t])=(a1d r acc||r.contains t):=by
 rw[Bool.eq_iff_iff,Bool.or_eq_true,a34,a34,List.contains_iff_mem];constructor
 ·rintro⟨x,h1,h2⟩
  rcases List.mem_append.1 h2 with h2|h2
  ·exact .inl ⟨x,h1,h2⟩
  ·rw[List.mem_singleton]at h2;subst h2;exact .inr h1
 ·rintro(⟨x,h1,h2⟩|h)
  ·exact⟨x,h1,List.mem_append_left _ h2⟩
  ·exact⟨t,h,by simp⟩
theorem b56(r acc:List Nat)(t:Nat):a1d r (t::acc)=(a1d r acc||r.contains t):=by
 rw[Bool.eq_iff_iff,Bool.or_eq_true,a34,a34,List.contains_iff_mem];constructor
 ·rintro⟨x,h1,h2⟩
  rcases List.mem_cons.1 h2 with rfl|h2
  ·exact .inr h1
  ·exact .inl ⟨x,h1,h2⟩
 ·rintro(⟨x,h1,h2⟩|h)
  ·exact⟨x,h1,List.mem_cons_of_mem _ h2⟩
  ·exact⟨t,h,by simp⟩
theorem d32{r acc acc':List Nat}{t:Nat}(h:a1d r acc'=(a1d r acc||r.contains t)):unc r acc'=(unc r acc && !r.contains t):=by unfold unc;rw[h];cases r.isEmpty<;>cases a1d r acc<;>cases r.contains t<;>rfl
theorem b2t{tb:List (List Nat)}{acc acc':List Nat}{t:Nat}(h:∀r,a1d r acc'=(a1d r acc||r.contains t)):(a4o tb acc).filter (λy=>!(c0g tb t).contains y)=a4o tb acc':=by
 unfold a4o;rw[c1b (q:=λi=>!(a1j tb i).contains t) (λi hi _=>by
  have:(c0g tb t).contains (i:Int)=(a1j tb i).contains t:=by rw[Bool.eq_iff_iff,List.contains_iff_mem];unfold c0g;rw[b31];exact⟨λh=>h.2,λh=>⟨hi,h⟩⟩
  rw[this])]
 exact b04 λi _=>(d32 (h _)).symm
def a74(tb:List (List Nat))(acc:List Nat)(t:Nat):Nat:=(c0g tb t).countP λy=>(a4o tb acc).contains y
theorem c1c(tb:List (List Nat))(acc:List Nat)(t:Nat):a74 tb acc t=(List.range tb.length).countP λi=>(a1j tb i).contains t&&unc (a1j tb i) acc:=by unfold a74 c0g b44;rw[List.countP_map,List.countP_filter];refine List.countP_congr λi hi=>?_;have hm:=List.mem_range.1 hi;simp only[Function.comp,Bool.and_eq_true,List.contains_iff_mem];unfold a4o;rw[b31];simp only[List.contains_iff_mem,hm,true_and];exact and_comm
theorem a6q{r acc:List Nat}{t:Nat}(h:r.contains t=true):unc r acc = !a1d r acc:=by
 unfold unc;cases r with
 |nil=>simp at h
 |cons=>rfl
theorem b71(tb:List (List Nat))(acc:List Nat)(t:Nat):0<a74 tb acc t↔(tb.any λr=>r.contains t && !a1d r acc)=true:=by
 rw[c1c,List.countP_pos_iff,List.any_eq_true];constructor
 ·rintro⟨i,hi,h⟩
  have hm:=List.mem_range.1 hi;simp only[Bool.and_eq_true]at h;have hr:a1j tb i=tb[i]:=by unfold a1j;rw[List.getD_eq_getElem?_getD,List.getElem?_eq_getElem hm];rfl
  rw[hr]at h;refine⟨tb[i],List.getElem_mem hm,?_⟩;rw[←a6q h.1,h.1,h.2];rfl
 ·rintro⟨r,hr,h⟩
  obtain⟨i,hi,rfl⟩:=List.getElem_of_mem hr;simp only[Bool.and_eq_true]at h;refine⟨i,List.mem_range.2 hi,?_⟩;have hr:a1j tb i=tb[i]:=by unfold a1j;rw[List.getD_eq_getElem?_getD,List.getElem?_eq_getElem hi];rfl
  rw[hr,a6q h.1,h.1,h.2];rfl
theorem b8q(tb:List (List Nat))(acc:List Nat):(a4o tb acc).length=0↔a4g tb acc=true:=by
 unfold a4g;rw[List.length_eq_zero_iff,List.all_eq_true,List.eq_nil_iff_forall_not_mem];constructor
 ·intro h r hr;obtain⟨i,hi,rfl⟩:=List.getElem_of_mem hr;have h1:=h (i:Int);unfold a4o at h1;rw[b31]at h1;have hr:a1j tb i=tb[i]:=by unfold a1j;rw[List.getD_eq_getElem?_getD,List.getElem?_eq_getElem hi];rfl
  rw[hr]at h1;cases hu:unc tb[i] acc with
  |false=>rfl
  |true=>exact absurd ⟨hi,hu⟩ h1
 ·intro h z hz;unfold a4o at hz;obtain⟨i,rfl,hi,hu⟩:=b1m.1 hz;have hr:a1j tb i=tb[i]:=by unfold a1j;rw[List.getD_eq_getElem?_getD,List.getElem?_eq_getElem hi];rfl
  rw[hr]at hu;have:=h _ (List.getElem_mem hi);rw[hu]at this;cases this
def later(tb:List (List Nat)):Nat→List Nat→List Nat
 |0,acc=>acc
 |t+1,acc=>later tb t (if 0<a74 tb acc t then t::acc else acc)
theorem c70{tb:List (List Nat)}{acc:List Nat}{t:Nat}(h:a74 tb acc t=0):a4o tb (t::acc)=a4o tb acc:=by
 unfold a4o;refine b04 λi hi=>?_;rw[d32 (b56 _ _ _)];rw[c1c,List.countP_eq_zero]at h;have:=h i (List.mem_range.2 hi);simp only[Bool.and_eq_true,not_and,Bool.not_eq_true]at this;cases hc:(a1j tb i).contains t with
 |false=>simp
 |true=>rw[this hc];rfl
def a1n(tb:List (List Nat))(acc:List Nat):Nat→Nat×Nat
 |0=>(0,0)
 |t+1=>if(a1n tb acc t).2<a74 tb acc t then(t,a74 tb acc t)else a1n tb acc t
theorem c33(tb:List (List Nat))(acc:List Nat):∀n t,t<n→a74 tb acc t≤(a1n tb acc n).2
 |0,t,h=>by omega
 |n+1,t,h=>by
  simp only[a1n];rcases Nat.lt_succ_iff_lt_or_eq.1 h with h1|rfl
  ·have:=c33 tb acc n t h1;split<;>(try simp only)<;>omega
  ·split<;>(try simp only)<;>omega
theorem c34(tb:List (List Nat))(acc:List Nat):∀n,(a1n tb acc n=(0,0))∨((a1n tb acc n).1<n∧a74 tb acc (a1n tb acc n).1=(a1n tb acc n).2∧0<(a1n tb acc n).2)
 |0=>.inl rfl
 |n+1=>by
  simp only[a1n];split
  ·rename_i h;exact .inr ⟨Nat.lt_succ_self n,rfl,by simp only;omega⟩
  ·rcases c34 tb acc n with h|⟨h1,h2,h3⟩
   ·exact .inl h
   ·exact .inr ⟨by omega,h2,h3⟩
theorem a7n{tb:List (List Nat)}{n:Nat}(htb:∀r∈tb,∀t∈r,t<n){acc:List Nat}(h:a4g tb acc=false) :
 (a1n tb acc n).1<n∧(a4o tb (acc++[(a1n tb acc n).1])).length<(a4o tb acc).length:=by
 have hpos:0<(a1n tb acc n).2:=by
  unfold a4g at h;have h:=List.all_eq_false.1 h;obtain⟨r,hr,hu⟩:=h;simp only[Bool.not_eq_true',Bool.not_eq_false]at hu;have hu2:=hu;unfold unc at hu;simp only[Bool.and_eq_true,Bool.not_eq_true']at hu;cases r with
  |nil=>cases hu.1
  |cons t r=>have htn:=htb _ hr t (by simp);have h1:=c33 tb acc n t htn;have h2:0<a74 tb acc t:=(b71 tb acc t).2 (List.any_eq_true.2 ⟨_,hr,by rw[hu.2];simp⟩);omega
 rcases c34 tb acc n with h1|⟨h1,h2,h3⟩
 ·rw[h1]at hpos;cases hpos
 ·refine⟨h1,?_⟩;rw[←b2t (t:=(a1n tb acc n).1) λr=>b55 r acc _];have h4:0<a74 tb acc (a1n tb acc n).1:=by omega
  unfold a74 at h4;obtain⟨y,hy1,hy2⟩:=List.countP_pos_iff.1 h4;have hy2:y∈a4o tb acc:=by simpa using hy2
  exact List.length_filter_lt_length_iff_exists.2 ⟨y,hy2,by simp[hy1]⟩
end Go.Pc
/- PcCir: circuits as d5l data: nodes, how they are laid in cells; the small circuits of the statements. Plain definitions. -/
namespace Go.Pc
open Go.Ax
def a12(n:Nat):List AV:=[.int .i64 n]
def u8R(n:Nat):List AV:=[.int .u8 n]
attribute [go_sem] a12 u8R List.length_map List.getElem?_map
end Go.Pc
/- PcSel: the steps of the greedy selection; arrays of numbers reversed. Plain. -/
namespace Go.Pc
open Go.Sort
def b48(tb:List (List Nat))(n:Nat):Nat→List Nat
 |0=>[]
 |k+1=>b48 tb n k++[(a1n tb (b48 tb n k) n).1]
theorem b6z(tb:List (List Nat))(n k:Nat):(b48 tb n k).length=k:=by
 induction k with
 |zero=>rfl
 |succ k ih=>simp only[b48,List.length_append,List.length_singleton,ih]
def GSel(tb:List (List Nat))(n:Nat)(l:List Nat):Prop:=∃k,l=b48 tb n k∧a4g tb l=true∧∀j,j<k→a4g tb (b48 tb n j)=false
theorem GSel.uniq{tb:List (List Nat)}{n:Nat}{a b:List Nat}(ha:GSel tb n a)(hb:GSel tb n b):a=b:=by
 obtain⟨k,rfl,h1,h2⟩:=ha;obtain⟨j,rfl,h3,h4⟩:=hb;have:k=j:=by
  rcases Nat.lt_trichotomy k j with h|h|h
  ·rw[h4 k h]at h1;cases h1
  ·exact h
  ·rw[h2 j h]at h3;cases h3
 subst this;rfl
theorem c7i{tb:List (List Nat)}{n:Nat}(htb:∀r∈tb,∀t∈r,t<n):∀k,(∀j,j<k→a4g tb (b48 tb n j)=false)→∀t∈b48 tb n k,t<n
 |0,_,t,h=>by cases h
 |k+1,hk,t,h=>by
  simp only[b48,List.mem_append,List.mem_singleton]at h;rcases h with h|rfl
  ·exact c7i htb k (λj hj=>hk j (by omega)) t h
  ·exact(a7n htb (hk k (by omega))).1
theorem a5s{tb:List (List Nat)}{n:Nat}(htb:∀r∈tb,∀t∈r,t<n):∀k,(∀j,j<k→a4g tb (b48 tb n j)=false)→(a4o tb (b48 tb n k)).length+k≤tb.length
 |0,_=>by simp only[b48,Nat.add_zero];exact c2z _ _
 |k+1,hk=>by have h1:=a5s htb k (λj hj=>hk j (by omega));have h2:=(a7n htb (hk k (by omega))).2;simp only[b48];omega
theorem c2t(tb:List (List Nat))(n:Nat):∀t acc,t≤n→(∀x∈acc,x<n)→∀x∈later tb t acc,x<n
 |0,acc,_,h=>h
 |t+1,acc,ht,h=>by
  refine c2t tb n t _ (by omega) ?_;split
  ·intro x hx;rcases List.mem_cons.1 hx with rfl|hx
   ·omega
   ·exact h x hx
  ·exact h
theorem a8r(tb:List (List Nat)):∀t acc,(later tb t acc).length≤acc.length+t
 |0,acc=>by simp[later]
 |t+1,acc=>by
  simp only[later];by_cases h:0<a74 tb acc t
  ·rw[if_pos h];have:=a8r tb t (t::acc);simp only[List.length_cons]at this;omega
  ·rw[if_neg h];have:=a8r tb t acc;omega
def arN(l:List Nat):Array Int:=(l.map λ(n:Nat)=>(n:Int)).toArray
theorem c5z(l:List Nat):rwA (arN l)=l.map a12:=by unfold rwA arN;simp only[List.map_map];rfl
theorem c3p(l:List Nat):(arN l).size=l.length:=by simp[arN]
theorem d57(l:List Nat):rwA (reverseLoop 0 (l.length-1) (arN l))=l.reverse.map a12:=by have:=Go.Lib.reverseLoop_reverse (arN l);rw[c3p]at this;rw[this,←c5z];unfold arN;simp
theorem d0l(tb:List (List Nat)):a4o tb []=b44 tb.length λk=>!(a1j tb k).isEmpty:=by unfold a4o;refine b04 λi _=>?_;unfold unc a1d;simp
def d6c(acc:List Nat)(t:Nat)(r:List Nat):Bool:=r.contains t && !a1d r acc
def d2b(tb:List (List Nat))(acc:List Nat)(t i:Nat):Bool:=(tb.take i).any (d6c acc t)
def d0i(tb:List (List Nat))(acc:List Nat)(t i:Nat):Nat:=(tb.take i).countP (d6c acc t)
theorem c8x{tb:List (List Nat)}{acc:List Nat}{t i:Nat}{r:List Nat}(h:tb[i]?=some r):d2b tb acc t (i+1)=(d2b tb acc t i||d6c acc t r):=by unfold d2b;rw[List.take_add_one,h,List.any_append];simp
theorem c6y{tb:List (List Nat)}{acc:List Nat}{t i:Nat}{r:List Nat}(h:tb[i]?=some r):d0i tb acc t (i+1)=d0i tb acc t i+if d6c acc t r then 1 else 0:=by unfold d0i;rw[List.take_add_one,h,List.countP_append];simp only[Option.toList_some,List.countP_cons,List.countP_nil,Nat.zero_add]
theorem d5z(tb:List (List Nat))(acc:List Nat)(t i:Nat):d0i tb acc t i≤i:=by unfold d0i;exact Nat.le_trans List.countP_le_length (by simp;omega)
theorem d0h(tb:List (List Nat))(acc:List Nat)(t:Nat):d0i tb acc t tb.length=a74 tb acc t:=by
 rw[c1c];unfold d0i;rw[List.take_length];have e:tb=(List.range tb.length).map (a1j tb):=by
  apply List.ext_getElem?;intro j;rw[List.getElem?_map];by_cases h:j<tb.length
  ·rw[List.getElem?_range h];simp only[Option.map_some,a1j,List.getD_eq_getElem?_getD,List.getElem?_eq_getElem h,Option.getD_some]
  ·simp[h]
 conv=>lhs;rw[e]
 rw[List.countP_map];refine List.countP_congr λi _=>?_;unfold d6c;simp only[Function.comp];cases h:(a1j tb i).contains t with
 |false=>simp
 |true=>rw[a6q h]
theorem d2a(tb:List (List Nat))(acc:List Nat)(t:Nat):d2b tb acc t tb.length=decide (0<a74 tb acc t):=by rw[Bool.eq_iff_iff,decide_eq_true_eq,b71];unfold d2b;rw[List.take_length];rfl
end Go.Pc
/- PcSrt2: pdqsort's round, in steps. -/
namespace Go.Pc
open Go.Ax Go.Sort
def e4b(d3:Array Int)(a b limit:Nat)(wb wp:Bool)(pivot:Nat):Array Int:=
 if a>0 && !ltInt d3[a-1]! d3[pivot]! then
  match partitionEqual ltInt d3 a b pivot with
  |(mid,d4)=>if a<mid∧mid≤b then pdq ltInt d4 mid b limit wb wp else d4
 else
  match partition ltInt d3 a b pivot with
  |(mid,ap,d4)=>
   if a≤mid∧mid<b then
    if mid-a<b-mid then pdq ltInt (pdq ltInt d4 a mid limit true true) (mid+1) b limit (decide (mid-a≥(b-a)/8)) ap
    else pdq ltInt (pdq ltInt d4 (mid+1) b limit true true) a mid limit (decide (b-mid≥(b-a)/8)) ap
   else d4
def e0t(d2:Array Int)(a b limit:Nat)(wb wp:Bool)(pivot:Nat)(hint:Hint):Array Int:=
 let pi:=if wb&&wp&&hint = .increasing then partialInsertionSort ltInt d2 a b else(d2,false)
 if pi.2 then pi.1 else e4b pi.1 a b limit wb wp pivot
def e4c(d1:Array Int)(a b limit:Nat)(wb wp:Bool):Array Int:=
 let c:=choosePivot ltInt d1 a b
 if c.2 = .decreasing then e0t (reverseRange d1 a b) a b limit wb wp ((b-1)-(c.1-a)) .increasing
 else e0t d1 a b limit wb wp c.1 c.2
theorem e69(d:Array Int)(a b limit:Nat)(wb wp:Bool):pdq ltInt d a b limit wb wp=if b-a≤12 then insertionSort ltInt d a b else if limit=0 then heapSort ltInt d a b else
 e4c (if !wb then breakPatterns d a b else d) a b (if !wb then limit-1 else limit) wb wp:=by
 conv=>lhs;unfold pdq
 unfold e4c e0t e4b;simp only[dite_eq_ite];by_cases h1:b-a≤12
 ·rw[if_pos h1,if_pos h1]
 ·rw[if_neg h1,if_neg h1];by_cases h2:limit=0
  ·rw[if_pos h2,if_pos h2]
  ·rw[if_neg h2,if_neg h2];by_cases h3:(choosePivot ltInt (if(!wb)=true then breakPatterns d a b else d) a b).2=Hint.decreasing
   ·simp only[h3,if_true]
   ·simp only[h3,if_false]
end Go.Pc
/- PcCmp: neighbours that are equal are struck. -/
namespace Go.Pc
def ddF:Int→List Int→List Int
 |_,[]=>[]
 |p,x::l=>if x=p then ddF p l else x::ddF x l
def dd:List Int→List Int
 | []=>[]
 |x::l=>x::ddF x l
theorem b76:∀(l:List Int) (p y x:Int),ddF p (l++[y,x])=ddF p (l++[y])++if x=y then[]else[x]
 | [],p,y,x=>by
  simp only[List.nil_append,ddF];by_cases h:y=p
  ·subst h;simp
  ·simp[h]
 |z::l,p,y,x=>by
  simp only[List.cons_append,ddF];split
  ·exact b76 l p y x
  ·rw[b76 l z y x];rfl
theorem d72(l:List Int)(y x:Int):dd (l++[y,x])=dd (l++[y])++if x=y then[]else[x]:=by
 cases l with
 |nil=>simp only[List.nil_append,dd,ddF];by_cases h:x=y<;>simp[h]
 |cons z l=>simp only[List.cons_append,dd];rw[b76]
theorem c0j{S:List Int}{j:Nat}{x:Int}(h:S[j]?=some x):S.take (j+1)=S.take j++[x]:=by rw[List.take_add_one,h];rfl
theorem c82{S:List Int}{j:Nat}{x y:Int}(hy:S[j]?=some y)(hx:S[j+1]?=some x):dd (S.take (j+2))=dd (S.take (j+1))++if x=y then[]else[x]:=by rw[c0j hx,c0j hy,List.append_assoc];exact d72 _ _ _
theorem c1i:∀(l:List Int) (p z:Int),(z=p∨z∈ddF p l)↔(z=p∨z∈l)
 | [],p,z=>by simp[ddF]
 |x::l,p,z=>by
  simp only[ddF];by_cases h:x=p
  ·subst h;rw[if_pos rfl,c1i l x z];simp[or_assoc]
  ·rw[if_neg h];simp only[List.mem_cons];rw[c1i l x z]
theorem d44(l:List Int)(z:Int):z∈dd l↔z∈l:=by
 cases l with
 |nil=>rfl
 |cons x l=>simp only[dd,List.mem_cons];exact c1i l x z
theorem c83:∀(l:List Int) (p:Int),(p::l).Pairwise (·≤ ·)→(p::ddF p l).Pairwise (·< ·)
 | [],p,_=>by simp[ddF]
 |x::l,p,h=>by
  simp only[List.pairwise_cons,List.mem_cons]at h;obtain⟨h1,h2,h3⟩:=h;simp only[ddF];by_cases hx:x=p
  ·subst hx;rw[if_pos rfl];exact c83 l x (List.pairwise_cons.2 ⟨h2,h3⟩)
  ·rw[if_neg hx];have ih:=c83 l x (List.pairwise_cons.2 ⟨h2,h3⟩);have hpx:=h1 x (.inl rfl);refine List.pairwise_cons.2 ⟨λz hz=>?_,ih⟩;rcases List.mem_cons.1 hz with rfl|hz
   ·omega
   ·have:=(List.pairwise_cons.1 ih).1 z hz;omega
theorem e7r(l:List Int)(h:l.Pairwise (·≤ ·)):(dd l).Pairwise (·< ·):=by
 cases l with
 |nil=>exact List.Pairwise.nil
 |cons x l=>exact c83 l x h
end Go.Pc
/- PcLst: the least selections. Plain. -/
namespace Go.Pc
def a0i(x t:Nat):List Nat:=(List.range t).filter λt=>decide (x/2^t%2=1)
theorem a98{x n t:Nat}:t∈a0i x n↔t<n∧x/2^t%2=1:=by unfold a0i;rw[List.mem_filter,List.mem_range,decide_eq_true_eq]
theorem a7a(x n:Nat):(a0i x n).length≤n:=Nat.le_trans (List.length_filter_le _ _) (by simp)
theorem c1u(x n:Nat):(a0i x n).Nodup:=List.nodup_range.filter _
theorem a7q(x t:Nat):x/2^(t+1)%2=x/2/2^t%2:=by rw[Nat.pow_succ,Nat.mul_comm,Nat.div_div_eq_div_mul]
theorem b5n(x n:Nat):a0i x (n+1)=(if x%2=1 then[0]else[])++(a0i (x/2) n).map (·+ 1):=by
 unfold a0i;rw[List.range_succ_eq_map,List.filter_cons,List.filter_map];simp only[Nat.pow_zero,Nat.div_one,decide_eq_true_eq];have:List.filter ((λt=>decide (x/2^t%2=1))∘Nat.succ) (List.range n)=List.filter (λt=>decide (x/2/2^t%2=1)) (List.range n):=by refine List.filter_congr λt _=>?_;simp only[Function.comp,Nat.succ_eq_add_one,a7q]
 rw[this];split<;>rfl
def a2b:List Nat→List Nat→Bool
 |x::a,y::b=>if x=y then a2b a b else decide (x<y)
 |_,_=>false
theorem b0a:∀a b:List Nat,a2b (a.map (·+ 1)) (b.map (·+ 1))=a2b a b
 | [],_=>by simp[a2b]
 |_::_,[]=>by simp[a2b]
 |x::a,y::b=>by
  simp only[List.map_cons,a2b];by_cases h:x=y
  ·rw[if_pos h,if_pos (by omega),b0a a b]
  ·rw[if_neg h,if_neg (by omega)];simp
theorem b3f:∀a:List Nat,a2b a a=false
 | []=>rfl
 |x::a=>by simp only[a2b,if_true,b3f a]
def d8x:Nat→Nat→Nat→Bool
 |0,_,_=>false
 |n+1,x,y=>if x%2=y%2 then d8x n (x/2) (y/2)else decide (x%2=1)
theorem b3e:∀(n x y:Nat),(a0i x n).length=(a0i y n).length→a2b (a0i x n) (a0i y n)=d8x n x y
 |0,x,y,_=>rfl
 |n+1,x,y,h=>by
  rw[b5n,b5n]at h⊢;simp only[d8x];have hx:=Nat.mod_two_eq_zero_or_one x;have hy:=Nat.mod_two_eq_zero_or_one y;rcases hx with hx|hx<;>rcases hy with hy|hy
  ·rw[hx,hy]at h⊢;simp only[Nat.zero_ne_one,if_false,List.nil_append,List.length_map,if_true]at h⊢;rw[b0a];exact b3e n _ _ h
  ·rw[hx,hy]at h⊢;simp only[Nat.zero_ne_one,if_false,List.nil_append,List.length_map,if_true,List.singleton_append,List.length_cons]at h⊢;cases hb:a0i (x/2) n with
   |nil=>simp[a2b]
   |cons a r=>simp[a2b]
  ·rw[hx,hy]at h⊢;simp only[Nat.zero_ne_one,Nat.one_ne_zero,if_false,List.nil_append,List.length_map,if_true,List.singleton_append,List.length_cons]at h⊢;cases hb:a0i (y/2) n with
   |nil=>rw[hb]at h;simp at h
   |cons a r=>simp[a2b]
  ·rw[hx,hy]at h⊢;simp only[if_true,List.singleton_append,List.length_cons,List.length_map,a2b]at h⊢;rw[b0a];exact b3e n _ _ (by omega)
theorem c72:∀(n t x y:Nat),t<n→(∀s,s<t→x/2^s%2=y/2^s%2)→x/2^t%2≠y/2^t%2→d8x n x y=decide (x/2^t%2=1)
 |0,t,_,_,h,_,_=>by omega
 |n+1,0,x,y,_,_,h=>by simp only[Nat.pow_zero,Nat.div_one]at h⊢;simp only[d8x,if_neg h]
 |n+1,t+1,x,y,ht,h1,h2=>by
  have h0:=h1 0 (by omega);simp only[Nat.pow_zero,Nat.div_one]at h0;simp only[d8x,if_pos h0];rw[a7q,a7q]at h2;rw[a7q];refine c72 n t (x/2) (y/2) (by omega) (λs hs=>?_) h2;have:=h1 (s+1) (by omega)
  rwa [a7q,a7q]at this
theorem a4k(x t:Nat):decide (x/2^t%2=1)=x.testBit t:=(Nat.testBit_eq_decide_div_mod_eq ..).symm
def tzN(z:Nat):Nat:=((List.range 8).find? λt=>decide (z/2^t%2=1)).getD 64
def b0q(x:Nat):Nat:=(a0i x 8).length
theorem a99{x n t:Nat}(hx:x<2^n)(ht:n≤t):x/2^t%2=0:=by have:x<2^t:=Nat.lt_of_lt_of_le hx (Nat.pow_le_pow_right (by omega) ht);rw[Nat.div_eq_of_lt this]
theorem c52{x n m:Nat}(hx:x<2^n)(h:n≤m):a0i x m=a0i x n:=by
 obtain⟨k,rfl⟩:=Nat.exists_eq_add_of_le h
 induction k with
 |zero=>rfl
 |succ k ih=>
  have e:a0i x (n+(k+1))=a0i x (n+k)++(if x/2^(n+k)%2=1 then[n+k]else[]):=by
   unfold a0i;rw[←Nat.add_assoc,List.range_succ,List.filter_append]
   congr 1
   by_cases h:x/2^(n+k)%2=1<;>simp[h]
  rw[e,a99 hx (by omega)];simp only[Nat.zero_ne_one,if_false,List.append_nil];exact ih (by omega)
theorem a9u{x n:Nat}(hx:x<2^n)(h:n≤8):b0q x=(a0i x n).length:=by unfold b0q;rw[c52 hx h]
theorem c9r{x y n:Nat}(hx:x<2^n)(hy:y<2^n)(hn:n≤8)(hne:x≠y) :
 tzN (x^^^y)<n∧(∀s,s<tzN (x^^^y)→x/2^s%2=y/2^s%2)∧x/2^tzN (x^^^y)%2≠y/2^tzN (x^^^y)%2:=by
 have hbit:∀t,((x^^^y)/2^t%2=1)↔x/2^t%2≠y/2^t%2:=by intro t;rw[←decide_eq_true_iff (p:=(x^^^y)/2^t%2=1),a4k,Nat.testBit_xor,←a4k,←a4k];have hx:=Nat.mod_two_eq_zero_or_one (x/2^t);have hy:=Nat.mod_two_eq_zero_or_one (y/2^t);rcases hx with hx|hx<;>rcases hy with hy|hy<;>rw[hx,hy]<;>simp
 have hex:∃t,t<8∧x/2^t%2≠y/2^t%2:=by
  refine Classical.byContradiction λhno=>hne (Nat.eq_of_testBit_eq λt=>?_);rw[←a4k,←a4k];by_cases ht:t<8
  ·have:=Classical.not_not.1 λh=>hno ⟨t,ht,h⟩;rw[this]
  ·rw[a99 hx (by omega),a99 hy (by omega)]
 unfold tzN;cases hf:(List.range 8).find? λt=>decide ((x^^^y)/2^t%2=1)with
 |none=>rw[List.find?_eq_none]at hf;obtain⟨t,ht,h⟩:=hex;exact absurd (decide_eq_true ((hbit t).2 h)) (hf t (List.mem_range.2 ht))
 |some t=>
  simp only[Option.getD_some];have hm:=List.find?_range_eq_some.1 hf;obtain⟨h1,h2,h3⟩:=hm;simp only[decide_eq_true_eq]at h1;have h4:=(hbit t).1 h1;refine⟨?_,λs hs=>?_,h4⟩
  ·refine Classical.byContradiction λhge=>h4 ?_;rw[a99 hx (by omega),a99 hy (by omega)]
  ·refine Classical.not_not.1 λh=>?_;have:=h3 s hs;simp only[Bool.not_eq_true',decide_eq_false_iff_not]at this;exact this ((hbit s).2 h)
def c3m(x y:Nat):Bool:=decide (b0q x<b0q y)||(decide (b0q x=b0q y)&&(!decide (x=y)&&decide (x/2^tzN (x^^^y)%2=1)))
theorem c8o{x y n:Nat}(hx:x<2^n)(hy:y<2^n)(hn:n≤8) :
 c3m x y=(decide ((a0i x n).length<(a0i y n).length)||(decide ((a0i x n).length=(a0i y n).length)&&a2b (a0i x n) (a0i y n))):=by
 unfold c3m;rw[a9u hx hn,a9u hy hn];by_cases hl:(a0i x n).length=(a0i y n).length
 ·rw[decide_eq_true hl,Bool.true_and,Bool.true_and]
  congr 1
  by_cases he:x=y
  ·subst he;rw[b3f];simp
  ·obtain⟨h1,h2,h3⟩:=c9r hx hy hn he;rw[b3e n x y hl,c72 n _ x y h1 h2 h3];simp[he]
 ·rw[decide_eq_false hl];simp
def a1a(tb:List (List Nat))(n:Nat):Nat→Nat
 |0=>2^n-1
 |k+1=>if a4g tb (a0i k n)&&c3m k (a1a tb n k)then k else a1a tb n k
def a5u(tb:List (List Nat))(n k:Nat):Bool:=(List.range k).any λx=>a4g tb (a0i x n)
theorem b3a(tb:List (List Nat))(n k:Nat):a5u tb n (k+1)=(a5u tb n k||a4g tb (a0i k n)):=by unfold a5u;rw[List.range_succ,List.any_append];simp
theorem d1g{tb:List (List Nat)}{a b:List Nat}(h:∀r∈tb,∀t∈r,t∈a→t∈b)(ha:a4g tb a=true):a4g tb b=true:=by
 unfold a4g at ha⊢;rw[List.all_eq_true]at ha⊢;intro r hr;have:=ha r hr;unfold unc at this⊢;cases r with
 |nil=>rfl
 |cons x r=>simp only[List.isEmpty_cons,Bool.not_false,Bool.true_and,Bool.not_not]at this⊢;rw[a34]at this⊢;obtain⟨t,h1,h2⟩:=this;exact⟨t,h1,h _ hr t h1 h2⟩
theorem b9w{n t:Nat}(h:t<n):(2^n-1)/2^t%2=1:=by have:=Nat.testBit_two_pow_sub_one n t;rw[←a4k]at this;simpa[h]using this
theorem c3f{tb:List (List Nat)}{n:Nat}(htb:∀r∈tb,∀t∈r,t<n):a4g tb (a0i (2^n-1) n)=true:=by
 unfold a4g;rw[List.all_eq_true];intro r hr;unfold unc;cases r with
 |nil=>rfl
 |cons x r=>simp only[List.isEmpty_cons,Bool.not_false,Bool.true_and,Bool.not_not];rw[a34];have:=htb _ hr x (by simp);exact⟨x,by simp,a98.2 ⟨this,b9w this⟩⟩
theorem a8q(tb:List (List Nat))(n:Nat):∀k,k≤2^n→a1a tb n k<2^n
 |0,_=>by have:=Nat.two_pow_pos n;simp only[a1a];omega
 |k+1,h=>by
  simp only[a1a];split
  ·omega
  ·exact a8q tb n k (by omega)
theorem b8z{tb:List (List Nat)}{n:Nat}(htb:∀r∈tb,∀t∈r,t<n):∀k,a4g tb (a0i (a1a tb n k) n)=true
 |0=>c3f htb
 |k+1=>by
  simp only[a1a];split
  ·rename_i h;simp only[Bool.and_eq_true]at h;exact h.1
  ·exact b8z htb k
theorem c4l{tb:List (List Nat)}{n k:Nat}(h:a5u tb n k=false):a1a tb n k=2^n-1:=by
 induction k with
 |zero=>rfl
 |succ k ih=>rw[b3a,Bool.or_eq_false_iff]at h;simp only[a1a,h.2,Bool.false_and,Bool.false_eq_true,if_false];exact ih h.1
theorem c6c{x y:Nat}(h:c3m x y=true):b0q x≤b0q y:=by unfold c3m at h;simp only[Bool.or_eq_true,decide_eq_true_eq,Bool.and_eq_true]at h;omega
theorem c3l{x y:Nat}(h:c3m x y=false):b0q y≤b0q x:=by unfold c3m at h;simp only[Bool.or_eq_false_iff,decide_eq_false_iff_not]at h;omega
theorem b8y{tb:List (List Nat)}{n:Nat}:∀k x,x<k→a4g tb (a0i x n)=true→b0q (a1a tb n k)≤b0q x
 |0,x,h,_=>by omega
 |k+1,x,h,hc=>by
  simp only[a1a];rcases Nat.lt_succ_iff_lt_or_eq.1 h with h1|rfl
  ·have ih:=b8y k x h1 hc;split
   ·rename_i hb;simp only[Bool.and_eq_true]at hb;exact Nat.le_trans (c6c hb.2) ih
   ·exact ih
  ·rw[hc,Bool.true_and];split
   ·exact Nat.le_refl _
   ·rename_i hb;exact c3l (by simpa using hb)
theorem d0o{tb:List (List Nat)}{n k:Nat}(htb:∀r∈tb,∀t∈r,t<n)(hn:n≤8)(hk:k<2^n) :
 (a4g tb (a0i k n)&&(!a5u tb n k||(decide ((a0i k n).length<(a0i (a1a tb n k) n).length)||(decide ((a0i k n).length=(a0i (a1a tb n k) n).length)&&a2b (a0i k n) (a0i (a1a tb n k) n)))))=true→
 a0i (a1a tb n (k+1)) n=a0i k n:=by
 rw[←c8o hk (a8q tb n k (by omega)) hn];intro h;simp only[Bool.and_eq_true,Bool.or_eq_true,Bool.not_eq_true']at h;obtain⟨h1,h2⟩:=h;simp only[a1a,h1,Bool.true_and];rcases h2 with h2|h2
 ·split
  ·rfl
  ·rename_i hb;have e:=c4l h2
   -- the full selection is the first one found
   rw[e]at hb⊢;have hb:c3m k (2^n-1)=false:=by simpa using hb
   have hle:=c3l hb;have hfl:2^n-1<2^n:=by have:=Nat.two_pow_pos n;omega
   rw[a9u hfl hn,a9u hk hn]at hle;have hful:a0i (2^n-1) n=List.range n:=by unfold a0i;exact List.filter_eq_self.2 λt ht=>by rw[b9w (List.mem_range.1 ht)];rfl
   rw[hful,List.length_range]at hle;rw[hful];unfold a0i at hle⊢;have hl:=List.length_filter_le (λt=>decide (k/2^t%2=1)) (List.range n);rw[List.length_range]at hl;exact((List.filter_sublist).eq_of_length (by rw[List.length_range];omega)).symm
 ·rw[h2];rfl
theorem d0p{tb:List (List Nat)}{n k:Nat}(hn:n≤8)(hk:k<2^n)(hf:a5u tb n k=true) :
 (a4g tb (a0i k n)&&(!a5u tb n k||(decide ((a0i k n).length<(a0i (a1a tb n k) n).length)||(decide ((a0i k n).length=(a0i (a1a tb n k) n).length)&&a2b (a0i k n) (a0i (a1a tb n k) n)))))=false→
 a1a tb n (k+1)=a1a tb n k:=by
 rw[←c8o hk (a8q tb n k (by omega)) hn,hf,Bool.not_true,Bool.false_or];intro h;simp only[a1a,h,Bool.false_eq_true,if_false]
theorem b9c{tb:List (List Nat)}{n:Nat}(htb:∀r∈tb,∀t∈r,t<n):a5u tb n (2^n)=true:=by unfold a5u;rw[List.any_eq_true];exact⟨2^n-1,List.mem_range.2 (by have:=Nat.two_pow_pos n;omega),c3f htb⟩
end Go.Pc
/- PcLs2: masks; selections that cover; tests that stand alone. Plain. -/
namespace Go.Pc
def a2d(l:List Nat):Nat:=l.foldl (λm t=>m|||2^t) 0
theorem b8o:∀(l:List Nat) (m t:Nat),(l.foldl (λm t=>m|||2^t) m).testBit t=(m.testBit t||decide (t∈l))
 | [],m,t=>by simp
 |x::l,m,t=>by
  rw[List.foldl_cons,b8o l,Nat.testBit_or,Nat.testBit_two_pow];by_cases h:x=t
  ·subst h;simp
  ·have h':¬t=x:=λe=>h e.symm;simp[h,h']
theorem a71(l:List Nat)(t:Nat):(a2d l).testBit t=decide (t∈l):=by unfold a2d;rw[b8o];simp
theorem b6s{l:List Nat}{n:Nat}(h:∀t∈l,t<n):a2d l<2^n:=by refine Nat.lt_pow_two_of_testBit _ λi hi=>?_;rw[a71];simp only[decide_eq_false_iff_not];intro hm;have:=h i hm;omega
theorem c4i(l:List Nat)(t:Nat):a2d (l++[t])=a2d l|||2^t:=by unfold a2d;rw[List.foldl_append];rfl
theorem c4h(l:List Nat):a2d l=0↔l=[]:=by
 constructor
 ·intro h;cases l with
  |nil=>rfl
  |cons x l=>have:=a71 (x::l) x;rw[h]at this;simp at this
 ·rintro rfl;rfl
theorem b5o{l:List Nat}{n:Nat}{t:Nat}:t∈a0i (a2d l) n↔t<n∧t∈l:=by rw[a98,←decide_eq_true_iff (p:=a2d l/2^t%2=1),a4k,a71,decide_eq_true_iff]
def mkM(tb:List (List Nat)):Nat→List Nat
 |0=>[]
 |i+1=>if decide (0<a2d (a1j tb i)) && !(mkM tb i).contains (a2d (a1j tb i))then mkM tb i++[a2d (a1j tb i)]else mkM tb i
theorem b6q(tb:List (List Nat))(m:Nat):∀i,m∈mkM tb i↔∃j,j<i∧0<m∧m=a2d (a1j tb j)
 |0=>by simp[mkM]
 |i+1=>by
  simp only[mkM];have ih:=b6q tb m i;by_cases h:(decide (0<a2d (a1j tb i)) && !(mkM tb i).contains (a2d (a1j tb i)))=true
  ·rw[if_pos h,List.mem_append,ih,List.mem_singleton];simp only[Bool.and_eq_true,decide_eq_true_eq]at h;constructor
   ·rintro(⟨j,h1,h2⟩|rfl)
    ·exact⟨j,by omega,h2⟩
    ·exact⟨i,by omega,h.1,rfl⟩
   ·rintro⟨j,h1,h2,h3⟩
    rcases Nat.lt_succ_iff_lt_or_eq.1 h1 with h1|rfl
    ·exact .inl ⟨j,h1,h2,h3⟩
    ·exact .inr h3
  ·rw[if_neg h,ih];constructor
   ·rintro⟨j,h1,h2⟩;exact⟨j,by omega,h2⟩
   ·rintro⟨j,h1,h2,h3⟩
    rcases Nat.lt_succ_iff_lt_or_eq.1 h1 with h1|rfl
    ·exact⟨j,h1,h2,h3⟩
    ·have hc:(mkM tb j).contains (a2d (a1j tb j))=true:=by
      simp only[Bool.and_eq_true,decide_eq_true_eq,not_and,Bool.not_eq_true',Bool.not_eq_false]at h;exact h (by rw[←h3];exact h2)
     rw[List.contains_iff_mem,←h3]at hc;exact ih.1 hc
theorem b6r(tb:List (List Nat)):∀i,(mkM tb i).length≤i
 |0=>by simp[mkM]
 |i+1=>by
  simp only[mkM];have:=b6r tb i;split
  ·simp;omega
  ·omega
theorem c61{tb:List (List Nat)}{i:Nat}(h:i<tb.length):a1j tb i=tb[i]:=by unfold a1j;rw[List.getD_eq_getElem?_getD,List.getElem?_eq_getElem h];rfl
theorem c04{r:List Nat}{x n:Nat}(hr:∀t∈r,t<n):(a2d r&&&x=0)↔a1d r (a0i x n)=false:=by
 rw[←Bool.not_eq_true,a34];constructor
 ·rintro h ⟨t,h1,h2⟩
  have:(a2d r&&&x).testBit t=true:=by rw[Nat.testBit_and,a71,decide_eq_true h1,←a4k,decide_eq_true (a98.1 h2).2];rfl
  rw[h]at this;simp at this
 ·intro h;refine Nat.eq_of_testBit_eq λt=>?_;rw[Nat.testBit_and,a71,Nat.zero_testBit];by_cases ht:t∈r
  ·rw[decide_eq_true ht,Bool.true_and,←a4k,decide_eq_false_iff_not];exact λhb=>h ⟨t,ht,a98.2 ⟨hr t ht,hb⟩⟩
  ·rw[decide_eq_false ht,Bool.false_and]
theorem e2b{tb:List (List Nat)}{n x:Nat}(htb:∀r∈tb,∀t∈r,t<n):(!(mkM tb tb.length).any λm=>decide (m&&&x=0))=a4g tb (a0i x n):=by
 rw[Bool.eq_iff_iff];unfold a4g;rw[Bool.not_eq_true',List.any_eq_false,List.all_eq_true];constructor
 ·intro h r hr;unfold unc;cases r with
  |nil=>rfl
  |cons y r=>simp only[List.isEmpty_cons,Bool.not_false,Bool.true_and,Bool.not_not];obtain⟨i,hi,he⟩:=List.getElem_of_mem hr;have hm:a2d (y::r)∈mkM tb tb.length:=(b6q tb (a2d (y::r)) tb.length).2 ⟨i,hi,Nat.pos_of_ne_zero (λe=>absurd ((c4h _).1 e) (by simp)),by rw[c61 hi,he]⟩;have:=h _ hm;simp only[decide_eq_true_eq]at this;have h3:=λhb=>this ((c04 (λt ht=>htb _ hr t ht)).2 hb);simpa using h3
 ·intro h m hm;obtain⟨j,hj,hp,rfl⟩:=(b6q _ _ _).1 hm;rw[c61 hj]at hp⊢;have hr:=List.getElem_mem hj;have:=h _ hr;simp only[decide_eq_true_eq];intro h0;have h1:=(c04 (n:=n) (htb _ hr)).1 h0;unfold unc at this;rw[h1]at this;have hne:tb[j].isEmpty=false:=by
   cases hh:tb[j]with
   |nil=>rw[hh]at hp;simp[a2d]at hp
   |cons=>rfl
  rw[hne]at this;simp at this
theorem c6k{a b:List Nat}:a.Nodup→(∀x∈a,x∈b)→a.length≤b.length:=by
 induction a generalizing b with
 |nil=>intro _ _;simp
 |cons x a ih=>intro h1 h2;have h1:=List.nodup_cons.1 h1;have hx:=h2 x (by simp);have:=ih (b:=b.erase x) h1.2 (λy hy=>(List.mem_erase_of_ne (λe=>h1.1 (by rw[←e];exact hy))).2 (h2 y (by simp[hy])));rw[List.length_erase_of_mem hx]at this;have:=List.length_pos_of_mem hx;simp only[List.length_cons];omega
theorem b8x{tb:List (List Nat)}{n:Nat}(htb:∀r∈tb,∀t∈r,t<n)(hn:n≤8){l:List Nat}(hl:∀t∈l,t<n)(hc:a4g tb l=true):(a0i (a1a tb n (2^n)) n).length≤l.length:=by have hx:a2d l<2^n:=b6s hl;have hc2:a4g tb (a0i (a2d l) n)=true:=d1g (λr hr t ht h=>b5o.2 ⟨htb r hr t ht,h⟩) hc;have h1:=b8y (2^n) (a2d l) hx hc2;rw[a9u (a8q tb n _ (Nat.le_refl _)) hn,a9u hx hn]at h1;exact Nat.le_trans h1 (c6k (c1u _ _) λt ht=>(b5o.1 ht).2)
theorem c6v{r a b:List Nat}(h:∀x∈a,x∈b)(hm:a1d r a=true):a1d r b=true:=by rw[a34]at hm⊢;obtain⟨x,h1,h2⟩:=hm;exact⟨x,h1,h x h2⟩
theorem b91{tb:List (List Nat)}{n:Nat}(htb:∀r∈tb,∀t∈r,t<n):∀(t:Nat) (acc:List Nat),(∀r∈tb,(∃x∈r,t≤x)→a1d r acc=true)→a4g tb (later tb t acc)=true
 |0,acc,h=>by
  simp only[later];unfold a4g;rw[List.all_eq_true];intro r hr;unfold unc;cases r with
  |nil=>rfl
  |cons x r=>rw[h _ hr ⟨x,by simp,by omega⟩];rfl
 |t+1,acc,h=>by
  simp only[later];refine b91 htb t _ ?_
  rintro r hr ⟨x,hx,hxt⟩
  by_cases hg:0<a74 tb acc t
  ·rw[if_pos hg];rcases Nat.lt_or_ge x (t+1)with h1|h1
   ·obtain rfl:x=t:=by omega
    rw[a34];exact⟨x,hx,by simp⟩
   ·exact c6v (λy hy=>List.mem_cons_of_mem _ hy) (h r hr ⟨x,hx,h1⟩)
  ·rw[if_neg hg];rcases Nat.lt_or_ge x (t+1)with h1|h1
   ·obtain rfl:x=t:=by omega
    rw[b71,List.any_eq_true]at hg;refine Classical.byContradiction λhm=>hg ⟨r,hr,?_⟩;have hm:a1d r acc=false:=by simpa using hm
    rw[hm,List.contains_iff_mem.2 hx];rfl
   ·exact h r hr ⟨x,hx,h1⟩
theorem b90{tb:List (List Nat)}{n:Nat}(htb:∀r∈tb,∀t∈r,t<n):a4g tb (later tb n [])=true:=b91 htb n [] λr hr ⟨x,hx,h⟩=>by have:=htb r hr x hx;omega
def a1k(tb:List (List Nat))(n:Nat):List Nat:=(List.range n).filter λt=>tb.contains [t]
def a5a(tb:List (List Nat)):List Nat:=(tb.filter λr=>r.length==1).map λr=>r.headD 0
theorem b4n{tb:List (List Nat)}{t:Nat}:t∈a5a tb↔[t]∈tb:=by
 unfold a5a;simp only[List.mem_map,List.mem_filter,beq_iff_eq];constructor
 ·rintro⟨r,⟨h1,h2⟩,rfl⟩
  obtain⟨x,rfl⟩:=List.length_eq_one_iff.1 h2;exact h1
 ·intro h;exact⟨[t],⟨h,rfl⟩,rfl⟩
theorem b7g{tb:List (List Nat)}{n t:Nat}(h:t∈a1k tb n){l:List Nat}(hc:a4g tb l=true):l.contains t=true:=by unfold a1k at h;rw[List.mem_filter,List.contains_iff_mem]at h;unfold a4g at hc;have:=List.all_eq_true.1 hc _ h.2;unfold unc at this;simp only[List.isEmpty_cons,Bool.not_false,Bool.true_and,Bool.not_not]at this;obtain⟨x,h1,h2⟩:=a34.1 this;rw[List.mem_singleton]at h1;subst h1;rw[List.contains_iff_mem];exact h2
theorem e18:∀(a b:List Int),a.Pairwise (·< ·)→b.Pairwise (·< ·)→(∀x,x∈a↔x∈b)→a=b
 | [],[],_,_,_=>rfl
 | [],y::b,_,_,h=>by have:=(h y).2 (by simp);cases this
 |x::a,[],_,_,h=>by have:=(h x).1 (by simp);cases this
 |x::a,y::b,ha,hb,h=>by
  have ha:=List.pairwise_cons.1 ha;have hb:=List.pairwise_cons.1 hb;have e:x=y:=by
   have h1:=(h x).1 (by simp);have h2:=(h y).2 (by simp);rcases List.mem_cons.1 h1 with h1|h1
   ·exact h1
   ·rcases List.mem_cons.1 h2 with h2|h2
    ·exact h2.symm
    ·have:=hb.1 x h1;have:=ha.1 y h2;omega
  subst e;rw[e18 a b ha.2 hb.2 λz=>?_];have hz:=h z;simp only[List.mem_cons]at hz;constructor
  ·intro hm;rcases hz.1 (.inr hm)with rfl|h1
   ·have:=ha.1 z hm;omega
   ·exact h1
  ·intro hm;rcases hz.2 (.inr hm)with rfl|h1
   ·have:=hb.1 z hm;omega
   ·exact h1
theorem d2d{tb:List (List Nat)}{n:Nat}(htb:∀r∈tb,∀t∈r,t<n) :
 dd (((a5a tb).map λ(x:Nat)=>(x:Int)).mergeSort λx y=>decide (x≤y))=(a1k tb n).map λ(x:Nat)=>(x:Int):=by
 refine e18 _ _ (e7r _ ?_) ?_ ?_
 ·have:=List.pairwise_mergeSort (le:=λ(x y:Int)=>decide (x≤y)) (by intro a b c;simp;omega) (by intro a b;simp;omega) ((a5a tb).map λ(x:Nat)=>(x:Int));exact this.imp (by intro a b h;simpa using h)
 ·rw[List.pairwise_map];unfold a1k;exact(List.pairwise_lt_range.filter _).imp (by intro a b h;omega)
 ·intro z;rw[d44,List.mem_mergeSort,List.mem_map,List.mem_map];unfold a1k;constructor
  ·rintro⟨t,h1,rfl⟩
   have:=b4n.1 h1;exact⟨t,List.mem_filter.2 ⟨List.mem_range.2 (htb _ this t (by simp)),List.contains_iff_mem.2 this⟩,rfl⟩
  ·rintro⟨t,h1,rfl⟩
   exact⟨t,b4n.2 (List.contains_iff_mem.1 (List.mem_filter.1 h1).2),rfl⟩
end Go.Pc
