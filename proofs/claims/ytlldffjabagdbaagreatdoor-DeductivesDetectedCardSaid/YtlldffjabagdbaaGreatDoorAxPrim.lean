/- AxPrim: the sorted keys of a set of numbers, as a primitive. -/
import Derived.Test.YtlldffjabagdbaaGreatDoorAxC
import Derived.Lib.SlKeysI
import Derived.Maps.Own
import Derived.WalkArith
set_option linter.unusedSimpArgs false
set_option linter.unusedVariables false
namespace Go.Ax
open Go.Maps Go.WideElems Go.RowKit
def e5s:List Int→Bool
 | []=>true
 |x::l=>(match l with|[]=>true|y::_=>decide (x<y))&&e5s l
def d3e(ks:List Int):Bool:=ks.all (λi=>decide (0≤i)&&decide (i<1000000))&&e5s ks
def a9k:List AV→Option (AV×a03)
 | [.iset ks]=>bif d3e ks then(match ks with
  | []=>some (.nilslice,[])
  |_=>some (.slice 0 0 ks.length (some ks.length),[some (.row 1 (ks.map λi=>[.int .i64 i]))]))else none
 |_=>none
def SortsSet(P:Program)(g k t:Nat):Prop:=∀(b nn:Nat) (D0:DataW Unit) (R:Value→Option (DataW Unit×List MemPlace)) (w:World),w.ownsMap P k R b nn D0→Maps.size D0≤maxLen→Maps.size D0*8≤140737488355328→
 Calls P g #[.map (some b)] w λe w'=>∃(v v0:Value) (ss:List Int),e = .returned v∧ss.Perm (intKeys D0)∧
  w'.ownsRow w.heap.size t 1 v0 ss.length ((ss.mergeSort leI).map encZ)∧(v0 = .slice none 0 0↔ss=[])∧(∀a n c,v0 = .slice a n c→v = .slice a n n)∧Below w.heap.size w w'
theorem c4i:∀{l:List Int},e5s l=true→l.Pairwise λx y=>x<y
 | [],_=>List.Pairwise.nil
 | [x],_=>by simp
 |x::y::l,h=>by
  simp only[e5s,d14,f4p]at h;have ih:=c4i (l:=y::l) (by simp only[e5s,d14];exact h.2);refine List.pairwise_cons.2 ⟨λz hz=>?_,ih⟩;rcases f6m.1 hz with rfl|hz
  ·exact h.1
  ·exact Int.lt_trans h.1 ((List.pairwise_cons.1 ih).1 z hz)
theorem c2x:∀{l:List Int},l.Pairwise (λx y=>x<y)→e5s l=true
 | [],_=>rfl
 | [x],_=>rfl
 |x::y::l,h=>by have h:=List.pairwise_cons.1 h;have ih:=c2x h.2;simp only[e5s,d14,f4p]at ih⊢;exact⟨h.1 y (by simp),ih⟩
theorem e44{ks:List Int}(h1:∀i∈ks,0≤i∧i<1000000)(h2:ks.Pairwise (λx y=>x<y)):d3e ks=true:=by unfold d3e;rw[d14,f8c];exact⟨λi hi=>by simpa using h1 i hi,c2x h2⟩
theorem b13:∀{n:Nat} {l:List Int},l.Nodup→(∀i∈l,0≤i∧i<n)→l.length≤n
 |0,l,_,h=>by
  cases l with
  |nil=>simp
  |cons a l=>have:=h a (by simp);omega
 |n+1,l,hn,h=>by
  by_cases hm:(n:Int)∈l
  ·have ih:=b13 (n:=n) (hn.erase (n:Int)) (λi hi=>by
    have h1:=h i (List.mem_of_mem_erase hi);have:i≠n:=λe=>by subst e;exact(List.Nodup.not_mem_erase hn) hi
    omega)
   rw[List.length_erase_of_mem hm]at ih;omega
  ·have ih:=b13 (n:=n) hn (λi hi=>by
    have h1:=h i hi;have:i≠n:=λe=>hm (e▸hi);omega)
   omega
theorem c2l{I:Nat→Prop}{w:World}{ρ:PMap}{b:Nat}{cur:Array Value}{e:TypeId}(hb:w.heap[b]?=some (.cells cur e (0,0))):∀(ks:List Int) (off:Nat),(∀j x,ks[j]?=some x→cur[off+j]?=some (.int .i64 x))→VRows I w 1 ρ (ks.map λi=>[AV.int .i64 i]) b off
 | [],off,_=>by simp[VRows]
 |x::ks,off,h=>by
  simp only[c10,VRows,VAt,VRel];refine⟨rfl,⟨⟨.int .i64 x,?_,rfl⟩,trivial⟩,c2l hb ks (off+1) λj y hy=>?_⟩
  ·have:=h 0 x rfl;simp only[World.cell?,hb];simpa using this
  ·have:=h (j+1) y (by simpa using hy);rw[←this];congr 1;omega
theorem c8u{L:Laid}{g k t:Nat}(hg:g≠yId)(hk:L.P.underlying k=some (.int .i64))(h:SortsSet L.P g k t):b1g L.env g (λa H=>match a,H with
 |a,[]=>a9k a
 |_,_=>none):=by
 intro args H v H' ae I K ρ w ap rel hn ha;dsimp only at ae;split at ae
 case h_2=>cases ae
 rename_i a;unfold a9k at ae;split at ae
 case h_2=>cases ae
 rename_i ks;rw[cond_eq_ite]at ae;split at ae
 case isFalse=>cases ae
 rename_i cQ;unfold d3e at cQ;rw[d14,f8c]at cQ;obtain⟨mu,mr⟩:=cQ;have mu:∀i∈ks,0≤i∧i<1000000:=λi hi=>by simpa using mu i hi
 have mr:=c4i mr;simp only[VRels,VRel]at ha;obtain⟨c,_,rfl,⟨b,es,cl,rfl,hb,iD,hu⟩,rfl⟩:=ha;obtain⟨dq,cW,oA,gB,rA⟩:=hu
 let R:Value→Option (DataW Unit×List MemPlace):=λ_=>some (.lit (.bool true),[])
 have ai:es.size=ks.length:=by have:=dq.length_eq;simpa using this
 have dw:ks.length≤1000000:=b13 oA mu;have cA:∀x∈es.toList,∃i,i∈ks∧x.key = .int .i64 i:=by intro x hx;have h1:x.key∈ks.map (Value.int .i64):=dq.mem_iff.1 (g01.2 ⟨x,hx,rfl⟩);obtain⟨i,hi,he⟩:=g01.1 h1;exact⟨i,hi,he.symm⟩
 have pH:∀i∈ks,keyOf L.P k (.int .i64 i)=some (.int .i64 i):=by intro i hi;have:=mu i hi;have hw:(Lit.int .i64 i).wf=true:=Go.WalkArith.wf_i64 (by omega);simp[keyOf,hk,mapKey,hw]
 have dp:∀x∈es.toList,∃i,i∈ks∧x.key = .int .i64 i∧rd L.P k R x=some (.int .i64 i,.lit (.bool true)):=by intro x hx;obtain⟨i,hi,he⟩:=cA x hx;exact⟨i,hi,he,by simp[rd,he,pH i hi,R]⟩
 have bY:Fit L.P k R es cl:=by refine⟨by have:maxLen=9223372036854775807:=rfl;omega,⟨rA,gB,?_⟩,λx hx=>by obtain⟨i,_,_,h⟩:=dp x hx;exact⟨_,h⟩⟩;exact(dq.nodup_iff).2 (oA.map _ (λa b bu he=>bu (by simpa using he)))
 have kC:w.ownsMap L.P k R b es.size (.map ((es.toList.map (rg L.P k R)).foldr DataW.insert [])):=⟨es,cl,iD,bY,f6l _,rfl⟩
 have bU:Maps.size (.map ((es.toList.map (rg L.P k R)).foldr DataW.insert []):DataW Unit)=ks.length:=by show((es.toList.map (rg L.P k R)).foldr DataW.insert []).length=_;rw[length_sorted];simpa using ai
 have i4:(intKeys (.map ((es.toList.map (rg L.P k R)).foldr DataW.insert []):DataW Unit)).Perm ks:=by
  show(((es.toList.map (rg L.P k R)).foldr DataW.insert []).map λp=>intOf p.1).Perm ks;refine((WideShapes.sorted_perm _).map _).trans ?_;rw[g1o];have e1:es.toList.map ((λp:Lit×DataW Unit=>intOf p.1)∘rg L.P k R)=(es.toList.map (·.key)).map (λv=>match v with|.int _ i=>i|_=>0):=by rw[g1o];refine f8e λx hx=>?_;obtain⟨i,hi,he,hr⟩:=dp x hx;simp[rg,hr,he,intOf]
  rw[e1];refine(dq.map _).trans ?_;rw[g1o];exact List.Perm.of_eq (List.map_id' ks)
 have hc:=h b es.size _ R w kC (by rw[bU];have:maxLen=9223372036854775807:=rfl;omega) (by rw[bU];omega);rw[b4i hg];refine Calls.mono hc ?_
 rintro e w' ⟨v',v0,ss,rfl,jf,dC,kF,a8,ff⟩
 have jf:=jf.trans i4;have kz:ss.mergeSort leI=ks:=by rw[mergeSort_of_perm_i jf];exact List.mergeSort_of_pairwise (mr.imp λh=>by simp[leI];omega)
 rw[kz]at dC;have cJ:∀c,I c→w'.heap[c]?=w.heap[c]?:=λc hc=>ff.block c (rel.imm c hc);have cq:Ext I K w w':=⟨ff.os,ff.tape,ff.output,ff.size,λc hc=>ff.block c (hc.elim (rel.imm c) (rel.kept c))⟩
 have lI:∀g cs,L.env.G g=some cs→I g∧VAt I w' noP cs g 0:=λg cs hg=>by obtain⟨h1,h2⟩:=rel.glob g cs hg;exact⟨h1,VAt.mono (λ_ h=>h) cJ cs (λ_ _ h=>h) (cJ g h1) h2⟩
 cases ks with
 |nil=>
  cases ae;have:ss=[]:=List.eq_nil_of_length_eq_zero (by have:=jf.length_eq;simpa using this);refine⟨v',I,ρ,rfl,⟨λ_ h=>h,λ_ _=>rfl,cq,⟨?_,?_,?_,λc hc=>g1t (rel.imm c hc) ff.size,λc hc=>g1t (rel.kept c hc) ff.size,rel.apart,lI⟩,hn,f4m _⟩,by simp only[VRel];exact a8 _ _ _ (kF.2 this)⟩
  ·intro b o ho;simp[a01]at ho
  ·intro b b' m m' ho;simp[a01]at ho
  ·intro b m hm;rw[hn b (f4m _)]at hm;cases hm
 |cons x l=>
  cases ae;have ir:ss.length=(x::l).length:=jf.length_eq;have aF:v0≠ .slice none 0 0:=λe=>by have:=kF.1 e;rw[this]at ir;simp at ir
  rw[ir]at dC;obtain⟨_,dC⟩:=dC;rcases dC with ⟨h1,_⟩|⟨gb,cap,cur,rfl,lO,q9,r1,r2,r3,r4⟩
  ·exact absurd h1 aF
  have a8:=a8 _ _ _ rfl;subst a8;have eJ:(x::l).length≤cur.size:=by omega
  have gI:gb<w'.heap.size:=(f8m.1 q9).1
  let ρ':PMap:=λb=>if b=0 then some ⟨gb,0,1,cur.size⟩else none
  refine⟨_,I,ρ',rfl,⟨λ_ h=>h,λb h=>absurd h (f9t b),cq,⟨?_,?_,?_,λc hc=>g1t (rel.imm c hc) ff.size,λc hc=>g1t (rel.kept c hc) ff.size,rel.apart,lI⟩,?_,f4m _⟩,?_⟩
  ·intro b o ho
   match b,ho with
   |0,ho=>
    simp only[a01,f6n,g0o,Option.some.injEq]at ho;subst ho;refine⟨⟨gb,0,1,cur.size⟩,rfl,λhi=>Nat.lt_irrefl _ (g1t (rel.imm gb hi) lO),λhi=>Nat.lt_irrefl _ (g1t (rel.kept gb hi) lO),⟨rfl,Nat.one_pos,⟨cur,_,q9,rfl,?_⟩,?_⟩⟩
    ·simp only[f4j,f8j,Nat.mul_one];omega
    ·refine c2l q9 (x::l) 0 λj y hy=>?_;have hj:=(c13.1 hy).1;have h2:(cur.toList.take ((x::l).length*1))[j]?=((x::l).map encZ)[j]?:=by rw[r4]
     rw[List.getElem?_take_of_lt (by omega),f4q,hy]at h2;rw[f8j];simpa using h2
   |b+1,ho=>simp[a01]at ho
  ·intro b b' m m' ho d8;have e0:∀b,(a01 [some (AObj.row 1 ((x::l).map λi=>[AV.int .i64 i]))] b).isSome→b=0:=by
    intro b hb
    match b,hb with
    |0,_=>rfl
    |b+1,hb=>simp[a01]at hb
   intro _ _ _;rw[e0 b ho,e0 b' d8]
  ·intro b m hm;simp only[ρ']at hm;split at hm
   ·cases hm;exact gI
   ·cases hm
  ·intro b hb;simp only[e12,f4o]at hb;simp only[ρ'];rw[f4n (by omega)]
  ·simp only[VRel];refine⟨⟨gb,0,none⟩,_,rfl,f6l _,λn hn=>by cases hn;rfl,.inr ⟨⟨gb,0,1,cur.size⟩,rfl,by simp,?_⟩⟩;simp only[f8j,Nat.mul_one];omega
theorem c0n{L:Laid}{g k t:Nat}(hL:L.prim=λf a=>bif Nat.beq f g then a9k a else none)(hg:g≠yId)(hk:L.P.underlying k=some (.int .i64))(h:SortsSet L.P g k t):e1x L:=by
 intro f args v H1 hp;have vG:L.env.prim=λf a=>bif Nat.beq f g then a9k a else none:=hL;rw[hL]at hp;simp only[cond_eq_ite]at hp;split at hp
 case isFalse=>cases hp
 rename_i hf;have hf:=g03 hf;subst hf;have hs:=c8u (L:=L) hg hk h;intro args H v H' ae;refine hs args H v H' ?_;revert ae;cases H with
 |nil=>simp[vG]
 |cons o r=>exact id
end Go.Ax
