/- Part of a proof. No condition. -/
import Derived.Test.YtbmkmaobejlkgaaGreatDoorQGa
import Derived.Test.YtbmkmaobejlkgaaGreatDoorAxD
import Derived.Test.YtbmkmaobejlkgaaGreatDoorPcP
set_option linter.unusedSimpArgs false
set_option linter.unusedVariables false
namespace Go.QInst
open Go.Proofs Go.Ax Go.Pc
set_option maxRecDepth 100000
inductive RI(l:List Nat):AV→a02→Prop
 |imm (c:Option Nat):RI l (.islice (l.map a0d) c) []
 |nil (h:l=[]):RI l .nilslice []
 |blk (c:Option Nat) (af:List (List AV)) (hf:FlatR (l.map a0d++af)):RI l (.slice 0 0 l.length c) [some (.row 1 (l.map a0d++af))]
theorem e44{l:List Nat}{V:AV}{H:a02}(h:RI l V H):b8v L.env (a01 H) 34 V=some (.int .i64 l.length):=by
 cases h with
 |imm c=>simp+decide only[go_sem,c11]
 |nil h=>subst h;simp+decide only[go_sem];rfl
 |blk c af hf=>simp+decide only[go_sem]
theorem e45{l:List Nat}{V:AV}{H:a02}(h:RI l V H){i v:Nat}(hi:l[i]?=some v):∃p,a0s L.env (a01 H) 34 V (.int .i64 i)=some p∧a5e L.env (a01 H) 3 p=some (.int .i64 v):=by
 have ag:=(e9k.1 hi).1;cases h with
 |imm c=>
  have hg:(l.map a0d)[i]?=some [.int .i64 v]:=by rw[f0d,hi];rfl
  exact⟨_,by simp+decide only[go_sem,hg,ag,c11]<;>rfl,by simp+decide only[go_sem,hg,ag]⟩
 |nil h=>subst h;simp at ag
 |blk c af hf=>
  have hg:(l.map a0d++af)[i]?=some [.int .i64 v]:=by rw[f0i (by simpa using ag),f0d,hi];rfl
  have gO:i<(l.map a0d++af).length:=by simp;omega
  exact⟨_,by simp+decide only[go_sem,hg,ag,gO]<;>rfl,by simp+decide only[go_sem,hg,ag,gO]⟩
theorem c3u{l:List Nat}{V v:AV}{H:a02}(h:RI l V H)(hv:refs v=[]):a10 false H.length v H=some (v,H):=by
 cases h with
 |imm c=>exact a42 hv
 |nil h=>exact a42 hv
 |blk c af hf=>have h1:=λπ=>a0b π hf;have hr:∀π,ren π v=v:=λπ=>a0x π v hv;simp+decide only[go_sem,a10,a4i _ _ _ _ hv,h1]
theorem d9e{l:List Nat}{V:AV}{H:a02}(h:RI l V H)(b:Nat):a0o (a01 H b)=[]:=by
 cases h with
 |imm c=>rfl
 |nil h=>rfl
 |blk c af hf=>
  cases b with
  |zero=>exact a0f hf
  |succ b=>rfl
theorem c8t{l:List Nat}{V:AV}{H:a02}(h:RI l V H):(∀b∈refs V,b<H.length)∧(refs V).length≤1:=by
 cases h with
 |imm c=>exact⟨λb hb=>by simp[refs]at hb,by simp[refs]⟩
 |nil h=>exact⟨λb hb=>by simp[refs]at hb,by simp[refs]⟩
 |blk c af hf=>exact⟨λb hb=>by simp[refs]at hb;subst hb;simp,by simp[refs]⟩
theorem d3s{l:List Nat}{V:AV}{H:a02}(h:RI l V H){keep:List Nat}{F F':Frm}(hk:a1i keep F=F')(hF:a08 (F'.map (·.2))=refs V∨a08 (F'.map (·.2))=[]):gcD H.length keep F H=some (F',H):=by
 obtain⟨h1,h2⟩:=c8t h;refine d80 hk ?_ ?_ (d9e h)
 ·rcases hF with e|e<;>rw[e]
  ·exact h1
  ·intro b hb;simp at hb
 ·rcases hF with e|e<;>rw[e]
  ·omega
  ·simp
theorem c8u{l:List Nat}{V:AV}{H:a02}(h:RI l V H){d:Bool}{g:FuncId}{pre post:List AV}{v:AV}(hx:L.env.ext g=false)(hf:(L.env.fn g).isSome=true)(hp:a08 pre=[])(hq:a08 post=[])(hv:refs v=[])
 (hr:∀V H,RI l V H→sem L.env Mf g (pre++V::post) H=some (v,H)):a09 L.env d (sem L.env Mf) (.func (.func g) [] []) (pre++V::post) H=some (v,H,refs V):=by
 have hr:=hr V H h;cases h with
 |imm c=>exact a04 hx hf rfl (by simp only[e9q,e9n,a52,a0c,c25,hp,hq]) (by simpa using hr) hv
 |nil h=>exact a04 hx hf rfl (by simp only[e9q,e9n,a52,a0c,b7r,hp,hq]) (by simpa using hr) hv
 |blk c af bF=>refine a1q (b:=0) (fs:=[]) (cs:=[]) (args:=pre ++ .slice 0 0 l.length c::post) hx hf (by simp) rfl (a0f bF) (FlatO.row bF) (by simp only[a52,a0c,hp,hq,b0o,e9q,e9n]) (ap:=pre ++ .slice 0 0 l.length c::post) ?_ hr hv;rw[f2o,e12,a1t];have e:∀l:List AV,a08 l=[]→l.map (ren (a4m [0]))=l:=λl hl=>a3q _ hl;rw[e _ hp,e _ hq]
theorem f00(l:List Nat)(V:AV)(H:a02)(hV:RI l V H)(hl:l.length<1000000)(t:Nat):sem L.env Mf 15 [V,.int .i64 t] H=some (.bool (l.contains t),H):=by
 have ai:=e44 hV;have bg:=c8t hV
 suffices hs:∃r:AV×a02,(r=(.bool (l.contains t),H))∧sem L.env Mf 15 [V,.int .i64 t] H=some r by obtain⟨r,rfl,h3⟩:=hs;exact h3
 (refine svE Tryz.f15 ?_;simp only[Tryz.f15,gS])
 (repeat first|simp only[ww]|(apply xa;simp+decide only[go_sem,ai];rfl;kernel_rfl))
 refine a1x kp15_0 (λn F H1=>∃(i:Nat),n=l.length-i∧i≤l.length∧F=[(0,V),(1,.int .i64 t),(5,.int .i64 i)]∧H1=H∧(l.drop i).contains t=l.contains t) l.length ?_ ?_
 ·exact⟨_,_,d3s hV (by simp+decide only[go_sem]<;>rfl) (.inl (by simp+decide only[go_sem])),0,rfl,f0h _,rfl,rfl,rfl⟩
 ·rintro n F H1 ⟨i,rfl,hi,rfl,rfl,aE⟩
  by_cases ag:i<l.length
  ·obtain⟨v,hv⟩:∃v,l[i]?=some v:=⟨_,z9e ag⟩
   obtain⟨p,cI,cH⟩:=e45 hV hv;have hd:l.drop i=v::l.drop (i+1):=by rw[←List.getElem_cons_drop ag,(e9k.1 hv).2]
   rw[hd]at aE;have c1:(i:Int)<l.length:=by omega
   have hw:=wI1 (n:=i) (by omega);by_cases h1:v=t
   ·have c2:(v:Int)=t:=by omega
    subst h1
    (repeat first|simp only[ww]|(apply xa;simp+decide only[go_sem,ai,c1,cI,cH];rfl;kernel_rfl))
    refine a1v (vs:=[.bool true]) (r:=(_,_)) (by simp+decide only[go_sem]) (c3u hV rfl) ?_;rw[←aE];simp[a66]
   ·have c2:¬(v:Int)=t:=by omega
    (repeat first|simp only[ww]|(apply xa;simp+decide only[go_sem,ai,c1,cI,cH,c2,hw];rfl;kernel_rfl))
    refine a0p (l.length-(i+1)) (by omega) ⟨_,_,d3s hV (by simp+decide only[go_sem]<;>rfl) (.inl (by simp+decide only[go_sem])),i+1,rfl,ag,rfl,rfl,?_⟩;rw[←aE,List.contains_cons];have:(t==v)=false:=by simpa using λe=>h1 e.symm
    rw[this,Bool.false_or]
  ·obtain rfl:i=l.length:=by omega
   have c1:¬(l.length:Int)<l.length:=by omega
   rw[List.drop_length]at aE
   (repeat first|simp only[ww]|(apply xa;simp+decide only[go_sem,ai,c1];rfl;kernel_rfl))
   refine a8r (vs:=[.bool false]) (r:=(_,_)) (by simp+decide only[go_sem]) (c3u hV rfl) ?_;rw[←aE];rfl
theorem c2o{l:List Nat}{V:AV}{H:a02}(hV:RI l V H)(hl:l.length<1000000){d:Bool}(t:Nat):a09 L.env d (sem L.env Mf) (.func (.func 15) [] []) [V,.int .i64 t] H=some (.bool (l.contains t),H,refs V):=c8u hV (pre:=[]) (post:=[.int .i64 t]) (by kernel_rfl) (by kernel_rfl) rfl rfl rfl (λV H hV=>f00 l V H hV hl t)
inductive RV(l:List Nat):AV→Prop
 |imm (c:Option Nat):RV l (.islice (l.map a0d) c)
 |nil (h:l=[]):RV l .nilslice
theorem RV.ri{l:List Nat}{V:AV}(h:RV l V):RI l V []:=by
 cases h with
 |imm c=>exact .imm c
 |nil h=>exact .nil h
theorem RV.refs{l:List Nat}{V:AV}(h:RV l V):Ax.refs V=[]:=by cases h<;>rfl
theorem d7k{l:List Nat}{V:AV}(h:RV l V)(hp:FHeap):b8v L.env hp 34 V=some (.int .i64 l.length):=by
 cases h with
 |imm c=>simp+decide only[go_sem,c11]
 |nil h=>subst h;simp+decide only[go_sem];rfl
theorem e43{l:List Nat}{V:AV}(h:RV l V)(hp:FHeap){i v:Nat}(hi:l[i]?=some v):∃p,a0s L.env hp 34 V (.int .i64 i)=some p∧a5e L.env hp 3 p=some (.int .i64 v):=by
 have ag:=(e9k.1 hi).1;cases h with
 |imm c=>
  have hg:(l.map a0d)[i]?=some [.int .i64 v]:=by rw[f0d,hi];rfl
  exact⟨_,by simp+decide only[go_sem,hg,ag,c11]<;>rfl,by simp+decide only[go_sem,hg,ag]⟩
 |nil h=>subst h;simp at ag
theorem d4c(a:List Nat)(A:AV)(hA:RV a A)(ha:a.length<1000000)(l:List Nat)(V:AV)(H:a02)(hV:RI l V H)(hl:l.length<1000000):sem L.env Mf 14 [A,V] H=some (.bool (a6l a l),H):=by
 have ai:=d7k hA (a01 H);have bg:=c8t hV;have hr:=hA.refs
 suffices hs:∃r:AV×a02,(r=(.bool (a6l a l),H))∧sem L.env Mf 14 [A,V] H=some r by obtain⟨r,rfl,h3⟩:=hs;exact h3
 (refine svE Tryz.f14 ?_;simp only[Tryz.f14,gS])
 (repeat first|simp only[ww]|(apply xa;simp+decide only[go_sem,ai];rfl;kernel_rfl))
 refine a1x kp14_0 (λn F H1=>∃(i:Nat),n=a.length-i∧i≤a.length∧F=[(0,A),(1,V),(5,.int .i64 i)]∧H1=H∧a6l (a.drop i) l=a6l a l) a.length ?_ ?_
 ·exact⟨_,_,d3s hV (by simp+decide only[go_sem]<;>rfl) (.inl (by simp+decide only[go_sem,hr,e9q,e9n])),0,rfl,f0h _,rfl,rfl,rfl⟩
 ·rintro n F H1 ⟨i,rfl,hi,rfl,rfl,aE⟩
  by_cases ag:i<a.length
  ·obtain⟨v,hv⟩:∃v,a[i]?=some v:=⟨_,z9e ag⟩
   obtain⟨p,cI,cH⟩:=e43 hA (a01 H1) hv;have hd:a.drop i=v::a.drop (i+1):=by rw[←List.getElem_cons_drop ag,(e9k.1 hv).2]
   rw[hd]at aE;simp only[a6l,List.any_cons]at aE;have c1:(i:Int)<a.length:=by omega
   have hw:=wI1 (n:=i) (by omega);have hc:=c2o hV hl (d:=false) v;by_cases h1:l.contains v=true
   ·rw[h1]at aE hc
    (repeat first|simp only[ww]|(apply xa;simp+decide only[go_sem,ai,c1,cI,cH,hc];rfl;kernel_rfl))
    refine a1v (vs:=[.bool true]) (r:=(_,_)) (by simp+decide only[go_sem]) (c3u hV rfl) ?_;simp only[Bool.true_or]at aE;simp only[a6l,a66,←aE]
   ·have h1:l.contains v=false:=by simpa using h1
    rw[h1]at aE hc
    (repeat first|simp only[ww]|(apply xa;simp+decide only[go_sem,ai,c1,cI,cH,hc,hw];rfl;kernel_rfl))
    refine a0p (a.length-(i+1)) (by omega) ⟨_,_,d3s hV (by simp+decide only[go_sem]<;>rfl) (.inl (by simp+decide only[go_sem,hr,e9q,e9n])),i+1,rfl,ag,rfl,rfl,?_⟩;simpa only[Bool.false_or,a6l]using aE
  ·obtain rfl:i=a.length:=by omega
   have c1:¬(a.length:Int)<a.length:=by omega
   rw[List.drop_length]at aE
   (repeat first|simp only[ww]|(apply xa;simp+decide only[go_sem,ai,c1];rfl;kernel_rfl))
   refine a8r (vs:=[.bool false]) (r:=(_,_)) (by simp+decide only[go_sem]) (c3u hV rfl) ?_;rw[←aE];rfl
theorem b68{a:List Nat}{A:AV}(hA:RV a A)(ha:a.length<1000000){l:List Nat}{V:AV}{H:a02}(hV:RI l V H)(hl:l.length<1000000){d:Bool}:a09 L.env d (sem L.env Mf) (.func (.func 14) [] []) [A,V] H=some (.bool (a6l a l),H,refs V):=c8u hV (pre:=[A]) (post:=[]) (by kernel_rfl) (by kernel_rfl) (by simp[a08,hA.refs]) rfl rfl (λV H hV=>d4c a A hA ha l V H hV hl)
inductive TBv(tb:List (List Nat)):AV→Prop
 |imm (VS:List AV) (c:Option Nat) (hl:VS.length=tb.length) (h:∀(i:Nat) r,tb[i]?=some r→∃V,VS[i]?=some V∧RV r V):TBv tb (.islice (VS.map λv=>[v]) c)
 |nil (h:tb=[]):TBv tb .nilslice
section
variable {ks V:List Int}{i:Int}
end
def Asc(n:Nat):Int→List Nat→Prop
 |_,[]=>True
 |last,x::r=>last<x∧x<n∧Asc n x r
theorem d0a:sem L.env Mf 35 [.nilslice] []=some (.nilslice,[]):=by
 (refine sv Tryz.f35 ?_;simp only[Tryz.f35,gS])
 (repeat first|simp only[ww]|(apply xa;simp+decide only[go_sem];rfl;kernel_rfl))
 (apply fqb;simp+decide only[go_sem]<;>rfl)
theorem d4p(n:Nat)(rows:List (List AV))(hf:FlatR rows):sem L.env Mf 35 [.slice 0 0 n none] [some (.row 1 rows)]=some (.slice 0 0 n (some n),[some (.row 1 rows)]):=by
 have h1:=λπ=>a0b π hf
 (refine sv Tryz.f35 ?_;simp only[Tryz.f35,gS])
 (repeat first|simp only[ww]|(apply xa;simp+decide only[go_sem];rfl;kernel_rfl))
 (apply fqb;simp+decide only[go_sem,h1]<;>rfl)
theorem b6g{d:Bool}{H:a02}{b n:Nat}{rows:List (List AV)}(hf:FlatR rows)(hb:a01 H b=some (.row 1 rows)):a09 L.env d (sem L.env Mf) (.func (.func 35) [] []) [.slice b 0 n none] H=some (.slice b 0 n (some n),H,[b]):=by have h:=a3k (E:=L.env) (ah:=d) (call:=sem L.env Mf) (g:=35) (fs:=[]) (cs:=[]) (ar:=[.slice b 0 n none]) (H:=H) (b:=b) (by kernel_rfl) (by kernel_rfl) rfl hb (a0f hf) (FlatO.row hf) rfl (ap:=[AV.slice 0 0 n none]) (by simp only[e9q,e9n,e12,e9p,a1t]) (d4p n rows hf) (FlatO.row hf) (a4t b 0 _ n _);rw[a5c hb]at h;exact h
open Go.Proofs Go.Ax Go.Pc Go.Sort
def cs0(n i:Nat):List (Option (List Int)):=(List.range n).map λj=>if j<i then some []else none
def cs2(n:Nat)(f:Nat→List Int):List (Option (List Int)):=((List.range n).map f).map some
theorem b58(l:List Nat):FlatR (l.map a0d):=FlatR.map λ_=>rfl
theorem e4j(l:List Nat):(l.map a0d).flatMap a08=[]:=a0e (b58 l)
theorem e9j(π:Nat→Option Nat)(l:List Nat):(l.map a0d).map (λr=>r.map (ren π))=l.map a0d:=a0b π (b58 l)
def lsV:List Nat→AV|[]=>.nilslice|a::r=>.islice ((a::r).map a0d) (some (r.length+1))
theorem d7x(l:List Nat):RV l (lsV l):=by
 cases l with
 |nil=>exact .nil rfl
 |cons a r=>exact .imm _
theorem c46(l:List Nat):refs (lsV l)=[]:=(d7x l).refs
theorem e95(l:List Nat):List.take l.length (l.map a0d)=l.map a0d:=f0f (by simp)
structure Tab(tb:List (List Nat))(n:Nat)(A:AV):Prop where
 val:TBv tb A
 rows:tb.length≤1000
 tests:n≤1000
 asc:∀r∈tb,r.length<1000000∧Asc n (-1) r
theorem e09(l:List Nat):d32 L.env 34 (lsV l)=some (.int .i64 l.length):=by
 cases l with
 |nil=>simp+decide only[go_sem,lsV];rfl
 |cons a r=>simp+decide only[go_sem,lsV,e9m]
theorem e0k(l:List Nat)(c:Option Nat)(hl:l.length<1000000):sem L.env Mf 13 [lsV l,.slice 0 0 l.length c] [some (.row 1 (l.map a0d))]=some (.int .i64 0,[some (.row 1 (l.map a0d))]):=by
 have dM:=d7k (d7x l) (a01 [some (.row 1 (l.map a0d))]);have aU:=e09 l;have hr:=c46 l;have kP:∀π,ren π (lsV l)=lsV l:=λπ=>a0x π _ hr;have c0:¬(l.length:Int)<l.length:=by omega
 suffices hs:∃r:AV×a02,(r=(.int .i64 0,[some (.row 1 (l.map a0d))]))∧sem L.env Mf 13 [lsV l,.slice 0 0 l.length c] [some (.row 1 (l.map a0d))]=some r by obtain⟨r,rfl,h3⟩:=hs;exact h3
 (refine svE Tryz.f13 ?_;simp only[Tryz.f13,gS])
 (repeat first|simp only[ww]|(apply xa;simp+decide only[go_sem,dM,aU,c0];rfl;kernel_rfl))
 refine a1x kp13_0 (λn F H1=>∃(i:Nat),n=l.length-i∧i≤l.length∧F=[(0,lsV l),(1,.slice 0 0 l.length c),(5,.int .i64 i)]∧H1=[some (.row 1 (l.map a0d))]) l.length ?_ ?_
 ·refine⟨_,_,?_,0,rfl,f0h _,rfl,rfl⟩
  (simp+decide only[go_sem,a03,a00,hr,kP,e4j,e9j]<;>rfl)<;>rfl
 ·rintro n F H1 ⟨i,rfl,hi,rfl,rfl⟩
  by_cases ag:i<l.length
  ·obtain⟨v,hv⟩:∃v,l[i]?=some v:=⟨_,z9e ag⟩
   have hg:(l.map a0d)[i]?=some [.int .i64 v]:=by rw[f0d,hv];rfl
   have rN:lsV l = .islice (l.map a0d) (some l.length):=by
    cases l with
    |nil=>simp at ag
    |cons a r=>rfl
   have c1:(i:Int)<l.length:=by omega
   have hw:=wI1 (n:=i) (by omega);have c2:¬¬(v:Int)=v:=by simp
   (repeat first|simp only[ww]|(apply xa;simp+decide only[go_sem,dM,c1];rfl;kernel_rfl))
   (repeat first|simp only[ww]|((with_reducible first|apply xs2|apply xI);(·simp+decide only[go_sem,rN,hg,ag,c11,hw];rfl);with_reducible first|apply xT|apply xF|(·kernel_rfl)))
   refine a0p (l.length-(i+1)) (by omega) ⟨_,_,?_,i+1,rfl,ag,rfl,rfl⟩
   (simp+decide only[go_sem,a03,a00,rN,e4j,e9j]<;>rfl)<;>rfl
  ·obtain rfl:i=l.length:=by omega
   have c1:¬(l.length:Int)<l.length:=by omega
   (repeat first|simp only[ww]|(apply xa;simp+decide only[go_sem,dM,c1];rfl;kernel_rfl))
   refine a8r (vs:=[.int .i64 0]) (r:=(_,_)) (by simp+decide only[go_sem]) ?_ rfl;simp+decide only[go_sem,a10,e9j]<;>rfl
theorem d0i{d:Bool}{H:a02}{b:Nat}{l:List Nat}{c:Option Nat}(hl:l.length<1000000)(hb:a01 H b=some (.row 1 (l.map a0d))) :
 a09 L.env d (sem L.env Mf) (.func (.func 13) [] []) [lsV l,.slice b 0 l.length c] H=some (.int .i64 0,H,[b]):=by
 have hr:=c46 l;have kP:∀π,ren π (lsV l)=lsV l:=λπ=>a0x π _ hr;have h:=a3k (E:=L.env) (ah:=d) (call:=sem L.env Mf) (g:=13) (fs:=[]) (cs:=[]) (ar:=[lsV l,.slice b 0 l.length c]) (H:=H) (b:=b) (by kernel_rfl) (by kernel_rfl) rfl hb (a0f (b58 l)) (FlatO.row (b58 l)) (by simp only[e9q,e9n,a0c,hr,b0o];rfl) (ap:=[lsV l,.slice 0 0 l.length c]) (by simp only[e9q,e9n,e12,e9p,a1t,kP]) (e0k l c hl) (FlatO.row (b58 l)) rfl;rw[a5c hb]at h;exact h
theorem c69{d:Bool}(H:a02):a09 L.env d (sem L.env Mf) (.func (.func 6) [] []) [] H=some (.bool true,H,[]):=a04 (by kernel_rfl) (by kernel_rfl) rfl rfl d01 rfl
end Go.QInst
