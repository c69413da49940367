/- Part of a proof. No condition. -/
import Derived.Test.YtmbmjfjagololaaGreatDoorRPg
import Derived.Test.YtmbmjfjagololaaGreatDoorAxE
set_option linter.unusedSectionVars false
set_option linter.unusedSimpArgs false
set_option linter.unusedVariables false
namespace Go.RInst
open Go.Proofs Go.Ax Go.Pc
variable [PR]
set_option maxRecDepth 100000
theorem a42{g:Nat}{a:List AV}{H:a08}{r:AV×a08}(h:primH L.env g a H=some r):sem L.env Mf g a H=some r:=by refine a7i (by intro y hy;cases hy) 0 ?_;unfold a5v;rw[h]
@[go_sem] theorem a9i(π:Nat→Option Nat)(t:Nat)(b:Bool)(k:Nat)(rows:List (List AV)):a0q π (.trow t b k rows) = .trow t b k (rows.map λr=>r.map (ren π)):=by rfl
@[go_sem] theorem d5e(t:Nat)(b:Bool)(k:Nat)(rows:List (List AV)):a39 (some (.trow t b k rows))=rows.flatMap a0w:=by rfl
def lnT(l:List (List UInt8)):List UInt8:=Lib.join l [32]++[10]
def okL(n:Nat)(l:List (List UInt8)):Prop:=0<l.length∧l.length≤1000∧n+(lnT l).length≤1000000
theorem d62(n:Nat)(c:Option Nat)(l:List (List UInt8))(hn:l.length=n)(h:okL 0 l):sem L.env Mf 24 [.slice 0 0 n c,.str [32]] [some (.row 1 (a1s l))]=some (.str (Lib.join l [32]),[some (.row 1 (a1s l))]):=by
 refine a42 ?_;obtain⟨h1,h2,h3⟩:=h;have hz:b8g [.slice 0 0 n c,.str [32]]=false:=by show Nat.beq n 0=false;rw[←Bool.not_eq_true,Nat.beq_eq];omega
 rw[b9z,hz];show c00 [.slice 0 0 n c,.str [32]] [some (.row 1 (a1s l))]=_;have h4:(Lib.join l [32]).length+1≤1000000:=by simpa[lnT]using h3
 have b1:Nat.ble (0+n) (a1s l).length=true:=by rw[Nat.ble_eq];simp[a1s,hn]
 have b0:((a1s l).drop 0).take n=a1s l:=by rw[List.drop_zero];exact List.take_of_length_le (by simp[a1s,hn])
 have b2:Nat.blt 0 n=true:=by rw[Nat.blt_eq];omega
 have b4:unS (a1s l)=some l:=b1w l;have b5:okJ l [32]=true:=by unfold okJ b44;rw[Nat.ble_eq_true_of_le (by omega),Nat.ble_eq_true_of_le (by omega)];rfl
 simp only[c00,b0,b1,b2,b4,b5];rfl
def bd0:Option AObj:=some (.trow 82 true 2 [[.nilptr,.nilslice]])
def bdN(k c n:Nat):Option AObj:=some (.trow 82 true 2 [[.ptr k 0 0,.slice c 0 n none]])
def buf(s:List UInt8):Option AObj:=some (.trow 5 false 1 (a1f s))
theorem d4j(t:List UInt8)(ht:t≠[])(hl:t.length≤1000000):sem L.env Mf 36 [.ptr 0 0 0,.str t] [bd0]=some (.tuple [.int .i64 t.length,.nilifc],[bdN 0 1 t.length,buf t]):=by
 refine a42 ?_;show wsP [.ptr 0 0 0,.str t] [bd0]=_;have b1:Nat.ble t.length b44=true:=Nat.ble_eq_true_of_le (Nat.le_trans hl (by decide));cases t with
 |nil=>exact absurd rfl ht
 |cons a t=>simp only[wsP,bd0,b1];rfl
theorem c3f(s t:List UInt8)(ht:t≠[])(hl:s.length+t.length≤1000000):sem L.env Mf 36 [.ptr 0 0 0,.str t] [bdN 0 1 s.length,buf s]=some (.tuple [.int .i64 t.length,.nilifc],[bdN 0 2 (s++t).length,none,buf (s++t)]):=by
 refine a42 ?_;show wsP [.ptr 0 0 0,.str t] [bdN 0 1 s.length,buf s]=_;have b1:Nat.ble (s.length+t.length) b44=true:=Nat.ble_eq_true_of_le (Nat.le_trans hl (by decide));have b2:Nat.beq s.length (a1f s).length=true:=by rw[Nat.beq_eq];simp[a1f]
 have b3:a1f s++a1f t=a1f (s++t):=by simp[a1f]
 have b4:t.isEmpty=false:=by cases t with|nil=>exact absurd rfl ht|cons=>rfl
 simp only[wsP,bdN,buf,b1,b2,b3,b4,List.length_append];rfl
theorem c9e(l:List (List UInt8)):lnT l≠[]:=by unfold lnT;simp
theorem a4b(l:List (List UInt8)):FlatR (a1s l):=FlatR.map λ_=>rfl
theorem a0e(s:List UInt8):FlatR (a1f s):=FlatR.map λ_=>rfl
theorem d4l(n:Nat)(c:Option Nat)(l:List (List UInt8))(hn:l.length=n)(h:okL 0 l):sem L.env Mf 35 [.slice 0 0 n c,.ptr 1 0 0] [some (.row 1 (a1s l)),bd0]=some (.tuple [],[some (.row 1 (a1s l)),bdN 1 2 (lnT l).length,buf (lnT l)]):=by
 have hf:=a4b l;have h1:=λπ=>a02 π hf;have h2:=a01 hf;have hj:=d62 n c l hn h;have hw:=d4j (lnT l) (c9e l) (by have:=h.2.2;omega);have k1:a0j L.env false (sem L.env Mf) (.func (.func 24) [] []) [.slice 0 0 n c,.str [32]] [some (.row 1 (a1s l)),bd0]=some (.str (Lib.join l [32]),[some (.row 1 (a1s l)),bd0],[0]):=a3c (by kernel_rfl) (by kernel_rfl) rfl (b:=0) (o:=.row 1 (a1s l)) rfl (a0r hf) (FlatO.row hf) rfl (by rfl) hj rfl;have k2:a0j L.env false (sem L.env Mf) (.func (.func 36) [] []) [.ptr 1 0 0,.str (lnT l)] [some (.row 1 (a1s l)),bd0]=some (.tuple [.int .i64 (lnT l).length,.nilifc],[some (.row 1 (a1s l)),bdN 1 2 (lnT l).length,buf (lnT l)],[1]):=by have hc:=a0o (sem L.env Mf 36) [.ptr 1 0 0,.str (lnT l)] [some (.row 1 (a1s l)),bd0] (σ:=[1]) (by rfl) rfl rfl (args':=[.ptr 0 0 0,.str (lnT l)]) rfl (H0:=[bd0]) (by rfl) hw;refine a1x (by kernel_rfl) (by kernel_rfl) rfl (hc.trans ?_);have hb:=a02 (a1g [1] 2) (a0e (lnT l));simp+decide only[go_sem,bd0,bdN,buf,a0s,hb,h1];rfl
 (refine sv Tryz.f35 ?_;simp only[Tryz.f35,gS])
 have e:Lib.join l [32]++[10]=lnT l:=rfl;have hle:(Lib.join l [32]).length+1≤4611686018427387904:=by have:=h.2.2;simp[lnT]at this;omega
 (repeat first|simp only[ww]|(apply xa;simp+decide only[go_sem,k1,e,k2,hle];rfl;kernel_rfl))
 (apply fqb;simp+decide only[go_sem,h1,h2]<;>rfl)
theorem d4k(n:Nat)(c:Option Nat)(s:List UInt8)(l:List (List UInt8))(hn:l.length=n)(h:okL s.length l):sem L.env Mf 35 [.slice 0 0 n c,.ptr 1 0 0] [some (.row 1 (a1s l)),bdN 1 2 s.length,buf s]=some (.tuple [],[some (.row 1 (a1s l)),bdN 1 3 (s++lnT l).length,none,buf (s++lnT l)]):=by
 have hf:=a4b l;have h0:okL 0 l:=⟨h.1,h.2.1,by have:=h.2.2;omega⟩
 have h1:=λπ=>a02 π hf;have h2:=a01 hf;have hg:=a01 (a0e s);have hj:=d62 n c l hn h0;have hw:=c3f s (lnT l) (c9e l) h.2.2;have k1:a0j L.env false (sem L.env Mf) (.func (.func 24) [] []) [.slice 0 0 n c,.str [32]] [some (.row 1 (a1s l)),bdN 1 2 s.length,buf s]=some (.str (Lib.join l [32]),[some (.row 1 (a1s l)),bdN 1 2 s.length,buf s],[0]):=a3c (by kernel_rfl) (by kernel_rfl) rfl (b:=0) (o:=.row 1 (a1s l)) rfl (a0r hf) (FlatO.row hf) rfl (by rfl) hj rfl;have k2:a0j L.env false (sem L.env Mf) (.func (.func 36) [] []) [.ptr 1 0 0,.str (lnT l)] [some (.row 1 (a1s l)),bdN 1 2 s.length,buf s]=some (.tuple [.int .i64 (lnT l).length,.nilifc],[some (.row 1 (a1s l)),bdN 1 3 (s++lnT l).length,none,buf (s++lnT l)],[1,2]):=by
  have hb:=λπ=>a02 π (a0e s);have hb2:=λπ=>a02 π (a0e (s++lnT l));have hrc:a0h [some (AObj.row 1 (a1s l)),bdN 1 2 s.length,buf s] 1000000 (a0w [AV.ptr 1 0 0,.str (lnT l)]) []=[1,2]:=by show a0h _ 1000000 [1] []=_;rw[show(1000000:Nat)=999996+1+1+1+1 from rfl,a07 rfl];show a0h _ (999996+1+1+1) [1,2] [1]=_;rw[a6c rfl,a07 rfl];show a0h _ (999996+1) (a39 (buf s)++[]) [2,1]=_;rw[show a39 (buf s)=[]from hg];exact a13 _ _ _
  have hc:=a0o (sem L.env Mf 36) [.ptr 1 0 0,.str (lnT l)] [some (.row 1 (a1s l)),bdN 1 2 s.length,buf s] (σ:=[1,2]) hrc rfl rfl (args':=[.ptr 0 0 0,.str (lnT l)]) rfl (H0:=[bdN 0 1 s.length,buf s]) (by simp+decide only[go_sem,bdN,buf,a0u,hb]) hw;refine a1x (by kernel_rfl) (by kernel_rfl) rfl (hc.trans ?_);simp+decide only[go_sem,bdN,buf,a0s,hb2,h1];rfl
 have e:Lib.join l [32]++[10]=lnT l:=rfl;have hle:(Lib.join l [32]).length+1≤4611686018427387904:=by have:=h0.2.2;simp[lnT]at this;omega
 (refine sv Tryz.f35 ?_;simp only[Tryz.f35,gS])
 (repeat first|simp only[ww]|(apply xa;simp+decide only[go_sem,k1,e,k2,hle];rfl;kernel_rfl))
 (apply fqb;simp+decide only[go_sem,h1,h2]<;>rfl)
def e3q(H:a08)(c a:Nat)(s:List UInt8):Prop:=(s=[]∧a04 H c=bd0)∨(s≠[]∧a04 H c=bdN c a s.length∧a04 H a=buf s∧a≠c)
theorem a3o(H:a08)(k c a n:Nat)(cp:Option Nat)(s:List UInt8)(l:List (List UInt8))(hn:l.length=n)(h:okL s.length l)(hk:a04 H k=some (.row 1 (a1s l)))(hb:e3q H c a s)(hkc:k≠c)(hka:s≠[]→k≠a) :
 ∃H' a' σ,a0j L.env false (sem L.env Mf) (.func (.func 35) [] [.ptr c 0 0]) [.slice k 0 n cp] H=some (.tuple [],H',σ)∧e3q H' c a' (s++lnT l)∧H.length≤a'∧a'<H'.length∧H.length≤H'.length∧∀b,b<H.length→b≠c→(s≠[]→b≠a)→a04 H' b=a04 H b:=by
 have hlk:=a0t hk;have hf:=a4b l;have hfk:a39 (a04 H k)=[]:=by rw[hk];exact a0r hf
 have hkr:=λπ=>a02 π hf;have hne:s++lnT l≠[]:=by simp[lnT]
 rcases hb with ⟨rfl,hc⟩|⟨hs,hc,ha,hac⟩
 ·have hlc:=a0t (H:=H) (b:=c) (o:=.trow 82 true 2 [[.nilptr,.nilslice]]) hc;have hw:=d4l n cp l hn h;have hrc:a0h H 1000000 (a0w [AV.slice k 0 n cp,.ptr c 0 0]) []=[k,c]:=by
   show a0h H 1000000 [k,c] []=_;rw[show(1000000:Nat)=999997+1+1+1 from rfl,a07 rfl,hfk,List.nil_append,a07 (by simp[a03,a06,hkc]),hc];exact a13 _ _ _
  obtain⟨H',h1,h2,h3,h4,h5⟩:=b00 (E:=L.env) (call:=sem L.env Mf) (g:=35) (fs:=[]) (cs:=[.ptr c 0 0]) (ar:=[.slice k 0 n cp]) (H:=H) (σ:=[k,c]) (by kernel_rfl) (by kernel_rfl) rfl hrc (by simp[a11,a19,a03,a06,hkc.symm]) (by simp[hlk,hlc]) (args':=[.slice 0 0 n cp,.ptr 1 0 0]) (by simp[ren,a36,List.idxOf?_cons,hkc]) (H0:=[some (.row 1 (a1s l)),bd0]) (by simp only[a0u,List.map_cons,List.map_nil,hk,hc,Option.map_some,a0q,hkr];rfl) hw rfl;refine⟨H',H.length,_,h1,.inr ⟨hne,?_,?_,by omega⟩,Nat.le_refl _,by rw[h2];show _<_+(3-2);omega,by omega,λb hb b1 _=>?_⟩
  ·rw[h3 1 c rfl];show some (a0q _ (AObj.trow 82 true 2 [[AV.ptr 1 0 0,AV.slice 2 0 (lnT l).length none]]))=_;rw[a9i];simp[ren,a1g,bdN,a4d];exact⟨rfl,rfl⟩
  ·have h50:=h5 0;rw[Nat.add_zero]at h50;rw[h50];show some (a0q _ (AObj.trow 5 false 1 (a1f (lnT l))))=_;rw[a9i,a02 _ (a0e _)];rfl
  ·by_cases hbk:b=k
   ·subst hbk;rw[h3 0 b rfl,hk];show some (a0q _ (AObj.row 1 (a1s l)))=_;simp only[a0q,hkr]
   ·exact h4 b hb (by simp[hbk,b1])
 ·have hlc:=a0t (H:=H) (b:=c) (o:=.trow 82 true 2 [[.ptr c 0 0,.slice a 0 s.length none]]) hc;have hla:=a0t (H:=H) (b:=a) (o:=.trow 5 false 1 (a1f s)) ha;have hka:=hka hs;have hw:=d4k n cp s l hn h;have hfa:a39 (a04 H a)=[]:=by rw[ha];exact a01 (a0e s)
  have hfc:a39 (a04 H c)=[c,a]:=by rw[hc];rfl
  have hbr:=λπ=>a02 π (a0e s);have hrc:a0h H 1000000 (a0w [AV.slice k 0 n cp,.ptr c 0 0]) []=[k,c,a]:=by show a0h H 1000000 [k,c] []=_;rw[show(1000000:Nat)=999995+1+1+1+1+1 from rfl,a07 rfl,hfk,List.nil_append,a07 (by simp[a03,a06,hkc]),hfc];show a0h H _ [c,a] _=_;rw[a6c (by simp[a03,a06]),a07 (by simp[a03,a06,hka,hac.symm]),hfa];exact a13 _ _ _
  obtain⟨H',h1,h2,h3,h4,h5⟩:=b00 (E:=L.env) (call:=sem L.env Mf) (g:=35) (fs:=[]) (cs:=[.ptr c 0 0]) (ar:=[.slice k 0 n cp]) (H:=H) (σ:=[k,c,a]) (by kernel_rfl) (by kernel_rfl) rfl hrc (by simp[a11,a19,a03,a06,hkc.symm,hka.symm,hac]) (by simp[hlk,hlc,hla]) (args':=[.slice 0 0 n cp,.ptr 1 0 0]) (by simp[ren,a36,List.idxOf?_cons,hkc]) (H0:=[some (.row 1 (a1s l)),bdN 1 2 s.length,buf s]) (by simp only[a0u,List.map_cons,List.map_nil,hk,hc,ha,bdN,buf,Option.map_some,a9i,a0q,hkr,hbr];simp[ren,a4d,a36,List.idxOf?_cons,hkc,hka,hac.symm]) hw rfl;refine⟨H',H.length,_,h1,.inr ⟨hne,?_,?_,by omega⟩,Nat.le_refl _,by rw[h2];show _<_+(4-3);omega,by omega,λb hb b1 b2=>?_⟩
  ·rw[h3 1 c rfl];show some (a0q _ (AObj.trow 82 true 2 [[AV.ptr 1 0 0,AV.slice 3 0 (s++lnT l).length none]]))=_;rw[a9i];simp[ren,a1g,bdN,a4d];exact⟨rfl,rfl⟩
  ·have h50:=h5 0;rw[Nat.add_zero]at h50;rw[h50];show some (a0q _ (AObj.trow 5 false 1 (a1f (s++lnT l))))=_;rw[a9i,a02 _ (a0e _)];rfl
  ·by_cases hbk:b=k
   ·subst hbk;rw[h3 0 b rfl,hk];show some (a0q _ (AObj.row 1 (a1s l)))=_;simp only[a0q,hkr]
   ·exact h4 b hb (by simp[hbk,b1,b2 hs])
end Go.RInst
namespace Go.RInst
open Go.Proofs Go.Ax Go.Pc
variable [PR]
set_option maxRecDepth 100000
end Go.RInst
namespace Go.RInst
open Go.Proofs Go.Ax Go.Pc
variable [PR]
set_option maxRecDepth 100000
def e4p(S:List Sg)(T:List Tm)(V:List Vc):Int:=if 16<T.length then 3 else if(S.all b1r&&T.all a5j&&V.all λv=>a55 v S T.length)=false then 1 else if(!decide (S.map Sg.name).Nodup || !decide (T.map Tm.name).Nodup)=true then 5 else if 1000000<a1d V then 3 else 0
end Go.RInst
namespace Go.RInst
open Go.Proofs Go.Ax Go.Pc
variable [PR]
set_option maxRecDepth 100000
end Go.RInst
namespace Go.RInst
open Go.Proofs Go.Ax Go.Pc
variable [PR]
set_option maxRecDepth 100000
def b2o:List UInt8:=[115,105,103,110,97,108]
def a4u:List UInt8:=[116,105,109,105,110,103]
def a8g:List UInt8:=[118,101,99,116,111,114]
def inK:List UInt8:=[105,110]
def c4q:List UInt8:=[111,117,116]
def a6j(s:Sg):List (List UInt8):=[b2o,s.name,if s.dir=1 then c4q else inK]
def a56(t:Tm):List Int:=[t.per,t.dr,t.ri,t.fa,t.st]
def a91(t:Tm):List (List UInt8):=[a4u,t.name]++(a56 t).map Lib.itoa
def a8m(T:List Tm)(v:Vc):List (List UInt8):=match T[v.t.toNat]? with
 |some t=>[a8g,t.name,if v.cells=[]then[45]else v.cells]++(if v.rep=1 then[]else[Lib.itoa v.rep])
 |none=>[]
def txS(S:List Sg):List UInt8:=S.flatMap λs=>lnT (a6j s)
def txT(T:List Tm):List UInt8:=T.flatMap λt=>lnT (a91 t)
def txV(T:List Tm)(V:List Vc):List UInt8:=V.flatMap λv=>lnT (a8m T v)
def a5k(S:List Sg)(T:List Tm)(V:List Vc):List UInt8:=txS S++txT T++txV T V
theorem e17{α:Type}(f:α→List UInt8)(l:List α){i:Nat}{x:α}(h:l[i]?=some x):(l.take (i+1)).flatMap f=(l.take i).flatMap f++f x:=by rw[a59 h];simp
theorem b3i{α:Type}(f:α→List UInt8)(k:Nat):∀(l:List α),(∀x∈l,(f x).length≤k)→(l.flatMap f).length≤k*l.length
 | [],_=>by simp
 |a::l,h=>by have h1:=b3i f k l λx hx=>h x (by simp[hx]);have h2:=h a (by simp);rw[List.flatMap_cons,List.length_append,List.length_cons,Nat.mul_succ];omega
theorem d1x{α:Type}(f:α→List UInt8)(l:List α)(i:Nat):((l.take i).flatMap f).length≤(l.flatMap f).length:=by
 have e:l.flatMap f=(l.take i).flatMap f++(l.drop i).flatMap f:=by rw[←List.flatMap_append,List.take_append_drop]
 rw[e,List.length_append];omega
theorem c9s:∀(k n:Nat),n<10^(k+1)→(Lib.decDigits n).length≤k+1
 |0,n,h=>by rw[Lib.decDigits,dif_pos (by omega)];simp
 |k+1,n,h=>by
  rw[Lib.decDigits];by_cases hn:n<10
  ·rw[dif_pos hn];simp
  ·rw[dif_neg hn,List.length_append];have:=c9s k (n/10) (by rw[Nat.pow_succ]at h;omega);simp only[List.length_cons,List.length_nil];omega
theorem a6s(n:Int)(h0:0≤n)(h1:n≤1000000):(Lib.itoa n).length≤7:=by unfold Lib.itoa;rw[if_neg (by omega)];exact c9s 6 _ (by omega)
theorem b9x(l:List (List UInt8))(x:List UInt8):(lnT (x::l)).length=l.length+Lib.lens (x::l)+1:=by unfold lnT;rw[List.length_append,Lib.join_length];simp
theorem b6p{s:List UInt8}(h:a43 s=true):s.length≤32:=by
 cases s with
 |nil=>simp
 |cons a r=>simp only[a43,Bool.and_eq_true,decide_eq_true_eq]at h;exact h.1
theorem b34(x:List UInt8)(l:List (List UInt8)):Lib.lens (x::l)=x.length+Lib.lens l:=by simp[Lib.lens]
theorem b6u:Lib.lens []=0:=rfl
theorem a9e{s:Sg}(h:b1r s=true):(lnT (a6j s)).length≤150:=by simp only[b1r,Bool.and_eq_true]at h;have:=b6p h.1;unfold a6j;rw[b9x];simp only[b34,b6u,List.length_cons,List.length_nil,b2o];split<;>simp[c4q,inK]<;>omega
theorem a9b{t:Tm}(h:a5j t=true):(lnT (a91 t)).length≤150:=by have h0:=c0k h;simp only[a5j,Bool.and_eq_true,decide_eq_true_eq]at h;have:=b6p h.1;have:=h0.dr0;have:=h0.ri;have:=h0.fa;have:=h0.per;have:=h0.top;have:=h0.st0;have:=h0.st1;have a1:=a6s t.per (by omega) (by omega);have a2:=a6s t.dr (by omega) (by omega);have a3:=a6s t.ri (by omega) (by omega);have a4:=a6s t.fa (by omega) (by omega);have a5:=a6s t.st (by omega) (by omega);unfold a91 a56;simp only[List.map_cons,List.map_nil,List.cons_append,List.nil_append];rw[b9x];simp only[b34,b6u,List.length_cons,List.length_nil,a4u];omega
theorem b69(T:List Tm)(v:Vc)(t:Tm)(h:T[v.t.toNat]?=some t):a8m T v=[a8g,t.name,if v.cells=[]then[45]else v.cells]++(if v.rep=1 then[]else[Lib.itoa v.rep]):=by unfold a8m;rw[h]
theorem a99{S:List Sg}{T:List Tm}{V:List Vc}(h:Valid S T V){v:Vc}(hv:v∈V):(lnT (a8m T v)).length≤200:=by
 have hk:=h.vc v hv;have hS:=h.hS;simp only[a55,Bool.and_eq_true,decide_eq_true_eq]at hk;obtain⟨t,ht⟩:∃t,T[v.t.toNat]?=some t:=⟨_,z9e (by omega)⟩
 have hto:=h.tm t (List.mem_of_getElem? ht);simp only[a5j,Bool.and_eq_true,decide_eq_true_eq]at hto;have:=b6p hto.1;have:=a4t _ _ hk.2.2.2.2;have a1:=a6s v.rep (by omega) (by omega);rw[b69 T v t ht];split<;>split<;>(simp only[List.cons_append,List.nil_append];rw[b9x];simp only[b34,b6u,List.length_cons,List.length_nil,a8g];omega)
theorem b37{d:Bool}(H:a08)(n:Int)(h0:0≤n)(h1:n≤1000000):a0j L.env d (sem L.env Mf) (.func (.func 37) [] []) [.int .i64 n] H=some (.str (Lib.itoa n),H,[]):=by
 have hp:sem L.env Mf 37 [.int .i64 n] []=some (.str (Lib.itoa n),[]):=by
  refine a7i (by intro y hy;cases hy) 0 ?_;have hq:L.env.prim 37 [.int .i64 n]=some (.str (Lib.itoa n),[]):=by
   show d3s [.int .i64 n]=_;have b1:(decide (0≤n)&&decide (n≤1000000000))=true:=by rw[decide_eq_true h0,decide_eq_true (by omega)];rfl
   simp only[d3s,b1];rfl
  unfold a5v primH;rw[hq]
 exact a0l (by kernel_rfl) (by kernel_rfl) rfl rfl hp rfl
def bdH(s:List UInt8):a08:=match s with
 | []=>[bd0]
 |_=>[bdN 1 2 s.length,buf s]
theorem b45:bdH []=[some (.trow 82 true 2 [[.nilptr,.nilslice]])]:=rfl
theorem a50{s:List UInt8}(h:s≠[]):bdH s=[some (.trow 82 true 2 [[.ptr 1 0 0,.slice 2 0 s.length none]]),some (.trow 5 false 1 (a1f s))]:=by
 cases s with
 |nil=>exact absurd rfl h
 |cons=>rfl
theorem c4r{n:Nat}{l:List (List UInt8)}(h:n+(lnT l).length≤1000000)(h1:0<l.length)(h2:l.length≤1000):okL n l:=⟨h1,h2,h⟩
@[go_sem high] theorem e0l{H:a08}{n:Nat}{b:Nat}{todo acc:List Nat}(hn:(0<n)=True)(h:a1j acc b=true):a0h H n (b::todo) acc=a0h H (n-1) todo acc:=by
 obtain⟨m,rfl⟩:∃m,n=m+1:=⟨n-1,by have:=of_eq_true hn;omega⟩
 exact a6c h
@[go_sem high] theorem e0m{H:a08}{n:Nat}{b:Nat}{todo acc:List Nat}(hn:(0<n)=True)(h:a1j acc b=false):a0h H n (b::todo) acc=a0h H (n-1) (a39 (a04 H b)++todo) (b::acc):=by
 obtain⟨m,rfl⟩:∃m,n=m+1:=⟨n-1,by have:=of_eq_true hn;omega⟩
 exact a07 h
theorem e4e(P:AObj):a0j L.env false (sem L.env Mf) (.func (.func 38) [] []) [.ptr 1 0 0] [some P,some (.trow 82 true 2 [[.nilptr,.nilslice]])]=some (.int .i64 0,[some P,some (.trow 82 true 2 [[.nilptr,.nilslice]])],[1]):=by have hp:sem L.env Mf 38 [.ptr 0 0 0] [bd0]=some (.int .i64 0,[bd0]):=a42 (by rfl);have hc:=a0o (sem L.env Mf 38) [.ptr 1 0 0] [some P,bd0] (σ:=[1]) (by rfl) rfl rfl (args':=[.ptr 0 0 0]) rfl (H0:=[bd0]) (by rfl) hp;exact a1x (by kernel_rfl) (by kernel_rfl) rfl (hc.trans (by rfl))
theorem e40(P:AObj):a0j L.env false (sem L.env Mf) (.func (.func 39) [] []) [.ptr 1 0 0] [some P,some (.trow 82 true 2 [[.nilptr,.nilslice]])]=some (.str [],[some P,some (.trow 82 true 2 [[.nilptr,.nilslice]])],[1]):=by have hp:sem L.env Mf 39 [.ptr 0 0 0] [bd0]=some (.str [],[bd0]):=a42 (by rfl);have hc:=a0o (sem L.env Mf 39) [.ptr 1 0 0] [some P,bd0] (σ:=[1]) (by rfl) rfl rfl (args':=[.ptr 0 0 0]) rfl (H0:=[bd0]) (by rfl) hp;exact a1x (by kernel_rfl) (by kernel_rfl) rfl (hc.trans (by rfl))
theorem c0w(P:AObj)(s:List UInt8):a0h [some P,some (.trow 82 true 2 [[.ptr 1 0 0,.slice 2 0 s.length none]]),some (.trow 5 false 1 (a1f s))] 1000000 [1] []=[1,2]:=by rw[show(1000000:Nat)=999996+1+1+1+1 from rfl,a07 rfl];show a0h _ (999996+1+1+1) [1,2] [1]=_;rw[a6c rfl,a07 rfl];show a0h _ (999996+1) ((a1f s).flatMap a0w++[]) [2,1]=_;rw[a01 (a0e s)];exact a13 _ _ _
theorem e4d(P:AObj)(s:List UInt8):a0j L.env false (sem L.env Mf) (.func (.func 38) [] []) [.ptr 1 0 0] [some P,some (.trow 82 true 2 [[.ptr 1 0 0,.slice 2 0 s.length none]]),some (.trow 5 false 1 (a1f s))]=some (.int .i64 s.length,[some P,some (.trow 82 true 2 [[.ptr 1 0 0,.slice 2 0 s.length none]]),some (.trow 5 false 1 (a1f s))],[1,2]):=by have hp:sem L.env Mf 38 [.ptr 0 0 0] [bdN 0 1 s.length,buf s]=some (.int .i64 s.length,[bdN 0 1 s.length,buf s]):=a42 (by rfl);have hb:=λπ=>a02 π (a0e s);have hc:=a0o (sem L.env Mf 38) [.ptr 1 0 0] _ (σ:=[1,2]) (c0w P s) rfl rfl (args':=[.ptr 0 0 0]) rfl (H0:=[bdN 0 1 s.length,buf s]) (by simp+decide only[go_sem,bdN,buf,a0u,hb]) hp;refine a1x (by kernel_rfl) (by kernel_rfl) rfl (hc.trans ?_);simp+decide only[go_sem,bdN,buf,a0s,hb]
theorem e3z(P:AObj)(s:List UInt8)(hs:s≠[])(hl:s.length≤1000000):a0j L.env false (sem L.env Mf) (.func (.func 39) [] []) [.ptr 1 0 0] [some P,some (.trow 82 true 2 [[.ptr 1 0 0,.slice 2 0 s.length none]]),some (.trow 5 false 1 (a1f s))]=some (.str s,[some P,some (.trow 82 true 2 [[.ptr 1 0 0,.slice 2 0 s.length none]]),none],[1,2]):=by
 have hp:sem L.env Mf 39 [.ptr 0 0 0] [bdN 0 1 s.length,buf s]=some (.str s,[bdN 0 1 s.length,none]):=by
  refine a42 ?_;show d0c [.ptr 0 0 0] [bdN 0 1 s.length,buf s]=_;have b1:Nat.beq s.length (a1f s).length=true:=by rw[Nat.beq_eq];simp[a1f]
  have b2:Nat.blt 0 s.length=true:=by rw[Nat.blt_eq];exact List.length_pos_iff.2 hs
  have b3:Nat.ble s.length b44=true:=Nat.ble_eq_true_of_le (Nat.le_trans hl (by decide));simp only[d0c,bdN,buf,b1,b2,b3,b2h];rfl
 have hb:=λπ=>a02 π (a0e s);have hc:=a0o (sem L.env Mf 39) [.ptr 1 0 0] _ (σ:=[1,2]) (c0w P s) rfl rfl (args':=[.ptr 0 0 0]) rfl (H0:=[bdN 0 1 s.length,buf s]) (by simp+decide only[go_sem,bdN,buf,a0u,hb]) hp;refine a1x (by kernel_rfl) (by kernel_rfl) rfl (hc.trans ?_);simp+decide only[go_sem,bdN,buf,a0s,hb]
end Go.RInst
namespace Go.RInst
set_option maxHeartbeats 200000000
open Go.Proofs Go.Ax Go.Pc
variable [PR]
set_option maxRecDepth 100000
theorem c72(rs rt rv:Option (Option Nat))(S:List Sg)(T:List Tm)(V:List Vc)(h:Valid S T V):sem L.env Mf 18 [.agg [sl rs (S.map Sg.enc),sl rt (T.map Tm.enc),sl rv (V.map Vc.enc)]] []=some (.tuple [.str (a5k S T V),.int .i64 0],[]):=by
 have hS:=h.hS;have hT:=h.hT;have hV:=h.hV;have hck:=λd H=>c2u (d:=d) H rs rt rv S T V h;have bS:=b3i (λs=>lnT (a6j s)) 200 S λs hs=>Nat.le_trans (a9e (h.sg s hs)) (by decide);have bT:=b3i (λt=>lnT (a91 t)) 200 T λt ht=>Nat.le_trans (a9b (h.tm t ht)) (by decide);have bV:=b3i (λv=>lnT (a8m T v)) 200 V λv hv=>a99 h hv;have b46:Nat.beq 46 82=false:=by decide
 have b82:Nat.beq 82 82=true:=by rfl
 have b41:Nat.beq 41 82=false:=by decide
 have hb5:∀s,(a1f s).flatMap a0w=[]:=λs=>a01 (a0e s);have hb6:∀π s,(a1f s).map (λr=>r.map (ren π))=a1f s:=λπ s=>a02 π (a0e s)
 (refine sv Tryz.f18 ?_;simp only[Tryz.f18,gS])
 (repeat first|simp only[ww]|(apply xa;simp+decide only[go_sem,hck,b82,List.length_map];rfl;kernel_rfl))
 refine a0p (σ:=Nat) kp18_0 (λi=>[(1,.ptr 0 0 0),(5,.ptr 1 0 0),(6,.func (.func 35) [] [.ptr 1 0 0]),(25,sl rs (S.map Sg.enc)),(26,.int .i64 S.length),(27,.int .i64 (i:Nat))]) (λi=>some (.row 3 [[sl rs (S.map Sg.enc),sl rt (T.map Tm.enc),sl rv (V.map Vc.enc)]])::bdH (txS (S.take i))) (λi=>S.length-i) (λi=>i≤S.length) 0 ?_ (Nat.zero_le _) ?_
 ·(simp+decide only[go_sem,a09,a05,b82]<;>rfl)
 ·intro i hi;by_cases hlt:i<S.length
  ·have l1:(i:Int)<S.length:=by omega
   obtain⟨s,hs⟩:∃s,S[i]?=some s:=⟨_,z9e hlt⟩
   have hsm:(S.map Sg.enc)[i]?=some (Sg.enc s):=by rw[List.getElem?_map,hs];rfl
   have hsm':Sg.enc s=[.str s.name,.int .u8 s.dir]:=rfl;have hw:IntKind.i64.wrap ((i:Int)+1)=((i+1:Nat):Int):=by rw[w64 (by omega) (by omega)];omega
   have hsok:=h.sg s (List.mem_of_getElem? hs);have hsl9:=a9e hsok;simp only[b1r,Bool.and_eq_true,decide_eq_true_eq]at hsok;have hdle:=hsok.2;have hps:txS (S.take (i+1))=txS (S.take i)++lnT (a6j s):=e17 _ S hs;have hle:=d1x (λs=>lnT (a6j s)) S i;have hok:okL (txS (S.take i)).length (a6j s):=c4r (by unfold txS;omega) (by unfold a6j;simp) (by unfold a6j;simp);generalize txS (S.take i)=tx at hps hok⊢;by_cases hne:tx=[]
   ·subst hne;rw[b45];by_cases hd1:s.dir=1
    ·have hdd:=hd1;have hdi:(s.dir:Int)=1:=by omega
     have hsl:a6j s=[[115,105,103,110,97,108],s.name,[111,117,116]]:=by unfold a6j;rw[hdd];rfl
     obtain⟨H1,a1,σ1,g1,g2,g3,g4,g5,g6⟩:=a3o [some (.row 3 [[sl rs (S.map Sg.enc),sl rt (T.map Tm.enc),sl rv (V.map Vc.enc)]]),some (.trow 82 true 2 [[.nilptr,.nilslice]]),some (.row 2 [[.str s.name,.int .u8 (1:Int)]]),some (.row 1 [[.str [115,105,103,110,97,108]],[.str s.name],[.str [111,117,116]]])] 3 1 2 3 (some 3) [] (a6j s) rfl hok (by rw[hsl];rfl) (.inl ⟨rfl,rfl⟩) (by decide) (λ_=>by decide);rcases g2 with ⟨g2,_⟩|⟨_,q1,q2,q3⟩
     ·exact absurd g2 (by simp[lnT])
     have p0:a04 H1 0=some (.row 3 [[sl rs (S.map Sg.enc),sl rt (T.map Tm.enc),sl rv (V.map Vc.enc)]]):=g6 0 (by show 0<_;simp) (by decide) (by intro _;decide);have z7:a1<H1.length:=g4;have z8:0<H1.length:=by omega
     have z9:1<H1.length:=by have:4≤H1.length:=g5;omega
     have y5:4≤a1:=g3;have y0:¬0=a1:=by omega
     have y1:¬1=a1:=by omega
     have y2:¬a1=0:=by omega
     have y3:¬a1=1:=by omega
     have h5:=a01 (a0e ([]++lnT (a6j s)));have h6:=λπ=>a02 π (a0e ([]++lnT (a6j s)));rw[hsm']at hsm;rw[hdi]at hsm
     (repeat first|simp only[ww]|(apply xa;simp+decide only[go_sem,l1,hlt,hsm,hw,g1,List.length_map,b46];rfl;kernel_rfl))
     refine a22 (i+1) ?_ (by omega) (by omega);rw[hps,a50 (by simp[lnT])];simp+decide only[go_sem,a09,a05,p0,q1,q2,bdN,buf,hb5,hb6,y0,y1,y2,y3,z7,z8,z9,Nat.zero_le,Nat.not_lt_zero]<;>rfl
    ·have hdd:s.dir=0:=by omega
     have hdi:(s.dir:Int)=0:=by omega
     have hsl:a6j s=[[115,105,103,110,97,108],s.name,[105,110]]:=by unfold a6j;rw[hdd];rfl
     obtain⟨H1,a1,σ1,g1,g2,g3,g4,g5,g6⟩:=a3o [some (.row 3 [[sl rs (S.map Sg.enc),sl rt (T.map Tm.enc),sl rv (V.map Vc.enc)]]),some (.trow 82 true 2 [[.nilptr,.nilslice]]),some (.row 2 [[.str s.name,.int .u8 (0:Int)]]),some (.row 1 [[.str [115,105,103,110,97,108]],[.str s.name],[.str [105,110]]])] 3 1 2 3 (some 3) [] (a6j s) rfl hok (by rw[hsl];rfl) (.inl ⟨rfl,rfl⟩) (by decide) (λ_=>by decide);rcases g2 with ⟨g2,_⟩|⟨_,q1,q2,q3⟩
     ·exact absurd g2 (by simp[lnT])
     have p0:a04 H1 0=some (.row 3 [[sl rs (S.map Sg.enc),sl rt (T.map Tm.enc),sl rv (V.map Vc.enc)]]):=g6 0 (by show 0<_;simp) (by decide) (by intro _;decide);have z7:a1<H1.length:=g4;have z8:0<H1.length:=by omega
     have z9:1<H1.length:=by have:4≤H1.length:=g5;omega
     have y5:4≤a1:=g3;have y0:¬0=a1:=by omega
     have y1:¬1=a1:=by omega
     have y2:¬a1=0:=by omega
     have y3:¬a1=1:=by omega
     have h5:=a01 (a0e ([]++lnT (a6j s)));have h6:=λπ=>a02 π (a0e ([]++lnT (a6j s)));rw[hsm']at hsm;rw[hdi]at hsm
     (repeat first|simp only[ww]|(apply xa;simp+decide only[go_sem,l1,hlt,hsm,hw,g1,List.length_map,b46];rfl;kernel_rfl))
     refine a22 (i+1) ?_ (by omega) (by omega);rw[hps,a50 (by simp[lnT])];simp+decide only[go_sem,a09,a05,p0,q1,q2,bdN,buf,hb5,hb6,y0,y1,y2,y3,z7,z8,z9,Nat.zero_le,Nat.not_lt_zero]<;>rfl
   ·rw[a50 hne];by_cases hd1:s.dir=1
    ·have hdd:=hd1;have hdi:(s.dir:Int)=1:=by omega
     have hsl:a6j s=[[115,105,103,110,97,108],s.name,[111,117,116]]:=by unfold a6j;rw[hdd];rfl
     obtain⟨H1,a1,σ1,g1,g2,g3,g4,g5,g6⟩:=a3o [some (.row 3 [[sl rs (S.map Sg.enc),sl rt (T.map Tm.enc),sl rv (V.map Vc.enc)]]),some (.trow 82 true 2 [[.ptr 1 0 0,.slice 2 0 tx.length none]]),some (.trow 5 false 1 (a1f tx)),some (.row 2 [[.str s.name,.int .u8 (1:Int)]]),some (.row 1 [[.str [115,105,103,110,97,108]],[.str s.name],[.str [111,117,116]]])] 4 1 2 3 (some 3) tx (a6j s) rfl hok (by rw[hsl];rfl) (.inr ⟨hne,rfl,rfl,by decide⟩) (by decide) (λ_=>by decide);rcases g2 with ⟨g2,_⟩|⟨_,q1,q2,q3⟩
     ·exact absurd g2 (by simp[lnT])
     have p0:a04 H1 0=some (.row 3 [[sl rs (S.map Sg.enc),sl rt (T.map Tm.enc),sl rv (V.map Vc.enc)]]):=g6 0 (by show 0<_;simp) (by decide) (by intro _;decide);have z7:a1<H1.length:=g4;have z8:0<H1.length:=by omega
     have z9:1<H1.length:=by have:5≤H1.length:=g5;omega
     have y5:5≤a1:=g3;have y0:¬0=a1:=by omega
     have y1:¬1=a1:=by omega
     have y2:¬a1=0:=by omega
     have y3:¬a1=1:=by omega
     have h5:=a01 (a0e (tx++lnT (a6j s)));have h6:=λπ=>a02 π (a0e (tx++lnT (a6j s)));rw[hsm']at hsm;rw[hdi]at hsm
     (repeat first|simp only[ww]|(apply xa;simp+decide only[go_sem,l1,hlt,hsm,hw,g1,List.length_map,b46];rfl;kernel_rfl))
     refine a22 (i+1) ?_ (by omega) (by omega);rw[hps,a50 (by simp[lnT])];simp+decide only[go_sem,a09,a05,p0,q1,q2,bdN,buf,hb5,hb6,y0,y1,y2,y3,z7,z8,z9,Nat.zero_le,Nat.not_lt_zero]<;>rfl
    ·have hdd:s.dir=0:=by omega
     have hdi:(s.dir:Int)=0:=by omega
     have hsl:a6j s=[[115,105,103,110,97,108],s.name,[105,110]]:=by unfold a6j;rw[hdd];rfl
     obtain⟨H1,a1,σ1,g1,g2,g3,g4,g5,g6⟩:=a3o [some (.row 3 [[sl rs (S.map Sg.enc),sl rt (T.map Tm.enc),sl rv (V.map Vc.enc)]]),some (.trow 82 true 2 [[.ptr 1 0 0,.slice 2 0 tx.length none]]),some (.trow 5 false 1 (a1f tx)),some (.row 2 [[.str s.name,.int .u8 (0:Int)]]),some (.row 1 [[.str [115,105,103,110,97,108]],[.str s.name],[.str [105,110]]])] 4 1 2 3 (some 3) tx (a6j s) rfl hok (by rw[hsl];rfl) (.inr ⟨hne,rfl,rfl,by decide⟩) (by decide) (λ_=>by decide);rcases g2 with ⟨g2,_⟩|⟨_,q1,q2,q3⟩
     ·exact absurd g2 (by simp[lnT])
     have p0:a04 H1 0=some (.row 3 [[sl rs (S.map Sg.enc),sl rt (T.map Tm.enc),sl rv (V.map Vc.enc)]]):=g6 0 (by show 0<_;simp) (by decide) (by intro _;decide);have z7:a1<H1.length:=g4;have z8:0<H1.length:=by omega
     have z9:1<H1.length:=by have:5≤H1.length:=g5;omega
     have y5:5≤a1:=g3;have y0:¬0=a1:=by omega
     have y1:¬1=a1:=by omega
     have y2:¬a1=0:=by omega
     have y3:¬a1=1:=by omega
     have h5:=a01 (a0e (tx++lnT (a6j s)));have h6:=λπ=>a02 π (a0e (tx++lnT (a6j s)));rw[hsm']at hsm;rw[hdi]at hsm
     (repeat first|simp only[ww]|(apply xa;simp+decide only[go_sem,l1,hlt,hsm,hw,g1,List.length_map,b46];rfl;kernel_rfl))
     refine a22 (i+1) ?_ (by omega) (by omega);rw[hps,a50 (by simp[lnT])];simp+decide only[go_sem,a09,a05,p0,q1,q2,bdN,buf,hb5,hb6,y0,y1,y2,y3,z7,z8,z9,Nat.zero_le,Nat.not_lt_zero]<;>rfl
  ·obtain rfl:i=S.length:=by omega
   have l1:¬(S.length:Int)<S.length:=by omega
   rw[List.take_length]
   (repeat first|simp only[ww]|(apply xa;simp+decide only[go_sem,l1,List.length_map];rfl;kernel_rfl))
   have bS':(txS S).length≤200*S.length:=bS;have bT':(txT T).length≤200*T.length:=bT;have bV':(txV T V).length≤200*V.length:=bV;refine a0p (σ:=Nat) kp18_2 (λj=>[(1,.ptr 0 0 0),(5,.ptr 1 0 0),(6,.func (.func 35) [] [.ptr 1 0 0]),(42,sl rt (T.map Tm.enc)),(43,.int .i64 T.length),(44,.int .i64 (j:Nat))]) (λj=>some (.row 3 [[sl rs (S.map Sg.enc),sl rt (T.map Tm.enc),sl rv (V.map Vc.enc)]])::bdH (txS S++txT (T.take j))) (λj=>T.length-j) (λj=>j≤T.length) 0 ?_ (Nat.zero_le _) ?_
   ·have e0:txT (T.take 0)=[]:=rfl;rw[e0,List.append_nil];by_cases hne:txS S=[]
    ·rw[hne,b45];(simp+decide only[go_sem,a09,a05]<;>rfl)
    ·rw[a50 hne];(simp+decide only[go_sem,a09,a05,hb5,hb6]<;>rfl)
   ·intro j hj;by_cases hlt:j<T.length
    ·have l2:(j:Int)<T.length:=by omega
     obtain⟨t,ht⟩:∃t,T[j]?=some t:=⟨_,z9e hlt⟩
     have hsm:(T.map Tm.enc)[j]?=some (Tm.enc t):=by rw[List.getElem?_map,ht];rfl
     have hw:IntKind.i64.wrap ((j:Int)+1)=((j+1:Nat):Int):=by rw[w64 (by omega) (by omega)];omega
     have htok:=h.tm t (List.mem_of_getElem? ht);have htl9:=a9b htok;have htn:∀n∈a56 t,0≤n∧n≤1000000:=by have h0:=c0k htok;have:=h0.dr0;have:=h0.ri;have:=h0.fa;have:=h0.per;have:=h0.top;have:=h0.st0;have:=h0.st1;intro n hn;simp only[a56,List.mem_cons,List.not_mem_nil,or_false]at hn;omega
     have hps:txS S++txT (T.take (j+1))=txS S++txT (T.take j)++lnT (a91 t):=by rw[List.append_assoc];congr 1;exact e17 _ T ht
     have hle:=d1x (λt=>lnT (a91 t)) T j;have hle':(txT (T.take j)).length≤(txT T).length:=hle;have hok:okL (txS S++txT (T.take j)).length (a91 t):=c4r (by rw[List.length_append];omega) (by unfold a91 a56;simp) (by unfold a91 a56;simp);generalize txS S++txT (T.take j)=tx at hps hok⊢;by_cases hne:tx=[]
     ·subst hne;rw[b45]
      (repeat first|simp only[ww]|(apply xa;simp+decide only[go_sem,l2,hlt,hsm,b41,List.length_map];rfl;kernel_rfl))
      refine a0p (σ:=Nat) kp18_4 (λp=>[(1,.ptr 0 0 0),(5,.ptr 1 0 0),(6,.func (.func 35) [] [.ptr 1 0 0]),(12,.slice 2 0 (2+p) (if p=0 then some 2 else none)),(42,sl rt (T.map Tm.enc)),(43,.int .i64 T.length),(44,.int .i64 (j:Nat)),(61,.slice 3 0 5 (some 5)),(62,.int .i64 5),(63,.int .i64 (p:Nat))]) (λp=>[some (.row 3 [[sl rs (S.map Sg.enc),sl rt (T.map Tm.enc),sl rv (V.map Vc.enc)]]),some (.trow 82 true 2 [[.nilptr,.nilslice]]),some (.row 1 (a1s (a4u::t.name::((a56 t).take p).map Lib.itoa))),some (.row 1 ((a56 t).map λn=>[AV.int .i64 n]))]) (λp=>5-p) (λp=>p≤5) 0 ?_ (Nat.zero_le _) ?_
      ·(simp+decide only[go_sem,a09,a05,a56,List.take_zero,List.map_nil,List.append_nil,List.map_cons,a1s]<;>rfl)
      ·intro p hp;by_cases hpl:p<5
       ·have l3:(p:Int)<5:=by omega
        have hlen5:(a56 t).length=5:=rfl;obtain⟨n,hn⟩:∃n,(a56 t)[p]?=some n:=⟨_,z9e (by omega)⟩
        have hnb:=htn n (List.mem_of_getElem? hn);have hito:=λd H=>b37 (d:=d) H n hnb.1 hnb.2;have hnm:((a56 t).map λn=>[AV.int .i64 n])[p]?=some [AV.int .i64 n]:=by rw[List.getElem?_map,hn];rfl
        have hnl:((a56 t).map λn=>[AV.int .i64 n]).length=5:=rfl;have hwp:IntKind.i64.wrap ((p:Int)+1)=((p+1:Nat):Int):=by rw[w64 (by omega) (by omega)];omega
        have hL:a1s (a4u::t.name::((a56 t).take (p+1)).map Lib.itoa)=a1s (a4u::t.name::((a56 t).take p).map Lib.itoa)++[[.str (Lib.itoa n)]]:=by rw[a59 hn];simp[a1s]
        have hLl:(a1s (a4u::t.name::((a56 t).take p).map Lib.itoa)).length=2+p:=by simp[a1s,hlen5];omega
        have hL1:=a01 (a4b (a4u::t.name::((a56 t).take (p+1)).map Lib.itoa));have hL2:=λπ=>a02 π (a4b (a4u::t.name::((a56 t).take (p+1)).map Lib.itoa));have hM1:((a56 t).map λn=>[AV.int .i64 n]).flatMap a0w=[]:=a01 (FlatR.map λ_=>rfl);have hM2:∀π,((a56 t).map λn=>[AV.int .i64 n]).map (λr=>r.map (ren π))=(a56 t).map λn=>[AV.int .i64 n]:=λπ=>a02 π (FlatR.map λ_=>rfl);rw[hL]at hL1 hL2;generalize a1s (a4u::t.name::((a56 t).take p).map Lib.itoa)=R at *;generalize((a56 t).map λn=>[AV.int .i64 n])=R5 at *;have hrm:2+p+1≤1000000000:=by omega
        have hif:(if p+1=0 then some 2 else none)=(none:Option Nat):=if_neg (by omega);have hRt:p=0→R.take 2=R:=λh=>List.take_of_length_le (by omega);by_cases hp0:p=0
        ·subst hp0;have hRt:=hRt rfl
         (repeat first|simp only[ww]|(apply xa;simp+decide only[go_sem,l3,hpl,hnm,hnl,hito,hwp,hLl,hrm,hRt,if_pos];rfl;kernel_rfl))
         refine a22 (0+1) ?_ (by omega) (by omega)
         (simp+decide only[go_sem,a09,a05,hL,hL1,hL2,hM1,hM2,hif,hRt,Nat.add_zero]<;>rfl)
        ·rw[if_neg hp0]
         (repeat first|simp only[ww]|(apply xa;simp+decide only[go_sem,l3,hpl,hnm,hnl,hito,hwp,hLl,hrm];rfl;kernel_rfl))
         refine a22 (p+1) ?_ (by omega) (by omega)
         (simp+decide only[go_sem,a09,a05,hL,hL1,hL2,hM1,hM2,hif]<;>rfl)
       ·obtain rfl:p=5:=by omega
        have l3:¬((5:Nat):Int)<5:=by omega
        have eL:a4u::t.name::((a56 t).take 5).map Lib.itoa=a91 t:=rfl;rw[eL,if_neg (by omega)];obtain⟨H1,a1,σ1,g1,g2,g3,g4,g5,g6⟩:=a3o [some (.row 3 [[sl rs (S.map Sg.enc),sl rt (T.map Tm.enc),sl rv (V.map Vc.enc)]]),some (.trow 82 true 2 [[.nilptr,.nilslice]]),some (.row 1 (a1s (a91 t))),some (.row 1 ((a56 t).map λn=>[AV.int .i64 n]))] 2 1 2 7 none [] (a91 t) rfl hok rfl (.inl ⟨rfl,rfl⟩) (by decide) (λh=>absurd rfl h);rcases g2 with ⟨g2,_⟩|⟨_,q1,q2,q3⟩
        ·exact absurd g2 (by simp[lnT])
        have p0:a04 H1 0=some (.row 3 [[sl rs (S.map Sg.enc),sl rt (T.map Tm.enc),sl rv (V.map Vc.enc)]]):=g6 0 (by show 0<_;simp) (by decide) (by intro _;decide);have z7:a1<H1.length:=g4;have z8:0<H1.length:=by omega
        have z9:1<H1.length:=by have:4≤H1.length:=g5;omega
        have y5:4≤a1:=g3;have y0:¬0=a1:=by omega
        have y1:¬1=a1:=by omega
        have y2:¬a1=0:=by omega
        have y3:¬a1=1:=by omega
        have h5:=a01 (a0e ([]++lnT (a91 t)));have h6:=λπ=>a02 π (a0e ([]++lnT (a91 t)))
        (repeat first|simp only[ww]|(apply xa;simp+decide only[go_sem,l3,g1,hw,List.length_map];rfl;kernel_rfl))
        refine a22 (j+1) ?_ (by omega) (by omega);rw[hps,a50 (by simp[lnT])];simp+decide only[go_sem,a09,a05,p0,q1,q2,bdN,buf,hb5,hb6,y0,y1,y2,y3,z7,z8,z9,Nat.zero_le,Nat.not_lt_zero]<;>rfl
     ·rw[a50 hne]
      (repeat first|simp only[ww]|(apply xa;simp+decide only[go_sem,l2,hlt,hsm,b41,List.length_map];rfl;kernel_rfl))
      refine a0p (σ:=Nat) kp18_4 (λp=>[(1,.ptr 0 0 0),(5,.ptr 1 0 0),(6,.func (.func 35) [] [.ptr 1 0 0]),(12,.slice 3 0 (2+p) (if p=0 then some 2 else none)),(42,sl rt (T.map Tm.enc)),(43,.int .i64 T.length),(44,.int .i64 (j:Nat)),(61,.slice 4 0 5 (some 5)),(62,.int .i64 5),(63,.int .i64 (p:Nat))]) (λp=>[some (.row 3 [[sl rs (S.map Sg.enc),sl rt (T.map Tm.enc),sl rv (V.map Vc.enc)]]),some (.trow 82 true 2 [[.ptr 1 0 0,.slice 2 0 tx.length none]]),some (.trow 5 false 1 (a1f tx)),some (.row 1 (a1s (a4u::t.name::((a56 t).take p).map Lib.itoa))),some (.row 1 ((a56 t).map λn=>[AV.int .i64 n]))]) (λp=>5-p) (λp=>p≤5) 0 ?_ (Nat.zero_le _) ?_
      ·(simp+decide only[go_sem,a09,a05,hb5,hb6,a56,List.take_zero,List.map_nil,List.append_nil,List.map_cons,a1s]<;>rfl)
      ·intro p hp;by_cases hpl:p<5
       ·have l3:(p:Int)<5:=by omega
        have hlen5:(a56 t).length=5:=rfl;obtain⟨n,hn⟩:∃n,(a56 t)[p]?=some n:=⟨_,z9e (by omega)⟩
        have hnb:=htn n (List.mem_of_getElem? hn);have hito:=λd H=>b37 (d:=d) H n hnb.1 hnb.2;have hnm:((a56 t).map λn=>[AV.int .i64 n])[p]?=some [AV.int .i64 n]:=by rw[List.getElem?_map,hn];rfl
        have hnl:((a56 t).map λn=>[AV.int .i64 n]).length=5:=rfl;have hwp:IntKind.i64.wrap ((p:Int)+1)=((p+1:Nat):Int):=by rw[w64 (by omega) (by omega)];omega
        have hL:a1s (a4u::t.name::((a56 t).take (p+1)).map Lib.itoa)=a1s (a4u::t.name::((a56 t).take p).map Lib.itoa)++[[.str (Lib.itoa n)]]:=by rw[a59 hn];simp[a1s]
        have hLl:(a1s (a4u::t.name::((a56 t).take p).map Lib.itoa)).length=2+p:=by simp[a1s,hlen5];omega
        have hL1:=a01 (a4b (a4u::t.name::((a56 t).take (p+1)).map Lib.itoa));have hL2:=λπ=>a02 π (a4b (a4u::t.name::((a56 t).take (p+1)).map Lib.itoa));have hM1:((a56 t).map λn=>[AV.int .i64 n]).flatMap a0w=[]:=a01 (FlatR.map λ_=>rfl);have hM2:∀π,((a56 t).map λn=>[AV.int .i64 n]).map (λr=>r.map (ren π))=(a56 t).map λn=>[AV.int .i64 n]:=λπ=>a02 π (FlatR.map λ_=>rfl);rw[hL]at hL1 hL2;generalize a1s (a4u::t.name::((a56 t).take p).map Lib.itoa)=R at *;generalize((a56 t).map λn=>[AV.int .i64 n])=R5 at *;have hrm:2+p+1≤1000000000:=by omega
        have hif:(if p+1=0 then some 2 else none)=(none:Option Nat):=if_neg (by omega);have hRt:p=0→R.take 2=R:=λh=>List.take_of_length_le (by omega);by_cases hp0:p=0
        ·subst hp0;have hRt:=hRt rfl
         (repeat first|simp only[ww]|(apply xa;simp+decide only[go_sem,l3,hpl,hnm,hnl,hito,hwp,hLl,hrm,hRt,if_pos];rfl;kernel_rfl))
         refine a22 (0+1) ?_ (by omega) (by omega)
         (simp+decide only[go_sem,a09,a05,hL,hL1,hL2,hM1,hM2,hb5,hb6,hif,hRt,Nat.add_zero]<;>rfl)
        ·rw[if_neg hp0]
         (repeat first|simp only[ww]|(apply xa;simp+decide only[go_sem,l3,hpl,hnm,hnl,hito,hwp,hLl,hrm];rfl;kernel_rfl))
         refine a22 (p+1) ?_ (by omega) (by omega)
         (simp+decide only[go_sem,a09,a05,hL,hL1,hL2,hM1,hM2,hb5,hb6,hif]<;>rfl)
       ·obtain rfl:p=5:=by omega
        have l3:¬((5:Nat):Int)<5:=by omega
        have eL:a4u::t.name::((a56 t).take 5).map Lib.itoa=a91 t:=rfl;rw[eL,if_neg (by omega)];obtain⟨H1,a1,σ1,g1,g2,g3,g4,g5,g6⟩:=a3o [some (.row 3 [[sl rs (S.map Sg.enc),sl rt (T.map Tm.enc),sl rv (V.map Vc.enc)]]),some (.trow 82 true 2 [[.ptr 1 0 0,.slice 2 0 tx.length none]]),some (.trow 5 false 1 (a1f tx)),some (.row 1 (a1s (a91 t))),some (.row 1 ((a56 t).map λn=>[AV.int .i64 n]))] 3 1 2 7 none tx (a91 t) rfl hok rfl (.inr ⟨hne,rfl,rfl,by decide⟩) (by decide) (λ_=>by decide);rcases g2 with ⟨g2,_⟩|⟨_,q1,q2,q3⟩
        ·exact absurd g2 (by simp[lnT])
        have p0:a04 H1 0=some (.row 3 [[sl rs (S.map Sg.enc),sl rt (T.map Tm.enc),sl rv (V.map Vc.enc)]]):=g6 0 (by show 0<_;simp) (by decide) (by intro _;decide);have z7:a1<H1.length:=g4;have z8:0<H1.length:=by omega
        have z9:1<H1.length:=by have:5≤H1.length:=g5;omega
        have y5:5≤a1:=g3;have y0:¬0=a1:=by omega
        have y1:¬1=a1:=by omega
        have y2:¬a1=0:=by omega
        have y3:¬a1=1:=by omega
        have h5:=a01 (a0e (tx++lnT (a91 t)));have h6:=λπ=>a02 π (a0e (tx++lnT (a91 t)))
        (repeat first|simp only[ww]|(apply xa;simp+decide only[go_sem,l3,g1,hw,List.length_map];rfl;kernel_rfl))
        refine a22 (j+1) ?_ (by omega) (by omega);rw[hps,a50 (by simp[lnT])];simp+decide only[go_sem,a09,a05,p0,q1,q2,bdN,buf,hb5,hb6,y0,y1,y2,y3,z7,z8,z9,Nat.zero_le,Nat.not_lt_zero]<;>rfl
    ·obtain rfl:j=T.length:=by omega
     have l2:¬(T.length:Int)<T.length:=by omega
     rw[List.take_length]
     (repeat first|simp only[ww]|(apply xa;simp+decide only[go_sem,l2,List.length_map];rfl;kernel_rfl))
     refine a0p (σ:=Nat) kp18_6 (λq=>[(1,.ptr 0 0 0),(5,.ptr 1 0 0),(6,.func (.func 35) [] [.ptr 1 0 0]),(78,sl rv (V.map Vc.enc)),(79,.int .i64 V.length),(80,.int .i64 (q:Nat))]) (λq=>some (.row 3 [[sl rs (S.map Sg.enc),sl rt (T.map Tm.enc),sl rv (V.map Vc.enc)]])::bdH (txS S++txT T++txV T (V.take q))) (λq=>V.length-q) (λq=>q≤V.length) 0 ?_ (Nat.zero_le _) ?_
     ·have e0:txV T (V.take 0)=[]:=rfl;rw[e0,List.append_nil];by_cases hne:txS S++txT T=[]
      ·rw[hne,b45];(simp+decide only[go_sem,a09,a05]<;>rfl)
      ·rw[a50 hne];(simp+decide only[go_sem,a09,a05,hb5,hb6]<;>rfl)
     ·intro q hq;by_cases hlt:q<V.length
      ·have l3:(q:Int)<V.length:=by omega
       obtain⟨v,hv⟩:∃v,V[q]?=some v:=⟨_,z9e hlt⟩
       have hsm:(V.map Vc.enc)[q]?=some (Vc.enc v):=by rw[List.getElem?_map,hv];rfl
       have hw:IntKind.i64.wrap ((q:Int)+1)=((q+1:Nat):Int):=by rw[w64 (by omega) (by omega)];omega
       have hvm:=List.mem_of_getElem? hv;have hvk:=h.vc v hvm;simp only[a55,Bool.and_eq_true,decide_eq_true_eq]at hvk;obtain⟨tn,htn⟩:∃tn:Nat,v.t=tn:=⟨v.t.toNat,by omega⟩
       have htl:tn<T.length:=by omega
       obtain⟨t,ht⟩:∃t,T[tn]?=some t:=⟨_,z9e htl⟩
       have hst:(T.map Tm.enc)[tn]?=some (Tm.enc t):=by rw[List.getElem?_map,ht];rfl
       have hvl:a8m T v=[a8g,t.name,if v.cells=[]then[45]else v.cells]++(if v.rep=1 then[]else[Lib.itoa v.rep]):=b69 T v t (by rw[htn];exact ht);have hvl9:=a99 h hvm;have hps:txS S++txT T++txV T (V.take (q+1))=txS S++txT T++txV T (V.take q)++lnT (a8m T v):=by rw[List.append_assoc (txS S++txT T)];congr 1;exact e17 _ V hv
       have hle:=d1x (λv=>lnT (a8m T v)) V q;have hle':(txV T (V.take q)).length≤(txV T V).length:=hle;have hok:okL (txS S++txT T++txV T (V.take q)).length (a8m T v):=c4r (by rw[List.length_append,List.length_append];omega) (by rw[hvl];simp) (by rw[hvl];split<;>split<;>simp);have hne:txS S++txT T++txV T (V.take q)≠[]:=by
        intro e;have e1:=(List.append_eq_nil_iff.1 e).1;have e2:=(List.append_eq_nil_iff.1 e1).2;cases T with
        |nil=>simp at htl
        |cons t0 T'=>simp[txT,lnT]at e2
       have hito:=λd H=>b37 (d:=d) H v.rep (by omega) (by omega);generalize txS S++txT T++txV T (V.take q)=tx at hps hok hne⊢;rw[a50 hne];by_cases hc:v.cells=[]
       ·by_cases hr:v.rep=1
        ·have hll:a8m T v=[[118,101,99,116,111,114],t.name,[45]]:=by rw[hvl];simp[hc,hr,a8g]
         obtain⟨H1,a1,σ1,g1,g2,g3,g4,g5,g6⟩:=a3o [some (.row 3 [[sl rs (S.map Sg.enc),sl rt (T.map Tm.enc),sl rv (V.map Vc.enc)]]),some (.trow 82 true 2 [[.ptr 1 0 0,.slice 2 0 tx.length none]]),some (.trow 5 false 1 (a1f tx)),some (.row 3 [[.int .i64 tn,.str [],.int .i64 1]]),some (.row 1 [[.str [118,101,99,116,111,114]],[.str t.name],[.str [45]]])] 4 1 2 3 (some 3) tx (a8m T v) (by rw[hll];rfl) hok (by rw[hll];rfl) (.inr ⟨hne,rfl,rfl,by decide⟩) (by decide) (λ_=>by decide);rcases g2 with ⟨g2,_⟩|⟨_,q1,q2,q3⟩
         ·exact absurd g2 (by simp[lnT])
         have p0:a04 H1 0=some (.row 3 [[sl rs (S.map Sg.enc),sl rt (T.map Tm.enc),sl rv (V.map Vc.enc)]]):=g6 0 (by show 0<_;simp) (by decide) (by intro _;decide);have z7:a1<H1.length:=g4;have z8:0<H1.length:=by omega
         have z9:1<H1.length:=by have:5≤H1.length:=g5;omega
         have y5:5≤a1:=g3;have y0:¬0=a1:=by omega
         have y1:¬1=a1:=by omega
         have y2:¬a1=0:=by omega
         have y3:¬a1=1:=by omega
         have h5:=a01 (a0e (tx++lnT (a8m T v)));have h6:=λπ=>a02 π (a0e (tx++lnT (a8m T v)))
         (repeat first|simp only[ww]|(apply xa;simp+decide only[go_sem,l3,hlt,hsm,hst,htn,htl,hc,hr,g1,hw,hito,List.length_map];rfl;kernel_rfl))
         refine a22 (q+1) ?_ (by omega) (by omega);rw[hps,a50 (by simp[lnT])];simp+decide only[go_sem,a09,a05,p0,q1,q2,bdN,buf,hb5,hb6,y0,y1,y2,y3,z7,z8,z9,Nat.zero_le,Nat.not_lt_zero]<;>rfl
        ·have hll:a8m T v=[[118,101,99,116,111,114],t.name,[45]]++[Lib.itoa v.rep]:=by rw[hvl];simp[hc,hr,a8g]
         obtain⟨H1,a1,σ1,g1,g2,g3,g4,g5,g6⟩:=a3o [some (.row 3 [[sl rs (S.map Sg.enc),sl rt (T.map Tm.enc),sl rv (V.map Vc.enc)]]),some (.trow 82 true 2 [[.ptr 1 0 0,.slice 2 0 tx.length none]]),some (.trow 5 false 1 (a1f tx)),some (.row 3 [[.int .i64 tn,.str [],.int .i64 v.rep]]),some (.row 1 [[.str [118,101,99,116,111,114]],[.str t.name],[.str [45]]]),some (.row 1 [[.str (Lib.itoa v.rep)]]),some (.row 1 [[.str [118,101,99,116,111,114]],[.str t.name],[.str [45]],[.str (Lib.itoa v.rep)]])] 6 1 2 4 none tx (a8m T v) (by rw[hll];rfl) hok (by rw[hll];rfl) (.inr ⟨hne,rfl,rfl,by decide⟩) (by decide) (λ_=>by decide);rcases g2 with ⟨g2,_⟩|⟨_,q1,q2,q3⟩
         ·exact absurd g2 (by simp[lnT])
         have p0:a04 H1 0=some (.row 3 [[sl rs (S.map Sg.enc),sl rt (T.map Tm.enc),sl rv (V.map Vc.enc)]]):=g6 0 (by show 0<_;simp) (by decide) (by intro _;decide);have z7:a1<H1.length:=g4;have z8:0<H1.length:=by omega
         have z9:1<H1.length:=by have:7≤H1.length:=g5;omega
         have y5:7≤a1:=g3;have y0:¬0=a1:=by omega
         have y1:¬1=a1:=by omega
         have y2:¬a1=0:=by omega
         have y3:¬a1=1:=by omega
         have h5:=a01 (a0e (tx++lnT (a8m T v)));have h6:=λπ=>a02 π (a0e (tx++lnT (a8m T v)))
         (repeat first|simp only[ww]|(apply xa;simp+decide only[go_sem,l3,hlt,hsm,hst,htn,htl,hc,hr,g1,hw,hito,List.length_map];rfl;kernel_rfl))
         refine a22 (q+1) ?_ (by omega) (by omega);rw[hps,a50 (by simp[lnT])];simp+decide only[go_sem,a09,a05,p0,q1,q2,bdN,buf,hb5,hb6,y0,y1,y2,y3,z7,z8,z9,Nat.zero_le,Nat.not_lt_zero]<;>rfl
       ·by_cases hr:v.rep=1
        ·have hll:a8m T v=[[118,101,99,116,111,114],t.name,v.cells]:=by rw[hvl];simp[hc,hr,a8g]
         obtain⟨H1,a1,σ1,g1,g2,g3,g4,g5,g6⟩:=a3o [some (.row 3 [[sl rs (S.map Sg.enc),sl rt (T.map Tm.enc),sl rv (V.map Vc.enc)]]),some (.trow 82 true 2 [[.ptr 1 0 0,.slice 2 0 tx.length none]]),some (.trow 5 false 1 (a1f tx)),some (.row 3 [[.int .i64 tn,.str v.cells,.int .i64 1]]),some (.row 1 [[.str [118,101,99,116,111,114]],[.str t.name],[.str v.cells]])] 4 1 2 3 (some 3) tx (a8m T v) (by rw[hll];rfl) hok (by rw[hll];rfl) (.inr ⟨hne,rfl,rfl,by decide⟩) (by decide) (λ_=>by decide);rcases g2 with ⟨g2,_⟩|⟨_,q1,q2,q3⟩
         ·exact absurd g2 (by simp[lnT])
         have p0:a04 H1 0=some (.row 3 [[sl rs (S.map Sg.enc),sl rt (T.map Tm.enc),sl rv (V.map Vc.enc)]]):=g6 0 (by show 0<_;simp) (by decide) (by intro _;decide);have z7:a1<H1.length:=g4;have z8:0<H1.length:=by omega
         have z9:1<H1.length:=by have:5≤H1.length:=g5;omega
         have y5:5≤a1:=g3;have y0:¬0=a1:=by omega
         have y1:¬1=a1:=by omega
         have y2:¬a1=0:=by omega
         have y3:¬a1=1:=by omega
         have h5:=a01 (a0e (tx++lnT (a8m T v)));have h6:=λπ=>a02 π (a0e (tx++lnT (a8m T v)))
         (repeat first|simp only[ww]|(apply xa;simp+decide only[go_sem,l3,hlt,hsm,hst,htn,htl,hc,hr,g1,hw,hito,List.length_map];rfl;kernel_rfl))
         refine a22 (q+1) ?_ (by omega) (by omega);rw[hps,a50 (by simp[lnT])];simp+decide only[go_sem,a09,a05,p0,q1,q2,bdN,buf,hb5,hb6,y0,y1,y2,y3,z7,z8,z9,Nat.zero_le,Nat.not_lt_zero]<;>rfl
        ·have hll:a8m T v=[[118,101,99,116,111,114],t.name,v.cells]++[Lib.itoa v.rep]:=by rw[hvl];simp[hc,hr,a8g]
         obtain⟨H1,a1,σ1,g1,g2,g3,g4,g5,g6⟩:=a3o [some (.row 3 [[sl rs (S.map Sg.enc),sl rt (T.map Tm.enc),sl rv (V.map Vc.enc)]]),some (.trow 82 true 2 [[.ptr 1 0 0,.slice 2 0 tx.length none]]),some (.trow 5 false 1 (a1f tx)),some (.row 3 [[.int .i64 tn,.str v.cells,.int .i64 v.rep]]),some (.row 1 [[.str [118,101,99,116,111,114]],[.str t.name],[.str v.cells]]),some (.row 1 [[.str (Lib.itoa v.rep)]]),some (.row 1 [[.str [118,101,99,116,111,114]],[.str t.name],[.str v.cells],[.str (Lib.itoa v.rep)]])] 6 1 2 4 none tx (a8m T v) (by rw[hll];rfl) hok (by rw[hll];rfl) (.inr ⟨hne,rfl,rfl,by decide⟩) (by decide) (λ_=>by decide);rcases g2 with ⟨g2,_⟩|⟨_,q1,q2,q3⟩
         ·exact absurd g2 (by simp[lnT])
         have p0:a04 H1 0=some (.row 3 [[sl rs (S.map Sg.enc),sl rt (T.map Tm.enc),sl rv (V.map Vc.enc)]]):=g6 0 (by show 0<_;simp) (by decide) (by intro _;decide);have z7:a1<H1.length:=g4;have z8:0<H1.length:=by omega
         have z9:1<H1.length:=by have:7≤H1.length:=g5;omega
         have y5:7≤a1:=g3;have y0:¬0=a1:=by omega
         have y1:¬1=a1:=by omega
         have y2:¬a1=0:=by omega
         have y3:¬a1=1:=by omega
         have h5:=a01 (a0e (tx++lnT (a8m T v)));have h6:=λπ=>a02 π (a0e (tx++lnT (a8m T v)))
         (repeat first|simp only[ww]|(apply xa;simp+decide only[go_sem,l3,hlt,hsm,hst,htn,htl,hc,hr,g1,hw,hito,List.length_map];rfl;kernel_rfl))
         refine a22 (q+1) ?_ (by omega) (by omega);rw[hps,a50 (by simp[lnT])];simp+decide only[go_sem,a09,a05,p0,q1,q2,bdN,buf,hb5,hb6,y0,y1,y2,y3,z7,z8,z9,Nat.zero_le,Nat.not_lt_zero]<;>rfl
      ·obtain rfl:q=V.length:=by omega
       have l3:¬(V.length:Int)<V.length:=by omega
       rw[List.take_length];have hbd:(txS S++txT T++txV T V).length≤1000000:=by rw[List.length_append,List.length_append];omega
       have htx:a5k S T V=txS S++txT T++txV T V:=rfl;rw[htx];generalize txS S++txT T++txV T V=tx at hbd⊢;by_cases hne:tx=[]
       ·subst hne;rw[b45];have k1:=e4e (.row 3 [[sl rs (S.map Sg.enc),sl rt (T.map Tm.enc),sl rv (V.map Vc.enc)]]);have k2:=e40 (.row 3 [[sl rs (S.map Sg.enc),sl rt (T.map Tm.enc),sl rv (V.map Vc.enc)]])
        (repeat first|simp only[ww]|(apply xa;simp+decide only[go_sem,l3,k1,k2];rfl;kernel_rfl))
        (apply fqb;simp+decide only[go_sem]<;>rfl)
       ·rw[a50 hne];have k1:=e4d (.row 3 [[sl rs (S.map Sg.enc),sl rt (T.map Tm.enc),sl rv (V.map Vc.enc)]]) tx;have k2:=e3z (.row 3 [[sl rs (S.map Sg.enc),sl rt (T.map Tm.enc),sl rv (V.map Vc.enc)]]) tx hne hbd;have c9:¬(1048576:Int)<tx.length:=by omega
        (repeat first|simp only[ww]|(apply xa;simp+decide only[go_sem,l3,k1,k2,c9];rfl;kernel_rfl))
        (apply fqb;simp+decide only[go_sem]<;>rfl)
end Go.RInst
