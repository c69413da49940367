/- Part of a proof. No condition. -/
import Derived.Test.YtmbmjfjagololaaGreatDoorRPg
import Derived.Test.YtmbmjfjagololaaGreatDoorAxE
set_option linter.unusedSectionVars false
set_option linter.unusedSimpArgs false
set_option linter.unusedVariables false
namespace Go.RInst
open Go.Proofs Go.Ax Go.Pc
variable [PR]
set_option maxRecDepth 100000
end Go.RInst
namespace Go.RInst
open Go.Proofs Go.Ax Go.Pc
variable [PR]
set_option maxRecDepth 100000
end Go.RInst
namespace Go.RInst
open Go.Proofs Go.Ax Go.Pc
variable [PR]
set_option maxRecDepth 100000
end Go.RInst
namespace Go.RInst
open Go.Proofs Go.Ax Go.Pc
variable [PR]
set_option maxRecDepth 100000
theorem a5r{g:Nat}{a:List AV}{H:a08}{r:AV×a08}(h:primH L.env g a H=some r):sem L.env Mf g a H=some r:=by refine a90 (by intro y hy;cases hy) 0 ?_;unfold a6c;rw[h]
@[go_sem] theorem a9s(π:Nat→Option Nat)(t:Nat)(b:Bool)(k:Nat)(aa:List (List AV)):a0t π (.trow t b k aa) = .trow t b k (aa.map λr=>r.map (ren π)):=by rfl
@[go_sem] theorem d5y(t:Nat)(b:Bool)(k:Nat)(aa:List (List AV)):a36 (some (.trow t b k aa))=aa.flatMap a0x:=by rfl
def lnT(l:List (List UInt8)):List UInt8:=Lib.join l [32]++[10]
def okL(n:Nat)(l:List (List UInt8)):Prop:=0<l.length∧l.length≤1000∧n+(lnT l).length≤1000000
theorem d6p(n:Nat)(c:Option Nat)(l:List (List UInt8))(hn:l.length=n)(h:okL 0 l):sem L.env Mf 24 [.slice 0 0 n c,.str [32]] [some (.row 1 (a1r l))]=some (.str (Lib.join l [32]),[some (.row 1 (a1r l))]):=by
 refine a5r ?_;obtain⟨h1,h2,h3⟩:=h;have hz:b8y [.slice 0 0 n c,.str [32]]=false:=by show Nat.beq n 0=false;rw[←e5q,e5a];omega
 rw[c0m,hz];show c0n [.slice 0 0 n c,.str [32]] [some (.row 1 (a1r l))]=_;have h4:(Lib.join l [32]).length+1≤1000000:=by simpa[lnT]using h3
 have b1:Nat.ble (0+n) (a1r l).length=true:=by rw[e5e];simp[a1r,hn]
 have b0:((a1r l).drop 0).take n=a1r l:=by rw[e5b];exact e3c (by simp[a1r,hn])
 have b2:Nat.blt 0 n=true:=by rw[e3f];omega
 have b4:unS (a1r l)=some l:=b22 l;have b5:okJ l [32]=true:=by unfold okJ b7g;rw[e6k (by omega),e6k (by omega)];rfl
 simp only[c0n,b0,b1,b2,b4,b5];rfl
def bd0:Option AObj:=some (.trow 82 true 2 [[.nilptr,.nilslice]])
def bdN(k c n:Nat):Option AObj:=some (.trow 82 true 2 [[.ptr k 0 0,.slice c 0 n none]])
def buf(s:List UInt8):Option AObj:=some (.trow 5 false 1 (a1h s))
theorem d54(t:List UInt8)(ht:t≠[])(hl:t.length≤1000000):sem L.env Mf 36 [.ptr 0 0 0,.str t] [bd0]=some (.tuple [.int .i64 t.length,.nilifc],[bdN 0 1 t.length,buf t]):=by
 refine a5r ?_;show wsP [.ptr 0 0 0,.str t] [bd0]=_;have b1:Nat.ble t.length b7g=true:=e6k (e5w hl (by decide));cases t with
 |nil=>exact absurd rfl ht
 |cons a t=>simp only[wsP,bd0,b1];rfl
theorem d53(s t:List UInt8)(ht:t≠[])(hl:s.length+t.length≤1000000):sem L.env Mf 36 [.ptr 0 0 0,.str t] [bdN 0 1 s.length,buf s]=some (.tuple [.int .i64 t.length,.nilifc],[bdN 0 2 (s++t).length,none,buf (s++t)]):=by
 refine a5r ?_;show wsP [.ptr 0 0 0,.str t] [bdN 0 1 s.length,buf s]=_;have b1:Nat.ble (s.length+t.length) b7g=true:=e6k (e5w hl (by decide));have b2:Nat.beq s.length (a1h s).length=true:=by rw[e5a];simp[a1h]
 have b3:a1h s++a1h t=a1h (s++t):=by simp[a1h]
 have b4:t.isEmpty=false:=by cases t with|nil=>exact absurd rfl ht|cons=>rfl
 simp only[wsP,bdN,buf,b1,b2,b3,b4,e2f];rfl
theorem d04(l:List (List UInt8)):lnT l≠[]:=by unfold lnT;simp
theorem a4c(l:List (List UInt8)):FlatR (a1r l):=FlatR.map λ_=>rfl
theorem a0w(s:List UInt8):FlatR (a1h s):=FlatR.map λ_=>rfl
theorem d56(n:Nat)(c:Option Nat)(l:List (List UInt8))(hn:l.length=n)(h:okL 0 l):sem L.env Mf 35 [.slice 0 0 n c,.ptr 1 0 0] [some (.row 1 (a1r l)),bd0]=some (.tuple [],[some (.row 1 (a1r l)),bdN 1 2 (lnT l).length,buf (lnT l)]):=by
 have hf:=a4c l;have h1:=λπ=>a02 π hf;have h2:=a01 hf;have hj:=d6p n c l hn h;have hw:=d54 (lnT l) (d04 l) (by have:=h.2.2;omega);have k1:a0e L.env false (sem L.env Mf) (.func (.func 24) [] []) [.slice 0 0 n c,.str [32]] [some (.row 1 (a1r l)),bd0]=some (.str (Lib.join l [32]),[some (.row 1 (a1r l)),bd0],[0]):=a2f (by kernel_rfl) (by kernel_rfl) rfl (b:=0) (o:=.row 1 (a1r l)) rfl (a0o hf) (FlatO.row hf) rfl (by rfl) hj rfl;have k2:a0e L.env false (sem L.env Mf) (.func (.func 36) [] []) [.ptr 1 0 0,.str (lnT l)] [some (.row 1 (a1r l)),bd0]=some (.tuple [.int .i64 (lnT l).length,.nilifc],[some (.row 1 (a1r l)),bdN 1 2 (lnT l).length,buf (lnT l)],[1]):=by have hc:=a0b (sem L.env Mf 36) [.ptr 1 0 0,.str (lnT l)] [some (.row 1 (a1r l)),bd0] (σ:=[1]) (by rfl) rfl rfl (an:=[.ptr 0 0 0,.str (lnT l)]) rfl (H0:=[bd0]) (by rfl) hw;refine a2g (by kernel_rfl) (by kernel_rfl) rfl (hc.trans ?_);have hb:=a02 (a1e [1] 2) (a0w (lnT l));simp+decide only[go_sem,bd0,bdN,buf,a0n,hb,h1];rfl
 (refine sv Tryz.f35 ?_;simp only[Tryz.f35,gS])
 have e:Lib.join l [32]++[10]=lnT l:=rfl;have aN:(Lib.join l [32]).length+1≤4611686018427387904:=by have:=h.2.2;simp[lnT]at this;omega
 (repeat first|simp only[ww]|(apply xa;simp+decide only[go_sem,k1,e,k2,aN];rfl;kernel_rfl))
 (apply fqb;simp+decide only[go_sem,h1,h2]<;>rfl)
theorem d55(n:Nat)(c:Option Nat)(s:List UInt8)(l:List (List UInt8))(hn:l.length=n)(h:okL s.length l):sem L.env Mf 35 [.slice 0 0 n c,.ptr 1 0 0] [some (.row 1 (a1r l)),bdN 1 2 s.length,buf s]=some (.tuple [],[some (.row 1 (a1r l)),bdN 1 3 (s++lnT l).length,none,buf (s++lnT l)]):=by
 have hf:=a4c l;have h0:okL 0 l:=⟨h.1,h.2.1,by have:=h.2.2;omega⟩
 have h1:=λπ=>a02 π hf;have h2:=a01 hf;have hg:=a01 (a0w s);have hj:=d6p n c l hn h0;have hw:=d53 s (lnT l) (d04 l) h.2.2;have k1:a0e L.env false (sem L.env Mf) (.func (.func 24) [] []) [.slice 0 0 n c,.str [32]] [some (.row 1 (a1r l)),bdN 1 2 s.length,buf s]=some (.str (Lib.join l [32]),[some (.row 1 (a1r l)),bdN 1 2 s.length,buf s],[0]):=a2f (by kernel_rfl) (by kernel_rfl) rfl (b:=0) (o:=.row 1 (a1r l)) rfl (a0o hf) (FlatO.row hf) rfl (by rfl) hj rfl;have k2:a0e L.env false (sem L.env Mf) (.func (.func 36) [] []) [.ptr 1 0 0,.str (lnT l)] [some (.row 1 (a1r l)),bdN 1 2 s.length,buf s]=some (.tuple [.int .i64 (lnT l).length,.nilifc],[some (.row 1 (a1r l)),bdN 1 3 (s++lnT l).length,none,buf (s++lnT l)],[1,2]):=by
  have hb:=λπ=>a02 π (a0w s);have d7:=λπ=>a02 π (a0w (s++lnT l));have fu:a0j [some (AObj.row 1 (a1r l)),bdN 1 2 s.length,buf s] 1000000 (a0x [AV.ptr 1 0 0,.str (lnT l)]) []=[1,2]:=by show a0j _ 1000000 [1] []=_;rw[show(1000000:Nat)=999996+1+1+1+1 from rfl,a06 rfl];show a0j _ (999996+1+1+1) [1,2] [1]=_;rw[a9t rfl,a06 rfl];show a0j _ (999996+1) (a36 (buf s)++[]) [2,1]=_;rw[show a36 (buf s)=[]from hg];exact a17 _ _ _
  have hc:=a0b (sem L.env Mf 36) [.ptr 1 0 0,.str (lnT l)] [some (.row 1 (a1r l)),bdN 1 2 s.length,buf s] (σ:=[1,2]) fu rfl rfl (an:=[.ptr 0 0 0,.str (lnT l)]) rfl (H0:=[bdN 0 1 s.length,buf s]) (by simp+decide only[go_sem,bdN,buf,a0q,hb]) hw;refine a2g (by kernel_rfl) (by kernel_rfl) rfl (hc.trans ?_);simp+decide only[go_sem,bdN,buf,a0n,d7,h1];rfl
 have e:Lib.join l [32]++[10]=lnT l:=rfl;have aN:(Lib.join l [32]).length+1≤4611686018427387904:=by have:=h0.2.2;simp[lnT]at this;omega
 (refine sv Tryz.f35 ?_;simp only[Tryz.f35,gS])
 (repeat first|simp only[ww]|(apply xa;simp+decide only[go_sem,k1,e,k2,aN];rfl;kernel_rfl))
 (apply fqb;simp+decide only[go_sem,h1,h2]<;>rfl)
def e3y(H:a08)(c a:Nat)(s:List UInt8):Prop:=(s=[]∧a03 H c=bd0)∨(s≠[]∧a03 H c=bdN c a s.length∧a03 H a=buf s∧a≠c)
theorem a3o(H:a08)(k c a n:Nat)(cp:Option Nat)(s:List UInt8)(l:List (List UInt8))(hn:l.length=n)(h:okL s.length l)(hk:a03 H k=some (.row 1 (a1r l)))(hb:e3y H c a s)(mM:k≠c)(oc:s≠[]→k≠a) :
 ∃H' a' σ,a0e L.env false (sem L.env Mf) (.func (.func 35) [] [.ptr c 0 0]) [.slice k 0 n cp] H=some (.tuple [],H',σ)∧e3y H' c a' (s++lnT l)∧H.length≤a'∧a'<H'.length∧H.length≤H'.length∧∀b,b<H.length→b≠c→(s≠[]→b≠a)→a03 H' b=a03 H b:=by
 have rB:=a0v hk;have hf:=a4c l;have ic:a36 (a03 H k)=[]:=by rw[hk];exact a0o hf
 have o5:=λπ=>a02 π hf;have aK:s++lnT l≠[]:=by simp[lnT]
 rcases hb with ⟨rfl,hc⟩|⟨hs,hc,ha,iD⟩
 ·have eE:=a0v (H:=H) (b:=c) (o:=.trow 82 true 2 [[.nilptr,.nilslice]]) hc;have hw:=d56 n cp l hn h;have fu:a0j H 1000000 (a0x [AV.slice k 0 n cp,.ptr c 0 0]) []=[k,c]:=by
   show a0j H 1000000 [k,c] []=_;rw[show(1000000:Nat)=999997+1+1+1 from rfl,a06 rfl,ic,b43,a06 (by simp[a04,a05,mM]),hc];exact a17 _ _ _
  obtain⟨H',h1,h2,h3,h4,h5⟩:=b08 (E:=L.env) (call:=sem L.env Mf) (g:=35) (fs:=[]) (cs:=[.ptr c 0 0]) (ar:=[.slice k 0 n cp]) (H:=H) (σ:=[k,c]) (by kernel_rfl) (by kernel_rfl) rfl fu (by simp[a12,a18,a04,a05,mM.symm]) (by simp[rB,eE]) (an:=[.slice 0 0 n cp,.ptr 1 0 0]) (by simp[ren,a2w,e2g,mM]) (H0:=[some (.row 1 (a1r l)),bd0]) (by simp only[a0q,e2b,e3a,hk,hc,e2a,a0t,o5];rfl) hw rfl;refine⟨H',H.length,_,h1,.inr ⟨aK,?_,?_,by omega⟩,e2c _,by rw[h2];show _<_+(3-2);omega,by omega,λb hb b1 _=>?_⟩
  ·rw[h3 1 c rfl];show some (a0t _ (AObj.trow 82 true 2 [[AV.ptr 1 0 0,AV.slice 2 0 (lnT l).length none]]))=_;rw[a9s];simp[ren,a1e,bdN,a47];exact⟨rfl,rfl⟩
  ·have oL:=h5 0;rw[e5y]at oL;rw[oL];show some (a0t _ (AObj.trow 5 false 1 (a1h (lnT l))))=_;rw[a9s,a02 _ (a0w _)];rfl
  ·by_cases ie:b=k
   ·subst ie;rw[h3 0 b rfl,hk];show some (a0t _ (AObj.row 1 (a1r l)))=_;simp only[a0t,o5]
   ·exact h4 b hb (by simp[ie,b1])
 ·have eE:=a0v (H:=H) (b:=c) (o:=.trow 82 true 2 [[.ptr c 0 0,.slice a 0 s.length none]]) hc;have rC:=a0v (H:=H) (b:=a) (o:=.trow 5 false 1 (a1h s)) ha;have oc:=oc hs;have hw:=d55 n cp s l hn h;have jn:a36 (a03 H a)=[]:=by rw[ha];exact a01 (a0w s)
  have tG:a36 (a03 H c)=[c,a]:=by rw[hc];rfl
  have tW:=λπ=>a02 π (a0w s);have fu:a0j H 1000000 (a0x [AV.slice k 0 n cp,.ptr c 0 0]) []=[k,c,a]:=by show a0j H 1000000 [k,c] []=_;rw[show(1000000:Nat)=999995+1+1+1+1+1 from rfl,a06 rfl,ic,b43,a06 (by simp[a04,a05,mM]),tG];show a0j H _ [c,a] _=_;rw[a9t (by simp[a04,a05]),a06 (by simp[a04,a05,oc,iD.symm]),jn];exact a17 _ _ _
  obtain⟨H',h1,h2,h3,h4,h5⟩:=b08 (E:=L.env) (call:=sem L.env Mf) (g:=35) (fs:=[]) (cs:=[.ptr c 0 0]) (ar:=[.slice k 0 n cp]) (H:=H) (σ:=[k,c,a]) (by kernel_rfl) (by kernel_rfl) rfl fu (by simp[a12,a18,a04,a05,mM.symm,oc.symm,iD]) (by simp[rB,eE,rC]) (an:=[.slice 0 0 n cp,.ptr 1 0 0]) (by simp[ren,a2w,e2g,mM]) (H0:=[some (.row 1 (a1r l)),bdN 1 2 s.length,buf s]) (by simp only[a0q,e2b,e3a,hk,hc,ha,bdN,buf,e2a,a9s,a0t,o5,tW];simp[ren,a47,a2w,e2g,mM,oc,iD.symm]) hw rfl;refine⟨H',H.length,_,h1,.inr ⟨aK,?_,?_,by omega⟩,e2c _,by rw[h2];show _<_+(4-3);omega,by omega,λb hb b1 b2=>?_⟩
  ·rw[h3 1 c rfl];show some (a0t _ (AObj.trow 82 true 2 [[AV.ptr 1 0 0,AV.slice 3 0 (s++lnT l).length none]]))=_;rw[a9s];simp[ren,a1e,bdN,a47];exact⟨rfl,rfl⟩
  ·have oL:=h5 0;rw[e5y]at oL;rw[oL];show some (a0t _ (AObj.trow 5 false 1 (a1h (s++lnT l))))=_;rw[a9s,a02 _ (a0w _)];rfl
  ·by_cases ie:b=k
   ·subst ie;rw[h3 0 b rfl,hk];show some (a0t _ (AObj.row 1 (a1r l)))=_;simp only[a0t,o5]
   ·exact h4 b hb (by simp[ie,b1,b2 hs])
end Go.RInst
namespace Go.RInst
open Go.Proofs Go.Ax Go.Pc
variable [PR]
set_option maxRecDepth 100000
def sigK0:List UInt8:=[115,105,103,110,97,108]
def a3y:List UInt8:=[116,105,109,105,110,103]
def vecK0:List UInt8:=[118,101,99,116,111,114]
def inK:List UInt8:=[105,110]
def a9h:List UInt8:=[111,117,116]
def a6n(s:Sg):List (List UInt8):=[sigK0,s.name,if s.dir=1 then a9h else inK]
def a57(t:Tm):List Int:=[t.per,t.dr,t.ri,t.fa,t.st]
def b0g(t:Tm):List (List UInt8):=[a3y,t.name]++(a57 t).map Lib.itoa
def a8z(T:List Tm)(v:Vc):List (List UInt8):=match T[v.t.toNat]? with
 |some t=>[vecK0,t.name,if v.cells=[]then[45]else v.cells]++(if v.rep=1 then[]else[Lib.itoa v.rep])
 |none=>[]
def txS(S:List Sg):List UInt8:=S.flatMap λs=>lnT (a6n s)
def txT(T:List Tm):List UInt8:=T.flatMap λt=>lnT (b0g t)
def txV(T:List Tm)(V:List Vc):List UInt8:=V.flatMap λv=>lnT (a8z T v)
def b4l(S:List Sg)(T:List Tm)(V:List Vc):List UInt8:=txS S++txT T++txV T V
theorem d9j{α:Type}(f:α→List UInt8)(l:List α){i:Nat}{x:α}(h:l[i]?=some x):(l.take (i+1)).flatMap f=(l.take i).flatMap f++f x:=by rw[a48 h];simp
theorem c1u{α:Type}(f:α→List UInt8)(k:Nat):∀(l:List α),(∀x∈l,(f x).length≤k)→(l.flatMap f).length≤k*l.length
 | [],_=>by simp
 |a::l,h=>by have h1:=c1u f k l λx hx=>h x (by simp[hx]);have h2:=h a (by simp);rw[e71,e2f,b94,Nat.mul_succ];omega
theorem d2i{α:Type}(f:α→List UInt8)(l:List α)(i:Nat):((l.take i).flatMap f).length≤(l.flatMap f).length:=by
 have e:l.flatMap f=(l.take i).flatMap f++(l.drop i).flatMap f:=by rw[←List.flatMap_append,e6s]
 rw[e,e2f];omega
theorem d0g:∀(k n:Nat),n<10^(k+1)→(Lib.decDigits n).length≤k+1
 |0,n,h=>by rw[Lib.decDigits,dif_pos (by omega)];simp
 |k+1,n,h=>by
  rw[Lib.decDigits];by_cases hn:n<10
  ·rw[dif_pos hn];simp
  ·rw[dif_neg hn,e2f];have:=d0g k (n/10) (by rw[Nat.pow_succ]at h;omega);simp only[b94,e27];omega
theorem a6y(n:Int)(h0:0≤n)(h1:n≤1000000):(Lib.itoa n).length≤7:=by unfold Lib.itoa;rw[e2i (by omega)];exact d0g 6 _ (by omega)
theorem c0j(l:List (List UInt8))(x:List UInt8):(lnT (x::l)).length=l.length+Lib.lens (x::l)+1:=by unfold lnT;rw[e2f,Lib.join_length];simp
theorem b71{s:List UInt8}(h:a3s s=true):s.length≤32:=by
 cases s with
 |nil=>simp
 |cons a r=>simp only[a3s,b46,e2d]at h;exact h.1
theorem b3d(x:List UInt8)(l:List (List UInt8)):Lib.lens (x::l)=x.length+Lib.lens l:=by simp[Lib.lens]
theorem b75:Lib.lens []=0:=rfl
theorem b6o{s:Sg}(h:a9n s=true):(lnT (a6n s)).length≤150:=by simp only[a9n,b46]at h;have:=b71 h.1;unfold a6n;rw[c0j];simp only[b3d,b75,b94,e27,sigK0];split<;>simp[a9h,inK]<;>omega
theorem b6l{t:Tm}(h:a5l t=true):(lnT (b0g t)).length≤150:=by have h0:=c46 h;simp only[a5l,b46,e2d]at h;have:=b71 h.1;have:=h0.dr0;have:=h0.ri;have:=h0.fa;have:=h0.per;have:=h0.top;have:=h0.st0;have:=h0.st1;have a1:=a6y t.per (by omega) (by omega);have a2:=a6y t.dr (by omega) (by omega);have a3:=a6y t.ri (by omega) (by omega);have a4:=a6y t.fa (by omega) (by omega);have a5:=a6y t.st (by omega) (by omega);unfold b0g a57;simp only[e2b,e3a,b82,b43];rw[c0j];simp only[b3d,b75,b94,e27,a3y];omega
theorem b2p(T:List Tm)(v:Vc)(t:Tm)(h:T[v.t.toNat]?=some t):a8z T v=[vecK0,t.name,if v.cells=[]then[45]else v.cells]++(if v.rep=1 then[]else[Lib.itoa v.rep]):=by unfold a8z;rw[h]
theorem b6i{S:List Sg}{T:List Tm}{V:List Vc}(h:Valid S T V){v:Vc}(hv:v∈V):(lnT (a8z T v)).length≤300:=by
 have hk:=h.vc v hv;have hS:=h.hS;simp only[a22,b46,e2d]at hk;obtain⟨t,ht⟩:∃t,T[v.t.toNat]?=some t:=⟨_,z9e (by omega)⟩
 have jt:=h.tm t (e25 ht);simp only[a5l,b46,e2d]at jt;have:=b71 jt.1;have:=a4s _ _ hk.2.2.2.2;have a1:=a6y v.rep (by omega) (by omega);rw[b2p T v t ht];split<;>split<;>(simp only[b82,b43];rw[c0j];simp only[b3d,b75,b94,e27,vecK0];omega)
theorem b3g{d:Bool}(H:a08)(n:Int)(h0:0≤n)(h1:n≤1000000):a0e L.env d (sem L.env Mf) (.func (.func 37) [] []) [.int .i64 n] H=some (.str (Lib.itoa n),H,[]):=by
 have hp:sem L.env Mf 37 [.int .i64 n] []=some (.str (Lib.itoa n),[]):=by
  refine a90 (by intro y hy;cases hy) 0 ?_;have hq:L.env.prim 37 [.int .i64 n]=some (.str (Lib.itoa n),[]):=by
   show d4e [.int .i64 n]=_;have b1:(decide (0≤n)&&decide (n≤1000000000))=true:=by rw[e3d h0,e3d (by omega)];rfl
   simp only[d4e,b1];rfl
  unfold a6c primH;rw[hq]
 exact a0l (by kernel_rfl) (by kernel_rfl) rfl rfl hp rfl
def bdH(s:List UInt8):a08:=match s with
 | []=>[bd0]
 |_=>[bdN 1 2 s.length,buf s]
theorem b4a:bdH []=[some (.trow 82 true 2 [[.nilptr,.nilslice]])]:=rfl
theorem a50{s:List UInt8}(h:s≠[]):bdH s=[some (.trow 82 true 2 [[.ptr 1 0 0,.slice 2 0 s.length none]]),some (.trow 5 false 1 (a1h s))]:=by
 cases s with
 |nil=>exact absurd rfl h
 |cons=>rfl
theorem c4x{n:Nat}{l:List (List UInt8)}(h:n+(lnT l).length≤1000000)(h1:0<l.length)(h2:l.length≤1000):okL n l:=⟨h1,h2,h⟩
@[go_sem high] theorem e11{H:a08}{n:Nat}{b:Nat}{cY bj:List Nat}(hn:(0<n)=True)(h:a1i bj b=true):a0j H n (b::cY) bj=a0j H (n-1) cY bj:=by
 obtain⟨m,rfl⟩:∃m,n=m+1:=⟨n-1,by have:=of_eq_true hn;omega⟩
 exact a9t h
@[go_sem high] theorem e12{H:a08}{n:Nat}{b:Nat}{cY bj:List Nat}(hn:(0<n)=True)(h:a1i bj b=false):a0j H n (b::cY) bj=a0j H (n-1) (a36 (a03 H b)++cY) (b::bj):=by
 obtain⟨m,rfl⟩:∃m,n=m+1:=⟨n-1,by have:=of_eq_true hn;omega⟩
 exact a06 h
theorem e4k(P:AObj):a0e L.env false (sem L.env Mf) (.func (.func 38) [] []) [.ptr 1 0 0] [some P,some (.trow 82 true 2 [[.nilptr,.nilslice]])]=some (.int .i64 0,[some P,some (.trow 82 true 2 [[.nilptr,.nilslice]])],[1]):=by have hp:sem L.env Mf 38 [.ptr 0 0 0] [bd0]=some (.int .i64 0,[bd0]):=a5r (by rfl);have hc:=a0b (sem L.env Mf 38) [.ptr 1 0 0] [some P,bd0] (σ:=[1]) (by rfl) rfl rfl (an:=[.ptr 0 0 0]) rfl (H0:=[bd0]) (by rfl) hp;exact a2g (by kernel_rfl) (by kernel_rfl) rfl (hc.trans (by rfl))
theorem e47(P:AObj):a0e L.env false (sem L.env Mf) (.func (.func 39) [] []) [.ptr 1 0 0] [some P,some (.trow 82 true 2 [[.nilptr,.nilslice]])]=some (.str [],[some P,some (.trow 82 true 2 [[.nilptr,.nilslice]])],[1]):=by have hp:sem L.env Mf 39 [.ptr 0 0 0] [bd0]=some (.str [],[bd0]):=a5r (by rfl);have hc:=a0b (sem L.env Mf 39) [.ptr 1 0 0] [some P,bd0] (σ:=[1]) (by rfl) rfl rfl (an:=[.ptr 0 0 0]) rfl (H0:=[bd0]) (by rfl) hp;exact a2g (by kernel_rfl) (by kernel_rfl) rfl (hc.trans (by rfl))
theorem c1g(P:AObj)(s:List UInt8):a0j [some P,some (.trow 82 true 2 [[.ptr 1 0 0,.slice 2 0 s.length none]]),some (.trow 5 false 1 (a1h s))] 1000000 [1] []=[1,2]:=by rw[show(1000000:Nat)=999996+1+1+1+1 from rfl,a06 rfl];show a0j _ (999996+1+1+1) [1,2] [1]=_;rw[a9t rfl,a06 rfl];show a0j _ (999996+1) ((a1h s).flatMap a0x++[]) [2,1]=_;rw[a01 (a0w s)];exact a17 _ _ _
theorem e4j(P:AObj)(s:List UInt8):a0e L.env false (sem L.env Mf) (.func (.func 38) [] []) [.ptr 1 0 0] [some P,some (.trow 82 true 2 [[.ptr 1 0 0,.slice 2 0 s.length none]]),some (.trow 5 false 1 (a1h s))]=some (.int .i64 s.length,[some P,some (.trow 82 true 2 [[.ptr 1 0 0,.slice 2 0 s.length none]]),some (.trow 5 false 1 (a1h s))],[1,2]):=by have hp:sem L.env Mf 38 [.ptr 0 0 0] [bdN 0 1 s.length,buf s]=some (.int .i64 s.length,[bdN 0 1 s.length,buf s]):=a5r (by rfl);have hb:=λπ=>a02 π (a0w s);have hc:=a0b (sem L.env Mf 38) [.ptr 1 0 0] _ (σ:=[1,2]) (c1g P s) rfl rfl (an:=[.ptr 0 0 0]) rfl (H0:=[bdN 0 1 s.length,buf s]) (by simp+decide only[go_sem,bdN,buf,a0q,hb]) hp;refine a2g (by kernel_rfl) (by kernel_rfl) rfl (hc.trans ?_);simp+decide only[go_sem,bdN,buf,a0n,hb]
theorem e46(P:AObj)(s:List UInt8)(hs:s≠[])(hl:s.length≤1000000):a0e L.env false (sem L.env Mf) (.func (.func 39) [] []) [.ptr 1 0 0] [some P,some (.trow 82 true 2 [[.ptr 1 0 0,.slice 2 0 s.length none]]),some (.trow 5 false 1 (a1h s))]=some (.str s,[some P,some (.trow 82 true 2 [[.ptr 1 0 0,.slice 2 0 s.length none]]),none],[1,2]):=by
 have hp:sem L.env Mf 39 [.ptr 0 0 0] [bdN 0 1 s.length,buf s]=some (.str s,[bdN 0 1 s.length,none]):=by
  refine a5r ?_;show d5f [.ptr 0 0 0] [bdN 0 1 s.length,buf s]=_;have b1:Nat.beq s.length (a1h s).length=true:=by rw[e5a];simp[a1h]
  have b2:Nat.blt 0 s.length=true:=by rw[e3f];exact e72.2 hs
  have b3:Nat.ble s.length b7g=true:=e6k (e5w hl (by decide));simp only[d5f,bdN,buf,b1,b2,b3,b7t];rfl
 have hb:=λπ=>a02 π (a0w s);have hc:=a0b (sem L.env Mf 39) [.ptr 1 0 0] _ (σ:=[1,2]) (c1g P s) rfl rfl (an:=[.ptr 0 0 0]) rfl (H0:=[bdN 0 1 s.length,buf s]) (by simp+decide only[go_sem,bdN,buf,a0q,hb]) hp;refine a2g (by kernel_rfl) (by kernel_rfl) rfl (hc.trans ?_);simp+decide only[go_sem,bdN,buf,a0n,hb]
end Go.RInst
namespace Go.RInst
set_option maxHeartbeats 200000000
open Go.Proofs Go.Ax Go.Pc
variable [PR]
set_option maxRecDepth 100000
theorem c7a(rs rt rv:Option (Option Nat))(S:List Sg)(T:List Tm)(V:List Vc)(h:Valid S T V):sem L.env Mf 18 [.agg [sl rs (S.map Sg.enc),sl rt (T.map Tm.enc),sl rv (V.map Vc.enc)]] []=some (.tuple [.str (b4l S T V),.int .i64 0],[]):=by
 have hS:=h.hS;have hT:=h.hT;have hV:=h.hV;have fA:=λd H=>c34 (d:=d) H rs rt rv S T V h;have bS:=c1u (λs=>lnT (a6n s)) 300 S λs hs=>e5w (b6o (h.sg s hs)) (by decide);have bT:=c1u (λt=>lnT (b0g t)) 300 T λt ht=>e5w (b6l (h.tm t ht)) (by decide);have bV:=c1u (λv=>lnT (a8z T v)) 300 V λv hv=>b6i h hv;have gY:Nat.beq 46 82=false:=by decide
 have sr:Nat.beq 82 82=true:=by rfl
 have gE:Nat.beq 41 82=false:=by decide
 have jb:∀s,(a1h s).flatMap a0x=[]:=λs=>a01 (a0w s);have ja:∀π s,(a1h s).map (λr=>r.map (ren π))=a1h s:=λπ s=>a02 π (a0w s)
 (refine sv Tryz.f18 ?_;simp only[Tryz.f18,gS])
 (repeat first|simp only[ww]|(apply xa;simp+decide only[go_sem,fA,sr,b41];rfl;kernel_rfl))
 refine a15 (σ:=Nat) kp18_0 (λi=>[(1,.ptr 0 0 0),(5,.ptr 1 0 0),(6,.func (.func 35) [] [.ptr 1 0 0]),(25,sl rs (S.map Sg.enc)),(26,.int .i64 S.length),(27,.int .i64 (i:Nat))]) (λi=>some (.row 3 [[sl rs (S.map Sg.enc),sl rt (T.map Tm.enc),sl rv (V.map Vc.enc)]])::bdH (txS (S.take i))) (λi=>S.length-i) (λi=>i≤S.length) 0 ?_ (e3h _) ?_
 ·(simp+decide only[go_sem,a0d,a07,sr]<;>rfl)
 ·intro i hi;by_cases aq:i<S.length
  ·have l1:(i:Int)<S.length:=by omega
   obtain⟨s,hs⟩:∃s,S[i]?=some s:=⟨_,z9e aq⟩
   have b7:(S.map Sg.enc)[i]?=some (Sg.enc s):=by rw[e2e,hs];rfl
   have lm:Sg.enc s=[.str s.name,.int .u8 s.dir]:=rfl;have hw:IntKind.i64.wrap ((i:Int)+1)=((i+1:Nat):Int):=by rw[w64 (by omega) (by omega)];omega
   have mv:=h.sg s (e25 hs);have sX:=b6o mv;simp only[a9n,b46,e2d]at mv;have tJ:=mv.2;have im:txS (S.take (i+1))=txS (S.take i)++lnT (a6n s):=d9j _ S hs;have aN:=d2i (λs=>lnT (a6n s)) S i;have ba:okL (txS (S.take i)).length (a6n s):=c4x (by unfold txS;omega) (by unfold a6n;simp) (by unfold a6n;simp);generalize txS (S.take i)=tx at im ba⊢;by_cases aK:tx=[]
   ·subst aK;rw[b4a];by_cases jC:s.dir=1
    ·have kQ:=jC;have mT:(s.dir:Int)=1:=by omega
     have fE:a6n s=[[115,105,103,110,97,108],s.name,[111,117,116]]:=by unfold a6n;rw[kQ];rfl
     obtain⟨H1,a1,σ1,g1,g2,g3,g4,g5,g6⟩:=a3o [some (.row 3 [[sl rs (S.map Sg.enc),sl rt (T.map Tm.enc),sl rv (V.map Vc.enc)]]),some (.trow 82 true 2 [[.nilptr,.nilslice]]),some (.row 2 [[.str s.name,.int .u8 (1:Int)]]),some (.row 1 [[.str [115,105,103,110,97,108]],[.str s.name],[.str [111,117,116]]])] 3 1 2 3 (some 3) [] (a6n s) rfl ba (by rw[fE];rfl) (.inl ⟨rfl,rfl⟩) (by decide) (λ_=>by decide);rcases g2 with ⟨g2,_⟩|⟨_,q1,q2,q3⟩
     ·exact absurd g2 (by simp[lnT])
     have p0:a03 H1 0=some (.row 3 [[sl rs (S.map Sg.enc),sl rt (T.map Tm.enc),sl rv (V.map Vc.enc)]]):=g6 0 (by show 0<_;simp) (by decide) (by intro _;decide);have z7:a1<H1.length:=g4;have z8:0<H1.length:=by omega
     have z9:1<H1.length:=by have:4≤H1.length:=g5;omega
     have y5:4≤a1:=g3;have y0:¬0=a1:=by omega
     have y1:¬1=a1:=by omega
     have y2:¬a1=0:=by omega
     have y3:¬a1=1:=by omega
     have h5:=a01 (a0w ([]++lnT (a6n s)));have h6:=λπ=>a02 π (a0w ([]++lnT (a6n s)));rw[lm]at b7;rw[mT]at b7
     (repeat first|simp only[ww]|(apply xa;simp+decide only[go_sem,l1,aq,b7,hw,g1,b41,gY];rfl;kernel_rfl))
     refine a2p (i+1) ?_ (by omega) (by omega);rw[im,a50 (by simp[lnT])];simp+decide only[go_sem,a0d,a07,p0,q1,q2,bdN,buf,jb,ja,y0,y1,y2,y3,z7,z8,z9,e3h,e6v]<;>rfl
    ·have kQ:s.dir=0:=by omega
     have mT:(s.dir:Int)=0:=by omega
     have fE:a6n s=[[115,105,103,110,97,108],s.name,[105,110]]:=by unfold a6n;rw[kQ];rfl
     obtain⟨H1,a1,σ1,g1,g2,g3,g4,g5,g6⟩:=a3o [some (.row 3 [[sl rs (S.map Sg.enc),sl rt (T.map Tm.enc),sl rv (V.map Vc.enc)]]),some (.trow 82 true 2 [[.nilptr,.nilslice]]),some (.row 2 [[.str s.name,.int .u8 (0:Int)]]),some (.row 1 [[.str [115,105,103,110,97,108]],[.str s.name],[.str [105,110]]])] 3 1 2 3 (some 3) [] (a6n s) rfl ba (by rw[fE];rfl) (.inl ⟨rfl,rfl⟩) (by decide) (λ_=>by decide);rcases g2 with ⟨g2,_⟩|⟨_,q1,q2,q3⟩
     ·exact absurd g2 (by simp[lnT])
     have p0:a03 H1 0=some (.row 3 [[sl rs (S.map Sg.enc),sl rt (T.map Tm.enc),sl rv (V.map Vc.enc)]]):=g6 0 (by show 0<_;simp) (by decide) (by intro _;decide);have z7:a1<H1.length:=g4;have z8:0<H1.length:=by omega
     have z9:1<H1.length:=by have:4≤H1.length:=g5;omega
     have y5:4≤a1:=g3;have y0:¬0=a1:=by omega
     have y1:¬1=a1:=by omega
     have y2:¬a1=0:=by omega
     have y3:¬a1=1:=by omega
     have h5:=a01 (a0w ([]++lnT (a6n s)));have h6:=λπ=>a02 π (a0w ([]++lnT (a6n s)));rw[lm]at b7;rw[mT]at b7
     (repeat first|simp only[ww]|(apply xa;simp+decide only[go_sem,l1,aq,b7,hw,g1,b41,gY];rfl;kernel_rfl))
     refine a2p (i+1) ?_ (by omega) (by omega);rw[im,a50 (by simp[lnT])];simp+decide only[go_sem,a0d,a07,p0,q1,q2,bdN,buf,jb,ja,y0,y1,y2,y3,z7,z8,z9,e3h,e6v]<;>rfl
   ·rw[a50 aK];by_cases jC:s.dir=1
    ·have kQ:=jC;have mT:(s.dir:Int)=1:=by omega
     have fE:a6n s=[[115,105,103,110,97,108],s.name,[111,117,116]]:=by unfold a6n;rw[kQ];rfl
     obtain⟨H1,a1,σ1,g1,g2,g3,g4,g5,g6⟩:=a3o [some (.row 3 [[sl rs (S.map Sg.enc),sl rt (T.map Tm.enc),sl rv (V.map Vc.enc)]]),some (.trow 82 true 2 [[.ptr 1 0 0,.slice 2 0 tx.length none]]),some (.trow 5 false 1 (a1h tx)),some (.row 2 [[.str s.name,.int .u8 (1:Int)]]),some (.row 1 [[.str [115,105,103,110,97,108]],[.str s.name],[.str [111,117,116]]])] 4 1 2 3 (some 3) tx (a6n s) rfl ba (by rw[fE];rfl) (.inr ⟨aK,rfl,rfl,by decide⟩) (by decide) (λ_=>by decide);rcases g2 with ⟨g2,_⟩|⟨_,q1,q2,q3⟩
     ·exact absurd g2 (by simp[lnT])
     have p0:a03 H1 0=some (.row 3 [[sl rs (S.map Sg.enc),sl rt (T.map Tm.enc),sl rv (V.map Vc.enc)]]):=g6 0 (by show 0<_;simp) (by decide) (by intro _;decide);have z7:a1<H1.length:=g4;have z8:0<H1.length:=by omega
     have z9:1<H1.length:=by have:5≤H1.length:=g5;omega
     have y5:5≤a1:=g3;have y0:¬0=a1:=by omega
     have y1:¬1=a1:=by omega
     have y2:¬a1=0:=by omega
     have y3:¬a1=1:=by omega
     have h5:=a01 (a0w (tx++lnT (a6n s)));have h6:=λπ=>a02 π (a0w (tx++lnT (a6n s)));rw[lm]at b7;rw[mT]at b7
     (repeat first|simp only[ww]|(apply xa;simp+decide only[go_sem,l1,aq,b7,hw,g1,b41,gY];rfl;kernel_rfl))
     refine a2p (i+1) ?_ (by omega) (by omega);rw[im,a50 (by simp[lnT])];simp+decide only[go_sem,a0d,a07,p0,q1,q2,bdN,buf,jb,ja,y0,y1,y2,y3,z7,z8,z9,e3h,e6v]<;>rfl
    ·have kQ:s.dir=0:=by omega
     have mT:(s.dir:Int)=0:=by omega
     have fE:a6n s=[[115,105,103,110,97,108],s.name,[105,110]]:=by unfold a6n;rw[kQ];rfl
     obtain⟨H1,a1,σ1,g1,g2,g3,g4,g5,g6⟩:=a3o [some (.row 3 [[sl rs (S.map Sg.enc),sl rt (T.map Tm.enc),sl rv (V.map Vc.enc)]]),some (.trow 82 true 2 [[.ptr 1 0 0,.slice 2 0 tx.length none]]),some (.trow 5 false 1 (a1h tx)),some (.row 2 [[.str s.name,.int .u8 (0:Int)]]),some (.row 1 [[.str [115,105,103,110,97,108]],[.str s.name],[.str [105,110]]])] 4 1 2 3 (some 3) tx (a6n s) rfl ba (by rw[fE];rfl) (.inr ⟨aK,rfl,rfl,by decide⟩) (by decide) (λ_=>by decide);rcases g2 with ⟨g2,_⟩|⟨_,q1,q2,q3⟩
     ·exact absurd g2 (by simp[lnT])
     have p0:a03 H1 0=some (.row 3 [[sl rs (S.map Sg.enc),sl rt (T.map Tm.enc),sl rv (V.map Vc.enc)]]):=g6 0 (by show 0<_;simp) (by decide) (by intro _;decide);have z7:a1<H1.length:=g4;have z8:0<H1.length:=by omega
     have z9:1<H1.length:=by have:5≤H1.length:=g5;omega
     have y5:5≤a1:=g3;have y0:¬0=a1:=by omega
     have y1:¬1=a1:=by omega
     have y2:¬a1=0:=by omega
     have y3:¬a1=1:=by omega
     have h5:=a01 (a0w (tx++lnT (a6n s)));have h6:=λπ=>a02 π (a0w (tx++lnT (a6n s)));rw[lm]at b7;rw[mT]at b7
     (repeat first|simp only[ww]|(apply xa;simp+decide only[go_sem,l1,aq,b7,hw,g1,b41,gY];rfl;kernel_rfl))
     refine a2p (i+1) ?_ (by omega) (by omega);rw[im,a50 (by simp[lnT])];simp+decide only[go_sem,a0d,a07,p0,q1,q2,bdN,buf,jb,ja,y0,y1,y2,y3,z7,z8,z9,e3h,e6v]<;>rfl
  ·obtain rfl:i=S.length:=by omega
   have l1:¬(S.length:Int)<S.length:=by omega
   rw[e3z]
   (repeat first|simp only[ww]|(apply xa;simp+decide only[go_sem,l1,b41];rfl;kernel_rfl))
   have uQ:(txS S).length≤300*S.length:=bS;have uP:(txT T).length≤300*T.length:=bT;have uO:(txV T V).length≤300*V.length:=bV;refine a15 (σ:=Nat) kp18_2 (λj=>[(1,.ptr 0 0 0),(5,.ptr 1 0 0),(6,.func (.func 35) [] [.ptr 1 0 0]),(42,sl rt (T.map Tm.enc)),(43,.int .i64 T.length),(44,.int .i64 (j:Nat))]) (λj=>some (.row 3 [[sl rs (S.map Sg.enc),sl rt (T.map Tm.enc),sl rv (V.map Vc.enc)]])::bdH (txS S++txT (T.take j))) (λj=>T.length-j) (λj=>j≤T.length) 0 ?_ (e3h _) ?_
   ·have e0:txT (T.take 0)=[]:=rfl;rw[e0,e2h];by_cases aK:txS S=[]
    ·rw[aK,b4a];(simp+decide only[go_sem,a0d,a07]<;>rfl)
    ·rw[a50 aK];(simp+decide only[go_sem,a0d,a07,jb,ja]<;>rfl)
   ·intro j hj;by_cases aq:j<T.length
    ·have l2:(j:Int)<T.length:=by omega
     obtain⟨t,ht⟩:∃t,T[j]?=some t:=⟨_,z9e aq⟩
     have b7:(T.map Tm.enc)[j]?=some (Tm.enc t):=by rw[e2e,ht];rfl
     have hw:IntKind.i64.wrap ((j:Int)+1)=((j+1:Nat):Int):=by rw[w64 (by omega) (by omega)];omega
     have nE:=h.tm t (e25 ht);have sS:=b6l nE;have jH:∀n∈a57 t,0≤n∧n≤1000000:=by have h0:=c46 nE;have:=h0.dr0;have:=h0.ri;have:=h0.fa;have:=h0.per;have:=h0.top;have:=h0.st0;have:=h0.st1;intro n hn;simp only[a57,e3b,e5f,e7f]at hn;omega
     have im:txS S++txT (T.take (j+1))=txS S++txT (T.take j)++lnT (b0g t):=by rw[e5j];congr 1;exact d9j _ T ht
     have aN:=d2i (λt=>lnT (b0g t)) T j;have qf:(txT (T.take j)).length≤(txT T).length:=aN;have ba:okL (txS S++txT (T.take j)).length (b0g t):=c4x (by rw[e2f];omega) (by unfold b0g a57;simp) (by unfold b0g a57;simp);generalize txS S++txT (T.take j)=tx at im ba⊢;by_cases aK:tx=[]
     ·subst aK;rw[b4a]
      (repeat first|simp only[ww]|(apply xa;simp+decide only[go_sem,l2,aq,b7,gE,b41];rfl;kernel_rfl))
      refine a15 (σ:=Nat) kp18_4 (λp=>[(1,.ptr 0 0 0),(5,.ptr 1 0 0),(6,.func (.func 35) [] [.ptr 1 0 0]),(12,.slice 2 0 (2+p) (if p=0 then some 2 else none)),(42,sl rt (T.map Tm.enc)),(43,.int .i64 T.length),(44,.int .i64 (j:Nat)),(61,.slice 3 0 5 (some 5)),(62,.int .i64 5),(63,.int .i64 (p:Nat))]) (λp=>[some (.row 3 [[sl rs (S.map Sg.enc),sl rt (T.map Tm.enc),sl rv (V.map Vc.enc)]]),some (.trow 82 true 2 [[.nilptr,.nilslice]]),some (.row 1 (a1r (a3y::t.name::((a57 t).take p).map Lib.itoa))),some (.row 1 ((a57 t).map λn=>[AV.int .i64 n]))]) (λp=>5-p) (λp=>p≤5) 0 ?_ (e3h _) ?_
      ·(simp+decide only[go_sem,a0d,a07,a57,e28,e3a,e2h,e2b,a1r]<;>rfl)
      ·intro p hp;by_cases eg:p<5
       ·have l3:(p:Int)<5:=by omega
        have kj:(a57 t).length=5:=rfl;obtain⟨n,hn⟩:∃n,(a57 t)[p]?=some n:=⟨_,z9e (by omega)⟩
        have jN:=jH n (e25 hn);have gI:=λd H=>b3g (d:=d) H n jN.1 jN.2;have bH:((a57 t).map λn=>[AV.int .i64 n])[p]?=some [AV.int .i64 n]:=by rw[e2e,hn];rfl
        have fm:((a57 t).map λn=>[AV.int .i64 n]).length=5:=rfl;have lh:IntKind.i64.wrap ((p:Int)+1)=((p+1:Nat):Int):=by rw[w64 (by omega) (by omega)];omega
        have hL:a1r (a3y::t.name::((a57 t).take (p+1)).map Lib.itoa)=a1r (a3y::t.name::((a57 t).take p).map Lib.itoa)++[[.str (Lib.itoa n)]]:=by rw[a48 hn];simp[a1r]
        have gN:(a1r (a3y::t.name::((a57 t).take p).map Lib.itoa)).length=2+p:=by simp[a1r,kj];omega
        have kH:=a01 (a4c (a3y::t.name::((a57 t).take (p+1)).map Lib.itoa));have kG:=λπ=>a02 π (a4c (a3y::t.name::((a57 t).take (p+1)).map Lib.itoa));have oJ:((a57 t).map λn=>[AV.int .i64 n]).flatMap a0x=[]:=a01 (FlatR.map λ_=>rfl);have oI:∀π,((a57 t).map λn=>[AV.int .i64 n]).map (λr=>r.map (ren π))=(a57 t).map λn=>[AV.int .i64 n]:=λπ=>a02 π (FlatR.map λ_=>rfl);rw[hL]at kH kG;generalize a1r (a3y::t.name::((a57 t).take p).map Lib.itoa)=R at *;generalize((a57 t).map λn=>[AV.int .i64 n])=R5 at *;have cU:2+p+1≤1000000000:=by omega
        have mO:(if p+1=0 then some 2 else none)=(none:Option Nat):=e2i (by omega);have aM:p=0→R.take 2=R:=λh=>e3c (by omega);by_cases ji:p=0
        ·subst ji;have aM:=aM rfl
         (repeat first|simp only[ww]|(apply xa;simp+decide only[go_sem,l3,eg,bH,fm,gI,lh,gN,cU,aM,e3g];rfl;kernel_rfl))
         refine a2p (0+1) ?_ (by omega) (by omega)
         (simp+decide only[go_sem,a0d,a07,hL,kH,kG,oJ,oI,mO,aM,e5y]<;>rfl)
        ·rw[e2i ji]
         (repeat first|simp only[ww]|(apply xa;simp+decide only[go_sem,l3,eg,bH,fm,gI,lh,gN,cU];rfl;kernel_rfl))
         refine a2p (p+1) ?_ (by omega) (by omega)
         (simp+decide only[go_sem,a0d,a07,hL,kH,kG,oJ,oI,mO]<;>rfl)
       ·obtain rfl:p=5:=by omega
        have l3:¬((5:Nat):Int)<5:=by omega
        have eL:a3y::t.name::((a57 t).take 5).map Lib.itoa=b0g t:=rfl;rw[eL,e2i (by omega)];obtain⟨H1,a1,σ1,g1,g2,g3,g4,g5,g6⟩:=a3o [some (.row 3 [[sl rs (S.map Sg.enc),sl rt (T.map Tm.enc),sl rv (V.map Vc.enc)]]),some (.trow 82 true 2 [[.nilptr,.nilslice]]),some (.row 1 (a1r (b0g t))),some (.row 1 ((a57 t).map λn=>[AV.int .i64 n]))] 2 1 2 7 none [] (b0g t) rfl ba rfl (.inl ⟨rfl,rfl⟩) (by decide) (λh=>absurd rfl h);rcases g2 with ⟨g2,_⟩|⟨_,q1,q2,q3⟩
        ·exact absurd g2 (by simp[lnT])
        have p0:a03 H1 0=some (.row 3 [[sl rs (S.map Sg.enc),sl rt (T.map Tm.enc),sl rv (V.map Vc.enc)]]):=g6 0 (by show 0<_;simp) (by decide) (by intro _;decide);have z7:a1<H1.length:=g4;have z8:0<H1.length:=by omega
        have z9:1<H1.length:=by have:4≤H1.length:=g5;omega
        have y5:4≤a1:=g3;have y0:¬0=a1:=by omega
        have y1:¬1=a1:=by omega
        have y2:¬a1=0:=by omega
        have y3:¬a1=1:=by omega
        have h5:=a01 (a0w ([]++lnT (b0g t)));have h6:=λπ=>a02 π (a0w ([]++lnT (b0g t)))
        (repeat first|simp only[ww]|(apply xa;simp+decide only[go_sem,l3,g1,hw,b41];rfl;kernel_rfl))
        refine a2p (j+1) ?_ (by omega) (by omega);rw[im,a50 (by simp[lnT])];simp+decide only[go_sem,a0d,a07,p0,q1,q2,bdN,buf,jb,ja,y0,y1,y2,y3,z7,z8,z9,e3h,e6v]<;>rfl
     ·rw[a50 aK]
      (repeat first|simp only[ww]|(apply xa;simp+decide only[go_sem,l2,aq,b7,gE,b41];rfl;kernel_rfl))
      refine a15 (σ:=Nat) kp18_4 (λp=>[(1,.ptr 0 0 0),(5,.ptr 1 0 0),(6,.func (.func 35) [] [.ptr 1 0 0]),(12,.slice 3 0 (2+p) (if p=0 then some 2 else none)),(42,sl rt (T.map Tm.enc)),(43,.int .i64 T.length),(44,.int .i64 (j:Nat)),(61,.slice 4 0 5 (some 5)),(62,.int .i64 5),(63,.int .i64 (p:Nat))]) (λp=>[some (.row 3 [[sl rs (S.map Sg.enc),sl rt (T.map Tm.enc),sl rv (V.map Vc.enc)]]),some (.trow 82 true 2 [[.ptr 1 0 0,.slice 2 0 tx.length none]]),some (.trow 5 false 1 (a1h tx)),some (.row 1 (a1r (a3y::t.name::((a57 t).take p).map Lib.itoa))),some (.row 1 ((a57 t).map λn=>[AV.int .i64 n]))]) (λp=>5-p) (λp=>p≤5) 0 ?_ (e3h _) ?_
      ·(simp+decide only[go_sem,a0d,a07,jb,ja,a57,e28,e3a,e2h,e2b,a1r]<;>rfl)
      ·intro p hp;by_cases eg:p<5
       ·have l3:(p:Int)<5:=by omega
        have kj:(a57 t).length=5:=rfl;obtain⟨n,hn⟩:∃n,(a57 t)[p]?=some n:=⟨_,z9e (by omega)⟩
        have jN:=jH n (e25 hn);have gI:=λd H=>b3g (d:=d) H n jN.1 jN.2;have bH:((a57 t).map λn=>[AV.int .i64 n])[p]?=some [AV.int .i64 n]:=by rw[e2e,hn];rfl
        have fm:((a57 t).map λn=>[AV.int .i64 n]).length=5:=rfl;have lh:IntKind.i64.wrap ((p:Int)+1)=((p+1:Nat):Int):=by rw[w64 (by omega) (by omega)];omega
        have hL:a1r (a3y::t.name::((a57 t).take (p+1)).map Lib.itoa)=a1r (a3y::t.name::((a57 t).take p).map Lib.itoa)++[[.str (Lib.itoa n)]]:=by rw[a48 hn];simp[a1r]
        have gN:(a1r (a3y::t.name::((a57 t).take p).map Lib.itoa)).length=2+p:=by simp[a1r,kj];omega
        have kH:=a01 (a4c (a3y::t.name::((a57 t).take (p+1)).map Lib.itoa));have kG:=λπ=>a02 π (a4c (a3y::t.name::((a57 t).take (p+1)).map Lib.itoa));have oJ:((a57 t).map λn=>[AV.int .i64 n]).flatMap a0x=[]:=a01 (FlatR.map λ_=>rfl);have oI:∀π,((a57 t).map λn=>[AV.int .i64 n]).map (λr=>r.map (ren π))=(a57 t).map λn=>[AV.int .i64 n]:=λπ=>a02 π (FlatR.map λ_=>rfl);rw[hL]at kH kG;generalize a1r (a3y::t.name::((a57 t).take p).map Lib.itoa)=R at *;generalize((a57 t).map λn=>[AV.int .i64 n])=R5 at *;have cU:2+p+1≤1000000000:=by omega
        have mO:(if p+1=0 then some 2 else none)=(none:Option Nat):=e2i (by omega);have aM:p=0→R.take 2=R:=λh=>e3c (by omega);by_cases ji:p=0
        ·subst ji;have aM:=aM rfl
         (repeat first|simp only[ww]|(apply xa;simp+decide only[go_sem,l3,eg,bH,fm,gI,lh,gN,cU,aM,e3g];rfl;kernel_rfl))
         refine a2p (0+1) ?_ (by omega) (by omega)
         (simp+decide only[go_sem,a0d,a07,hL,kH,kG,oJ,oI,jb,ja,mO,aM,e5y]<;>rfl)
        ·rw[e2i ji]
         (repeat first|simp only[ww]|(apply xa;simp+decide only[go_sem,l3,eg,bH,fm,gI,lh,gN,cU];rfl;kernel_rfl))
         refine a2p (p+1) ?_ (by omega) (by omega)
         (simp+decide only[go_sem,a0d,a07,hL,kH,kG,oJ,oI,jb,ja,mO]<;>rfl)
       ·obtain rfl:p=5:=by omega
        have l3:¬((5:Nat):Int)<5:=by omega
        have eL:a3y::t.name::((a57 t).take 5).map Lib.itoa=b0g t:=rfl;rw[eL,e2i (by omega)];obtain⟨H1,a1,σ1,g1,g2,g3,g4,g5,g6⟩:=a3o [some (.row 3 [[sl rs (S.map Sg.enc),sl rt (T.map Tm.enc),sl rv (V.map Vc.enc)]]),some (.trow 82 true 2 [[.ptr 1 0 0,.slice 2 0 tx.length none]]),some (.trow 5 false 1 (a1h tx)),some (.row 1 (a1r (b0g t))),some (.row 1 ((a57 t).map λn=>[AV.int .i64 n]))] 3 1 2 7 none tx (b0g t) rfl ba rfl (.inr ⟨aK,rfl,rfl,by decide⟩) (by decide) (λ_=>by decide);rcases g2 with ⟨g2,_⟩|⟨_,q1,q2,q3⟩
        ·exact absurd g2 (by simp[lnT])
        have p0:a03 H1 0=some (.row 3 [[sl rs (S.map Sg.enc),sl rt (T.map Tm.enc),sl rv (V.map Vc.enc)]]):=g6 0 (by show 0<_;simp) (by decide) (by intro _;decide);have z7:a1<H1.length:=g4;have z8:0<H1.length:=by omega
        have z9:1<H1.length:=by have:5≤H1.length:=g5;omega
        have y5:5≤a1:=g3;have y0:¬0=a1:=by omega
        have y1:¬1=a1:=by omega
        have y2:¬a1=0:=by omega
        have y3:¬a1=1:=by omega
        have h5:=a01 (a0w (tx++lnT (b0g t)));have h6:=λπ=>a02 π (a0w (tx++lnT (b0g t)))
        (repeat first|simp only[ww]|(apply xa;simp+decide only[go_sem,l3,g1,hw,b41];rfl;kernel_rfl))
        refine a2p (j+1) ?_ (by omega) (by omega);rw[im,a50 (by simp[lnT])];simp+decide only[go_sem,a0d,a07,p0,q1,q2,bdN,buf,jb,ja,y0,y1,y2,y3,z7,z8,z9,e3h,e6v]<;>rfl
    ·obtain rfl:j=T.length:=by omega
     have l2:¬(T.length:Int)<T.length:=by omega
     rw[e3z]
     (repeat first|simp only[ww]|(apply xa;simp+decide only[go_sem,l2,b41];rfl;kernel_rfl))
     refine a15 (σ:=Nat) kp18_6 (λq=>[(1,.ptr 0 0 0),(5,.ptr 1 0 0),(6,.func (.func 35) [] [.ptr 1 0 0]),(78,sl rv (V.map Vc.enc)),(79,.int .i64 V.length),(80,.int .i64 (q:Nat))]) (λq=>some (.row 3 [[sl rs (S.map Sg.enc),sl rt (T.map Tm.enc),sl rv (V.map Vc.enc)]])::bdH (txS S++txT T++txV T (V.take q))) (λq=>V.length-q) (λq=>q≤V.length) 0 ?_ (e3h _) ?_
     ·have e0:txV T (V.take 0)=[]:=rfl;rw[e0,e2h];by_cases aK:txS S++txT T=[]
      ·rw[aK,b4a];(simp+decide only[go_sem,a0d,a07]<;>rfl)
      ·rw[a50 aK];(simp+decide only[go_sem,a0d,a07,jb,ja]<;>rfl)
     ·intro q hq;by_cases aq:q<V.length
      ·have l3:(q:Int)<V.length:=by omega
       obtain⟨v,hv⟩:∃v,V[q]?=some v:=⟨_,z9e aq⟩
       have b7:(V.map Vc.enc)[q]?=some (Vc.enc v):=by rw[e2e,hv];rfl
       have hw:IntKind.i64.wrap ((q:Int)+1)=((q+1:Nat):Int):=by rw[w64 (by omega) (by omega)];omega
       have ce:=e25 hv;have mp:=h.vc v ce;simp only[a22,b46,e2d]at mp;obtain⟨tn,jH⟩:∃tn:Nat,v.t=tn:=⟨v.t.toNat,by omega⟩
       have ju:tn<T.length:=by omega
       obtain⟨t,ht⟩:∃t,T[tn]?=some t:=⟨_,z9e ju⟩
       have aR:(T.map Tm.enc)[tn]?=some (Tm.enc t):=by rw[e2e,ht];rfl
       have bd:a8z T v=[vecK0,t.name,if v.cells=[]then[45]else v.cells]++(if v.rep=1 then[]else[Lib.itoa v.rep]):=b2p T v t (by rw[jH];exact ht);have sP:=b6i h ce;have im:txS S++txT T++txV T (V.take (q+1))=txS S++txT T++txV T (V.take q)++lnT (a8z T v):=by rw[e5j (txS S++txT T)];congr 1;exact d9j _ V hv
       have aN:=d2i (λv=>lnT (a8z T v)) V q;have qf:(txV T (V.take q)).length≤(txV T V).length:=aN;have ba:okL (txS S++txT T++txV T (V.take q)).length (a8z T v):=c4x (by rw[e2f,e2f];omega) (by rw[bd];simp) (by rw[bd];split<;>split<;>simp);have aK:txS S++txT T++txV T (V.take q)≠[]:=by
        intro e;have e1:=(e6y.1 e).1;have e2:=(e6y.1 e1).2;cases T with
        |nil=>simp at ju
        |cons t0 T'=>simp[txT,lnT]at e2
       have gI:=λd H=>b3g (d:=d) H v.rep (by omega) (by omega);generalize txS S++txT T++txV T (V.take q)=tx at im ba aK⊢;rw[a50 aK];by_cases hc:v.cells=[]
       ·by_cases hr:v.rep=1
        ·have gw:a8z T v=[[118,101,99,116,111,114],t.name,[45]]:=by rw[bd];simp[hc,hr,vecK0]
         obtain⟨H1,a1,σ1,g1,g2,g3,g4,g5,g6⟩:=a3o [some (.row 3 [[sl rs (S.map Sg.enc),sl rt (T.map Tm.enc),sl rv (V.map Vc.enc)]]),some (.trow 82 true 2 [[.ptr 1 0 0,.slice 2 0 tx.length none]]),some (.trow 5 false 1 (a1h tx)),some (.row 3 [[.int .i64 tn,.str [],.int .i64 1]]),some (.row 1 [[.str [118,101,99,116,111,114]],[.str t.name],[.str [45]]])] 4 1 2 3 (some 3) tx (a8z T v) (by rw[gw];rfl) ba (by rw[gw];rfl) (.inr ⟨aK,rfl,rfl,by decide⟩) (by decide) (λ_=>by decide);rcases g2 with ⟨g2,_⟩|⟨_,q1,q2,q3⟩
         ·exact absurd g2 (by simp[lnT])
         have p0:a03 H1 0=some (.row 3 [[sl rs (S.map Sg.enc),sl rt (T.map Tm.enc),sl rv (V.map Vc.enc)]]):=g6 0 (by show 0<_;simp) (by decide) (by intro _;decide);have z7:a1<H1.length:=g4;have z8:0<H1.length:=by omega
         have z9:1<H1.length:=by have:5≤H1.length:=g5;omega
         have y5:5≤a1:=g3;have y0:¬0=a1:=by omega
         have y1:¬1=a1:=by omega
         have y2:¬a1=0:=by omega
         have y3:¬a1=1:=by omega
         have h5:=a01 (a0w (tx++lnT (a8z T v)));have h6:=λπ=>a02 π (a0w (tx++lnT (a8z T v)))
         (repeat first|simp only[ww]|(apply xa;simp+decide only[go_sem,l3,aq,b7,aR,jH,ju,hc,hr,g1,hw,gI,b41];rfl;kernel_rfl))
         refine a2p (q+1) ?_ (by omega) (by omega);rw[im,a50 (by simp[lnT])];simp+decide only[go_sem,a0d,a07,p0,q1,q2,bdN,buf,jb,ja,y0,y1,y2,y3,z7,z8,z9,e3h,e6v]<;>rfl
        ·have gw:a8z T v=[[118,101,99,116,111,114],t.name,[45]]++[Lib.itoa v.rep]:=by rw[bd];simp[hc,hr,vecK0]
         obtain⟨H1,a1,σ1,g1,g2,g3,g4,g5,g6⟩:=a3o [some (.row 3 [[sl rs (S.map Sg.enc),sl rt (T.map Tm.enc),sl rv (V.map Vc.enc)]]),some (.trow 82 true 2 [[.ptr 1 0 0,.slice 2 0 tx.length none]]),some (.trow 5 false 1 (a1h tx)),some (.row 3 [[.int .i64 tn,.str [],.int .i64 v.rep]]),some (.row 1 [[.str [118,101,99,116,111,114]],[.str t.name],[.str [45]]]),some (.row 1 [[.str (Lib.itoa v.rep)]]),some (.row 1 [[.str [118,101,99,116,111,114]],[.str t.name],[.str [45]],[.str (Lib.itoa v.rep)]])] 6 1 2 4 none tx (a8z T v) (by rw[gw];rfl) ba (by rw[gw];rfl) (.inr ⟨aK,rfl,rfl,by decide⟩) (by decide) (λ_=>by decide);rcases g2 with ⟨g2,_⟩|⟨_,q1,q2,q3⟩
         ·exact absurd g2 (by simp[lnT])
         have p0:a03 H1 0=some (.row 3 [[sl rs (S.map Sg.enc),sl rt (T.map Tm.enc),sl rv (V.map Vc.enc)]]):=g6 0 (by show 0<_;simp) (by decide) (by intro _;decide);have z7:a1<H1.length:=g4;have z8:0<H1.length:=by omega
         have z9:1<H1.length:=by have:7≤H1.length:=g5;omega
         have y5:7≤a1:=g3;have y0:¬0=a1:=by omega
         have y1:¬1=a1:=by omega
         have y2:¬a1=0:=by omega
         have y3:¬a1=1:=by omega
         have h5:=a01 (a0w (tx++lnT (a8z T v)));have h6:=λπ=>a02 π (a0w (tx++lnT (a8z T v)))
         (repeat first|simp only[ww]|(apply xa;simp+decide only[go_sem,l3,aq,b7,aR,jH,ju,hc,hr,g1,hw,gI,b41];rfl;kernel_rfl))
         refine a2p (q+1) ?_ (by omega) (by omega);rw[im,a50 (by simp[lnT])];simp+decide only[go_sem,a0d,a07,p0,q1,q2,bdN,buf,jb,ja,y0,y1,y2,y3,z7,z8,z9,e3h,e6v]<;>rfl
       ·by_cases hr:v.rep=1
        ·have gw:a8z T v=[[118,101,99,116,111,114],t.name,v.cells]:=by rw[bd];simp[hc,hr,vecK0]
         obtain⟨H1,a1,σ1,g1,g2,g3,g4,g5,g6⟩:=a3o [some (.row 3 [[sl rs (S.map Sg.enc),sl rt (T.map Tm.enc),sl rv (V.map Vc.enc)]]),some (.trow 82 true 2 [[.ptr 1 0 0,.slice 2 0 tx.length none]]),some (.trow 5 false 1 (a1h tx)),some (.row 3 [[.int .i64 tn,.str v.cells,.int .i64 1]]),some (.row 1 [[.str [118,101,99,116,111,114]],[.str t.name],[.str v.cells]])] 4 1 2 3 (some 3) tx (a8z T v) (by rw[gw];rfl) ba (by rw[gw];rfl) (.inr ⟨aK,rfl,rfl,by decide⟩) (by decide) (λ_=>by decide);rcases g2 with ⟨g2,_⟩|⟨_,q1,q2,q3⟩
         ·exact absurd g2 (by simp[lnT])
         have p0:a03 H1 0=some (.row 3 [[sl rs (S.map Sg.enc),sl rt (T.map Tm.enc),sl rv (V.map Vc.enc)]]):=g6 0 (by show 0<_;simp) (by decide) (by intro _;decide);have z7:a1<H1.length:=g4;have z8:0<H1.length:=by omega
         have z9:1<H1.length:=by have:5≤H1.length:=g5;omega
         have y5:5≤a1:=g3;have y0:¬0=a1:=by omega
         have y1:¬1=a1:=by omega
         have y2:¬a1=0:=by omega
         have y3:¬a1=1:=by omega
         have h5:=a01 (a0w (tx++lnT (a8z T v)));have h6:=λπ=>a02 π (a0w (tx++lnT (a8z T v)))
         (repeat first|simp only[ww]|(apply xa;simp+decide only[go_sem,l3,aq,b7,aR,jH,ju,hc,hr,g1,hw,gI,b41];rfl;kernel_rfl))
         refine a2p (q+1) ?_ (by omega) (by omega);rw[im,a50 (by simp[lnT])];simp+decide only[go_sem,a0d,a07,p0,q1,q2,bdN,buf,jb,ja,y0,y1,y2,y3,z7,z8,z9,e3h,e6v]<;>rfl
        ·have gw:a8z T v=[[118,101,99,116,111,114],t.name,v.cells]++[Lib.itoa v.rep]:=by rw[bd];simp[hc,hr,vecK0]
         obtain⟨H1,a1,σ1,g1,g2,g3,g4,g5,g6⟩:=a3o [some (.row 3 [[sl rs (S.map Sg.enc),sl rt (T.map Tm.enc),sl rv (V.map Vc.enc)]]),some (.trow 82 true 2 [[.ptr 1 0 0,.slice 2 0 tx.length none]]),some (.trow 5 false 1 (a1h tx)),some (.row 3 [[.int .i64 tn,.str v.cells,.int .i64 v.rep]]),some (.row 1 [[.str [118,101,99,116,111,114]],[.str t.name],[.str v.cells]]),some (.row 1 [[.str (Lib.itoa v.rep)]]),some (.row 1 [[.str [118,101,99,116,111,114]],[.str t.name],[.str v.cells],[.str (Lib.itoa v.rep)]])] 6 1 2 4 none tx (a8z T v) (by rw[gw];rfl) ba (by rw[gw];rfl) (.inr ⟨aK,rfl,rfl,by decide⟩) (by decide) (λ_=>by decide);rcases g2 with ⟨g2,_⟩|⟨_,q1,q2,q3⟩
         ·exact absurd g2 (by simp[lnT])
         have p0:a03 H1 0=some (.row 3 [[sl rs (S.map Sg.enc),sl rt (T.map Tm.enc),sl rv (V.map Vc.enc)]]):=g6 0 (by show 0<_;simp) (by decide) (by intro _;decide);have z7:a1<H1.length:=g4;have z8:0<H1.length:=by omega
         have z9:1<H1.length:=by have:7≤H1.length:=g5;omega
         have y5:7≤a1:=g3;have y0:¬0=a1:=by omega
         have y1:¬1=a1:=by omega
         have y2:¬a1=0:=by omega
         have y3:¬a1=1:=by omega
         have h5:=a01 (a0w (tx++lnT (a8z T v)));have h6:=λπ=>a02 π (a0w (tx++lnT (a8z T v)))
         (repeat first|simp only[ww]|(apply xa;simp+decide only[go_sem,l3,aq,b7,aR,jH,ju,hc,hr,g1,hw,gI,b41];rfl;kernel_rfl))
         refine a2p (q+1) ?_ (by omega) (by omega);rw[im,a50 (by simp[lnT])];simp+decide only[go_sem,a0d,a07,p0,q1,q2,bdN,buf,jb,ja,y0,y1,y2,y3,z7,z8,z9,e3h,e6v]<;>rfl
      ·obtain rfl:q=V.length:=by omega
       have l3:¬(V.length:Int)<V.length:=by omega
       rw[e3z];have jo:(txS S++txT T++txV T V).length≤1000000:=by rw[e2f,e2f];omega
       have sQ:b4l S T V=txS S++txT T++txV T V:=rfl;rw[sQ];generalize txS S++txT T++txV T V=tx at jo⊢;by_cases aK:tx=[]
       ·subst aK;rw[b4a];have k1:=e4k (.row 3 [[sl rs (S.map Sg.enc),sl rt (T.map Tm.enc),sl rv (V.map Vc.enc)]]);have k2:=e47 (.row 3 [[sl rs (S.map Sg.enc),sl rt (T.map Tm.enc),sl rv (V.map Vc.enc)]])
        (repeat first|simp only[ww]|(apply xa;simp+decide only[go_sem,l3,k1,k2];rfl;kernel_rfl))
        (apply fqb;simp+decide only[go_sem]<;>rfl)
       ·rw[a50 aK];have k1:=e4j (.row 3 [[sl rs (S.map Sg.enc),sl rt (T.map Tm.enc),sl rv (V.map Vc.enc)]]) tx;have k2:=e46 (.row 3 [[sl rs (S.map Sg.enc),sl rt (T.map Tm.enc),sl rv (V.map Vc.enc)]]) tx aK jo;have c9:¬(1048576:Int)<tx.length:=by omega
        (repeat first|simp only[ww]|(apply xa;simp+decide only[go_sem,l3,k1,k2,c9];rfl;kernel_rfl))
        (apply fqb;simp+decide only[go_sem]<;>rfl)
end Go.RInst
