/- Part of a proof. No condition. -/
import Derived.Test.YtmbmjfjagololaaGreatDoorRRn
import Derived.Test.YtmbmjfjagololaaGreatDoorAxE
set_option linter.unusedSectionVars false
set_option linter.unusedSimpArgs false
set_option linter.unusedVariables false
namespace Go.RInst
open Go.Proofs Go.Ax Go.Pc
variable [PR]
set_option maxRecDepth 100000
def ghP(k:Nat):List (List AV)→Option AObj
 | []=>none
 |x::R=>some (.row k (x::R))
theorem a23(k:Nat){R:List (List AV)}(h:R≠[]):ghP k R=some (.row k R):=by
 cases R with
 |nil=>exact absurd rfl h
 |cons=>rfl
def a49(r:Rd):a08:=[some (.row 4 [[grV 1 (r.S.map Sg.enc),grV 2 (r.T.map Tm.enc),grV 3 (r.V.map Vc.enc),.int .i64 r.sum]]),ghP 2 (r.S.map Sg.enc),ghP 6 (r.T.map Tm.enc),ghP 3 (r.V.map Vc.enc)]
theorem c8t{g:FuncId}{s:List UInt8}{p:Value}(r:Rd)(h:PanF L.env g [.ptr 0 0 0,.str s] (a49 r) p):PanF L.env g [.ptr 0 0 0,.str s] (a2k r) p:=by
 have S1:=λπ=>a02 π (a0s r.S);have T1:=λπ=>a02 π (a0a r.T);have V1:=λπ=>a02 π (a13 r.V);unfold a49 at h;unfold a2k;generalize r.S.map Sg.enc=RS at *;generalize r.T.map Tm.enc=RT at *;generalize r.V.map Vc.enc=RV at *;refine PanF.lay (0::((grH 2 RS).map (λ_=>1)++(grH 6 RT).map (λ_=>2)++(grH 3 RV).map λ_=>3)) ?_ ?_ ?_ h
 ·cases RS<;>cases RT<;>cases RV<;>rfl
 ·cases RS<;>cases RT<;>cases RV<;>rfl
 ·intro b' o' hb;rcases RS with _|⟨x,RS⟩<;>rcases RT with _|⟨y,RT⟩<;>rcases RV with _|⟨z,RV⟩<;>rcases b' with _|_|_|_|b'<;>cases hb <;>
   first|exact⟨0,_,rfl,rfl,by simp[a0t,ren,grV,grH]⟩|exact⟨1,_,rfl,rfl,by simp only[a0t,S1,T1,V1]⟩|exact⟨2,_,rfl,rfl,by simp only[a0t,S1,T1,V1]⟩|exact⟨3,_,rfl,rfl,by simp only[a0t,S1,T1,V1]⟩
/- the first byte that is no digit -/
theorem d2z(w:List UInt8)(h:¬∀b∈w,b4r b):∃k b,w[k]?=some b∧¬b4r b∧∀b∈w.take k,b4r b:=by
 induction w with
 |nil=>exact absurd (by simp) h
 |cons a r ih=>
  by_cases ha:b4r a
  ·obtain⟨k,b,h1,h2,h3⟩:=ih λhr=>h λb hb=>by
    rcases e3b.1 hb with rfl|hb
    ·exact ha
    ·exact hr b hb
   refine⟨k+1,b,by simpa using h1,h2,λx hx=>?_⟩;rw[c35]at hx;rcases e3b.1 hx with rfl|hx
   ·exact ha
   ·exact h3 x hx
  ·exact⟨0,a,rfl,ha,by simp⟩
theorem b0z(al:DrOk L.env)(w:List UInt8)(h:¬NumOk w):PanF L.env 84 [.str w] [] (a4m 4):=by
 have aF:=λd H e=>a0i (d:=d) H e;refine pf Tryz.f84 ok al noF (by kernel_rfl) ?_;simp only[Tryz.f84,gS];refine pcs ?_
 (repeat first|simp only[ww]|(apply xa;simp+decide only[go_sem];rfl;kernel_rfl))
 refine a1m ?_;by_cases h1:w=[]
 ·subst h1;refine PanG.seqL ?_;refine pcr 17 (by(simp+decide only[go_sem,c35,e28];rfl)) rfl rfl (a1z (g1:=62) (l:=[.bool false,.int .i64 4]) rfl (by simp only[go_sem]) (by simp only[go_sem]) rfl (a11 al 4))
 have mg:1≤w.length:=e72.2 h1;have fx:0<w.length:=mg;have c1:(1:Int)≤w.length:=by omega
 by_cases h7:w.length≤7
 case neg=>
  have c7:¬(w.length:Int)≤7:=by omega
  refine PanG.seqL ?_;refine pcr 17 (by(simp+decide only[go_sem,c35,e28,c1,c7];rfl)) rfl rfl (a1z (g1:=62) (l:=[.bool false,.int .i64 4]) rfl (by simp only[go_sem]) (by simp only[go_sem]) rfl (a11 al 4))
 have c7:(w.length:Int)≤7:=by omega
 obtain⟨a,ha⟩:∃a,w[0]?=some a:=⟨_,z9e fx⟩
 by_cases hz:w=[48]
 ·subst hz;exact absurd ⟨by decide,by decide,.inl rfl,by intro b hb;rw[e3r.1 hb];constructor<;>decide⟩ h
 by_cases rP:a.toNat=48
 ·have c0:(a.toNat:Int)=48:=by omega
  refine PanG.seqL ?_;refine pcr 17 (by(simp+decide only[go_sem,c35,e28,c1,c7,hz,fx,ha,c0];rfl)) rfl rfl (a1z (g1:=62) (l:=[.bool false,.int .i64 4]) rfl (by simp only[go_sem]) (by simp only[go_sem]) rfl (a11 al 4))
 have c0:¬(a.toNat:Int)=48:=by omega
 obtain⟨k,b,hk,hb,io⟩:=d2z w λhd=>h ⟨mg,h7,.inr ⟨a,ha,rP⟩,hd⟩;have qh:k<w.length:=(e26.1 hk).1;have mG:∀i,i≤k→a09 (w.take i)<10000000:=λi hi=>by
  have hd:∀b∈w.take i,b4r b:=λx hx=>io x (by
   have:w.take i=(w.take k).take i:=by rw[List.take_take,Nat.min_eq_left hi]
   rw[this]at hx;exact e6f hx)
  have:=a84 (w.take i) hd i (by rw[e4z];omega);rw[List.take_take,Nat.min_self]at this;exact e58 this (e5w (e6w (by decide) (by omega:i≤7)) (by decide))
 refine pcs ?_
 (repeat first|simp only[ww]|(apply xa;simp+decide only[go_sem,c1,c7,hz,fx,ha,c0,aF];rfl;kernel_rfl))
 refine a1m ?_;refine pcs ?_
 (repeat first|simp only[ww]|(apply xa;simp+decide only[go_sem];rfl;kernel_rfl))
 refine a1m ?_;refine PanG.seqL ?_;refine pcs ?_
 (repeat first|simp only[ww]|(apply xa;simp+decide only[go_sem];rfl;kernel_rfl))
 refine a1m ?_;refine a52 ?_;refine c0f (σ:=Nat) kp84_0 (λi=>[(0,.str w),(3,.int .i64 (a09 (w.take i):Nat)),(24,.int .i64 w.length),(25,.int .i64 (i:Nat))]) (λ_=>[]) (λi=>w.length-i) (λi=>i≤k) 0 ?_ (e3h _) ?_
 ·have e0:a09 (w.take 0)=0:=rfl
  (simp+decide only[go_sem,a0d,a07,e0]<;>rfl)
 ·intro i hi;have aq:i<w.length:=by omega
  have l1:(i:Int)<w.length:=by omega
  by_cases kP:i=k
  ·left;subst kP;refine pcs ?_
   (repeat first|simp only[ww]|(apply xa;simp+decide only[go_sem];rfl;kernel_rfl))
   refine a1m ?_;refine pcs ?_
   (repeat first|simp only[ww]|(apply xa;simp+decide only[go_sem,l1];rfl;kernel_rfl))
   refine a1m ?_;refine PanG.seqL (a52 ?_);refine pcs ?_
   (repeat first|simp only[ww]|(apply xa;simp+decide only[go_sem];rfl;kernel_rfl))
   refine a1m ?_;refine PanG.seqL ?_;by_cases d1:(48:Int)≤b.toNat
   ·have d2:¬(b.toNat:Int)≤57:=λd2=>hb ⟨by omega,by omega⟩;refine pcr 10 (by(simp+decide only[go_sem,c35,e28,aq,hk,d1,d2];rfl)) rfl rfl (a1z (g1:=62) (l:=[.bool false,.int .i64 4]) rfl (by simp only[go_sem]) (by simp only[go_sem]) rfl (a11 al 4))
   ·refine pcr 10 (by(simp+decide only[go_sem,c35,e28,aq,hk,d1];rfl)) rfl rfl (a1z (g1:=62) (l:=[.bool false,.int .i64 4]) rfl (by simp only[go_sem]) (by simp only[go_sem]) rfl (a11 al 4))
  ·right;obtain⟨x,hx⟩:∃x,w[i]?=some x:=⟨_,z9e aq⟩
   have hd:b4r x:=io x (by refine e25 (i:=i) ?_;rw[e5g,e3g (by omega),hx]);have hp:=mG i hi;have d1:(48:Int)≤x.toNat:=by have:=hd.1;omega
   have d2:(x.toNat:Int)≤57:=by have:=hd.2;omega
   have hw:IntKind.i64.wrap ((i:Int)+1)=((i+1:Nat):Int):=by rw[w64 (by omega) (by omega)];omega
   have s1:IntKind.i64.wrap (10*((a09 (w.take i):Nat):Int))=((10*a09 (w.take i):Nat):Int):=by rw[w64 (by omega) (by omega)];omega
   have s2:IntKind.u8.wrap ((x.toNat:Int)-48)=((x.toNat-48:Nat):Int):=by
    have e:((x.toNat:Int)-48)=((x.toNat-48:Nat):Int):=by omega
    rw[e];generalize q6:x.toNat-48=y;have sF:y≤9:=by omega
    have key:∀y:Nat,y≤9→IntKind.u8.wrap (y:Int)=(y:Int):=by decide
    exact key y sF
   have s3:IntKind.i64.wrap ((x.toNat-48:Nat):Int)=((x.toNat-48:Nat):Int):=w64 (by omega) (by omega);have s4:IntKind.i64.wrap (((10*a09 (w.take i):Nat):Int)+((x.toNat-48:Nat):Int))=((a09 (w.take (i+1)):Nat):Int):=by rw[c61 w hx,w64 (by omega) (by omega)];omega
   (repeat first|simp only[ww]|(apply xa;simp+decide only[go_sem,l1,aq,hx,d1,d2,aF,hw,s1,s2,s3,s4];rfl;kernel_rfl))
   refine a2p (i+1) ?_ (by omega) (by omega)
   (simp+decide only[go_sem,a0d,a07]<;>rfl)
end Go.RInst
namespace Go.RInst
set_option maxHeartbeats 200000000
open Go.Proofs Go.Ax Go.Pc
variable [PR]
set_option maxRecDepth 100000
theorem pcd{g cur m N:Nat}{F F1:Frm}{H H1:a08}{p:Value}{id:Nat}{au:Array Oper}{log:List LogE}(s:Nat)(hr:a7h L.env true N (sem L.env Mf) au.toList (au.toList.take s) [] F H=some (F1,H1,log))(hl:logOk au.toList log.length log=true)
 {o:Oper}(ho:au.toList[s]?=some o)(hg:o.guard=none)(hs:au.toList.length=s+1){d:Nat}(hd:o.dst=some d){f:Operand}{args:Array Operand}{fB:Array TypeId}(cV:o.op = .call ⟨.value f,args,fB⟩){g1:FuncId}{l:List AV}(hf:opv L.env F1 f = .func (.func g1) [] [])
 (ha:args.toList.map (opv L.env F1)=l)(bv:a0x l=[])(h:PanF L.env g1 l [] p)(o7:(L.env.fn g1).isSome=true:=by kernel_rfl):PanC (cx L.env Mf m N g cur) (.region id au true) F H p (List.replicate m none):=by
 subst ha;exact PanC.drawn s hs hr hl ho hg hd cV hf o7 bv h
theorem d2t(n:List UInt8)(d:Nat)(l:List Sg)(hl:l.length≤100000)(bP:n∈l.map Sg.name):sem L.env Mf 82 [.slice 0 0 l.length none,.func (.func 83) [] [.ptr 1 0 0]] [some (.row 2 (l.map Sg.enc)),some (.row 2 [[.str n,.int .u8 d]])]=some (.bool true,[some (.row 2 (l.map Sg.enc)),some (.row 2 [[.str n,.int .u8 d]])]):=by
 have bY:=λπ=>a02 π (a0s l);have cL:=a01 (a0s l);have kO:=c5j n d l hl;have dN:¬fnd n (l.map Sg.name)<0:=λh=>(b3q n (l.map Sg.name)).1 h bP;generalize fnd n (l.map Sg.name)=z at kO dN;have c0:(0:Int)≤z:=by omega
 generalize hR:l.map Sg.enc=R at *;have fu:a0j [some (AObj.row 2 R),some (AObj.row 2 [[.str n,.int .u8 d]])] 1000000 (a0x [AV.slice 0 0 l.length none,.func (.func 83) [] [.ptr 1 0 0]]) []=[0,1]:=by show a0j _ 1000000 [0,1] []=_;rw[show(1000000:Nat)=999997+1+1+1 from rfl,a06 rfl];show a0j _ (999997+1+1) (R.flatMap a0x++[1]) _=_;rw[cL,b43,a06 rfl];exact a17 _ _ _
 have hc:a0e L.env false (sem L.env Mf) (.func (.func 99) [] []) [.slice 0 0 l.length none,.func (.func 83) [] [.ptr 1 0 0]] [some (.row 2 R),some (.row 2 [[.str n,.int .u8 d]])]=some (.int .i64 z,[some (.row 2 R),some (.row 2 [[.str n,.int .u8 d]])],[0,1]):=by have hc:=a0b (sem L.env Mf 99) _ [some (.row 2 R),some (.row 2 [[.str n,.int .u8 d]])] (σ:=[0,1]) fu rfl rfl (an:=[.slice 0 0 l.length none,.func (.func 83) [] [.ptr 1 0 0]]) rfl (H0:=[some (.row 2 R),some (.row 2 [[.str n,.int .u8 d]])]) (by simp+decide only[go_sem,a0q,bY]) kO;refine a2g (by kernel_rfl) (by kernel_rfl) rfl (hc.trans ?_);simp+decide only[go_sem,a0n,bY]
 (refine sv Tryz.f82 ?_;simp only[Tryz.f82,gS])
 (repeat first|simp only[ww]|(apply xa;simp+decide only[go_sem,hc,c0];rfl;kernel_rfl))
 (apply fqb;simp+decide only[go_sem,bY,cL]<;>rfl)
theorem c22(H:a08)(a c:Nat)(n:List UInt8)(d:Nat)(l:List Sg)(hl:l.length≤100000)(bP:n∈l.map Sg.name)(ha:a03 H a=some (.row 2 (l.map Sg.enc)))(hc:a03 H c=some (.row 2 [[.str n,.int .u8 d]]))(iD:a≠c):a0e L.env false (sem L.env Mf) (.func (.func 82) [] []) [.slice a 0 l.length none,.func (.func 83) [] [.ptr c 0 0]] H=some (.bool true,H,[a,c]):=by
 have h1:=a0v ha;have h2:=a0v hc;refine a59 [a,c] (by kernel_rfl) (by kernel_rfl) rfl ?_ (by simp[a12,a18,a04,a05,iD.symm]) (by simp[h1,h2]) ?_ (an:=[.slice 0 0 l.length none,.func (.func 83) [] [.ptr 1 0 0]]) ?_ (H0:=[some (.row 2 (l.map Sg.enc)),some (.row 2 [[.str n,.int .u8 d]])]) (by simp[ha,hc]) (d2t n d l hl bP) rfl
 ·show a0j H 1000000 [a,c] []=_;exact b31 iD (by rw[ha];exact a01 (a0s l)) (by rw[hc];rfl)
 ·intro b hb;simp only[e3b,e5f,e7f]at hb;rcases hb with rfl|rfl
  ·rw[ha];exact FlatO.row (a0s l)
  ·rw[hc];intro π;rfl
 ·simp[ren,b87,a47,a2w,e2g,iD]
def a3z(g m:Nat)(c:Option Nat)(R:List (List AV))(r:Rd):Prop:=∃e:Int,e≠0∧PanF L.env g [.ptr 0 0 0,.slice 4 0 m c] (a49 r++[some (.row 1 R),none]) (a4m e)
theorem c7s(al:DrOk L.env)(a0 a1 a2 a3:Option AObj)(R:List (List AV))(n m:Nat)(hm:m≠3):PanF L.env 65 [.ptr 0 0 0,.slice 4 0 m (some n)] [a0,a1,a2,a3,some (.row 1 R),none] (a4m 4):=by
 have c:¬(m:Int)=3:=by omega
 refine pf Tryz.f65 ok al noF (by kernel_rfl) ?_;simp only[Tryz.f65,gS];refine PanG.seqL ?_;refine pcr 15 (by(simp+decide only[go_sem,c35,e28,c];rfl)) rfl rfl (a1z (g1:=62) (l:=[.bool false,.int .i64 4]) rfl (by simp only[go_sem]) (by simp only[go_sem]) rfl (a11 al 4))
theorem c7r(al:DrOk L.env)(a0 a1 a2 a3:Option AObj)(R:List (List AV))(n:Nat)(d:List UInt8)(ap:R.length=n)(hn:3≤n)(aC:R[2]?=some [.str d])(h1:d≠inK)(h2:d≠a9h):PanF L.env 65 [.ptr 0 0 0,.slice 4 0 3 (some n)] [a0,a1,a2,a3,some (.row 1 R),none] (a4m 4):=by
 have l2:2<n:=by omega
 have h1:¬d=[105,110]:=h1;have h2:¬d=[111,117,116]:=h2;refine pf Tryz.f65 ok al noF (by kernel_rfl) ?_;simp only[Tryz.f65,gS];refine PanG.seqL ?_;refine pcr 15 (by(simp+decide only[go_sem,c35,e28,l2,ap,aC,h1,h2];rfl)) rfl rfl (a1z (g1:=62) (l:=[.bool false,.int .i64 4]) rfl (by simp only[go_sem]) (by simp only[go_sem]) rfl (a11 al 4))
theorem b83(al:DrOk L.env)(sum:Int)(T:List Tm)(a7:T.length≤100000)(R:List (List AV))(n:Nat)(d:List UInt8)(ap:R.length=n)(hn:3≤n)(aC:R[2]?=some [.str d])(hd:d=inK∨d=a9h)(bZ:T≠[]):PanF L.env 65 [.ptr 0 0 0,.slice 4 0 3 (some n)] [some (.row 4 [[.junk,.slice 2 0 T.length none,.nilslice,.int .i64 sum]]),none,some (.row 6 (T.map Tm.enc)),none,some (.row 1 R),none] (a4m 11):=by
 have l2:2<n:=by omega
 have aF:=λd H e=>a0i (d:=d) H e;have az:1≤T.length:=e72.2 bZ;have c:¬(T.length:Int)=0:=by omega
 have cw:IntKind.i64.wrap ((T.length:Int))=T.length:=w64 (by omega) (by omega);have sk:IntKind.i64.wrap ((T.length:Int)+0)=T.length:=by rw[Int.add_zero];exact cw
 refine pf Tryz.f65 ok al noF (by kernel_rfl) ?_;simp only[Tryz.f65,gS];refine pcs ?_;rcases hd with rfl|rfl
 ·simp only[inK,a9h]at aC
  (repeat first|simp only[ww]|(apply xa;simp+decide only[go_sem,aF,l2,ap,aC];rfl;kernel_rfl))
  refine a1m ?_;refine PanG.seqL ?_;refine pcd 14 (by(simp+decide only[go_sem,c35,e28,c,cw,sk];rfl)) (by kernel_rfl) rfl rfl rfl rfl rfl (g1:=62) (l:=[.bool false,.int .i64 11]) (by simp only[go_sem]) (by simp only[go_sem]) rfl (a11 al 11)
 ·simp only[inK,a9h]at aC
  (repeat first|simp only[ww]|(apply xa;simp+decide only[go_sem,aF,l2,ap,aC];rfl;kernel_rfl))
  refine a1m ?_;refine PanG.seqL ?_;refine pcd 14 (by(simp+decide only[go_sem,c35,e28,c,cw,sk];rfl)) (by kernel_rfl) rfl rfl rfl rfl rfl (g1:=62) (l:=[.bool false,.int .i64 11]) (by simp only[go_sem]) (by simp only[go_sem]) rfl (a11 al 11)
theorem b81(al:DrOk L.env)(sum:Int)(T:List Tm)(a7:T.length≤100000)(V:List Vc)(R:List (List AV))(n:Nat)(d:List UInt8)(ap:R.length=n)(hn:3≤n)(aC:R[2]?=some [.str d])(hd:d=inK∨d=a9h)(bZ:T≠[])(kU:V.length≤100000):PanF L.env 65 [.ptr 0 0 0,.slice 4 0 3 (some n)] [some (.row 4 [[.junk,.slice 2 0 T.length none,.slice 3 0 V.length none,.int .i64 sum]]),none,some (.row 6 (T.map Tm.enc)),some (.row 3 (V.map Vc.enc)),some (.row 1 R),none] (a4m 11):=by
 have l2:2<n:=by omega
 have aF:=λd H e=>a0i (d:=d) H e;have az:1≤T.length:=e72.2 bZ;have c:¬IntKind.i64.wrap ((T.length:Int)+(V.length:Int))=0:=by rw[w64 (by omega) (by omega)];omega
 refine pf Tryz.f65 ok al noF (by kernel_rfl) ?_;simp only[Tryz.f65,gS];refine pcs ?_;rcases hd with rfl|rfl
 ·simp only[inK,a9h]at aC
  (repeat first|simp only[ww]|(apply xa;simp+decide only[go_sem,aF,l2,ap,aC];rfl;kernel_rfl))
  refine a1m ?_;refine PanG.seqL ?_;refine pcd 14 (by(simp+decide only[go_sem,c35,e28,c];rfl)) (by kernel_rfl) rfl rfl rfl rfl rfl (g1:=62) (l:=[.bool false,.int .i64 11]) (by simp only[go_sem]) (by simp only[go_sem]) rfl (a11 al 11)
 ·simp only[inK,a9h]at aC
  (repeat first|simp only[ww]|(apply xa;simp+decide only[go_sem,aF,l2,ap,aC];rfl;kernel_rfl))
  refine a1m ?_;refine PanG.seqL ?_;refine pcd 14 (by(simp+decide only[go_sem,c35,e28,c];rfl)) (by kernel_rfl) rfl rfl rfl rfl rfl (g1:=62) (l:=[.bool false,.int .i64 11]) (by simp only[go_sem]) (by simp only[go_sem]) rfl (a11 al 11)
theorem c17(al:DrOk L.env)(sum:Int)(R:List (List AV))(n:Nat)(nm d:List UInt8)(ap:R.length=n)(hn:3≤n)(aw:FlatR R)(aI:R[1]?=some [.str nm])(aC:R[2]?=some [.str d])(hd:d=inK∨d=a9h)(aQ:a3s nm=false):PanF L.env 65 [.ptr 0 0 0,.slice 4 0 3 (some n)] [some (.row 4 [[.junk,.nilslice,.nilslice,.int .i64 sum]]),none,none,none,some (.row 1 R),none] (a4m 1):=by
 have l1:1<n:=by omega
 have l2:2<n:=by omega
 have aF:=λd H e=>a0i (d:=d) H e;have jZ:=λd H n k=>b27 (d:=d) H n k;have r1:=λπ=>a02 π aw;have r2:=a01 aw;have gY:Nat.beq 46 82=false:=by decide
 skip
 have kp:∀k,k≤1→a9n ⟨nm,k⟩=false:=λk hk=>by simp[a9n,aQ]
 refine pf Tryz.f65 ok al noF (by kernel_rfl) ?_;simp only[Tryz.f65,gS];rcases hd with rfl|rfl
 ·simp only[inK,a9h]at aC;have eG:=kp 0 (by decide);have eD:∀q H,a0e L.env q (sem L.env Mf) (.func (.func 48) [] []) [.agg [.str nm,.int .u8 0]] H=some (.bool false,H,[]):=λq H=>by have:=jZ q H nm 0;rw[eG]at this;exact this
  refine pcs ?_
  (repeat first|simp only[ww]|(apply xa;simp+decide only[go_sem,aF,l2,ap,aC];rfl;kernel_rfl))
  refine a1m ?_;refine pcs ?_
  (repeat first|simp only[ww]|(apply xa;simp+decide only[go_sem,aF];rfl;kernel_rfl))
  refine a1m ?_;refine pcs ?_
  (repeat first|simp only[ww]|(apply xa;simp+decide only[go_sem,l1,ap,aI];rfl;kernel_rfl))
  refine a1m ?_;refine pcs ?_
  (repeat first|simp only[ww]|(apply xa;simp+decide only[go_sem,l2,ap,aC,gY];rfl;kernel_rfl))
  refine a1m ?_;refine PanG.seqL ?_;refine pcr 2 (by(simp+decide only[go_sem,c35,e28,eD,gY];rfl)) rfl rfl (a1z (g1:=62) (l:=[.bool false,.int .i64 1]) rfl (by simp only[go_sem]) (by simp only[go_sem]) rfl (a11 al 1))
 ·simp only[inK,a9h]at aC;have eG:=kp 1 (by decide);have eD:∀q H,a0e L.env q (sem L.env Mf) (.func (.func 48) [] []) [.agg [.str nm,.int .u8 1]] H=some (.bool false,H,[]):=λq H=>by have:=jZ q H nm 1;rw[eG]at this;exact this
  refine pcs ?_
  (repeat first|simp only[ww]|(apply xa;simp+decide only[go_sem,aF,l2,ap,aC];rfl;kernel_rfl))
  refine a1m ?_;refine pcs ?_
  (repeat first|simp only[ww]|(apply xa;simp+decide only[go_sem,aF];rfl;kernel_rfl))
  refine a1m ?_;refine pcs ?_
  (repeat first|simp only[ww]|(apply xa;simp+decide only[go_sem,l1,ap,aI];rfl;kernel_rfl))
  refine a1m ?_;refine pcs ?_
  (repeat first|simp only[ww]|(apply xa;simp+decide only[go_sem,l2,ap,aC,gY];rfl;kernel_rfl))
  refine a1m ?_;refine PanG.seqL ?_;refine pcr 2 (by(simp+decide only[go_sem,c35,e28,eD,gY];rfl)) rfl rfl (a1z (g1:=62) (l:=[.bool false,.int .i64 1]) rfl (by simp only[go_sem]) (by simp only[go_sem]) rfl (a11 al 1))
theorem c16(al:DrOk L.env)(sum:Int)(S:List Sg)(R:List (List AV))(n:Nat)(nm d:List UInt8)(ap:R.length=n)(hn:3≤n)(aw:FlatR R)(aI:R[1]?=some [.str nm])(aC:R[2]?=some [.str d])(hd:d=inK∨d=a9h)(ba:a3s nm=true)(hl:S.length≤256)(e:Int)(bF:(nm∈S.map Sg.name∧e=5)∨(S.length=256∧nm∉S.map Sg.name∧e=3)):PanF L.env 65 [.ptr 0 0 0,.slice 4 0 3 (some n)] [some (.row 4 [[.slice 1 0 S.length none,.nilslice,.nilslice,.int .i64 sum]]),some (.row 2 (S.map Sg.enc)),none,none,some (.row 1 R),none] (a4m e):=by
 have l1:1<n:=by omega
 have l2:2<n:=by omega
 have aF:=λd H e=>a0i (d:=d) H e;have jZ:=λd H n k=>b27 (d:=d) H n k;have r1:=λπ=>a02 π aw;have r2:=a01 aw;have aO:=λπ=>a02 π (a0s S);have aP:=a01 (a0s S);have gY:Nat.beq 46 82=false:=by decide
 have dQ:(S.map Sg.enc).length=S.length:=b41 ..;have kp:∀k,k≤1→a9n ⟨nm,k⟩=true:=λk hk=>by simp[a9n,ba,hk]
 refine pf Tryz.f65 ok al noF (by kernel_rfl) ?_;simp only[Tryz.f65,gS];rcases hd with rfl|rfl
 ·simp only[inK,a9h]at aC;have eG:=kp 0 (by decide);have eD:∀q H,a0e L.env q (sem L.env Mf) (.func (.func 48) [] []) [.agg [.str nm,.int .u8 0]] H=some (.bool true,H,[]):=λq H=>by have:=jZ q H nm 0;rw[eG]at this;exact this
  refine pcs ?_
  (repeat first|simp only[ww]|(apply xa;simp+decide only[go_sem,aF,l2,ap,aC];rfl;kernel_rfl))
  refine a1m ?_;refine pcs ?_
  (repeat first|simp only[ww]|(apply xa;simp+decide only[go_sem,aF];rfl;kernel_rfl))
  refine a1m ?_;refine pcs ?_
  (repeat first|simp only[ww]|(apply xa;simp+decide only[go_sem,l1,ap,aI];rfl;kernel_rfl))
  refine a1m ?_;refine pcs ?_
  (repeat first|simp only[ww]|(apply xa;simp+decide only[go_sem,l2,ap,aC,gY];rfl;kernel_rfl))
  refine a1m ?_;refine pcs ?_
  (repeat first|simp only[ww]|(apply xa;simp+decide only[go_sem,aF,eD,gY];rfl;kernel_rfl))
  refine a1m ?_;rcases bF with ⟨dC,rfl⟩|⟨aN,dC,rfl⟩
  ·have eI:=c22 [some (.row 4 [[.slice 1 0 S.length none,.nilslice,.nilslice,.int .i64 sum]]),some (.row 2 (S.map Sg.enc)),none,none,some (.row 1 R),none,some (.row 2 [[.str nm,.int .u8 0]])] 1 6 nm 0 S (by omega) dC rfl rfl (by decide);refine PanG.seqL ?_;refine pcr 8 (by(simp+decide only[go_sem,c35,e28,eI];rfl)) rfl rfl (a1z (g1:=62) (l:=[.bool false,.int .i64 5]) rfl (by simp only[go_sem]) (by simp only[go_sem]) rfl (a11 al 5))
  ·have eI:=b2j [some (.row 4 [[.slice 1 0 S.length none,.nilslice,.nilslice,.int .i64 sum]]),some (.row 2 (S.map Sg.enc)),none,none,some (.row 1 R),none,some (.row 2 [[.str nm,.int .u8 0]])] 1 6 nm 0 S (by omega) dC rfl rfl (by decide);have c6:¬(S.length:Int)<256:=by omega
   refine pcs ?_
   (repeat first|simp only[ww]|(apply xa;simp+decide only[go_sem,aF,eI];rfl;kernel_rfl))
   refine a1m ?_;refine PanG.seqL ?_;refine pcr 7 (by(simp+decide only[go_sem,c35,e28,c6];rfl)) rfl rfl (a1z (g1:=62) (l:=[.bool false,.int .i64 3]) rfl (by simp only[go_sem]) (by simp only[go_sem]) rfl (a11 al 3))
 ·simp only[inK,a9h]at aC;have eG:=kp 1 (by decide);have eD:∀q H,a0e L.env q (sem L.env Mf) (.func (.func 48) [] []) [.agg [.str nm,.int .u8 1]] H=some (.bool true,H,[]):=λq H=>by have:=jZ q H nm 1;rw[eG]at this;exact this
  refine pcs ?_
  (repeat first|simp only[ww]|(apply xa;simp+decide only[go_sem,aF,l2,ap,aC];rfl;kernel_rfl))
  refine a1m ?_;refine pcs ?_
  (repeat first|simp only[ww]|(apply xa;simp+decide only[go_sem,aF];rfl;kernel_rfl))
  refine a1m ?_;refine pcs ?_
  (repeat first|simp only[ww]|(apply xa;simp+decide only[go_sem,l1,ap,aI];rfl;kernel_rfl))
  refine a1m ?_;refine pcs ?_
  (repeat first|simp only[ww]|(apply xa;simp+decide only[go_sem,l2,ap,aC,gY];rfl;kernel_rfl))
  refine a1m ?_;refine pcs ?_
  (repeat first|simp only[ww]|(apply xa;simp+decide only[go_sem,aF,eD,gY];rfl;kernel_rfl))
  refine a1m ?_;rcases bF with ⟨dC,rfl⟩|⟨aN,dC,rfl⟩
  ·have eI:=c22 [some (.row 4 [[.slice 1 0 S.length none,.nilslice,.nilslice,.int .i64 sum]]),some (.row 2 (S.map Sg.enc)),none,none,some (.row 1 R),none,some (.row 2 [[.str nm,.int .u8 1]])] 1 6 nm 1 S (by omega) dC rfl rfl (by decide);refine PanG.seqL ?_;refine pcr 8 (by(simp+decide only[go_sem,c35,e28,eI];rfl)) rfl rfl (a1z (g1:=62) (l:=[.bool false,.int .i64 5]) rfl (by simp only[go_sem]) (by simp only[go_sem]) rfl (a11 al 5))
  ·have eI:=b2j [some (.row 4 [[.slice 1 0 S.length none,.nilslice,.nilslice,.int .i64 sum]]),some (.row 2 (S.map Sg.enc)),none,none,some (.row 1 R),none,some (.row 2 [[.str nm,.int .u8 1]])] 1 6 nm 1 S (by omega) dC rfl rfl (by decide);have c6:¬(S.length:Int)<256:=by omega
   refine pcs ?_
   (repeat first|simp only[ww]|(apply xa;simp+decide only[go_sem,aF,eI];rfl;kernel_rfl))
   refine a1m ?_;refine PanG.seqL ?_;refine pcr 7 (by(simp+decide only[go_sem,c35,e28,c6];rfl)) rfl rfl (a1z (g1:=62) (l:=[.bool false,.int .i64 3]) rfl (by simp only[go_sem]) (by simp only[go_sem]) rfl (a11 al 3))
end Go.RInst
namespace Go.RInst
set_option maxHeartbeats 200000000
open Go.Proofs Go.Ax Go.Pc
variable [PR]
set_option maxRecDepth 100000
theorem c7i(al:DrOk L.env)(a0 a1 a2 a3:Option AObj)(R:List (List AV))(n m:Nat)(hm:m≠7):PanF L.env 66 [.ptr 0 0 0,.slice 4 0 m (some n)] [a0,a1,a2,a3,some (.row 1 R),none] (a4m 4):=by
 have c:¬(m:Int)=7:=by omega
 refine pf Tryz.f66 ok al noF (by kernel_rfl) ?_;simp only[Tryz.f66,gS];refine PanG.seqL ?_;refine pcr 3 (by(simp+decide only[go_sem,c35,e28,c];rfl)) rfl rfl (a1z (g1:=62) (l:=[.bool false,.int .i64 4]) rfl (by simp only[go_sem]) (by simp only[go_sem]) rfl (a11 al 4))
theorem c1w(sum:Int)(nm:List UInt8):sem L.env Mf 85 [.ptr 0 0 0,.str nm] [some (.row 4 [[.junk,.nilslice,.junk,.int .i64 sum]])]=some (.int .i64 (-1),[some (.row 4 [[.junk,.nilslice,.junk,.int .i64 sum]])]):=by
 have eI:=b7b [some (.row 4 [[.junk,.nilslice,.junk,.int .i64 sum]]),some (.row 1 [[.str nm]])] 1 nm rfl
 (refine sv Tryz.f85 ?_;simp only[Tryz.f85,gS])
 (repeat first|simp only[ww]|(apply xa;simp+decide only[go_sem,eI];rfl;kernel_rfl))
 (apply fqb;simp+decide only[go_sem]<;>rfl)
/- the first word that is no number -/
theorem d2y(ws:List (List UInt8))(h:¬∀w∈ws,NumOk w):∃k w,ws[k]?=some w∧¬NumOk w∧∀w∈ws.take k,NumOk w:=by
 induction ws with
 |nil=>exact absurd (by simp) h
 |cons a r ih=>
  by_cases ha:NumOk a
  ·obtain⟨k,b,h1,h2,h3⟩:=ih λhr=>h λb hb=>by
    rcases e3b.1 hb with rfl|hb
    ·exact ha
    ·exact hr b hb
   refine⟨k+1,b,by simpa using h1,h2,λx hx=>?_⟩;rw[c35]at hx;rcases e3b.1 hx with rfl|hx
   ·exact ha
   ·exact h3 x hx
  ·exact⟨0,a,rfl,ha,by simp⟩
theorem a8b(al:DrOk L.env)(sum:Int)(n:Nat)(R:List (List AV))(nm w0 w1 w2 w3 w4:List UInt8)(ap:R.length=n)(dY:7≤n)(aw:FlatR R)(aI:R[1]?=some [.str nm])(aC:∀j w,[w0,w1,w2,w3,w4][j]?=some w→R[2+j]?=some [.str w])(aU:¬∀w∈[w0,w1,w2,w3,w4],NumOk w):PanF L.env 66 [.ptr 0 0 0,.slice 4 0 7 (some n)] [some (.row 4 [[.junk,.junk,.junk,.int .i64 sum]]),none,none,none,some (.row 1 R),none] (a4m 4):=by
 have aF:=λd H e=>a0i (d:=d) H e;have aY:=λd H w hw=>a2m (d:=d) H w hw;have r1:=λπ=>a02 π aw;have r2:=a01 aw;have q1:1<n:=by omega
 have q2:(7:Nat)-2=5:=rfl;have q7:7≤n:=dY;have gE:Nat.beq 41 82=false:=by decide
 obtain⟨ws,dL⟩:∃ws,ws=[w0,w1,w2,w3,w4]:=⟨_,rfl⟩
 have gz:ws.length=5:=by rw[dL];rfl
 rw[←dL]at aC aU;obtain⟨k,bw,hk,tU,io⟩:=d2y ws aU;have uG:k<5:=by have:=(e26.1 hk).1;omega
 refine pf Tryz.f66 ok al noF (by kernel_rfl) ?_;simp only[Tryz.f66,gS];refine pcs ?_
 (repeat first|simp only[ww]|(apply xa;simp+decide only[go_sem,aF];rfl;kernel_rfl))
 refine a1m ?_;refine pcs ?_
 (repeat first|simp only[ww]|(apply xa;simp+decide only[go_sem];rfl;kernel_rfl))
 refine a1m ?_;refine PanG.seqL ?_;refine pcs ?_
 (repeat first|simp only[ww]|(apply xa;simp+decide only[go_sem,ap,q7];rfl;kernel_rfl))
 refine a1m ?_;refine a52 ?_;refine c0f (σ:=Nat) kp66_0 (λi=>[(0,.ptr 0 0 0),(1,.slice 4 0 7 (some n)),(4,grV 6 ((ws.take i).map λw=>[AV.int .i64 (a09 w:Nat)])),(13,.slice 4 2 5 (some (n-2))),(14,.int .i64 5),(15,.int .i64 (i:Nat))]) (λi=>[some (.row 4 [[.junk,.junk,.junk,.int .i64 sum]]),none,none,none,some (.row 1 R),none]++grH 1 ((ws.take i).map λw=>[AV.int .i64 (a09 w:Nat)])) (λi=>5-i) (λi=>i≤k) 0 ?_ (e3h _) ?_
 ·(simp+decide only[go_sem,a0d,a07,r1,r2,e28,e3a,a0p,a0u,e2h]<;>rfl)
 ·intro i hi;have aq:i<5:=by omega
  by_cases kP:i=k
  ·left;subst kP;have l1:(i:Int)<5:=by omega
   have hg:=aC i bw hk;have q3:2+i<n:=by omega
   refine pcs ?_
   (repeat first|simp only[ww]|(apply xa;simp+decide only[go_sem];rfl;kernel_rfl))
   refine a1m ?_;refine pcs ?_
   (repeat first|simp only[ww]|(apply xa;simp+decide only[go_sem,l1];rfl;kernel_rfl))
   refine a1m ?_;refine PanG.seqL (a52 ?_);refine pcs ?_
   (repeat first|simp only[ww]|(apply xa;simp+decide only[go_sem,aq,hg,ap,q3,b82];rfl;kernel_rfl))
   refine a1m ?_;refine pcr 2 (by(simp+decide only[go_sem,c35,e28];rfl)) rfl rfl (a1z (g1:=84) (l:=[.str bw]) rfl (by simp only[go_sem]) (by simp only[go_sem]) rfl (b0z al bw tU))
  ·right;have dR:∀i,FlatR ((ws.take i).map λw=>[AV.int .i64 (a09 w:Nat)]):=λi=>FlatR.map λ_=>rfl;have cX:((ws.take i).map λw=>[AV.int .i64 (a09 w:Nat)]).length=i:=by rw[b41,e4z,gz];omega
   have l1:(i:Int)<5:=by omega
   obtain⟨w,hw⟩:∃w,ws[i]?=some w:=⟨_,z9e (by rw[gz];exact aq)⟩
   have hg:=aC i w hw;have gv:=λd H=>aY d H w (io w (e25 (i:=i) (by rw[e5g,e3g (by omega),hw])));have cZ:IntKind.i64.wrap ((i:Int)+1)=((i+1:Nat):Int):=by rw[w64 (by omega) (by omega)];omega
   have bW:((ws.take (i+1)).map λw=>[AV.int .i64 (a09 w:Nat)])=((ws.take i).map λw=>[AV.int .i64 (a09 w:Nat)])++[[.int .i64 (a09 w:Nat)]]:=by rw[a48 hw,e3j];rfl
   have n5:=a01 (dR (i+1));have n6:=λπ=>a02 π (dR (i+1));have m5:=a01 (dR i);have m6:=λπ=>a02 π (dR i);have q3:2+i<n:=by omega
   have cU:i+1≤1000000000:=by omega
   by_cases hk:i=0
   ·subst hk;have e0:((ws.take 0).map λw=>[AV.int .i64 (a09 w:Nat)])=[]:=rfl;rw[e0]at bW⊢;simp only[b43]at bW;simp only[a0p,a0u,e2h]
    (repeat first|simp only[ww]|(apply xa;simp+decide only[go_sem,l1,aq,hg,gv,cZ,ap,q3,e5y];rfl;kernel_rfl))
    refine a2p (0+1) ?_ (by omega) (by omega)
    (simp+decide only[go_sem,a0d,a07,bW,a1t,a1q,e27,r1,r2]<;>rfl)
   ·have dg:((ws.take i).map λw=>[AV.int .i64 (a09 w:Nat)])≠[]:=by intro e;rw[e]at cX;simp at cX;omega
    rw[a0h 6 dg,a0y 1 dg,cX];rw[bW]at n5 n6;generalize((ws.take i).map λw=>[AV.int .i64 (a09 w:Nat)])=NRR at *;simp only[b82,b43]
    (repeat first|simp only[ww]|(apply xa;simp+decide only[go_sem,l1,aq,hg,gv,cZ,ap,q3,cX,cU];rfl;kernel_rfl))
    refine a2p (i+1) ?_ (by omega) (by omega)
    (simp+decide only[go_sem,a0d,a07,bW,a42,a43,cX,n5,n6,r1,r2,b82,b43]<;>rfl)
theorem c8i(sum:Int)(nm:List UInt8)(T:List Tm)(a7:T.length≤100000):sem L.env Mf 85 [.ptr 0 0 0,.str nm] [some (.row 4 [[.junk,.slice 1 0 T.length none,.nilslice,.int .i64 sum]]),some (.row 6 (T.map Tm.enc))]=some (.int .i64 (fnd nm (T.map Tm.name)),[some (.row 4 [[.junk,.slice 1 0 T.length none,.nilslice,.int .i64 sum]]),some (.row 6 (T.map Tm.enc))]):=by
 have az:=λπ=>a02 π (a0a T);have aA:=a01 (a0a T);have dZ:(T.map Tm.enc).length=T.length:=b41 ..;have eI:=a9z [some (.row 4 [[.junk,.slice 1 0 T.length none,.nilslice,.int .i64 sum]]),some (.row 6 (T.map Tm.enc)),some (.row 1 [[.str nm]])] 1 2 nm T a7 rfl rfl (by decide)
 (refine sv Tryz.f85 ?_;simp only[Tryz.f85,gS])
 (repeat first|simp only[ww]|(apply xa;simp+decide only[go_sem,eI];rfl;kernel_rfl))
 (apply fqb;simp+decide only[go_sem,az,aA]<;>rfl)
theorem c15(al:DrOk L.env)(sum:Int)(n:Nat)(R:List (List AV))(nm w0 w1 w2 w3 w4:List UInt8)(V:List Vc)(ap:R.length=n)(dY:7≤n)(aw:FlatR R)(aI:R[1]?=some [.str nm])(aC:∀j w,[w0,w1,w2,w3,w4][j]?=some w→R[2+j]?=some [.str w])(aU:∀w∈[w0,w1,w2,w3,w4],NumOk w)(b8:V≠[]):PanF L.env 66 [.ptr 0 0 0,.slice 4 0 7 (some n)] [some (.row 4 [[.junk,.junk,.slice 3 0 V.length none,.int .i64 sum]]),none,none,some (.row 3 (V.map Vc.enc)),some (.row 1 R),none] (a4m 11):=by
 have aF:=λd H e=>a0i (d:=d) H e;have aY:=λd H w hw=>a2m (d:=d) H w hw;have r1:=λπ=>a02 π aw;have r2:=a01 aw;have aZ:=λπ=>a02 π (a13 V);have a6:=a01 (a13 V);have q1:1<n:=by omega
 have q2:(7:Nat)-2=5:=rfl;have q7:7≤n:=dY;have gE:Nat.beq 41 82=false:=by decide
 obtain⟨ws,dL⟩:∃ws,ws=[w0,w1,w2,w3,w4]:=⟨_,rfl⟩
 have gz:ws.length=5:=by rw[dL];rfl
 rw[←dL]at aC aU;refine pf Tryz.f66 ok al noF (by kernel_rfl) ?_;simp only[Tryz.f66,gS];refine pcs ?_
 (repeat first|simp only[ww]|(apply xa;simp+decide only[go_sem,aF];rfl;kernel_rfl))
 refine a1m ?_;refine pcs ?_
 (repeat first|simp only[ww]|(apply xa;simp+decide only[go_sem];rfl;kernel_rfl))
 refine a1m ?_;refine pcs ?_
 (repeat first|simp only[ww]|(apply xa;simp+decide only[go_sem,ap,q7];rfl;kernel_rfl))
 refine a15 (σ:=Nat) kp66_0 (λi=>[(0,.ptr 0 0 0),(1,.slice 4 0 7 (some n)),(4,grV 6 ((ws.take i).map λw=>[AV.int .i64 (a09 w:Nat)])),(13,.slice 4 2 5 (some (n-2))),(14,.int .i64 5),(15,.int .i64 (i:Nat))]) (λi=>[some (.row 4 [[.junk,.junk,.slice 3 0 V.length none,.int .i64 sum]]),none,none,some (.row 3 (V.map Vc.enc)),some (.row 1 R),none]++grH 1 ((ws.take i).map λw=>[AV.int .i64 (a09 w:Nat)])) (λi=>5-i) (λi=>i≤5) 0 ?_ (e3h _) ?_
 ·(simp+decide only[go_sem,a0d,a07,r1,r2,aZ,a6,e28,e3a,a0p,a0u,e2h]<;>rfl)
 ·intro i hi;by_cases aq:i<5
  ·have dR:∀i,FlatR ((ws.take i).map λw=>[AV.int .i64 (a09 w:Nat)]):=λi=>FlatR.map λ_=>rfl;have cX:((ws.take i).map λw=>[AV.int .i64 (a09 w:Nat)]).length=i:=by rw[b41,e4z,gz];omega
   have l1:(i:Int)<5:=by omega
   obtain⟨w,hw⟩:∃w,ws[i]?=some w:=⟨_,z9e (by rw[gz];exact aq)⟩
   have hg:=aC i w hw;have gv:=λd H=>aY d H w (aU w (e25 hw));have cZ:IntKind.i64.wrap ((i:Int)+1)=((i+1:Nat):Int):=by rw[w64 (by omega) (by omega)];omega
   have bW:((ws.take (i+1)).map λw=>[AV.int .i64 (a09 w:Nat)])=((ws.take i).map λw=>[AV.int .i64 (a09 w:Nat)])++[[.int .i64 (a09 w:Nat)]]:=by rw[a48 hw,e3j];rfl
   have n5:=a01 (dR (i+1));have n6:=λπ=>a02 π (dR (i+1));have m5:=a01 (dR i);have m6:=λπ=>a02 π (dR i);have q3:2+i<n:=by omega
   have cU:i+1≤1000000000:=by omega
   by_cases hk:i=0
   ·subst hk;have e0:((ws.take 0).map λw=>[AV.int .i64 (a09 w:Nat)])=[]:=rfl;rw[e0]at bW⊢;simp only[b43]at bW;simp only[a0p,a0u,e2h]
    (repeat first|simp only[ww]|(apply xa;simp+decide only[go_sem,l1,aq,hg,gv,cZ,ap,q3,e5y];rfl;kernel_rfl))
    refine a2p (0+1) ?_ (by omega) (by omega)
    (simp+decide only[go_sem,a0d,a07,bW,a1t,a1q,e27,r1,r2,aZ,a6]<;>rfl)
   ·have dg:((ws.take i).map λw=>[AV.int .i64 (a09 w:Nat)])≠[]:=by intro e;rw[e]at cX;simp at cX;omega
    rw[a0h 6 dg,a0y 1 dg,cX];rw[bW]at n5 n6;generalize((ws.take i).map λw=>[AV.int .i64 (a09 w:Nat)])=NRR at *;simp only[b82,b43]
    (repeat first|simp only[ww]|(apply xa;simp+decide only[go_sem,l1,aq,hg,gv,cZ,ap,q3,cX,cU];rfl;kernel_rfl))
    refine a2p (i+1) ?_ (by omega) (by omega)
    (simp+decide only[go_sem,a0d,a07,bW,a42,a43,cX,n5,n6,r1,r2,aZ,a6,b82,b43]<;>rfl)
  ·obtain rfl:i=5:=by omega
   have l1:¬((5:Nat):Int)<5:=by omega
   have e5:((ws.take 5).map λw=>[AV.int .i64 (a09 w:Nat)])=[[.int .i64 (a09 w0:Nat)],[.int .i64 (a09 w1:Nat)],[.int .i64 (a09 w2:Nat)],[.int .i64 (a09 w3:Nat)],[.int .i64 (a09 w4:Nat)]]:=by rw[dL];rfl
   rw[e5];simp only[a1t,a1q,b82,b43,b94,e27]
   (repeat first|simp only[ww]|(apply xa;simp+decide only[go_sem,l1];rfl;kernel_rfl))
   refine a1m ?_;have aZ:1≤V.length:=e72.2 b8;have c:¬(V.length:Int)=0:=by omega
   refine PanG.seqL ?_;refine pcr 7 (by(simp+decide only[go_sem,c35,e28,c];rfl)) rfl rfl (a1z (g1:=62) (l:=[.bool false,.int .i64 11]) rfl (by simp only[go_sem]) (by simp only[go_sem]) rfl (a11 al 11))
theorem b24(al:DrOk L.env)(sum:Int)(n:Nat)(R:List (List AV))(nm w0 w1 w2 w3 w4:List UInt8)(ap:R.length=n)(dY:7≤n)(aw:FlatR R)(aI:R[1]?=some [.str nm])(aC:∀j w,[w0,w1,w2,w3,w4][j]?=some w→R[2+j]?=some [.str w])(aU:∀w∈[w0,w1,w2,w3,w4],NumOk w)(dM:a5l ⟨nm,a09 w0,a09 w1,a09 w2,a09 w3,a09 w4⟩=false):PanF L.env 66 [.ptr 0 0 0,.slice 4 0 7 (some n)] [some (.row 4 [[.junk,.junk,.nilslice,.int .i64 sum]]),none,none,none,some (.row 1 R),none] (a4m 1):=by
 have aF:=λd H e=>a0i (d:=d) H e;have aY:=λd H w hw=>a2m (d:=d) H w hw;have r1:=λπ=>a02 π aw;have r2:=a01 aw;have q1:1<n:=by omega
 have q2:(7:Nat)-2=5:=rfl;have q7:7≤n:=dY;have gE:Nat.beq 41 82=false:=by decide
 obtain⟨ws,dL⟩:∃ws,ws=[w0,w1,w2,w3,w4]:=⟨_,rfl⟩
 have gz:ws.length=5:=by rw[dL];rfl
 rw[←dL]at aC aU;refine pf Tryz.f66 ok al noF (by kernel_rfl) ?_;simp only[Tryz.f66,gS];refine pcs ?_
 (repeat first|simp only[ww]|(apply xa;simp+decide only[go_sem,aF];rfl;kernel_rfl))
 refine a1m ?_;refine pcs ?_
 (repeat first|simp only[ww]|(apply xa;simp+decide only[go_sem];rfl;kernel_rfl))
 refine a1m ?_;refine pcs ?_
 (repeat first|simp only[ww]|(apply xa;simp+decide only[go_sem,ap,q7];rfl;kernel_rfl))
 refine a15 (σ:=Nat) kp66_0 (λi=>[(0,.ptr 0 0 0),(1,.slice 4 0 7 (some n)),(4,grV 6 ((ws.take i).map λw=>[AV.int .i64 (a09 w:Nat)])),(13,.slice 4 2 5 (some (n-2))),(14,.int .i64 5),(15,.int .i64 (i:Nat))]) (λi=>[some (.row 4 [[.junk,.junk,.nilslice,.int .i64 sum]]),none,none,none,some (.row 1 R),none]++grH 1 ((ws.take i).map λw=>[AV.int .i64 (a09 w:Nat)])) (λi=>5-i) (λi=>i≤5) 0 ?_ (e3h _) ?_
 ·(simp+decide only[go_sem,a0d,a07,r1,r2,e28,e3a,a0p,a0u,e2h]<;>rfl)
 ·intro i hi;by_cases aq:i<5
  ·have dR:∀i,FlatR ((ws.take i).map λw=>[AV.int .i64 (a09 w:Nat)]):=λi=>FlatR.map λ_=>rfl;have cX:((ws.take i).map λw=>[AV.int .i64 (a09 w:Nat)]).length=i:=by rw[b41,e4z,gz];omega
   have l1:(i:Int)<5:=by omega
   obtain⟨w,hw⟩:∃w,ws[i]?=some w:=⟨_,z9e (by rw[gz];exact aq)⟩
   have hg:=aC i w hw;have gv:=λd H=>aY d H w (aU w (e25 hw));have cZ:IntKind.i64.wrap ((i:Int)+1)=((i+1:Nat):Int):=by rw[w64 (by omega) (by omega)];omega
   have bW:((ws.take (i+1)).map λw=>[AV.int .i64 (a09 w:Nat)])=((ws.take i).map λw=>[AV.int .i64 (a09 w:Nat)])++[[.int .i64 (a09 w:Nat)]]:=by rw[a48 hw,e3j];rfl
   have n5:=a01 (dR (i+1));have n6:=λπ=>a02 π (dR (i+1));have m5:=a01 (dR i);have m6:=λπ=>a02 π (dR i);have q3:2+i<n:=by omega
   have cU:i+1≤1000000000:=by omega
   by_cases hk:i=0
   ·subst hk;have e0:((ws.take 0).map λw=>[AV.int .i64 (a09 w:Nat)])=[]:=rfl;rw[e0]at bW⊢;simp only[b43]at bW;simp only[a0p,a0u,e2h]
    (repeat first|simp only[ww]|(apply xa;simp+decide only[go_sem,l1,aq,hg,gv,cZ,ap,q3,e5y];rfl;kernel_rfl))
    refine a2p (0+1) ?_ (by omega) (by omega)
    (simp+decide only[go_sem,a0d,a07,bW,a1t,a1q,e27,r1,r2]<;>rfl)
   ·have dg:((ws.take i).map λw=>[AV.int .i64 (a09 w:Nat)])≠[]:=by intro e;rw[e]at cX;simp at cX;omega
    rw[a0h 6 dg,a0y 1 dg,cX];rw[bW]at n5 n6;generalize((ws.take i).map λw=>[AV.int .i64 (a09 w:Nat)])=NRR at *;simp only[b82,b43]
    (repeat first|simp only[ww]|(apply xa;simp+decide only[go_sem,l1,aq,hg,gv,cZ,ap,q3,cX,cU];rfl;kernel_rfl))
    refine a2p (i+1) ?_ (by omega) (by omega)
    (simp+decide only[go_sem,a0d,a07,bW,a42,a43,cX,n5,n6,r1,r2,b82,b43]<;>rfl)
  ·obtain rfl:i=5:=by omega
   have l1:¬((5:Nat):Int)<5:=by omega
   have e5:((ws.take 5).map λw=>[AV.int .i64 (a09 w:Nat)])=[[.int .i64 (a09 w0:Nat)],[.int .i64 (a09 w1:Nat)],[.int .i64 (a09 w2:Nat)],[.int .i64 (a09 w3:Nat)],[.int .i64 (a09 w4:Nat)]]:=by rw[dL];rfl
   rw[e5];simp only[a1t,a1q,b82,b43,b94,e27]
   (repeat first|simp only[ww]|(apply xa;simp+decide only[go_sem,l1];rfl;kernel_rfl))
   refine a1m ?_;refine pcs ?_
   (repeat first|simp only[ww]|(apply xa;simp+decide only[go_sem,aF];rfl;kernel_rfl))
   refine a1m ?_;have bd:=λd H=>a0l (E:=L.env) (ai:=d) (call:=sem L.env Mf) (g:=49) (fs:=[]) (cs:=[]) (ar:=[.agg [.str nm,.int .i64 (a09 w0:Nat),.int .i64 (a09 w1:Nat),.int .i64 (a09 w2:Nat),.int .i64 (a09 w3:Nat),.int .i64 (a09 w4:Nat)]]) (H:=H) (by kernel_rfl) (by kernel_rfl) rfl (by rfl) ((b2r ⟨nm,a09 w0,a09 w1,a09 w2,a09 w3,a09 w4⟩).trans (by rw[dM])) rfl;refine pcs ?_
   (repeat first|simp only[ww]|(apply xa;simp+decide only[go_sem,ap,q1,aI,gE];rfl;kernel_rfl))
   refine a1m ?_;refine PanG.seqL ?_;refine pcr 2 (by(simp+decide only[go_sem,c35,e28,bd,gE];rfl)) rfl rfl (a1z (g1:=62) (l:=[.bool false,.int .i64 1]) rfl (by simp only[go_sem]) (by simp only[go_sem]) rfl (a11 al 1))
theorem b23(al:DrOk L.env)(sum:Int)(n:Nat)(R:List (List AV))(nm w0 w1 w2 w3 w4:List UInt8)(T:List Tm)(a7:T.length≤100000)(ap:R.length=n)(dY:7≤n)(aw:FlatR R)(aI:R[1]?=some [.str nm])(aC:∀j w,[w0,w1,w2,w3,w4][j]?=some w→R[2+j]?=some [.str w])(aU:∀w∈[w0,w1,w2,w3,w4],NumOk w)(dM:a5l ⟨nm,a09 w0,a09 w1,a09 w2,a09 w3,a09 w4⟩=true)(e:Int)(bF:(nm∈T.map Tm.name∧e=5)∨(T.length=16∧nm∉T.map Tm.name∧e=3)):PanF L.env 66 [.ptr 0 0 0,.slice 4 0 7 (some n)] [some (.row 4 [[.junk,.slice 2 0 T.length none,.nilslice,.int .i64 sum]]),none,some (.row 6 (T.map Tm.enc)),none,some (.row 1 R),none] (a4m e):=by
 have aF:=λd H e=>a0i (d:=d) H e;have aY:=λd H w hw=>a2m (d:=d) H w hw;have r1:=λπ=>a02 π aw;have r2:=a01 aw;have az:=λπ=>a02 π (a0a T);have aA:=a01 (a0a T);have dZ:(T.map Tm.enc).length=T.length:=b41 ..;have q1:1<n:=by omega
 have q2:(7:Nat)-2=5:=rfl;have q7:7≤n:=dY;have gE:Nat.beq 41 82=false:=by decide
 obtain⟨ws,dL⟩:∃ws,ws=[w0,w1,w2,w3,w4]:=⟨_,rfl⟩
 have gz:ws.length=5:=by rw[dL];rfl
 rw[←dL]at aC aU;refine pf Tryz.f66 ok al noF (by kernel_rfl) ?_;simp only[Tryz.f66,gS];refine pcs ?_
 (repeat first|simp only[ww]|(apply xa;simp+decide only[go_sem,aF];rfl;kernel_rfl))
 refine a1m ?_;refine pcs ?_
 (repeat first|simp only[ww]|(apply xa;simp+decide only[go_sem];rfl;kernel_rfl))
 refine a1m ?_;refine pcs ?_
 (repeat first|simp only[ww]|(apply xa;simp+decide only[go_sem,ap,q7];rfl;kernel_rfl))
 refine a15 (σ:=Nat) kp66_0 (λi=>[(0,.ptr 0 0 0),(1,.slice 4 0 7 (some n)),(4,grV 6 ((ws.take i).map λw=>[AV.int .i64 (a09 w:Nat)])),(13,.slice 4 2 5 (some (n-2))),(14,.int .i64 5),(15,.int .i64 (i:Nat))]) (λi=>[some (.row 4 [[.junk,.slice 2 0 T.length none,.nilslice,.int .i64 sum]]),none,some (.row 6 (T.map Tm.enc)),none,some (.row 1 R),none]++grH 1 ((ws.take i).map λw=>[AV.int .i64 (a09 w:Nat)])) (λi=>5-i) (λi=>i≤5) 0 ?_ (e3h _) ?_
 ·(simp+decide only[go_sem,a0d,a07,r1,r2,az,aA,e28,e3a,a0p,a0u,e2h]<;>rfl)
 ·intro i hi;by_cases aq:i<5
  ·have dR:∀i,FlatR ((ws.take i).map λw=>[AV.int .i64 (a09 w:Nat)]):=λi=>FlatR.map λ_=>rfl;have cX:((ws.take i).map λw=>[AV.int .i64 (a09 w:Nat)]).length=i:=by rw[b41,e4z,gz];omega
   have l1:(i:Int)<5:=by omega
   obtain⟨w,hw⟩:∃w,ws[i]?=some w:=⟨_,z9e (by rw[gz];exact aq)⟩
   have hg:=aC i w hw;have gv:=λd H=>aY d H w (aU w (e25 hw));have cZ:IntKind.i64.wrap ((i:Int)+1)=((i+1:Nat):Int):=by rw[w64 (by omega) (by omega)];omega
   have bW:((ws.take (i+1)).map λw=>[AV.int .i64 (a09 w:Nat)])=((ws.take i).map λw=>[AV.int .i64 (a09 w:Nat)])++[[.int .i64 (a09 w:Nat)]]:=by rw[a48 hw,e3j];rfl
   have n5:=a01 (dR (i+1));have n6:=λπ=>a02 π (dR (i+1));have m5:=a01 (dR i);have m6:=λπ=>a02 π (dR i);have q3:2+i<n:=by omega
   have cU:i+1≤1000000000:=by omega
   by_cases hk:i=0
   ·subst hk;have e0:((ws.take 0).map λw=>[AV.int .i64 (a09 w:Nat)])=[]:=rfl;rw[e0]at bW⊢;simp only[b43]at bW;simp only[a0p,a0u,e2h]
    (repeat first|simp only[ww]|(apply xa;simp+decide only[go_sem,l1,aq,hg,gv,cZ,ap,q3,e5y];rfl;kernel_rfl))
    refine a2p (0+1) ?_ (by omega) (by omega)
    (simp+decide only[go_sem,a0d,a07,bW,a1t,a1q,e27,r1,r2,az,aA]<;>rfl)
   ·have dg:((ws.take i).map λw=>[AV.int .i64 (a09 w:Nat)])≠[]:=by intro e;rw[e]at cX;simp at cX;omega
    rw[a0h 6 dg,a0y 1 dg,cX];rw[bW]at n5 n6;generalize((ws.take i).map λw=>[AV.int .i64 (a09 w:Nat)])=NRR at *;simp only[b82,b43]
    (repeat first|simp only[ww]|(apply xa;simp+decide only[go_sem,l1,aq,hg,gv,cZ,ap,q3,cX,cU];rfl;kernel_rfl))
    refine a2p (i+1) ?_ (by omega) (by omega)
    (simp+decide only[go_sem,a0d,a07,bW,a42,a43,cX,n5,n6,r1,r2,az,aA,b82,b43]<;>rfl)
  ·obtain rfl:i=5:=by omega
   have l1:¬((5:Nat):Int)<5:=by omega
   have e5:((ws.take 5).map λw=>[AV.int .i64 (a09 w:Nat)])=[[.int .i64 (a09 w0:Nat)],[.int .i64 (a09 w1:Nat)],[.int .i64 (a09 w2:Nat)],[.int .i64 (a09 w3:Nat)],[.int .i64 (a09 w4:Nat)]]:=by rw[dL];rfl
   rw[e5];simp only[a1t,a1q,b82,b43,b94,e27]
   (repeat first|simp only[ww]|(apply xa;simp+decide only[go_sem,l1];rfl;kernel_rfl))
   refine a1m ?_;refine pcs ?_
   (repeat first|simp only[ww]|(apply xa;simp+decide only[go_sem,aF];rfl;kernel_rfl))
   refine a1m ?_;have bd:=λd H=>a0l (E:=L.env) (ai:=d) (call:=sem L.env Mf) (g:=49) (fs:=[]) (cs:=[]) (ar:=[.agg [.str nm,.int .i64 (a09 w0:Nat),.int .i64 (a09 w1:Nat),.int .i64 (a09 w2:Nat),.int .i64 (a09 w3:Nat),.int .i64 (a09 w4:Nat)]]) (H:=H) (by kernel_rfl) (by kernel_rfl) rfl (by rfl) ((b2r ⟨nm,a09 w0,a09 w1,a09 w2,a09 w3,a09 w4⟩).trans (by rw[dM])) rfl;refine pcs ?_
   (repeat first|simp only[ww]|(apply xa;simp+decide only[go_sem,ap,q1,aI,gE];rfl;kernel_rfl))
   refine a1m ?_;refine pcs ?_
   (repeat first|simp only[ww]|(apply xa;simp+decide only[go_sem,aF,bd,gE];rfl;kernel_rfl))
   refine a1m ?_;have bc:=c8i sum nm T a7;have dN:=b3q nm (T.map Tm.name);generalize fnd nm (T.map Tm.name)=zz at bc dN;have cr:a0e L.env false (sem L.env Mf) (.func (.func 85) [] []) [.ptr 0 0 0,.str nm] [some (.row 4 [[.junk,.slice 2 0 T.length none,.nilslice,.int .i64 sum]]),none,some (.row 6 (T.map Tm.enc)),none,some (.row 1 R),none,some (.row 1 [[.int .i64 (a09 w0:Nat)],[.int .i64 (a09 w1:Nat)],[.int .i64 (a09 w2:Nat)],[.int .i64 (a09 w3:Nat)],[.int .i64 (a09 w4:Nat)]]),some (.row 6 [[.str nm,.int .i64 (a09 w0:Nat),.int .i64 (a09 w1:Nat),.int .i64 (a09 w2:Nat),.int .i64 (a09 w3:Nat),.int .i64 (a09 w4:Nat)]])]=some (.int .i64 zz,[some (.row 4 [[.junk,.slice 2 0 T.length none,.nilslice,.int .i64 sum]]),none,some (.row 6 (T.map Tm.enc)),none,some (.row 1 R),none,some (.row 1 [[.int .i64 (a09 w0:Nat)],[.int .i64 (a09 w1:Nat)],[.int .i64 (a09 w2:Nat)],[.int .i64 (a09 w3:Nat)],[.int .i64 (a09 w4:Nat)]]),some (.row 6 [[.str nm,.int .i64 (a09 w0:Nat),.int .i64 (a09 w1:Nat),.int .i64 (a09 w2:Nat),.int .i64 (a09 w3:Nat),.int .i64 (a09 w4:Nat)]])],[0,2]):=by have hc:=a0b (sem L.env Mf 85) [.ptr 0 0 0,.str nm] [some (.row 4 [[.junk,.slice 2 0 T.length none,.nilslice,.int .i64 sum]]),none,some (.row 6 (T.map Tm.enc)),none,some (.row 1 R),none,some (.row 1 [[.int .i64 (a09 w0:Nat)],[.int .i64 (a09 w1:Nat)],[.int .i64 (a09 w2:Nat)],[.int .i64 (a09 w3:Nat)],[.int .i64 (a09 w4:Nat)]]),some (.row 6 [[.str nm,.int .i64 (a09 w0:Nat),.int .i64 (a09 w1:Nat),.int .i64 (a09 w2:Nat),.int .i64 (a09 w3:Nat),.int .i64 (a09 w4:Nat)]])] (σ:=[0,2]) (by simp+decide only[go_sem,az,aA]<;>rfl) rfl rfl (an:=[.ptr 0 0 0,.str nm]) rfl (H0:=[some (.row 4 [[.junk,.slice 1 0 T.length none,.nilslice,.int .i64 sum]]),some (.row 6 (T.map Tm.enc))]) (by simp+decide only[go_sem,a0q,az,aA]) bc;refine a2g (by kernel_rfl) (by kernel_rfl) rfl (hc.trans ?_);simp+decide only[go_sem,a0n,az,aA]<;>rfl
   rcases bF with ⟨bP,rfl⟩|⟨hl,bP,rfl⟩
   ·have dN:¬zz<0:=λh=>dN.1 h bP;refine PanG.seqL ?_;refine pcr 5 (by(simp+decide only[go_sem,c35,e28,cr,dN,gE];rfl)) rfl rfl (a1z (g1:=62) (l:=[.bool false,.int .i64 5]) rfl (by simp only[go_sem]) (by simp only[go_sem]) rfl (a11 al 5))
   have dN:=dN.2 bP;refine pcs ?_
   (repeat first|simp only[ww]|(apply xa;simp+decide only[go_sem,aF,cr,dN,gE];rfl;kernel_rfl))
   refine a1m ?_;have c6:¬(T.length:Int)<16:=by omega
   refine PanG.seqL ?_;refine pcr 7 (by(simp+decide only[go_sem,c35,e28,c6];rfl)) rfl rfl (a1z (g1:=62) (l:=[.bool false,.int .i64 3]) rfl (by simp only[go_sem]) (by simp only[go_sem]) rfl (a11 al 3))
end Go.RInst
namespace Go.RInst
set_option maxHeartbeats 200000000
open Go.Proofs Go.Ax Go.Pc
variable [PR]
set_option maxRecDepth 100000
theorem b55(v:Vc)(T:List Tm)(a7:T.length≤100000)(hv:a22 v ([]:List Sg) T.length=false):sem L.env Mf 50 [.agg (Vc.enc v),.agg [.nilslice,.slice 0 0 T.length none,.nilslice]] [some (.row 6 (T.map Tm.enc))]=some (.bool false,[some (.row 6 (T.map Tm.enc))]):=by
 have az:=λπ=>a02 π (a0a T);have aA:=a01 (a0a T);have dZ:(T.map Tm.enc).length=T.length:=b41 ..
 skip
 by_cases k0:v.t<0
 ·(refine sv Tryz.f50 ?_;simp only[Tryz.f50,gS])
  (repeat first|simp only[ww]|(apply xa;simp+decide only[go_sem,k0,b41];rfl;kernel_rfl))
  (apply fqb;simp+decide only[go_sem,az,aA]<;>rfl)
 by_cases k1:(T.length:Int)≤v.t
 ·(refine sv Tryz.f50 ?_;simp only[Tryz.f50,gS])
  (repeat first|simp only[ww]|(apply xa;simp+decide only[go_sem,k0,k1,b41];rfl;kernel_rfl))
  (apply fqb;simp+decide only[go_sem,az,aA]<;>rfl)
 by_cases k2:v.rep<1
 ·(refine sv Tryz.f50 ?_;simp only[Tryz.f50,gS])
  (repeat first|simp only[ww]|(apply xa;simp+decide only[go_sem,k0,k1,k2,b41];rfl;kernel_rfl))
  (apply fqb;simp+decide only[go_sem,az,aA]<;>rfl)
 by_cases k3:(1000000:Int)<v.rep
 ·(refine sv Tryz.f50 ?_;simp only[Tryz.f50,gS])
  (repeat first|simp only[ww]|(apply xa;simp+decide only[go_sem,k0,k1,k2,k3,b41];rfl;kernel_rfl))
  (apply fqb;simp+decide only[go_sem,az,aA]<;>rfl)
 by_cases k4:(v.cells.length:Int)=0
 case neg=>
  (refine sv Tryz.f50 ?_;simp only[Tryz.f50,gS])
  (repeat first|simp only[ww]|(apply xa;simp+decide only[go_sem,k0,k1,k2,k3,k4,b41];rfl;kernel_rfl))
  (apply fqb;simp+decide only[go_sem,az,aA]<;>rfl)
 have eV:a22 v ([]:List Sg) T.length=a1w ([]:List Sg) v.cells:=by unfold a22;rw[e3d (by omega:0≤v.t),e3d (by omega:v.t<T.length),e3d (by omega:1≤v.rep),e3d (by omega:v.rep≤1000000)];rfl
 rw[eV]at hv;have:v.cells=[]:=e6e.1 (by omega);rw[this]at hv;cases hv
theorem b54(v:Vc)(T:List Tm)(a7:T.length≤100000)(V:List Vc)(hv:a22 v ([]:List Sg) T.length=false):sem L.env Mf 50 [.agg (Vc.enc v),.agg [.nilslice,.slice 0 0 T.length none,.slice 1 0 V.length none]] [some (.row 6 (T.map Tm.enc)),some (.row 3 (V.map Vc.enc))]=some (.bool false,[some (.row 6 (T.map Tm.enc)),some (.row 3 (V.map Vc.enc))]):=by
 have az:=λπ=>a02 π (a0a T);have aA:=a01 (a0a T);have dZ:(T.map Tm.enc).length=T.length:=b41 ..;have aZ:=λπ=>a02 π (a13 V);have a6:=a01 (a13 V)
 skip
 by_cases k0:v.t<0
 ·(refine sv Tryz.f50 ?_;simp only[Tryz.f50,gS])
  (repeat first|simp only[ww]|(apply xa;simp+decide only[go_sem,k0,b41];rfl;kernel_rfl))
  (apply fqb;simp+decide only[go_sem,az,aA,aZ,a6]<;>rfl)
 by_cases k1:(T.length:Int)≤v.t
 ·(refine sv Tryz.f50 ?_;simp only[Tryz.f50,gS])
  (repeat first|simp only[ww]|(apply xa;simp+decide only[go_sem,k0,k1,b41];rfl;kernel_rfl))
  (apply fqb;simp+decide only[go_sem,az,aA,aZ,a6]<;>rfl)
 by_cases k2:v.rep<1
 ·(refine sv Tryz.f50 ?_;simp only[Tryz.f50,gS])
  (repeat first|simp only[ww]|(apply xa;simp+decide only[go_sem,k0,k1,k2,b41];rfl;kernel_rfl))
  (apply fqb;simp+decide only[go_sem,az,aA,aZ,a6]<;>rfl)
 by_cases k3:(1000000:Int)<v.rep
 ·(refine sv Tryz.f50 ?_;simp only[Tryz.f50,gS])
  (repeat first|simp only[ww]|(apply xa;simp+decide only[go_sem,k0,k1,k2,k3,b41];rfl;kernel_rfl))
  (apply fqb;simp+decide only[go_sem,az,aA,aZ,a6]<;>rfl)
 by_cases k4:(v.cells.length:Int)=0
 case neg=>
  (refine sv Tryz.f50 ?_;simp only[Tryz.f50,gS])
  (repeat first|simp only[ww]|(apply xa;simp+decide only[go_sem,k0,k1,k2,k3,k4,b41];rfl;kernel_rfl))
  (apply fqb;simp+decide only[go_sem,az,aA,aZ,a6]<;>rfl)
 have eV:a22 v ([]:List Sg) T.length=a1w ([]:List Sg) v.cells:=by unfold a22;rw[e3d (by omega:0≤v.t),e3d (by omega:v.t<T.length),e3d (by omega:1≤v.rep),e3d (by omega:v.rep≤1000000)];rfl
 rw[eV]at hv;have:v.cells=[]:=e6e.1 (by omega);rw[this]at hv;cases hv
theorem b53(v:Vc)(S:List Sg)(T:List Tm)(a7:T.length≤100000)(hv:a22 v S T.length=false)(dQ:S.length≤100000):sem L.env Mf 50 [.agg (Vc.enc v),.agg [.slice 0 0 S.length none,.slice 1 0 T.length none,.nilslice]] [some (.row 2 (S.map Sg.enc)),some (.row 6 (T.map Tm.enc))]=some (.bool false,[some (.row 2 (S.map Sg.enc)),some (.row 6 (T.map Tm.enc))]):=by
 have aO:=λπ=>a02 π (a0s S);have aP:=a01 (a0s S);have az:=λπ=>a02 π (a0a T);have aA:=a01 (a0a T);have dZ:(T.map Tm.enc).length=T.length:=b41 ..;have gM:(S.map Sg.enc).length=S.length:=b41 ..;by_cases k0:v.t<0
 ·(refine sv Tryz.f50 ?_;simp only[Tryz.f50,gS])
  (repeat first|simp only[ww]|(apply xa;simp+decide only[go_sem,k0,b41];rfl;kernel_rfl))
  (apply fqb;simp+decide only[go_sem,aO,aP,az,aA]<;>rfl)
 by_cases k1:(T.length:Int)≤v.t
 ·(refine sv Tryz.f50 ?_;simp only[Tryz.f50,gS])
  (repeat first|simp only[ww]|(apply xa;simp+decide only[go_sem,k0,k1,b41];rfl;kernel_rfl))
  (apply fqb;simp+decide only[go_sem,aO,aP,az,aA]<;>rfl)
 by_cases k2:v.rep<1
 ·(refine sv Tryz.f50 ?_;simp only[Tryz.f50,gS])
  (repeat first|simp only[ww]|(apply xa;simp+decide only[go_sem,k0,k1,k2,b41];rfl;kernel_rfl))
  (apply fqb;simp+decide only[go_sem,aO,aP,az,aA]<;>rfl)
 by_cases k3:(1000000:Int)<v.rep
 ·(refine sv Tryz.f50 ?_;simp only[Tryz.f50,gS])
  (repeat first|simp only[ww]|(apply xa;simp+decide only[go_sem,k0,k1,k2,k3,b41];rfl;kernel_rfl))
  (apply fqb;simp+decide only[go_sem,aO,aP,az,aA]<;>rfl)
 by_cases k4:(v.cells.length:Int)=S.length
 case neg=>
  (refine sv Tryz.f50 ?_;simp only[Tryz.f50,gS])
  (repeat first|simp only[ww]|(apply xa;simp+decide only[go_sem,k0,k1,k2,k3,k4,gM,b41];rfl;kernel_rfl))
  (apply fqb;simp+decide only[go_sem,aO,aP,az,aA]<;>rfl)
 have eV:a22 v S T.length=a1w S v.cells:=by unfold a22;rw[e3d (by omega:0≤v.t),e3d (by omega:v.t<T.length),e3d (by omega:1≤v.rep),e3d (by omega:v.rep≤1000000)];rfl
 rw[eV]at hv;have k5:S.length=v.cells.length:=by omega
 have fh:=λd H s c=>a97 (d:=d) H s c
 (refine sv Tryz.f50 ?_;simp only[Tryz.f50,gS])
 (repeat first|simp only[ww]|(apply xa;simp+decide only[go_sem,k0,k1,k2,k3,k4,gM,b41];rfl;kernel_rfl))
 refine a15 (σ:=Nat) kp50_0 (λi=>[(2,.ptr 2 0 0),(39,.slice 0 0 S.length none),(40,.int .i64 S.length),(41,.int .i64 (i:Nat))]) (λ_=>[some (.row 2 (S.map Sg.enc)),some (.row 6 (T.map Tm.enc)),some (.row 3 [Vc.enc v])]) (λi=>S.length-i) (λi=>i≤S.length∧∀(j:Nat) (s:Sg) (c:UInt8),j<i→S[j]?=some s→v.cells[j]?=some c→(a1d s.dir).contains c=true) 0 ?_ ⟨e3h _,λj _ _ h=>by omega⟩ ?_
 ·(simp+decide only[go_sem,a0d,a07,aO,aP,az,aA]<;>rfl)
 ·rintro i ⟨hi,aH⟩
  by_cases aq:i<S.length
  ·have l1:(i:Int)<S.length:=by omega
   obtain⟨s,hs⟩:∃s,S[i]?=some s:=⟨_,z9e aq⟩
   obtain⟨c,hc⟩:∃c,v.cells[i]?=some c:=⟨_,z9e (by omega)⟩
   have hw:IntKind.i64.wrap ((i:Int)+1)=((i+1:Nat):Int):=by rw[w64 (by omega) (by omega)];omega
   have b7:(S.map Sg.enc)[i]?=some (Sg.enc s):=by rw[e2e,hs];rfl
   have er:(a1d s.dir).contains c=true→∀(j:Nat) (s:Sg) (c:UInt8),j<i+1→S[j]?=some s→v.cells[j]?=some c→(a1d s.dir).contains c=true:=by
    intro h j s' c' hj h1 h2;by_cases e:j=i
    ·subst e;rw[hs]at h1;rw[hc]at h2;cases h1;cases h2;exact h
    ·exact aH j s' c' (by omega) h1 h2
   have eE:i<v.cells.length:=by omega
   by_cases hd:s.dir=1
   ·have d1:(s.dir:Int)=1:=by omega
    have hL:a1d s.dir=[76,72,88]:=by rw[hd];rfl
    by_cases hk:(a1d s.dir).contains c=true
    ·have c1:¬Lib.indexByte [76,72,88] c<0:=by have:=a8v _ _ hk;rw[hL]at this;omega
     (repeat first|simp only[ww]|(apply xa;simp+decide only[go_sem,l1,aq,hw,b7,hs,hc,eE,d1,fh,c1,gM];rfl;kernel_rfl))
     refine a2p (i+1) ?_ (by omega) ⟨by omega,er hk⟩
     (simp+decide only[go_sem,a0d,a07,aO,aP,az,aA]<;>rfl)
    ·have hk:(a1d s.dir).contains c=false:=by cases h:(a1d s.dir).contains c with|true=>exact absurd h hk|false=>rfl
     have c1:Lib.indexByte [76,72,88] c<0:=by have:=c2x _ _ hk;rw[hL]at this;omega
     (repeat first|simp only[ww]|(apply xa;simp+decide only[go_sem,l1,aq,hw,b7,hs,hc,eE,d1,fh,c1,gM];rfl;kernel_rfl))
     (apply fqb;simp+decide only[go_sem,aO,aP,az,aA]<;>rfl)
   ·have d1:¬(s.dir:Int)=1:=by omega
    have hL:a1d s.dir=[48,49,88,80]:=e2i hd;by_cases hk:(a1d s.dir).contains c=true
    ·have c1:¬Lib.indexByte [48,49,88,80] c<0:=by have:=a8v _ _ hk;rw[hL]at this;omega
     (repeat first|simp only[ww]|(apply xa;simp+decide only[go_sem,l1,aq,hw,b7,hs,hc,eE,d1,fh,c1,gM];rfl;kernel_rfl))
     refine a2p (i+1) ?_ (by omega) ⟨by omega,er hk⟩
     (simp+decide only[go_sem,a0d,a07,aO,aP,az,aA]<;>rfl)
    ·have hk:(a1d s.dir).contains c=false:=by cases h:(a1d s.dir).contains c with|true=>exact absurd h hk|false=>rfl
     have c1:Lib.indexByte [48,49,88,80] c<0:=by have:=c2x _ _ hk;rw[hL]at this;omega
     (repeat first|simp only[ww]|(apply xa;simp+decide only[go_sem,l1,aq,hw,b7,hs,hc,eE,d1,fh,c1,gM];rfl;kernel_rfl))
     (apply fqb;simp+decide only[go_sem,aO,aP,az,aA]<;>rfl)
  ·have hr:a1w S v.cells=true:=a8p S v.cells k5 λj s c h1 h2=>aH j s c (by have:=(e26.1 h1).1;omega) h1 h2;rw[hr]at hv;cases hv
theorem b52(v:Vc)(S:List Sg)(T:List Tm)(a7:T.length≤100000)(V:List Vc)(hv:a22 v S T.length=false)(dQ:S.length≤100000):sem L.env Mf 50 [.agg (Vc.enc v),.agg [.slice 0 0 S.length none,.slice 1 0 T.length none,.slice 2 0 V.length none]] [some (.row 2 (S.map Sg.enc)),some (.row 6 (T.map Tm.enc)),some (.row 3 (V.map Vc.enc))]=some (.bool false,[some (.row 2 (S.map Sg.enc)),some (.row 6 (T.map Tm.enc)),some (.row 3 (V.map Vc.enc))]):=by
 have aO:=λπ=>a02 π (a0s S);have aP:=a01 (a0s S);have az:=λπ=>a02 π (a0a T);have aA:=a01 (a0a T);have dZ:(T.map Tm.enc).length=T.length:=b41 ..;have aZ:=λπ=>a02 π (a13 V);have a6:=a01 (a13 V);have gM:(S.map Sg.enc).length=S.length:=b41 ..;by_cases k0:v.t<0
 ·(refine sv Tryz.f50 ?_;simp only[Tryz.f50,gS])
  (repeat first|simp only[ww]|(apply xa;simp+decide only[go_sem,k0,b41];rfl;kernel_rfl))
  (apply fqb;simp+decide only[go_sem,aO,aP,az,aA,aZ,a6]<;>rfl)
 by_cases k1:(T.length:Int)≤v.t
 ·(refine sv Tryz.f50 ?_;simp only[Tryz.f50,gS])
  (repeat first|simp only[ww]|(apply xa;simp+decide only[go_sem,k0,k1,b41];rfl;kernel_rfl))
  (apply fqb;simp+decide only[go_sem,aO,aP,az,aA,aZ,a6]<;>rfl)
 by_cases k2:v.rep<1
 ·(refine sv Tryz.f50 ?_;simp only[Tryz.f50,gS])
  (repeat first|simp only[ww]|(apply xa;simp+decide only[go_sem,k0,k1,k2,b41];rfl;kernel_rfl))
  (apply fqb;simp+decide only[go_sem,aO,aP,az,aA,aZ,a6]<;>rfl)
 by_cases k3:(1000000:Int)<v.rep
 ·(refine sv Tryz.f50 ?_;simp only[Tryz.f50,gS])
  (repeat first|simp only[ww]|(apply xa;simp+decide only[go_sem,k0,k1,k2,k3,b41];rfl;kernel_rfl))
  (apply fqb;simp+decide only[go_sem,aO,aP,az,aA,aZ,a6]<;>rfl)
 by_cases k4:(v.cells.length:Int)=S.length
 case neg=>
  (refine sv Tryz.f50 ?_;simp only[Tryz.f50,gS])
  (repeat first|simp only[ww]|(apply xa;simp+decide only[go_sem,k0,k1,k2,k3,k4,gM,b41];rfl;kernel_rfl))
  (apply fqb;simp+decide only[go_sem,aO,aP,az,aA,aZ,a6]<;>rfl)
 have eV:a22 v S T.length=a1w S v.cells:=by unfold a22;rw[e3d (by omega:0≤v.t),e3d (by omega:v.t<T.length),e3d (by omega:1≤v.rep),e3d (by omega:v.rep≤1000000)];rfl
 rw[eV]at hv;have k5:S.length=v.cells.length:=by omega
 have fh:=λd H s c=>a97 (d:=d) H s c
 (refine sv Tryz.f50 ?_;simp only[Tryz.f50,gS])
 (repeat first|simp only[ww]|(apply xa;simp+decide only[go_sem,k0,k1,k2,k3,k4,gM,b41];rfl;kernel_rfl))
 refine a15 (σ:=Nat) kp50_0 (λi=>[(2,.ptr 3 0 0),(39,.slice 0 0 S.length none),(40,.int .i64 S.length),(41,.int .i64 (i:Nat))]) (λ_=>[some (.row 2 (S.map Sg.enc)),some (.row 6 (T.map Tm.enc)),some (.row 3 (V.map Vc.enc)),some (.row 3 [Vc.enc v])]) (λi=>S.length-i) (λi=>i≤S.length∧∀(j:Nat) (s:Sg) (c:UInt8),j<i→S[j]?=some s→v.cells[j]?=some c→(a1d s.dir).contains c=true) 0 ?_ ⟨e3h _,λj _ _ h=>by omega⟩ ?_
 ·(simp+decide only[go_sem,a0d,a07,aO,aP,az,aA,aZ,a6]<;>rfl)
 ·rintro i ⟨hi,aH⟩
  by_cases aq:i<S.length
  ·have l1:(i:Int)<S.length:=by omega
   obtain⟨s,hs⟩:∃s,S[i]?=some s:=⟨_,z9e aq⟩
   obtain⟨c,hc⟩:∃c,v.cells[i]?=some c:=⟨_,z9e (by omega)⟩
   have hw:IntKind.i64.wrap ((i:Int)+1)=((i+1:Nat):Int):=by rw[w64 (by omega) (by omega)];omega
   have b7:(S.map Sg.enc)[i]?=some (Sg.enc s):=by rw[e2e,hs];rfl
   have er:(a1d s.dir).contains c=true→∀(j:Nat) (s:Sg) (c:UInt8),j<i+1→S[j]?=some s→v.cells[j]?=some c→(a1d s.dir).contains c=true:=by
    intro h j s' c' hj h1 h2;by_cases e:j=i
    ·subst e;rw[hs]at h1;rw[hc]at h2;cases h1;cases h2;exact h
    ·exact aH j s' c' (by omega) h1 h2
   have eE:i<v.cells.length:=by omega
   by_cases hd:s.dir=1
   ·have d1:(s.dir:Int)=1:=by omega
    have hL:a1d s.dir=[76,72,88]:=by rw[hd];rfl
    by_cases hk:(a1d s.dir).contains c=true
    ·have c1:¬Lib.indexByte [76,72,88] c<0:=by have:=a8v _ _ hk;rw[hL]at this;omega
     (repeat first|simp only[ww]|(apply xa;simp+decide only[go_sem,l1,aq,hw,b7,hs,hc,eE,d1,fh,c1,gM];rfl;kernel_rfl))
     refine a2p (i+1) ?_ (by omega) ⟨by omega,er hk⟩
     (simp+decide only[go_sem,a0d,a07,aO,aP,az,aA,aZ,a6]<;>rfl)
    ·have hk:(a1d s.dir).contains c=false:=by cases h:(a1d s.dir).contains c with|true=>exact absurd h hk|false=>rfl
     have c1:Lib.indexByte [76,72,88] c<0:=by have:=c2x _ _ hk;rw[hL]at this;omega
     (repeat first|simp only[ww]|(apply xa;simp+decide only[go_sem,l1,aq,hw,b7,hs,hc,eE,d1,fh,c1,gM];rfl;kernel_rfl))
     (apply fqb;simp+decide only[go_sem,aO,aP,az,aA,aZ,a6]<;>rfl)
   ·have d1:¬(s.dir:Int)=1:=by omega
    have hL:a1d s.dir=[48,49,88,80]:=e2i hd;by_cases hk:(a1d s.dir).contains c=true
    ·have c1:¬Lib.indexByte [48,49,88,80] c<0:=by have:=a8v _ _ hk;rw[hL]at this;omega
     (repeat first|simp only[ww]|(apply xa;simp+decide only[go_sem,l1,aq,hw,b7,hs,hc,eE,d1,fh,c1,gM];rfl;kernel_rfl))
     refine a2p (i+1) ?_ (by omega) ⟨by omega,er hk⟩
     (simp+decide only[go_sem,a0d,a07,aO,aP,az,aA,aZ,a6]<;>rfl)
    ·have hk:(a1d s.dir).contains c=false:=by cases h:(a1d s.dir).contains c with|true=>exact absurd h hk|false=>rfl
     have c1:Lib.indexByte [48,49,88,80] c<0:=by have:=c2x _ _ hk;rw[hL]at this;omega
     (repeat first|simp only[ww]|(apply xa;simp+decide only[go_sem,l1,aq,hw,b7,hs,hc,eE,d1,fh,c1,gM];rfl;kernel_rfl))
     (apply fqb;simp+decide only[go_sem,aO,aP,az,aA,aZ,a6]<;>rfl)
  ·have hr:a1w S v.cells=true:=a8p S v.cells k5 λj s c h1 h2=>aH j s c (by have:=(e26.1 h1).1;omega) h1 h2;rw[hr]at hv;cases hv
theorem c13(v:Vc)(hv:v.t = -1):sem L.env Mf 50 [.agg (Vc.enc v),.agg [.junk,.nilslice,.junk]] []=some (.bool false,[]):=by
 have k0:v.t<0:=by omega
 (refine sv Tryz.f50 ?_;simp only[Tryz.f50,gS])
 (repeat first|simp only[ww]|(apply xa;simp+decide only[go_sem,k0,b41];rfl;kernel_rfl))
 (apply fqb;simp+decide only[go_sem]<;>rfl)
theorem c7c(al:DrOk L.env)(a0 a1 a2 a3:Option AObj)(R:List (List AV))(n m:Nat)(hm:m≠3)(uE:m≠4):PanF L.env 67 [.ptr 0 0 0,.slice 4 0 m (some n)] [a0,a1,a2,a3,some (.row 1 R),none] (a4m 4):=by
 have c:¬(m:Int)=3:=by omega
 have c4:¬(m:Int)=4:=by omega
 refine pf Tryz.f67 ok al noF (by kernel_rfl) ?_;simp only[Tryz.f67,gS];refine PanG.seqL ?_;refine pcr 8 (by(simp+decide only[go_sem,c35,e28,c,c4];rfl)) rfl rfl (a1z (g1:=62) (l:=[.bool false,.int .i64 4]) rfl (by simp only[go_sem]) (by simp only[go_sem]) rfl (a11 al 4))
noncomputable def a5v:Code:=match Tryz.f67.body.getD .skip with|.seq _ (.seq _ (.seq _ c))=>c|c=>c
theorem d57(al:DrOk L.env)(sum:Int)(R:List (List AV))(aw:FlatR R)(n m:Nat)(cl:List UInt8)(rep:Nat):PanG (cx L.env Mf 6 81 67 0) a5v [(0,.ptr 0 0 0),(1,.slice 4 0 m (some n)),(4,.ptr 6 0 0)] [some (.row 4 [[.junk,.nilslice,.junk,.int .i64 sum]]),none,none,none,some (.row 1 R),none,some (.row 3 [[.int .i64 (-1),.str cl,.int .i64 (rep:Nat)]])] (a4m 1) [] (List.replicate 6 none):=by
 have aF:=λd H e=>a0i (d:=d) H e;have r1:=λπ=>a02 π aw;have r2:=a01 aw;have bg:Nat.beq 43 82=false:=by decide
 skip
 unfold a5v;simp only[Tryz.f67,gS];refine pcs ?_;by_cases aX:cl=[45]
 ·subst aX
  skip
  have bd:∀d,a0e L.env d (sem L.env Mf) (.func (.func 50) [] []) [.agg [.int .i64 (-1),.str [],.int .i64 (rep:Nat)],.agg [.junk,.nilslice,.junk]] [some (.row 4 [[.junk,.nilslice,.junk,.int .i64 sum]]),none,none,none,some (.row 1 R),none,some (.row 3 [[.int .i64 (-1),.str [],.int .i64 (rep:Nat)]])]=some (.bool false,[some (.row 4 [[.junk,.nilslice,.junk,.int .i64 sum]]),none,none,none,some (.row 1 R),none,some (.row 3 [[.int .i64 (-1),.str [],.int .i64 (rep:Nat)]])],[]):=by
   intro d;have ce:sem L.env Mf 50 [.agg [.int .i64 (-1),.str [],.int .i64 (rep:Nat)],.agg [.junk,.nilslice,.junk]] []=some (.bool false,[]):=by exact c13 ⟨-1,[],(rep:Nat)⟩ rfl
   have hc:=a0b (sem L.env Mf 50) [.agg [.int .i64 (-1),.str [],.int .i64 (rep:Nat)],.agg [.junk,.nilslice,.junk]] [some (.row 4 [[.junk,.nilslice,.junk,.int .i64 sum]]),none,none,none,some (.row 1 R),none,some (.row 3 [[.int .i64 (-1),.str [],.int .i64 (rep:Nat)]])] (σ:=[]) (by simp+decide only[go_sem]<;>rfl) rfl rfl (an:=[.agg [.int .i64 (-1),.str [],.int .i64 (rep:Nat)],.agg [.junk,.nilslice,.junk]]) rfl (H0:=[]) (by simp+decide only[go_sem,a0q]) ce;refine a14 (by kernel_rfl) (by kernel_rfl) rfl (hc.trans ?_) rfl;simp+decide only[go_sem,a0n,r1]<;>rfl
  (repeat first|simp only[ww]|(apply xa;simp+decide only[go_sem,bg];rfl;kernel_rfl))
  refine a1m ?_;refine PanG.seqL ?_;refine pcd 6 (by(simp+decide only[go_sem,c35,e28,bd,bg];rfl)) (by kernel_rfl) rfl rfl rfl rfl rfl (g1:=62) (l:=[.bool false,.int .i64 1]) (by simp only[go_sem]) (by simp only[go_sem]) rfl (a11 al 1)
 ·skip
  skip
  have bd:∀d,a0e L.env d (sem L.env Mf) (.func (.func 50) [] []) [.agg [.int .i64 (-1),.str cl,.int .i64 (rep:Nat)],.agg [.junk,.nilslice,.junk]] [some (.row 4 [[.junk,.nilslice,.junk,.int .i64 sum]]),none,none,none,some (.row 1 R),none,some (.row 3 [[.int .i64 (-1),.str cl,.int .i64 (rep:Nat)]])]=some (.bool false,[some (.row 4 [[.junk,.nilslice,.junk,.int .i64 sum]]),none,none,none,some (.row 1 R),none,some (.row 3 [[.int .i64 (-1),.str cl,.int .i64 (rep:Nat)]])],[]):=by
   intro d;have ce:sem L.env Mf 50 [.agg [.int .i64 (-1),.str cl,.int .i64 (rep:Nat)],.agg [.junk,.nilslice,.junk]] []=some (.bool false,[]):=by exact c13 ⟨-1,cl,(rep:Nat)⟩ rfl
   have hc:=a0b (sem L.env Mf 50) [.agg [.int .i64 (-1),.str cl,.int .i64 (rep:Nat)],.agg [.junk,.nilslice,.junk]] [some (.row 4 [[.junk,.nilslice,.junk,.int .i64 sum]]),none,none,none,some (.row 1 R),none,some (.row 3 [[.int .i64 (-1),.str cl,.int .i64 (rep:Nat)]])] (σ:=[]) (by simp+decide only[go_sem]<;>rfl) rfl rfl (an:=[.agg [.int .i64 (-1),.str cl,.int .i64 (rep:Nat)],.agg [.junk,.nilslice,.junk]]) rfl (H0:=[]) (by simp+decide only[go_sem,a0q]) ce;refine a14 (by kernel_rfl) (by kernel_rfl) rfl (hc.trans ?_) rfl;simp+decide only[go_sem,a0n,r1]<;>rfl
  (repeat first|simp only[ww]|(apply xa;simp+decide only[go_sem,bg,aX];rfl;kernel_rfl))
  refine a1m ?_;refine PanG.seqL ?_;refine pcd 6 (by(simp+decide only[go_sem,c35,e28,bd,bg];rfl)) (by kernel_rfl) rfl rfl rfl rfl rfl (g1:=62) (l:=[.bool false,.int .i64 1]) (by simp only[go_sem]) (by simp only[go_sem]) rfl (a11 al 1)
theorem c9k(al:DrOk L.env)(sum:Int)(n:Nat)(R:List (List AV))(nm cl:List UInt8)(ap:R.length=n)(bH:3≤n)(aw:FlatR R)(aI:R[1]?=some [.str nm])(aC:R[2]?=some [.str cl]):PanF L.env 67 [.ptr 0 0 0,.slice 4 0 3 (some n)] [some (.row 4 [[.junk,.nilslice,.junk,.int .i64 sum]]),none,none,none,some (.row 1 R),none] (a4m 1):=by
 have aF:=λd H e=>a0i (d:=d) H e;have q1:1<n:=by omega
 have q2:2<n:=by omega
 skip
 have bg:Nat.beq 43 82=false:=by decide
 have bc:=c1w sum nm
 skip
 have cr:∀d,a0e L.env d (sem L.env Mf) (.func (.func 85) [] []) [.ptr 0 0 0,.str nm] [some (.row 4 [[.junk,.nilslice,.junk,.int .i64 sum]]),none,none,none,some (.row 1 R),none]=some (.int .i64 (-1),[some (.row 4 [[.junk,.nilslice,.junk,.int .i64 sum]]),none,none,none,some (.row 1 R),none],[0]):=by intro d;have hc:=a0b (sem L.env Mf 85) [.ptr 0 0 0,.str nm] [some (.row 4 [[.junk,.nilslice,.junk,.int .i64 sum]]),none,none,none,some (.row 1 R),none] (σ:=[0]) (by simp+decide only[go_sem]<;>rfl) rfl rfl (an:=[.ptr 0 0 0,.str nm]) rfl (H0:=[some (.row 4 [[.junk,.nilslice,.junk,.int .i64 sum]])]) (by simp+decide only[go_sem,a0q]) bc;refine a14 (by kernel_rfl) (by kernel_rfl) rfl (hc.trans ?_) rfl;simp+decide only[go_sem,a0n]<;>rfl
 refine pf Tryz.f67 ok al noF (by kernel_rfl) ?_;simp only[Tryz.f67,gS];refine pcs ?_
 (repeat first|simp only[ww]|(apply xa;simp+decide only[go_sem,aF];rfl;kernel_rfl))
 refine a1m ?_;refine pcs ?_
 (repeat first|simp only[ww]|(apply xa;simp+decide only[go_sem,aI,aC,ap,q1,q2,cr,bg];rfl;kernel_rfl))
 refine a1m ?_;refine pcs ?_
 (repeat first|simp only[ww]|(apply xa;simp+decide only[go_sem];rfl;kernel_rfl))
 refine a1m ?_;exact PanG.three (s1:=0) (s2:=1) (s3:=4) (d57 al sum R aw n 3 cl 1) rfl rfl rfl
theorem c14(al:DrOk L.env)(sum:Int)(n:Nat)(R:List (List AV))(nm cl:List UInt8)(rp:List UInt8)(cM:R[3]?=some [.str rp])(ap:R.length=n)(bH:4≤n)(aw:FlatR R)(aI:R[1]?=some [.str nm])(aC:R[2]?=some [.str cl])(e:Int)(bF:(¬NumOk rp∧e=4)∨(NumOk rp∧e=1)):PanF L.env 67 [.ptr 0 0 0,.slice 4 0 4 (some n)] [some (.row 4 [[.junk,.nilslice,.junk,.int .i64 sum]]),none,none,none,some (.row 1 R),none] (a4m e):=by
 have aF:=λd H e=>a0i (d:=d) H e;have q1:1<n:=by omega
 have q2:2<n:=by omega
 have q3:3<n:=by omega
 have bg:Nat.beq 43 82=false:=by decide
 have bc:=c1w sum nm
 skip
 have cr:∀d,a0e L.env d (sem L.env Mf) (.func (.func 85) [] []) [.ptr 0 0 0,.str nm] [some (.row 4 [[.junk,.nilslice,.junk,.int .i64 sum]]),none,none,none,some (.row 1 R),none]=some (.int .i64 (-1),[some (.row 4 [[.junk,.nilslice,.junk,.int .i64 sum]]),none,none,none,some (.row 1 R),none],[0]):=by intro d;have hc:=a0b (sem L.env Mf 85) [.ptr 0 0 0,.str nm] [some (.row 4 [[.junk,.nilslice,.junk,.int .i64 sum]]),none,none,none,some (.row 1 R),none] (σ:=[0]) (by simp+decide only[go_sem]<;>rfl) rfl rfl (an:=[.ptr 0 0 0,.str nm]) rfl (H0:=[some (.row 4 [[.junk,.nilslice,.junk,.int .i64 sum]])]) (by simp+decide only[go_sem,a0q]) bc;refine a14 (by kernel_rfl) (by kernel_rfl) rfl (hc.trans ?_) rfl;simp+decide only[go_sem,a0n]<;>rfl
 refine pf Tryz.f67 ok al noF (by kernel_rfl) ?_;simp only[Tryz.f67,gS];refine pcs ?_
 (repeat first|simp only[ww]|(apply xa;simp+decide only[go_sem,aF];rfl;kernel_rfl))
 refine a1m ?_;refine pcs ?_
 (repeat first|simp only[ww]|(apply xa;simp+decide only[go_sem,aI,aC,ap,q1,q2,cr,bg];rfl;kernel_rfl))
 refine a1m ?_;rcases bF with ⟨bB,rfl⟩|⟨bB,bF⟩
 ·refine PanG.seqL ?_;refine pcs ?_
  (repeat first|simp only[ww]|(apply xa;simp+decide only[go_sem];rfl;kernel_rfl))
  refine a1m ?_;refine PanG.condT (by simp only[go_sem]) ?_;refine pcr 3 (by(simp+decide only[go_sem,c35,e28,cM,ap,q3];rfl)) rfl rfl (a1z (g1:=84) (l:=[.str rp]) rfl (by simp only[go_sem]) (by simp only[go_sem]) rfl (b0z al rp bB))
 have gH:=λd H=>a2m (d:=d) H rp bB;have l8:a09 rp<10000000:=by have:=a84 rp bB.d rp.length (e2c _);rw[e3z]at this;exact e58 this (e5w (e6w (by decide) bB.l7) (by decide))
 subst bF;refine pcs ?_
 (repeat first|simp only[ww]|(apply xa;simp+decide only[go_sem,cM,ap,q3,gH,bg];rfl;kernel_rfl))
 refine a1m ?_;exact PanG.three (s1:=0) (s2:=1) (s3:=4) (d57 al sum R aw n 4 cl (a09 rp)) rfl rfl rfl
theorem c9j(al:DrOk L.env)(sum:Int)(R:List (List AV))(aw:FlatR R)(n m:Nat)(T:List Tm)(a7:T.length≤100000)(cl:List UInt8)(rep:Nat)(zz:Int)(hr:rep<10000000)(bL:0≤sum)(cF:sum≤1000000)(e:Int)(bF:(a22 ⟨zz,if cl=[45]then[]else cl,(rep:Nat)⟩ ([]:List Sg) T.length=false∧e=1)∨(a22 ⟨zz,if cl=[45]then[]else cl,(rep:Nat)⟩ ([]:List Sg) T.length=true∧([]:List Vc).length=65536∧e=3)∨(a22 ⟨zz,if cl=[45]then[]else cl,(rep:Nat)⟩ ([]:List Sg) T.length=true∧([]:List Vc).length<65536∧1000000<sum+(rep:Nat)∧e=3)):PanG (cx L.env Mf 6 81 67 0) a5v [(0,.ptr 0 0 0),(1,.slice 4 0 m (some n)),(4,.ptr 6 0 0)] [some (.row 4 [[.nilslice,.slice 2 0 T.length none,.nilslice,.int .i64 sum]]),none,some (.row 6 (T.map Tm.enc)),none,some (.row 1 R),none,some (.row 3 [[.int .i64 zz,.str cl,.int .i64 (rep:Nat)]])] (a4m e) [] (List.replicate 6 none):=by
 have aF:=λd H e=>a0i (d:=d) H e;have r1:=λπ=>a02 π aw;have r2:=a01 aw;have az:=λπ=>a02 π (a0a T);have aA:=a01 (a0a T);have dZ:(T.map Tm.enc).length=T.length:=b41 ..;have bg:Nat.beq 43 82=false:=by decide
 skip
 unfold a5v;simp only[Tryz.f67,gS];refine pcs ?_;by_cases aX:cl=[45]
 ·subst aX;rw[e3g rfl]at bF;have db:∀b:Bool,a22 ⟨zz,[],(rep:Nat)⟩ ([]:List Sg) T.length=b→∀d,a0e L.env d (sem L.env Mf) (.func (.func 50) [] []) [.agg [.int .i64 zz,.str [],.int .i64 (rep:Nat)],.agg [.nilslice,.slice 2 0 T.length none,.nilslice]] [some (.row 4 [[.nilslice,.slice 2 0 T.length none,.nilslice,.int .i64 sum]]),none,some (.row 6 (T.map Tm.enc)),none,some (.row 1 R),none,some (.row 3 [[.int .i64 zz,.str [],.int .i64 (rep:Nat)]])]=some (.bool b,[some (.row 4 [[.nilslice,.slice 2 0 T.length none,.nilslice,.int .i64 sum]]),none,some (.row 6 (T.map Tm.enc)),none,some (.row 1 R),none,some (.row 3 [[.int .i64 zz,.str [],.int .i64 (rep:Nat)]])],[2]):=by
   intro b hb d;have ce:sem L.env Mf 50 [.agg [.int .i64 zz,.str [],.int .i64 (rep:Nat)],.agg [.nilslice,.slice 0 0 T.length none,.nilslice]] [some (.row 6 (T.map Tm.enc))]=some (.bool b,[some (.row 6 (T.map Tm.enc))]):=by
    cases b with
    |false=>exact b55 ⟨zz,[],(rep:Nat)⟩ T a7 hb
    |true=>exact a66 ⟨zz,[],(rep:Nat)⟩ T a7 hb
   have hc:=a0b (sem L.env Mf 50) [.agg [.int .i64 zz,.str [],.int .i64 (rep:Nat)],.agg [.nilslice,.slice 2 0 T.length none,.nilslice]] [some (.row 4 [[.nilslice,.slice 2 0 T.length none,.nilslice,.int .i64 sum]]),none,some (.row 6 (T.map Tm.enc)),none,some (.row 1 R),none,some (.row 3 [[.int .i64 zz,.str [],.int .i64 (rep:Nat)]])] (σ:=[2]) (by simp+decide only[go_sem,az,aA]<;>rfl) rfl rfl (an:=[.agg [.int .i64 zz,.str [],.int .i64 (rep:Nat)],.agg [.nilslice,.slice 0 0 T.length none,.nilslice]]) rfl (H0:=[some (.row 6 (T.map Tm.enc))]) (by simp+decide only[go_sem,a0q,az,aA]) ce;refine a14 (by kernel_rfl) (by kernel_rfl) rfl (hc.trans ?_) rfl;simp+decide only[go_sem,a0n,az,aA,r1]<;>rfl
  (repeat first|simp only[ww]|(apply xa;simp+decide only[go_sem,bg];rfl;kernel_rfl))
  refine a1m ?_;rcases bF with ⟨cg,rfl⟩|bF
  ·have bd:=db false cg;refine PanG.seqL ?_;refine pcd 6 (by(simp+decide only[go_sem,c35,e28,bd,bg];rfl)) (by kernel_rfl) rfl rfl rfl rfl rfl (g1:=62) (l:=[.bool false,.int .i64 1]) (by simp only[go_sem]) (by simp only[go_sem]) rfl (a11 al 1)
  have bd:=db true (by rcases bF with ⟨h,_⟩|⟨h,_⟩<;>exact h);refine pcs ?_
  (repeat first|simp only[ww]|(apply xa;simp+decide only[go_sem,aF,bd,bg];rfl;kernel_rfl))
  refine a1m ?_;have eC:IntKind.i64.wrap (sum+(rep:Nat))=sum+(rep:Nat):=w64 (by omega) (by omega);rcases bF with ⟨_,hl,rfl⟩|⟨_,hl,hs,rfl⟩
  ·simp at hl
  ·skip
   have c8:¬sum+(rep:Nat)≤1000000:=by omega
   refine PanG.seqL ?_;refine pcd 17 (by(simp+decide only[go_sem,c35,e28,eC,c8,bg];rfl)) (by kernel_rfl) rfl rfl rfl rfl rfl (g1:=62) (l:=[.bool false,.int .i64 3]) (by simp only[go_sem]) (by simp only[go_sem]) rfl (a11 al 3)
 ·skip
  rw[e2i aX]at bF;have db:∀b:Bool,a22 ⟨zz,cl,(rep:Nat)⟩ ([]:List Sg) T.length=b→∀d,a0e L.env d (sem L.env Mf) (.func (.func 50) [] []) [.agg [.int .i64 zz,.str cl,.int .i64 (rep:Nat)],.agg [.nilslice,.slice 2 0 T.length none,.nilslice]] [some (.row 4 [[.nilslice,.slice 2 0 T.length none,.nilslice,.int .i64 sum]]),none,some (.row 6 (T.map Tm.enc)),none,some (.row 1 R),none,some (.row 3 [[.int .i64 zz,.str cl,.int .i64 (rep:Nat)]])]=some (.bool b,[some (.row 4 [[.nilslice,.slice 2 0 T.length none,.nilslice,.int .i64 sum]]),none,some (.row 6 (T.map Tm.enc)),none,some (.row 1 R),none,some (.row 3 [[.int .i64 zz,.str cl,.int .i64 (rep:Nat)]])],[2]):=by
   intro b hb d;have ce:sem L.env Mf 50 [.agg [.int .i64 zz,.str cl,.int .i64 (rep:Nat)],.agg [.nilslice,.slice 0 0 T.length none,.nilslice]] [some (.row 6 (T.map Tm.enc))]=some (.bool b,[some (.row 6 (T.map Tm.enc))]):=by
    cases b with
    |false=>exact b55 ⟨zz,cl,(rep:Nat)⟩ T a7 hb
    |true=>exact a66 ⟨zz,cl,(rep:Nat)⟩ T a7 hb
   have hc:=a0b (sem L.env Mf 50) [.agg [.int .i64 zz,.str cl,.int .i64 (rep:Nat)],.agg [.nilslice,.slice 2 0 T.length none,.nilslice]] [some (.row 4 [[.nilslice,.slice 2 0 T.length none,.nilslice,.int .i64 sum]]),none,some (.row 6 (T.map Tm.enc)),none,some (.row 1 R),none,some (.row 3 [[.int .i64 zz,.str cl,.int .i64 (rep:Nat)]])] (σ:=[2]) (by simp+decide only[go_sem,az,aA]<;>rfl) rfl rfl (an:=[.agg [.int .i64 zz,.str cl,.int .i64 (rep:Nat)],.agg [.nilslice,.slice 0 0 T.length none,.nilslice]]) rfl (H0:=[some (.row 6 (T.map Tm.enc))]) (by simp+decide only[go_sem,a0q,az,aA]) ce;refine a14 (by kernel_rfl) (by kernel_rfl) rfl (hc.trans ?_) rfl;simp+decide only[go_sem,a0n,az,aA,r1]<;>rfl
  (repeat first|simp only[ww]|(apply xa;simp+decide only[go_sem,bg,aX];rfl;kernel_rfl))
  refine a1m ?_;rcases bF with ⟨cg,rfl⟩|bF
  ·have bd:=db false cg;refine PanG.seqL ?_;refine pcd 6 (by(simp+decide only[go_sem,c35,e28,bd,bg];rfl)) (by kernel_rfl) rfl rfl rfl rfl rfl (g1:=62) (l:=[.bool false,.int .i64 1]) (by simp only[go_sem]) (by simp only[go_sem]) rfl (a11 al 1)
  have bd:=db true (by rcases bF with ⟨h,_⟩|⟨h,_⟩<;>exact h);refine pcs ?_
  (repeat first|simp only[ww]|(apply xa;simp+decide only[go_sem,aF,bd,bg];rfl;kernel_rfl))
  refine a1m ?_;have eC:IntKind.i64.wrap (sum+(rep:Nat))=sum+(rep:Nat):=w64 (by omega) (by omega);rcases bF with ⟨_,hl,rfl⟩|⟨_,hl,hs,rfl⟩
  ·simp at hl
  ·skip
   have c8:¬sum+(rep:Nat)≤1000000:=by omega
   refine PanG.seqL ?_;refine pcd 17 (by(simp+decide only[go_sem,c35,e28,eC,c8,bg];rfl)) (by kernel_rfl) rfl rfl rfl rfl rfl (g1:=62) (l:=[.bool false,.int .i64 3]) (by simp only[go_sem]) (by simp only[go_sem]) rfl (a11 al 3)
theorem c01(al:DrOk L.env)(sum:Int)(n:Nat)(R:List (List AV))(nm cl:List UInt8)(T:List Tm)(a7:T.length≤100000)(ap:R.length=n)(bH:3≤n)(aw:FlatR R)(aI:R[1]?=some [.str nm])(aC:R[2]?=some [.str cl])(bL:0≤sum)(cF:sum≤1000000)(e:Int)(bF:((a22 ⟨fnd nm (T.map Tm.name),if cl=[45]then[]else cl,(1:Nat)⟩ ([]:List Sg) T.length=false∧e=1)∨(a22 ⟨fnd nm (T.map Tm.name),if cl=[45]then[]else cl,(1:Nat)⟩ ([]:List Sg) T.length=true∧([]:List Vc).length=65536∧e=3)∨(a22 ⟨fnd nm (T.map Tm.name),if cl=[45]then[]else cl,(1:Nat)⟩ ([]:List Sg) T.length=true∧([]:List Vc).length<65536∧1000000<sum+(1:Nat)∧e=3))):PanF L.env 67 [.ptr 0 0 0,.slice 4 0 3 (some n)] [some (.row 4 [[.nilslice,.slice 2 0 T.length none,.nilslice,.int .i64 sum]]),none,some (.row 6 (T.map Tm.enc)),none,some (.row 1 R),none] (a4m e):=by
 have aF:=λd H e=>a0i (d:=d) H e;have az:=λπ=>a02 π (a0a T);have aA:=a01 (a0a T);have dZ:(T.map Tm.enc).length=T.length:=b41 ..;have q1:1<n:=by omega
 have q2:2<n:=by omega
 skip
 have bg:Nat.beq 43 82=false:=by decide
 have bc:=a6k sum nm T a7;generalize fnd nm (T.map Tm.name)=zz at *;have cr:∀d,a0e L.env d (sem L.env Mf) (.func (.func 85) [] []) [.ptr 0 0 0,.str nm] [some (.row 4 [[.nilslice,.slice 2 0 T.length none,.nilslice,.int .i64 sum]]),none,some (.row 6 (T.map Tm.enc)),none,some (.row 1 R),none]=some (.int .i64 zz,[some (.row 4 [[.nilslice,.slice 2 0 T.length none,.nilslice,.int .i64 sum]]),none,some (.row 6 (T.map Tm.enc)),none,some (.row 1 R),none],[0,2]):=by intro d;have hc:=a0b (sem L.env Mf 85) [.ptr 0 0 0,.str nm] [some (.row 4 [[.nilslice,.slice 2 0 T.length none,.nilslice,.int .i64 sum]]),none,some (.row 6 (T.map Tm.enc)),none,some (.row 1 R),none] (σ:=[0,2]) (by simp+decide only[go_sem,az,aA]<;>rfl) rfl rfl (an:=[.ptr 0 0 0,.str nm]) rfl (H0:=[some (.row 4 [[.nilslice,.slice 1 0 T.length none,.nilslice,.int .i64 sum]]),some (.row 6 (T.map Tm.enc))]) (by simp+decide only[go_sem,a0q,az,aA]) bc;refine a14 (by kernel_rfl) (by kernel_rfl) rfl (hc.trans ?_) rfl;simp+decide only[go_sem,a0n,az,aA]<;>rfl
 refine pf Tryz.f67 ok al noF (by kernel_rfl) ?_;simp only[Tryz.f67,gS];refine pcs ?_
 (repeat first|simp only[ww]|(apply xa;simp+decide only[go_sem,aF];rfl;kernel_rfl))
 refine a1m ?_;refine pcs ?_
 (repeat first|simp only[ww]|(apply xa;simp+decide only[go_sem,aI,aC,ap,q1,q2,cr,bg];rfl;kernel_rfl))
 refine a1m ?_;refine pcs ?_
 (repeat first|simp only[ww]|(apply xa;simp+decide only[go_sem];rfl;kernel_rfl))
 refine a1m ?_;exact PanG.three (s1:=0) (s2:=1) (s3:=4) (c9j al sum R aw n 3 T a7 cl 1 zz (by decide) bL cF e bF) rfl rfl rfl
theorem b6h(al:DrOk L.env)(sum:Int)(n:Nat)(R:List (List AV))(nm cl:List UInt8)(rp:List UInt8)(cM:R[3]?=some [.str rp])(T:List Tm)(a7:T.length≤100000)(ap:R.length=n)(bH:4≤n)(aw:FlatR R)(aI:R[1]?=some [.str nm])(aC:R[2]?=some [.str cl])(bL:0≤sum)(cF:sum≤1000000)(e:Int)(bF:(¬NumOk rp∧e=4)∨NumOk rp∧((a22 ⟨fnd nm (T.map Tm.name),if cl=[45]then[]else cl,(a09 rp:Nat)⟩ ([]:List Sg) T.length=false∧e=1)∨(a22 ⟨fnd nm (T.map Tm.name),if cl=[45]then[]else cl,(a09 rp:Nat)⟩ ([]:List Sg) T.length=true∧([]:List Vc).length=65536∧e=3)∨(a22 ⟨fnd nm (T.map Tm.name),if cl=[45]then[]else cl,(a09 rp:Nat)⟩ ([]:List Sg) T.length=true∧([]:List Vc).length<65536∧1000000<sum+(a09 rp:Nat)∧e=3))):PanF L.env 67 [.ptr 0 0 0,.slice 4 0 4 (some n)] [some (.row 4 [[.nilslice,.slice 2 0 T.length none,.nilslice,.int .i64 sum]]),none,some (.row 6 (T.map Tm.enc)),none,some (.row 1 R),none] (a4m e):=by
 have aF:=λd H e=>a0i (d:=d) H e;have az:=λπ=>a02 π (a0a T);have aA:=a01 (a0a T);have dZ:(T.map Tm.enc).length=T.length:=b41 ..;have q1:1<n:=by omega
 have q2:2<n:=by omega
 have q3:3<n:=by omega
 have bg:Nat.beq 43 82=false:=by decide
 have bc:=a6k sum nm T a7;generalize fnd nm (T.map Tm.name)=zz at *;have cr:∀d,a0e L.env d (sem L.env Mf) (.func (.func 85) [] []) [.ptr 0 0 0,.str nm] [some (.row 4 [[.nilslice,.slice 2 0 T.length none,.nilslice,.int .i64 sum]]),none,some (.row 6 (T.map Tm.enc)),none,some (.row 1 R),none]=some (.int .i64 zz,[some (.row 4 [[.nilslice,.slice 2 0 T.length none,.nilslice,.int .i64 sum]]),none,some (.row 6 (T.map Tm.enc)),none,some (.row 1 R),none],[0,2]):=by intro d;have hc:=a0b (sem L.env Mf 85) [.ptr 0 0 0,.str nm] [some (.row 4 [[.nilslice,.slice 2 0 T.length none,.nilslice,.int .i64 sum]]),none,some (.row 6 (T.map Tm.enc)),none,some (.row 1 R),none] (σ:=[0,2]) (by simp+decide only[go_sem,az,aA]<;>rfl) rfl rfl (an:=[.ptr 0 0 0,.str nm]) rfl (H0:=[some (.row 4 [[.nilslice,.slice 1 0 T.length none,.nilslice,.int .i64 sum]]),some (.row 6 (T.map Tm.enc))]) (by simp+decide only[go_sem,a0q,az,aA]) bc;refine a14 (by kernel_rfl) (by kernel_rfl) rfl (hc.trans ?_) rfl;simp+decide only[go_sem,a0n,az,aA]<;>rfl
 refine pf Tryz.f67 ok al noF (by kernel_rfl) ?_;simp only[Tryz.f67,gS];refine pcs ?_
 (repeat first|simp only[ww]|(apply xa;simp+decide only[go_sem,aF];rfl;kernel_rfl))
 refine a1m ?_;refine pcs ?_
 (repeat first|simp only[ww]|(apply xa;simp+decide only[go_sem,aI,aC,ap,q1,q2,cr,bg];rfl;kernel_rfl))
 refine a1m ?_;rcases bF with ⟨bB,rfl⟩|⟨bB,bF⟩
 ·refine PanG.seqL ?_;refine pcs ?_
  (repeat first|simp only[ww]|(apply xa;simp+decide only[go_sem];rfl;kernel_rfl))
  refine a1m ?_;refine PanG.condT (by simp only[go_sem]) ?_;refine pcr 3 (by(simp+decide only[go_sem,c35,e28,cM,ap,q3];rfl)) rfl rfl (a1z (g1:=84) (l:=[.str rp]) rfl (by simp only[go_sem]) (by simp only[go_sem]) rfl (b0z al rp bB))
 have gH:=λd H=>a2m (d:=d) H rp bB;have l8:a09 rp<10000000:=by have:=a84 rp bB.d rp.length (e2c _);rw[e3z]at this;exact e58 this (e5w (e6w (by decide) bB.l7) (by decide))
 refine pcs ?_
 (repeat first|simp only[ww]|(apply xa;simp+decide only[go_sem,cM,ap,q3,gH,bg];rfl;kernel_rfl))
 refine a1m ?_;exact PanG.three (s1:=0) (s2:=1) (s3:=4) (c9j al sum R aw n 4 T a7 cl (a09 rp) zz l8 bL cF e bF) rfl rfl rfl
theorem c9i(al:DrOk L.env)(sum:Int)(R:List (List AV))(aw:FlatR R)(n m:Nat)(T:List Tm)(a7:T.length≤100000)(V:List Vc)(cl:List UInt8)(rep:Nat)(zz:Int)(hr:rep<10000000)(bL:0≤sum)(cF:sum≤1000000)(e:Int)(bF:(a22 ⟨zz,if cl=[45]then[]else cl,(rep:Nat)⟩ ([]:List Sg) T.length=false∧e=1)∨(a22 ⟨zz,if cl=[45]then[]else cl,(rep:Nat)⟩ ([]:List Sg) T.length=true∧V.length=65536∧e=3)∨(a22 ⟨zz,if cl=[45]then[]else cl,(rep:Nat)⟩ ([]:List Sg) T.length=true∧V.length<65536∧1000000<sum+(rep:Nat)∧e=3)):PanG (cx L.env Mf 6 81 67 0) a5v [(0,.ptr 0 0 0),(1,.slice 4 0 m (some n)),(4,.ptr 6 0 0)] [some (.row 4 [[.nilslice,.slice 2 0 T.length none,.slice 3 0 V.length none,.int .i64 sum]]),none,some (.row 6 (T.map Tm.enc)),some (.row 3 (V.map Vc.enc)),some (.row 1 R),none,some (.row 3 [[.int .i64 zz,.str cl,.int .i64 (rep:Nat)]])] (a4m e) [] (List.replicate 6 none):=by
 have aF:=λd H e=>a0i (d:=d) H e;have r1:=λπ=>a02 π aw;have r2:=a01 aw;have az:=λπ=>a02 π (a0a T);have aA:=a01 (a0a T);have dZ:(T.map Tm.enc).length=T.length:=b41 ..;have aZ:=λπ=>a02 π (a13 V);have a6:=a01 (a13 V);have bg:Nat.beq 43 82=false:=by decide
 have jE:(V.map Vc.enc).length=V.length:=b41 ..;unfold a5v;simp only[Tryz.f67,gS];refine pcs ?_;by_cases aX:cl=[45]
 ·subst aX;rw[e3g rfl]at bF;have db:∀b:Bool,a22 ⟨zz,[],(rep:Nat)⟩ ([]:List Sg) T.length=b→∀d,a0e L.env d (sem L.env Mf) (.func (.func 50) [] []) [.agg [.int .i64 zz,.str [],.int .i64 (rep:Nat)],.agg [.nilslice,.slice 2 0 T.length none,.slice 3 0 V.length none]] [some (.row 4 [[.nilslice,.slice 2 0 T.length none,.slice 3 0 V.length none,.int .i64 sum]]),none,some (.row 6 (T.map Tm.enc)),some (.row 3 (V.map Vc.enc)),some (.row 1 R),none,some (.row 3 [[.int .i64 zz,.str [],.int .i64 (rep:Nat)]])]=some (.bool b,[some (.row 4 [[.nilslice,.slice 2 0 T.length none,.slice 3 0 V.length none,.int .i64 sum]]),none,some (.row 6 (T.map Tm.enc)),some (.row 3 (V.map Vc.enc)),some (.row 1 R),none,some (.row 3 [[.int .i64 zz,.str [],.int .i64 (rep:Nat)]])],[2,3]):=by
   intro b hb d;have ce:sem L.env Mf 50 [.agg [.int .i64 zz,.str [],.int .i64 (rep:Nat)],.agg [.nilslice,.slice 0 0 T.length none,.slice 1 0 V.length none]] [some (.row 6 (T.map Tm.enc)),some (.row 3 (V.map Vc.enc))]=some (.bool b,[some (.row 6 (T.map Tm.enc)),some (.row 3 (V.map Vc.enc))]):=by
    cases b with
    |false=>exact b54 ⟨zz,[],(rep:Nat)⟩ T a7 V hb
    |true=>exact a65 ⟨zz,[],(rep:Nat)⟩ T a7 V hb
   have hc:=a0b (sem L.env Mf 50) [.agg [.int .i64 zz,.str [],.int .i64 (rep:Nat)],.agg [.nilslice,.slice 2 0 T.length none,.slice 3 0 V.length none]] [some (.row 4 [[.nilslice,.slice 2 0 T.length none,.slice 3 0 V.length none,.int .i64 sum]]),none,some (.row 6 (T.map Tm.enc)),some (.row 3 (V.map Vc.enc)),some (.row 1 R),none,some (.row 3 [[.int .i64 zz,.str [],.int .i64 (rep:Nat)]])] (σ:=[2,3]) (by simp+decide only[go_sem,az,aA,aZ,a6]<;>rfl) rfl rfl (an:=[.agg [.int .i64 zz,.str [],.int .i64 (rep:Nat)],.agg [.nilslice,.slice 0 0 T.length none,.slice 1 0 V.length none]]) rfl (H0:=[some (.row 6 (T.map Tm.enc)),some (.row 3 (V.map Vc.enc))]) (by simp+decide only[go_sem,a0q,az,aA,aZ,a6]) ce;refine a14 (by kernel_rfl) (by kernel_rfl) rfl (hc.trans ?_) rfl;simp+decide only[go_sem,a0n,az,aA,aZ,a6,r1]<;>rfl
  (repeat first|simp only[ww]|(apply xa;simp+decide only[go_sem,bg];rfl;kernel_rfl))
  refine a1m ?_;rcases bF with ⟨cg,rfl⟩|bF
  ·have bd:=db false cg;refine PanG.seqL ?_;refine pcd 6 (by(simp+decide only[go_sem,c35,e28,bd,bg];rfl)) (by kernel_rfl) rfl rfl rfl rfl rfl (g1:=62) (l:=[.bool false,.int .i64 1]) (by simp only[go_sem]) (by simp only[go_sem]) rfl (a11 al 1)
  have bd:=db true (by rcases bF with ⟨h,_⟩|⟨h,_⟩<;>exact h);refine pcs ?_
  (repeat first|simp only[ww]|(apply xa;simp+decide only[go_sem,aF,bd,bg];rfl;kernel_rfl))
  refine a1m ?_;have eC:IntKind.i64.wrap (sum+(rep:Nat))=sum+(rep:Nat):=w64 (by omega) (by omega);rcases bF with ⟨_,hl,rfl⟩|⟨_,hl,hs,rfl⟩
  ·have c7:¬(V.length:Int)<65536:=by omega
   refine PanG.seqL ?_;refine pcd 17 (by(simp+decide only[go_sem,c35,e28,c7,bg];rfl)) (by kernel_rfl) rfl rfl rfl rfl rfl (g1:=62) (l:=[.bool false,.int .i64 3]) (by simp only[go_sem]) (by simp only[go_sem]) rfl (a11 al 3)
  ·have c7:(V.length:Int)<65536:=by omega
   have c8:¬sum+(rep:Nat)≤1000000:=by omega
   refine PanG.seqL ?_;refine pcd 17 (by(simp+decide only[go_sem,c35,e28,c7,eC,c8,bg];rfl)) (by kernel_rfl) rfl rfl rfl rfl rfl (g1:=62) (l:=[.bool false,.int .i64 3]) (by simp only[go_sem]) (by simp only[go_sem]) rfl (a11 al 3)
 ·skip
  rw[e2i aX]at bF;have db:∀b:Bool,a22 ⟨zz,cl,(rep:Nat)⟩ ([]:List Sg) T.length=b→∀d,a0e L.env d (sem L.env Mf) (.func (.func 50) [] []) [.agg [.int .i64 zz,.str cl,.int .i64 (rep:Nat)],.agg [.nilslice,.slice 2 0 T.length none,.slice 3 0 V.length none]] [some (.row 4 [[.nilslice,.slice 2 0 T.length none,.slice 3 0 V.length none,.int .i64 sum]]),none,some (.row 6 (T.map Tm.enc)),some (.row 3 (V.map Vc.enc)),some (.row 1 R),none,some (.row 3 [[.int .i64 zz,.str cl,.int .i64 (rep:Nat)]])]=some (.bool b,[some (.row 4 [[.nilslice,.slice 2 0 T.length none,.slice 3 0 V.length none,.int .i64 sum]]),none,some (.row 6 (T.map Tm.enc)),some (.row 3 (V.map Vc.enc)),some (.row 1 R),none,some (.row 3 [[.int .i64 zz,.str cl,.int .i64 (rep:Nat)]])],[2,3]):=by
   intro b hb d;have ce:sem L.env Mf 50 [.agg [.int .i64 zz,.str cl,.int .i64 (rep:Nat)],.agg [.nilslice,.slice 0 0 T.length none,.slice 1 0 V.length none]] [some (.row 6 (T.map Tm.enc)),some (.row 3 (V.map Vc.enc))]=some (.bool b,[some (.row 6 (T.map Tm.enc)),some (.row 3 (V.map Vc.enc))]):=by
    cases b with
    |false=>exact b54 ⟨zz,cl,(rep:Nat)⟩ T a7 V hb
    |true=>exact a65 ⟨zz,cl,(rep:Nat)⟩ T a7 V hb
   have hc:=a0b (sem L.env Mf 50) [.agg [.int .i64 zz,.str cl,.int .i64 (rep:Nat)],.agg [.nilslice,.slice 2 0 T.length none,.slice 3 0 V.length none]] [some (.row 4 [[.nilslice,.slice 2 0 T.length none,.slice 3 0 V.length none,.int .i64 sum]]),none,some (.row 6 (T.map Tm.enc)),some (.row 3 (V.map Vc.enc)),some (.row 1 R),none,some (.row 3 [[.int .i64 zz,.str cl,.int .i64 (rep:Nat)]])] (σ:=[2,3]) (by simp+decide only[go_sem,az,aA,aZ,a6]<;>rfl) rfl rfl (an:=[.agg [.int .i64 zz,.str cl,.int .i64 (rep:Nat)],.agg [.nilslice,.slice 0 0 T.length none,.slice 1 0 V.length none]]) rfl (H0:=[some (.row 6 (T.map Tm.enc)),some (.row 3 (V.map Vc.enc))]) (by simp+decide only[go_sem,a0q,az,aA,aZ,a6]) ce;refine a14 (by kernel_rfl) (by kernel_rfl) rfl (hc.trans ?_) rfl;simp+decide only[go_sem,a0n,az,aA,aZ,a6,r1]<;>rfl
  (repeat first|simp only[ww]|(apply xa;simp+decide only[go_sem,bg,aX];rfl;kernel_rfl))
  refine a1m ?_;rcases bF with ⟨cg,rfl⟩|bF
  ·have bd:=db false cg;refine PanG.seqL ?_;refine pcd 6 (by(simp+decide only[go_sem,c35,e28,bd,bg];rfl)) (by kernel_rfl) rfl rfl rfl rfl rfl (g1:=62) (l:=[.bool false,.int .i64 1]) (by simp only[go_sem]) (by simp only[go_sem]) rfl (a11 al 1)
  have bd:=db true (by rcases bF with ⟨h,_⟩|⟨h,_⟩<;>exact h);refine pcs ?_
  (repeat first|simp only[ww]|(apply xa;simp+decide only[go_sem,aF,bd,bg];rfl;kernel_rfl))
  refine a1m ?_;have eC:IntKind.i64.wrap (sum+(rep:Nat))=sum+(rep:Nat):=w64 (by omega) (by omega);rcases bF with ⟨_,hl,rfl⟩|⟨_,hl,hs,rfl⟩
  ·have c7:¬(V.length:Int)<65536:=by omega
   refine PanG.seqL ?_;refine pcd 17 (by(simp+decide only[go_sem,c35,e28,c7,bg];rfl)) (by kernel_rfl) rfl rfl rfl rfl rfl (g1:=62) (l:=[.bool false,.int .i64 3]) (by simp only[go_sem]) (by simp only[go_sem]) rfl (a11 al 3)
  ·have c7:(V.length:Int)<65536:=by omega
   have c8:¬sum+(rep:Nat)≤1000000:=by omega
   refine PanG.seqL ?_;refine pcd 17 (by(simp+decide only[go_sem,c35,e28,c7,eC,c8,bg];rfl)) (by kernel_rfl) rfl rfl rfl rfl rfl (g1:=62) (l:=[.bool false,.int .i64 3]) (by simp only[go_sem]) (by simp only[go_sem]) rfl (a11 al 3)
theorem c00(al:DrOk L.env)(sum:Int)(n:Nat)(R:List (List AV))(nm cl:List UInt8)(T:List Tm)(a7:T.length≤100000)(V:List Vc)(ap:R.length=n)(bH:3≤n)(aw:FlatR R)(aI:R[1]?=some [.str nm])(aC:R[2]?=some [.str cl])(bL:0≤sum)(cF:sum≤1000000)(e:Int)(bF:((a22 ⟨fnd nm (T.map Tm.name),if cl=[45]then[]else cl,(1:Nat)⟩ ([]:List Sg) T.length=false∧e=1)∨(a22 ⟨fnd nm (T.map Tm.name),if cl=[45]then[]else cl,(1:Nat)⟩ ([]:List Sg) T.length=true∧V.length=65536∧e=3)∨(a22 ⟨fnd nm (T.map Tm.name),if cl=[45]then[]else cl,(1:Nat)⟩ ([]:List Sg) T.length=true∧V.length<65536∧1000000<sum+(1:Nat)∧e=3))):PanF L.env 67 [.ptr 0 0 0,.slice 4 0 3 (some n)] [some (.row 4 [[.nilslice,.slice 2 0 T.length none,.slice 3 0 V.length none,.int .i64 sum]]),none,some (.row 6 (T.map Tm.enc)),some (.row 3 (V.map Vc.enc)),some (.row 1 R),none] (a4m e):=by
 have aF:=λd H e=>a0i (d:=d) H e;have az:=λπ=>a02 π (a0a T);have aA:=a01 (a0a T);have dZ:(T.map Tm.enc).length=T.length:=b41 ..;have aZ:=λπ=>a02 π (a13 V);have a6:=a01 (a13 V);have q1:1<n:=by omega
 have q2:2<n:=by omega
 skip
 have bg:Nat.beq 43 82=false:=by decide
 have bc:=a8o sum nm T a7 V;generalize fnd nm (T.map Tm.name)=zz at *;have cr:∀d,a0e L.env d (sem L.env Mf) (.func (.func 85) [] []) [.ptr 0 0 0,.str nm] [some (.row 4 [[.nilslice,.slice 2 0 T.length none,.slice 3 0 V.length none,.int .i64 sum]]),none,some (.row 6 (T.map Tm.enc)),some (.row 3 (V.map Vc.enc)),some (.row 1 R),none]=some (.int .i64 zz,[some (.row 4 [[.nilslice,.slice 2 0 T.length none,.slice 3 0 V.length none,.int .i64 sum]]),none,some (.row 6 (T.map Tm.enc)),some (.row 3 (V.map Vc.enc)),some (.row 1 R),none],[0,2,3]):=by intro d;have hc:=a0b (sem L.env Mf 85) [.ptr 0 0 0,.str nm] [some (.row 4 [[.nilslice,.slice 2 0 T.length none,.slice 3 0 V.length none,.int .i64 sum]]),none,some (.row 6 (T.map Tm.enc)),some (.row 3 (V.map Vc.enc)),some (.row 1 R),none] (σ:=[0,2,3]) (by simp+decide only[go_sem,az,aA,aZ,a6]<;>rfl) rfl rfl (an:=[.ptr 0 0 0,.str nm]) rfl (H0:=[some (.row 4 [[.nilslice,.slice 1 0 T.length none,.slice 2 0 V.length none,.int .i64 sum]]),some (.row 6 (T.map Tm.enc)),some (.row 3 (V.map Vc.enc))]) (by simp+decide only[go_sem,a0q,az,aA,aZ,a6]) bc;refine a14 (by kernel_rfl) (by kernel_rfl) rfl (hc.trans ?_) rfl;simp+decide only[go_sem,a0n,az,aA,aZ,a6]<;>rfl
 refine pf Tryz.f67 ok al noF (by kernel_rfl) ?_;simp only[Tryz.f67,gS];refine pcs ?_
 (repeat first|simp only[ww]|(apply xa;simp+decide only[go_sem,aF];rfl;kernel_rfl))
 refine a1m ?_;refine pcs ?_
 (repeat first|simp only[ww]|(apply xa;simp+decide only[go_sem,aI,aC,ap,q1,q2,cr,bg];rfl;kernel_rfl))
 refine a1m ?_;refine pcs ?_
 (repeat first|simp only[ww]|(apply xa;simp+decide only[go_sem];rfl;kernel_rfl))
 refine a1m ?_;exact PanG.three (s1:=0) (s2:=1) (s3:=4) (c9i al sum R aw n 3 T a7 V cl 1 zz (by decide) bL cF e bF) rfl rfl rfl
theorem b6g(al:DrOk L.env)(sum:Int)(n:Nat)(R:List (List AV))(nm cl:List UInt8)(rp:List UInt8)(cM:R[3]?=some [.str rp])(T:List Tm)(a7:T.length≤100000)(V:List Vc)(ap:R.length=n)(bH:4≤n)(aw:FlatR R)(aI:R[1]?=some [.str nm])(aC:R[2]?=some [.str cl])(bL:0≤sum)(cF:sum≤1000000)(e:Int)(bF:(¬NumOk rp∧e=4)∨NumOk rp∧((a22 ⟨fnd nm (T.map Tm.name),if cl=[45]then[]else cl,(a09 rp:Nat)⟩ ([]:List Sg) T.length=false∧e=1)∨(a22 ⟨fnd nm (T.map Tm.name),if cl=[45]then[]else cl,(a09 rp:Nat)⟩ ([]:List Sg) T.length=true∧V.length=65536∧e=3)∨(a22 ⟨fnd nm (T.map Tm.name),if cl=[45]then[]else cl,(a09 rp:Nat)⟩ ([]:List Sg) T.length=true∧V.length<65536∧1000000<sum+(a09 rp:Nat)∧e=3))):PanF L.env 67 [.ptr 0 0 0,.slice 4 0 4 (some n)] [some (.row 4 [[.nilslice,.slice 2 0 T.length none,.slice 3 0 V.length none,.int .i64 sum]]),none,some (.row 6 (T.map Tm.enc)),some (.row 3 (V.map Vc.enc)),some (.row 1 R),none] (a4m e):=by
 have aF:=λd H e=>a0i (d:=d) H e;have az:=λπ=>a02 π (a0a T);have aA:=a01 (a0a T);have dZ:(T.map Tm.enc).length=T.length:=b41 ..;have aZ:=λπ=>a02 π (a13 V);have a6:=a01 (a13 V);have q1:1<n:=by omega
 have q2:2<n:=by omega
 have q3:3<n:=by omega
 have bg:Nat.beq 43 82=false:=by decide
 have bc:=a8o sum nm T a7 V;generalize fnd nm (T.map Tm.name)=zz at *;have cr:∀d,a0e L.env d (sem L.env Mf) (.func (.func 85) [] []) [.ptr 0 0 0,.str nm] [some (.row 4 [[.nilslice,.slice 2 0 T.length none,.slice 3 0 V.length none,.int .i64 sum]]),none,some (.row 6 (T.map Tm.enc)),some (.row 3 (V.map Vc.enc)),some (.row 1 R),none]=some (.int .i64 zz,[some (.row 4 [[.nilslice,.slice 2 0 T.length none,.slice 3 0 V.length none,.int .i64 sum]]),none,some (.row 6 (T.map Tm.enc)),some (.row 3 (V.map Vc.enc)),some (.row 1 R),none],[0,2,3]):=by intro d;have hc:=a0b (sem L.env Mf 85) [.ptr 0 0 0,.str nm] [some (.row 4 [[.nilslice,.slice 2 0 T.length none,.slice 3 0 V.length none,.int .i64 sum]]),none,some (.row 6 (T.map Tm.enc)),some (.row 3 (V.map Vc.enc)),some (.row 1 R),none] (σ:=[0,2,3]) (by simp+decide only[go_sem,az,aA,aZ,a6]<;>rfl) rfl rfl (an:=[.ptr 0 0 0,.str nm]) rfl (H0:=[some (.row 4 [[.nilslice,.slice 1 0 T.length none,.slice 2 0 V.length none,.int .i64 sum]]),some (.row 6 (T.map Tm.enc)),some (.row 3 (V.map Vc.enc))]) (by simp+decide only[go_sem,a0q,az,aA,aZ,a6]) bc;refine a14 (by kernel_rfl) (by kernel_rfl) rfl (hc.trans ?_) rfl;simp+decide only[go_sem,a0n,az,aA,aZ,a6]<;>rfl
 refine pf Tryz.f67 ok al noF (by kernel_rfl) ?_;simp only[Tryz.f67,gS];refine pcs ?_
 (repeat first|simp only[ww]|(apply xa;simp+decide only[go_sem,aF];rfl;kernel_rfl))
 refine a1m ?_;refine pcs ?_
 (repeat first|simp only[ww]|(apply xa;simp+decide only[go_sem,aI,aC,ap,q1,q2,cr,bg];rfl;kernel_rfl))
 refine a1m ?_;rcases bF with ⟨bB,rfl⟩|⟨bB,bF⟩
 ·refine PanG.seqL ?_;refine pcs ?_
  (repeat first|simp only[ww]|(apply xa;simp+decide only[go_sem];rfl;kernel_rfl))
  refine a1m ?_;refine PanG.condT (by simp only[go_sem]) ?_;refine pcr 3 (by(simp+decide only[go_sem,c35,e28,cM,ap,q3];rfl)) rfl rfl (a1z (g1:=84) (l:=[.str rp]) rfl (by simp only[go_sem]) (by simp only[go_sem]) rfl (b0z al rp bB))
 have gH:=λd H=>a2m (d:=d) H rp bB;have l8:a09 rp<10000000:=by have:=a84 rp bB.d rp.length (e2c _);rw[e3z]at this;exact e58 this (e5w (e6w (by decide) bB.l7) (by decide))
 refine pcs ?_
 (repeat first|simp only[ww]|(apply xa;simp+decide only[go_sem,cM,ap,q3,gH,bg];rfl;kernel_rfl))
 refine a1m ?_;exact PanG.three (s1:=0) (s2:=1) (s3:=4) (c9i al sum R aw n 4 T a7 V cl (a09 rp) zz l8 bL cF e bF) rfl rfl rfl
theorem c9h(al:DrOk L.env)(sum:Int)(R:List (List AV))(aw:FlatR R)(n m:Nat)(S:List Sg)(T:List Tm)(a7:T.length≤100000)(dQ:S.length≤100000)(cl:List UInt8)(rep:Nat)(zz:Int)(hr:rep<10000000)(bL:0≤sum)(cF:sum≤1000000)(e:Int)(bF:(a22 ⟨zz,if cl=[45]then[]else cl,(rep:Nat)⟩ S T.length=false∧e=1)∨(a22 ⟨zz,if cl=[45]then[]else cl,(rep:Nat)⟩ S T.length=true∧([]:List Vc).length=65536∧e=3)∨(a22 ⟨zz,if cl=[45]then[]else cl,(rep:Nat)⟩ S T.length=true∧([]:List Vc).length<65536∧1000000<sum+(rep:Nat)∧e=3)):PanG (cx L.env Mf 6 81 67 0) a5v [(0,.ptr 0 0 0),(1,.slice 4 0 m (some n)),(4,.ptr 6 0 0)] [some (.row 4 [[.slice 1 0 S.length none,.slice 2 0 T.length none,.nilslice,.int .i64 sum]]),some (.row 2 (S.map Sg.enc)),some (.row 6 (T.map Tm.enc)),none,some (.row 1 R),none,some (.row 3 [[.int .i64 zz,.str cl,.int .i64 (rep:Nat)]])] (a4m e) [] (List.replicate 6 none):=by
 have aF:=λd H e=>a0i (d:=d) H e;have r1:=λπ=>a02 π aw;have r2:=a01 aw;have aO:=λπ=>a02 π (a0s S);have aP:=a01 (a0s S);have az:=λπ=>a02 π (a0a T);have aA:=a01 (a0a T);have dZ:(T.map Tm.enc).length=T.length:=b41 ..;have bg:Nat.beq 43 82=false:=by decide
 skip
 unfold a5v;simp only[Tryz.f67,gS];refine pcs ?_;by_cases aX:cl=[45]
 ·subst aX;rw[e3g rfl]at bF;have db:∀b:Bool,a22 ⟨zz,[],(rep:Nat)⟩ S T.length=b→∀d,a0e L.env d (sem L.env Mf) (.func (.func 50) [] []) [.agg [.int .i64 zz,.str [],.int .i64 (rep:Nat)],.agg [.slice 1 0 S.length none,.slice 2 0 T.length none,.nilslice]] [some (.row 4 [[.slice 1 0 S.length none,.slice 2 0 T.length none,.nilslice,.int .i64 sum]]),some (.row 2 (S.map Sg.enc)),some (.row 6 (T.map Tm.enc)),none,some (.row 1 R),none,some (.row 3 [[.int .i64 zz,.str [],.int .i64 (rep:Nat)]])]=some (.bool b,[some (.row 4 [[.slice 1 0 S.length none,.slice 2 0 T.length none,.nilslice,.int .i64 sum]]),some (.row 2 (S.map Sg.enc)),some (.row 6 (T.map Tm.enc)),none,some (.row 1 R),none,some (.row 3 [[.int .i64 zz,.str [],.int .i64 (rep:Nat)]])],[1,2]):=by
   intro b hb d;have ce:sem L.env Mf 50 [.agg [.int .i64 zz,.str [],.int .i64 (rep:Nat)],.agg [.slice 0 0 S.length none,.slice 1 0 T.length none,.nilslice]] [some (.row 2 (S.map Sg.enc)),some (.row 6 (T.map Tm.enc))]=some (.bool b,[some (.row 2 (S.map Sg.enc)),some (.row 6 (T.map Tm.enc))]):=by
    cases b with
    |false=>exact b53 ⟨zz,[],(rep:Nat)⟩ S T a7 hb dQ
    |true=>exact a64 ⟨zz,[],(rep:Nat)⟩ S T a7 hb dQ
   have hc:=a0b (sem L.env Mf 50) [.agg [.int .i64 zz,.str [],.int .i64 (rep:Nat)],.agg [.slice 1 0 S.length none,.slice 2 0 T.length none,.nilslice]] [some (.row 4 [[.slice 1 0 S.length none,.slice 2 0 T.length none,.nilslice,.int .i64 sum]]),some (.row 2 (S.map Sg.enc)),some (.row 6 (T.map Tm.enc)),none,some (.row 1 R),none,some (.row 3 [[.int .i64 zz,.str [],.int .i64 (rep:Nat)]])] (σ:=[1,2]) (by simp+decide only[go_sem,aO,aP,az,aA]<;>rfl) rfl rfl (an:=[.agg [.int .i64 zz,.str [],.int .i64 (rep:Nat)],.agg [.slice 0 0 S.length none,.slice 1 0 T.length none,.nilslice]]) rfl (H0:=[some (.row 2 (S.map Sg.enc)),some (.row 6 (T.map Tm.enc))]) (by simp+decide only[go_sem,a0q,aO,aP,az,aA]) ce;refine a14 (by kernel_rfl) (by kernel_rfl) rfl (hc.trans ?_) rfl;simp+decide only[go_sem,a0n,aO,aP,az,aA,r1]<;>rfl
  (repeat first|simp only[ww]|(apply xa;simp+decide only[go_sem,bg];rfl;kernel_rfl))
  refine a1m ?_;rcases bF with ⟨cg,rfl⟩|bF
  ·have bd:=db false cg;refine PanG.seqL ?_;refine pcd 6 (by(simp+decide only[go_sem,c35,e28,bd,bg];rfl)) (by kernel_rfl) rfl rfl rfl rfl rfl (g1:=62) (l:=[.bool false,.int .i64 1]) (by simp only[go_sem]) (by simp only[go_sem]) rfl (a11 al 1)
  have bd:=db true (by rcases bF with ⟨h,_⟩|⟨h,_⟩<;>exact h);refine pcs ?_
  (repeat first|simp only[ww]|(apply xa;simp+decide only[go_sem,aF,bd,bg];rfl;kernel_rfl))
  refine a1m ?_;have eC:IntKind.i64.wrap (sum+(rep:Nat))=sum+(rep:Nat):=w64 (by omega) (by omega);rcases bF with ⟨_,hl,rfl⟩|⟨_,hl,hs,rfl⟩
  ·simp at hl
  ·skip
   have c8:¬sum+(rep:Nat)≤1000000:=by omega
   refine PanG.seqL ?_;refine pcd 17 (by(simp+decide only[go_sem,c35,e28,eC,c8,bg];rfl)) (by kernel_rfl) rfl rfl rfl rfl rfl (g1:=62) (l:=[.bool false,.int .i64 3]) (by simp only[go_sem]) (by simp only[go_sem]) rfl (a11 al 3)
 ·skip
  rw[e2i aX]at bF;have db:∀b:Bool,a22 ⟨zz,cl,(rep:Nat)⟩ S T.length=b→∀d,a0e L.env d (sem L.env Mf) (.func (.func 50) [] []) [.agg [.int .i64 zz,.str cl,.int .i64 (rep:Nat)],.agg [.slice 1 0 S.length none,.slice 2 0 T.length none,.nilslice]] [some (.row 4 [[.slice 1 0 S.length none,.slice 2 0 T.length none,.nilslice,.int .i64 sum]]),some (.row 2 (S.map Sg.enc)),some (.row 6 (T.map Tm.enc)),none,some (.row 1 R),none,some (.row 3 [[.int .i64 zz,.str cl,.int .i64 (rep:Nat)]])]=some (.bool b,[some (.row 4 [[.slice 1 0 S.length none,.slice 2 0 T.length none,.nilslice,.int .i64 sum]]),some (.row 2 (S.map Sg.enc)),some (.row 6 (T.map Tm.enc)),none,some (.row 1 R),none,some (.row 3 [[.int .i64 zz,.str cl,.int .i64 (rep:Nat)]])],[1,2]):=by
   intro b hb d;have ce:sem L.env Mf 50 [.agg [.int .i64 zz,.str cl,.int .i64 (rep:Nat)],.agg [.slice 0 0 S.length none,.slice 1 0 T.length none,.nilslice]] [some (.row 2 (S.map Sg.enc)),some (.row 6 (T.map Tm.enc))]=some (.bool b,[some (.row 2 (S.map Sg.enc)),some (.row 6 (T.map Tm.enc))]):=by
    cases b with
    |false=>exact b53 ⟨zz,cl,(rep:Nat)⟩ S T a7 hb dQ
    |true=>exact a64 ⟨zz,cl,(rep:Nat)⟩ S T a7 hb dQ
   have hc:=a0b (sem L.env Mf 50) [.agg [.int .i64 zz,.str cl,.int .i64 (rep:Nat)],.agg [.slice 1 0 S.length none,.slice 2 0 T.length none,.nilslice]] [some (.row 4 [[.slice 1 0 S.length none,.slice 2 0 T.length none,.nilslice,.int .i64 sum]]),some (.row 2 (S.map Sg.enc)),some (.row 6 (T.map Tm.enc)),none,some (.row 1 R),none,some (.row 3 [[.int .i64 zz,.str cl,.int .i64 (rep:Nat)]])] (σ:=[1,2]) (by simp+decide only[go_sem,aO,aP,az,aA]<;>rfl) rfl rfl (an:=[.agg [.int .i64 zz,.str cl,.int .i64 (rep:Nat)],.agg [.slice 0 0 S.length none,.slice 1 0 T.length none,.nilslice]]) rfl (H0:=[some (.row 2 (S.map Sg.enc)),some (.row 6 (T.map Tm.enc))]) (by simp+decide only[go_sem,a0q,aO,aP,az,aA]) ce;refine a14 (by kernel_rfl) (by kernel_rfl) rfl (hc.trans ?_) rfl;simp+decide only[go_sem,a0n,aO,aP,az,aA,r1]<;>rfl
  (repeat first|simp only[ww]|(apply xa;simp+decide only[go_sem,bg,aX];rfl;kernel_rfl))
  refine a1m ?_;rcases bF with ⟨cg,rfl⟩|bF
  ·have bd:=db false cg;refine PanG.seqL ?_;refine pcd 6 (by(simp+decide only[go_sem,c35,e28,bd,bg];rfl)) (by kernel_rfl) rfl rfl rfl rfl rfl (g1:=62) (l:=[.bool false,.int .i64 1]) (by simp only[go_sem]) (by simp only[go_sem]) rfl (a11 al 1)
  have bd:=db true (by rcases bF with ⟨h,_⟩|⟨h,_⟩<;>exact h);refine pcs ?_
  (repeat first|simp only[ww]|(apply xa;simp+decide only[go_sem,aF,bd,bg];rfl;kernel_rfl))
  refine a1m ?_;have eC:IntKind.i64.wrap (sum+(rep:Nat))=sum+(rep:Nat):=w64 (by omega) (by omega);rcases bF with ⟨_,hl,rfl⟩|⟨_,hl,hs,rfl⟩
  ·simp at hl
  ·skip
   have c8:¬sum+(rep:Nat)≤1000000:=by omega
   refine PanG.seqL ?_;refine pcd 17 (by(simp+decide only[go_sem,c35,e28,eC,c8,bg];rfl)) (by kernel_rfl) rfl rfl rfl rfl rfl (g1:=62) (l:=[.bool false,.int .i64 3]) (by simp only[go_sem]) (by simp only[go_sem]) rfl (a11 al 3)
theorem b9z(al:DrOk L.env)(sum:Int)(n:Nat)(R:List (List AV))(nm cl:List UInt8)(S:List Sg)(T:List Tm)(a7:T.length≤100000)(dQ:S.length≤100000)(ap:R.length=n)(bH:3≤n)(aw:FlatR R)(aI:R[1]?=some [.str nm])(aC:R[2]?=some [.str cl])(bL:0≤sum)(cF:sum≤1000000)(e:Int)(bF:((a22 ⟨fnd nm (T.map Tm.name),if cl=[45]then[]else cl,(1:Nat)⟩ S T.length=false∧e=1)∨(a22 ⟨fnd nm (T.map Tm.name),if cl=[45]then[]else cl,(1:Nat)⟩ S T.length=true∧([]:List Vc).length=65536∧e=3)∨(a22 ⟨fnd nm (T.map Tm.name),if cl=[45]then[]else cl,(1:Nat)⟩ S T.length=true∧([]:List Vc).length<65536∧1000000<sum+(1:Nat)∧e=3))):PanF L.env 67 [.ptr 0 0 0,.slice 4 0 3 (some n)] [some (.row 4 [[.slice 1 0 S.length none,.slice 2 0 T.length none,.nilslice,.int .i64 sum]]),some (.row 2 (S.map Sg.enc)),some (.row 6 (T.map Tm.enc)),none,some (.row 1 R),none] (a4m e):=by
 have aF:=λd H e=>a0i (d:=d) H e;have aO:=λπ=>a02 π (a0s S);have aP:=a01 (a0s S);have az:=λπ=>a02 π (a0a T);have aA:=a01 (a0a T);have dZ:(T.map Tm.enc).length=T.length:=b41 ..;have q1:1<n:=by omega
 have q2:2<n:=by omega
 skip
 have bg:Nat.beq 43 82=false:=by decide
 have bc:=a6j sum nm S T a7;generalize fnd nm (T.map Tm.name)=zz at *;have cr:∀d,a0e L.env d (sem L.env Mf) (.func (.func 85) [] []) [.ptr 0 0 0,.str nm] [some (.row 4 [[.slice 1 0 S.length none,.slice 2 0 T.length none,.nilslice,.int .i64 sum]]),some (.row 2 (S.map Sg.enc)),some (.row 6 (T.map Tm.enc)),none,some (.row 1 R),none]=some (.int .i64 zz,[some (.row 4 [[.slice 1 0 S.length none,.slice 2 0 T.length none,.nilslice,.int .i64 sum]]),some (.row 2 (S.map Sg.enc)),some (.row 6 (T.map Tm.enc)),none,some (.row 1 R),none],[0,1,2]):=by intro d;have hc:=a0b (sem L.env Mf 85) [.ptr 0 0 0,.str nm] [some (.row 4 [[.slice 1 0 S.length none,.slice 2 0 T.length none,.nilslice,.int .i64 sum]]),some (.row 2 (S.map Sg.enc)),some (.row 6 (T.map Tm.enc)),none,some (.row 1 R),none] (σ:=[0,1,2]) (by simp+decide only[go_sem,aO,aP,az,aA]<;>rfl) rfl rfl (an:=[.ptr 0 0 0,.str nm]) rfl (H0:=[some (.row 4 [[.slice 1 0 S.length none,.slice 2 0 T.length none,.nilslice,.int .i64 sum]]),some (.row 2 (S.map Sg.enc)),some (.row 6 (T.map Tm.enc))]) (by simp+decide only[go_sem,a0q,aO,aP,az,aA]) bc;refine a14 (by kernel_rfl) (by kernel_rfl) rfl (hc.trans ?_) rfl;simp+decide only[go_sem,a0n,aO,aP,az,aA]<;>rfl
 refine pf Tryz.f67 ok al noF (by kernel_rfl) ?_;simp only[Tryz.f67,gS];refine pcs ?_
 (repeat first|simp only[ww]|(apply xa;simp+decide only[go_sem,aF];rfl;kernel_rfl))
 refine a1m ?_;refine pcs ?_
 (repeat first|simp only[ww]|(apply xa;simp+decide only[go_sem,aI,aC,ap,q1,q2,cr,bg];rfl;kernel_rfl))
 refine a1m ?_;refine pcs ?_
 (repeat first|simp only[ww]|(apply xa;simp+decide only[go_sem];rfl;kernel_rfl))
 refine a1m ?_;exact PanG.three (s1:=0) (s2:=1) (s3:=4) (c9h al sum R aw n 3 S T a7 dQ cl 1 zz (by decide) bL cF e bF) rfl rfl rfl
theorem b6f(al:DrOk L.env)(sum:Int)(n:Nat)(R:List (List AV))(nm cl:List UInt8)(rp:List UInt8)(cM:R[3]?=some [.str rp])(S:List Sg)(T:List Tm)(a7:T.length≤100000)(dQ:S.length≤100000)(ap:R.length=n)(bH:4≤n)(aw:FlatR R)(aI:R[1]?=some [.str nm])(aC:R[2]?=some [.str cl])(bL:0≤sum)(cF:sum≤1000000)(e:Int)(bF:(¬NumOk rp∧e=4)∨NumOk rp∧((a22 ⟨fnd nm (T.map Tm.name),if cl=[45]then[]else cl,(a09 rp:Nat)⟩ S T.length=false∧e=1)∨(a22 ⟨fnd nm (T.map Tm.name),if cl=[45]then[]else cl,(a09 rp:Nat)⟩ S T.length=true∧([]:List Vc).length=65536∧e=3)∨(a22 ⟨fnd nm (T.map Tm.name),if cl=[45]then[]else cl,(a09 rp:Nat)⟩ S T.length=true∧([]:List Vc).length<65536∧1000000<sum+(a09 rp:Nat)∧e=3))):PanF L.env 67 [.ptr 0 0 0,.slice 4 0 4 (some n)] [some (.row 4 [[.slice 1 0 S.length none,.slice 2 0 T.length none,.nilslice,.int .i64 sum]]),some (.row 2 (S.map Sg.enc)),some (.row 6 (T.map Tm.enc)),none,some (.row 1 R),none] (a4m e):=by
 have aF:=λd H e=>a0i (d:=d) H e;have aO:=λπ=>a02 π (a0s S);have aP:=a01 (a0s S);have az:=λπ=>a02 π (a0a T);have aA:=a01 (a0a T);have dZ:(T.map Tm.enc).length=T.length:=b41 ..;have q1:1<n:=by omega
 have q2:2<n:=by omega
 have q3:3<n:=by omega
 have bg:Nat.beq 43 82=false:=by decide
 have bc:=a6j sum nm S T a7;generalize fnd nm (T.map Tm.name)=zz at *;have cr:∀d,a0e L.env d (sem L.env Mf) (.func (.func 85) [] []) [.ptr 0 0 0,.str nm] [some (.row 4 [[.slice 1 0 S.length none,.slice 2 0 T.length none,.nilslice,.int .i64 sum]]),some (.row 2 (S.map Sg.enc)),some (.row 6 (T.map Tm.enc)),none,some (.row 1 R),none]=some (.int .i64 zz,[some (.row 4 [[.slice 1 0 S.length none,.slice 2 0 T.length none,.nilslice,.int .i64 sum]]),some (.row 2 (S.map Sg.enc)),some (.row 6 (T.map Tm.enc)),none,some (.row 1 R),none],[0,1,2]):=by intro d;have hc:=a0b (sem L.env Mf 85) [.ptr 0 0 0,.str nm] [some (.row 4 [[.slice 1 0 S.length none,.slice 2 0 T.length none,.nilslice,.int .i64 sum]]),some (.row 2 (S.map Sg.enc)),some (.row 6 (T.map Tm.enc)),none,some (.row 1 R),none] (σ:=[0,1,2]) (by simp+decide only[go_sem,aO,aP,az,aA]<;>rfl) rfl rfl (an:=[.ptr 0 0 0,.str nm]) rfl (H0:=[some (.row 4 [[.slice 1 0 S.length none,.slice 2 0 T.length none,.nilslice,.int .i64 sum]]),some (.row 2 (S.map Sg.enc)),some (.row 6 (T.map Tm.enc))]) (by simp+decide only[go_sem,a0q,aO,aP,az,aA]) bc;refine a14 (by kernel_rfl) (by kernel_rfl) rfl (hc.trans ?_) rfl;simp+decide only[go_sem,a0n,aO,aP,az,aA]<;>rfl
 refine pf Tryz.f67 ok al noF (by kernel_rfl) ?_;simp only[Tryz.f67,gS];refine pcs ?_
 (repeat first|simp only[ww]|(apply xa;simp+decide only[go_sem,aF];rfl;kernel_rfl))
 refine a1m ?_;refine pcs ?_
 (repeat first|simp only[ww]|(apply xa;simp+decide only[go_sem,aI,aC,ap,q1,q2,cr,bg];rfl;kernel_rfl))
 refine a1m ?_;rcases bF with ⟨bB,rfl⟩|⟨bB,bF⟩
 ·refine PanG.seqL ?_;refine pcs ?_
  (repeat first|simp only[ww]|(apply xa;simp+decide only[go_sem];rfl;kernel_rfl))
  refine a1m ?_;refine PanG.condT (by simp only[go_sem]) ?_;refine pcr 3 (by(simp+decide only[go_sem,c35,e28,cM,ap,q3];rfl)) rfl rfl (a1z (g1:=84) (l:=[.str rp]) rfl (by simp only[go_sem]) (by simp only[go_sem]) rfl (b0z al rp bB))
 have gH:=λd H=>a2m (d:=d) H rp bB;have l8:a09 rp<10000000:=by have:=a84 rp bB.d rp.length (e2c _);rw[e3z]at this;exact e58 this (e5w (e6w (by decide) bB.l7) (by decide))
 refine pcs ?_
 (repeat first|simp only[ww]|(apply xa;simp+decide only[go_sem,cM,ap,q3,gH,bg];rfl;kernel_rfl))
 refine a1m ?_;exact PanG.three (s1:=0) (s2:=1) (s3:=4) (c9h al sum R aw n 4 S T a7 dQ cl (a09 rp) zz l8 bL cF e bF) rfl rfl rfl
theorem c9g(al:DrOk L.env)(sum:Int)(R:List (List AV))(aw:FlatR R)(n m:Nat)(S:List Sg)(T:List Tm)(a7:T.length≤100000)(V:List Vc)(dQ:S.length≤100000)(cl:List UInt8)(rep:Nat)(zz:Int)(hr:rep<10000000)(bL:0≤sum)(cF:sum≤1000000)(e:Int)(bF:(a22 ⟨zz,if cl=[45]then[]else cl,(rep:Nat)⟩ S T.length=false∧e=1)∨(a22 ⟨zz,if cl=[45]then[]else cl,(rep:Nat)⟩ S T.length=true∧V.length=65536∧e=3)∨(a22 ⟨zz,if cl=[45]then[]else cl,(rep:Nat)⟩ S T.length=true∧V.length<65536∧1000000<sum+(rep:Nat)∧e=3)):PanG (cx L.env Mf 6 81 67 0) a5v [(0,.ptr 0 0 0),(1,.slice 4 0 m (some n)),(4,.ptr 6 0 0)] [some (.row 4 [[.slice 1 0 S.length none,.slice 2 0 T.length none,.slice 3 0 V.length none,.int .i64 sum]]),some (.row 2 (S.map Sg.enc)),some (.row 6 (T.map Tm.enc)),some (.row 3 (V.map Vc.enc)),some (.row 1 R),none,some (.row 3 [[.int .i64 zz,.str cl,.int .i64 (rep:Nat)]])] (a4m e) [] (List.replicate 6 none):=by
 have aF:=λd H e=>a0i (d:=d) H e;have r1:=λπ=>a02 π aw;have r2:=a01 aw;have aO:=λπ=>a02 π (a0s S);have aP:=a01 (a0s S);have az:=λπ=>a02 π (a0a T);have aA:=a01 (a0a T);have dZ:(T.map Tm.enc).length=T.length:=b41 ..;have aZ:=λπ=>a02 π (a13 V);have a6:=a01 (a13 V);have bg:Nat.beq 43 82=false:=by decide
 have jE:(V.map Vc.enc).length=V.length:=b41 ..;unfold a5v;simp only[Tryz.f67,gS];refine pcs ?_;by_cases aX:cl=[45]
 ·subst aX;rw[e3g rfl]at bF;have db:∀b:Bool,a22 ⟨zz,[],(rep:Nat)⟩ S T.length=b→∀d,a0e L.env d (sem L.env Mf) (.func (.func 50) [] []) [.agg [.int .i64 zz,.str [],.int .i64 (rep:Nat)],.agg [.slice 1 0 S.length none,.slice 2 0 T.length none,.slice 3 0 V.length none]] [some (.row 4 [[.slice 1 0 S.length none,.slice 2 0 T.length none,.slice 3 0 V.length none,.int .i64 sum]]),some (.row 2 (S.map Sg.enc)),some (.row 6 (T.map Tm.enc)),some (.row 3 (V.map Vc.enc)),some (.row 1 R),none,some (.row 3 [[.int .i64 zz,.str [],.int .i64 (rep:Nat)]])]=some (.bool b,[some (.row 4 [[.slice 1 0 S.length none,.slice 2 0 T.length none,.slice 3 0 V.length none,.int .i64 sum]]),some (.row 2 (S.map Sg.enc)),some (.row 6 (T.map Tm.enc)),some (.row 3 (V.map Vc.enc)),some (.row 1 R),none,some (.row 3 [[.int .i64 zz,.str [],.int .i64 (rep:Nat)]])],[1,2,3]):=by
   intro b hb d;have ce:sem L.env Mf 50 [.agg [.int .i64 zz,.str [],.int .i64 (rep:Nat)],.agg [.slice 0 0 S.length none,.slice 1 0 T.length none,.slice 2 0 V.length none]] [some (.row 2 (S.map Sg.enc)),some (.row 6 (T.map Tm.enc)),some (.row 3 (V.map Vc.enc))]=some (.bool b,[some (.row 2 (S.map Sg.enc)),some (.row 6 (T.map Tm.enc)),some (.row 3 (V.map Vc.enc))]):=by
    cases b with
    |false=>exact b52 ⟨zz,[],(rep:Nat)⟩ S T a7 V hb dQ
    |true=>exact a63 ⟨zz,[],(rep:Nat)⟩ S T a7 V hb dQ
   have hc:=a0b (sem L.env Mf 50) [.agg [.int .i64 zz,.str [],.int .i64 (rep:Nat)],.agg [.slice 1 0 S.length none,.slice 2 0 T.length none,.slice 3 0 V.length none]] [some (.row 4 [[.slice 1 0 S.length none,.slice 2 0 T.length none,.slice 3 0 V.length none,.int .i64 sum]]),some (.row 2 (S.map Sg.enc)),some (.row 6 (T.map Tm.enc)),some (.row 3 (V.map Vc.enc)),some (.row 1 R),none,some (.row 3 [[.int .i64 zz,.str [],.int .i64 (rep:Nat)]])] (σ:=[1,2,3]) (by simp+decide only[go_sem,aO,aP,az,aA,aZ,a6]<;>rfl) rfl rfl (an:=[.agg [.int .i64 zz,.str [],.int .i64 (rep:Nat)],.agg [.slice 0 0 S.length none,.slice 1 0 T.length none,.slice 2 0 V.length none]]) rfl (H0:=[some (.row 2 (S.map Sg.enc)),some (.row 6 (T.map Tm.enc)),some (.row 3 (V.map Vc.enc))]) (by simp+decide only[go_sem,a0q,aO,aP,az,aA,aZ,a6]) ce;refine a14 (by kernel_rfl) (by kernel_rfl) rfl (hc.trans ?_) rfl;simp+decide only[go_sem,a0n,aO,aP,az,aA,aZ,a6,r1]<;>rfl
  (repeat first|simp only[ww]|(apply xa;simp+decide only[go_sem,bg];rfl;kernel_rfl))
  refine a1m ?_;rcases bF with ⟨cg,rfl⟩|bF
  ·have bd:=db false cg;refine PanG.seqL ?_;refine pcd 6 (by(simp+decide only[go_sem,c35,e28,bd,bg];rfl)) (by kernel_rfl) rfl rfl rfl rfl rfl (g1:=62) (l:=[.bool false,.int .i64 1]) (by simp only[go_sem]) (by simp only[go_sem]) rfl (a11 al 1)
  have bd:=db true (by rcases bF with ⟨h,_⟩|⟨h,_⟩<;>exact h);refine pcs ?_
  (repeat first|simp only[ww]|(apply xa;simp+decide only[go_sem,aF,bd,bg];rfl;kernel_rfl))
  refine a1m ?_;have eC:IntKind.i64.wrap (sum+(rep:Nat))=sum+(rep:Nat):=w64 (by omega) (by omega);rcases bF with ⟨_,hl,rfl⟩|⟨_,hl,hs,rfl⟩
  ·have c7:¬(V.length:Int)<65536:=by omega
   refine PanG.seqL ?_;refine pcd 17 (by(simp+decide only[go_sem,c35,e28,c7,bg];rfl)) (by kernel_rfl) rfl rfl rfl rfl rfl (g1:=62) (l:=[.bool false,.int .i64 3]) (by simp only[go_sem]) (by simp only[go_sem]) rfl (a11 al 3)
  ·have c7:(V.length:Int)<65536:=by omega
   have c8:¬sum+(rep:Nat)≤1000000:=by omega
   refine PanG.seqL ?_;refine pcd 17 (by(simp+decide only[go_sem,c35,e28,c7,eC,c8,bg];rfl)) (by kernel_rfl) rfl rfl rfl rfl rfl (g1:=62) (l:=[.bool false,.int .i64 3]) (by simp only[go_sem]) (by simp only[go_sem]) rfl (a11 al 3)
 ·skip
  rw[e2i aX]at bF;have db:∀b:Bool,a22 ⟨zz,cl,(rep:Nat)⟩ S T.length=b→∀d,a0e L.env d (sem L.env Mf) (.func (.func 50) [] []) [.agg [.int .i64 zz,.str cl,.int .i64 (rep:Nat)],.agg [.slice 1 0 S.length none,.slice 2 0 T.length none,.slice 3 0 V.length none]] [some (.row 4 [[.slice 1 0 S.length none,.slice 2 0 T.length none,.slice 3 0 V.length none,.int .i64 sum]]),some (.row 2 (S.map Sg.enc)),some (.row 6 (T.map Tm.enc)),some (.row 3 (V.map Vc.enc)),some (.row 1 R),none,some (.row 3 [[.int .i64 zz,.str cl,.int .i64 (rep:Nat)]])]=some (.bool b,[some (.row 4 [[.slice 1 0 S.length none,.slice 2 0 T.length none,.slice 3 0 V.length none,.int .i64 sum]]),some (.row 2 (S.map Sg.enc)),some (.row 6 (T.map Tm.enc)),some (.row 3 (V.map Vc.enc)),some (.row 1 R),none,some (.row 3 [[.int .i64 zz,.str cl,.int .i64 (rep:Nat)]])],[1,2,3]):=by
   intro b hb d;have ce:sem L.env Mf 50 [.agg [.int .i64 zz,.str cl,.int .i64 (rep:Nat)],.agg [.slice 0 0 S.length none,.slice 1 0 T.length none,.slice 2 0 V.length none]] [some (.row 2 (S.map Sg.enc)),some (.row 6 (T.map Tm.enc)),some (.row 3 (V.map Vc.enc))]=some (.bool b,[some (.row 2 (S.map Sg.enc)),some (.row 6 (T.map Tm.enc)),some (.row 3 (V.map Vc.enc))]):=by
    cases b with
    |false=>exact b52 ⟨zz,cl,(rep:Nat)⟩ S T a7 V hb dQ
    |true=>exact a63 ⟨zz,cl,(rep:Nat)⟩ S T a7 V hb dQ
   have hc:=a0b (sem L.env Mf 50) [.agg [.int .i64 zz,.str cl,.int .i64 (rep:Nat)],.agg [.slice 1 0 S.length none,.slice 2 0 T.length none,.slice 3 0 V.length none]] [some (.row 4 [[.slice 1 0 S.length none,.slice 2 0 T.length none,.slice 3 0 V.length none,.int .i64 sum]]),some (.row 2 (S.map Sg.enc)),some (.row 6 (T.map Tm.enc)),some (.row 3 (V.map Vc.enc)),some (.row 1 R),none,some (.row 3 [[.int .i64 zz,.str cl,.int .i64 (rep:Nat)]])] (σ:=[1,2,3]) (by simp+decide only[go_sem,aO,aP,az,aA,aZ,a6]<;>rfl) rfl rfl (an:=[.agg [.int .i64 zz,.str cl,.int .i64 (rep:Nat)],.agg [.slice 0 0 S.length none,.slice 1 0 T.length none,.slice 2 0 V.length none]]) rfl (H0:=[some (.row 2 (S.map Sg.enc)),some (.row 6 (T.map Tm.enc)),some (.row 3 (V.map Vc.enc))]) (by simp+decide only[go_sem,a0q,aO,aP,az,aA,aZ,a6]) ce;refine a14 (by kernel_rfl) (by kernel_rfl) rfl (hc.trans ?_) rfl;simp+decide only[go_sem,a0n,aO,aP,az,aA,aZ,a6,r1]<;>rfl
  (repeat first|simp only[ww]|(apply xa;simp+decide only[go_sem,bg,aX];rfl;kernel_rfl))
  refine a1m ?_;rcases bF with ⟨cg,rfl⟩|bF
  ·have bd:=db false cg;refine PanG.seqL ?_;refine pcd 6 (by(simp+decide only[go_sem,c35,e28,bd,bg];rfl)) (by kernel_rfl) rfl rfl rfl rfl rfl (g1:=62) (l:=[.bool false,.int .i64 1]) (by simp only[go_sem]) (by simp only[go_sem]) rfl (a11 al 1)
  have bd:=db true (by rcases bF with ⟨h,_⟩|⟨h,_⟩<;>exact h);refine pcs ?_
  (repeat first|simp only[ww]|(apply xa;simp+decide only[go_sem,aF,bd,bg];rfl;kernel_rfl))
  refine a1m ?_;have eC:IntKind.i64.wrap (sum+(rep:Nat))=sum+(rep:Nat):=w64 (by omega) (by omega);rcases bF with ⟨_,hl,rfl⟩|⟨_,hl,hs,rfl⟩
  ·have c7:¬(V.length:Int)<65536:=by omega
   refine PanG.seqL ?_;refine pcd 17 (by(simp+decide only[go_sem,c35,e28,c7,bg];rfl)) (by kernel_rfl) rfl rfl rfl rfl rfl (g1:=62) (l:=[.bool false,.int .i64 3]) (by simp only[go_sem]) (by simp only[go_sem]) rfl (a11 al 3)
  ·have c7:(V.length:Int)<65536:=by omega
   have c8:¬sum+(rep:Nat)≤1000000:=by omega
   refine PanG.seqL ?_;refine pcd 17 (by(simp+decide only[go_sem,c35,e28,c7,eC,c8,bg];rfl)) (by kernel_rfl) rfl rfl rfl rfl rfl (g1:=62) (l:=[.bool false,.int .i64 3]) (by simp only[go_sem]) (by simp only[go_sem]) rfl (a11 al 3)
theorem b9y(al:DrOk L.env)(sum:Int)(n:Nat)(R:List (List AV))(nm cl:List UInt8)(S:List Sg)(T:List Tm)(a7:T.length≤100000)(V:List Vc)(dQ:S.length≤100000)(ap:R.length=n)(bH:3≤n)(aw:FlatR R)(aI:R[1]?=some [.str nm])(aC:R[2]?=some [.str cl])(bL:0≤sum)(cF:sum≤1000000)(e:Int)(bF:((a22 ⟨fnd nm (T.map Tm.name),if cl=[45]then[]else cl,(1:Nat)⟩ S T.length=false∧e=1)∨(a22 ⟨fnd nm (T.map Tm.name),if cl=[45]then[]else cl,(1:Nat)⟩ S T.length=true∧V.length=65536∧e=3)∨(a22 ⟨fnd nm (T.map Tm.name),if cl=[45]then[]else cl,(1:Nat)⟩ S T.length=true∧V.length<65536∧1000000<sum+(1:Nat)∧e=3))):PanF L.env 67 [.ptr 0 0 0,.slice 4 0 3 (some n)] [some (.row 4 [[.slice 1 0 S.length none,.slice 2 0 T.length none,.slice 3 0 V.length none,.int .i64 sum]]),some (.row 2 (S.map Sg.enc)),some (.row 6 (T.map Tm.enc)),some (.row 3 (V.map Vc.enc)),some (.row 1 R),none] (a4m e):=by
 have aF:=λd H e=>a0i (d:=d) H e;have aO:=λπ=>a02 π (a0s S);have aP:=a01 (a0s S);have az:=λπ=>a02 π (a0a T);have aA:=a01 (a0a T);have dZ:(T.map Tm.enc).length=T.length:=b41 ..;have aZ:=λπ=>a02 π (a13 V);have a6:=a01 (a13 V);have q1:1<n:=by omega
 have q2:2<n:=by omega
 skip
 have bg:Nat.beq 43 82=false:=by decide
 have bc:=a8n sum nm S T a7 V;generalize fnd nm (T.map Tm.name)=zz at *;have cr:∀d,a0e L.env d (sem L.env Mf) (.func (.func 85) [] []) [.ptr 0 0 0,.str nm] [some (.row 4 [[.slice 1 0 S.length none,.slice 2 0 T.length none,.slice 3 0 V.length none,.int .i64 sum]]),some (.row 2 (S.map Sg.enc)),some (.row 6 (T.map Tm.enc)),some (.row 3 (V.map Vc.enc)),some (.row 1 R),none]=some (.int .i64 zz,[some (.row 4 [[.slice 1 0 S.length none,.slice 2 0 T.length none,.slice 3 0 V.length none,.int .i64 sum]]),some (.row 2 (S.map Sg.enc)),some (.row 6 (T.map Tm.enc)),some (.row 3 (V.map Vc.enc)),some (.row 1 R),none],[0,1,2,3]):=by intro d;have hc:=a0b (sem L.env Mf 85) [.ptr 0 0 0,.str nm] [some (.row 4 [[.slice 1 0 S.length none,.slice 2 0 T.length none,.slice 3 0 V.length none,.int .i64 sum]]),some (.row 2 (S.map Sg.enc)),some (.row 6 (T.map Tm.enc)),some (.row 3 (V.map Vc.enc)),some (.row 1 R),none] (σ:=[0,1,2,3]) (by simp+decide only[go_sem,aO,aP,az,aA,aZ,a6]<;>rfl) rfl rfl (an:=[.ptr 0 0 0,.str nm]) rfl (H0:=[some (.row 4 [[.slice 1 0 S.length none,.slice 2 0 T.length none,.slice 3 0 V.length none,.int .i64 sum]]),some (.row 2 (S.map Sg.enc)),some (.row 6 (T.map Tm.enc)),some (.row 3 (V.map Vc.enc))]) (by simp+decide only[go_sem,a0q,aO,aP,az,aA,aZ,a6]) bc;refine a14 (by kernel_rfl) (by kernel_rfl) rfl (hc.trans ?_) rfl;simp+decide only[go_sem,a0n,aO,aP,az,aA,aZ,a6]<;>rfl
 refine pf Tryz.f67 ok al noF (by kernel_rfl) ?_;simp only[Tryz.f67,gS];refine pcs ?_
 (repeat first|simp only[ww]|(apply xa;simp+decide only[go_sem,aF];rfl;kernel_rfl))
 refine a1m ?_;refine pcs ?_
 (repeat first|simp only[ww]|(apply xa;simp+decide only[go_sem,aI,aC,ap,q1,q2,cr,bg];rfl;kernel_rfl))
 refine a1m ?_;refine pcs ?_
 (repeat first|simp only[ww]|(apply xa;simp+decide only[go_sem];rfl;kernel_rfl))
 refine a1m ?_;exact PanG.three (s1:=0) (s2:=1) (s3:=4) (c9g al sum R aw n 3 S T a7 V dQ cl 1 zz (by decide) bL cF e bF) rfl rfl rfl
theorem b6e(al:DrOk L.env)(sum:Int)(n:Nat)(R:List (List AV))(nm cl:List UInt8)(rp:List UInt8)(cM:R[3]?=some [.str rp])(S:List Sg)(T:List Tm)(a7:T.length≤100000)(V:List Vc)(dQ:S.length≤100000)(ap:R.length=n)(bH:4≤n)(aw:FlatR R)(aI:R[1]?=some [.str nm])(aC:R[2]?=some [.str cl])(bL:0≤sum)(cF:sum≤1000000)(e:Int)(bF:(¬NumOk rp∧e=4)∨NumOk rp∧((a22 ⟨fnd nm (T.map Tm.name),if cl=[45]then[]else cl,(a09 rp:Nat)⟩ S T.length=false∧e=1)∨(a22 ⟨fnd nm (T.map Tm.name),if cl=[45]then[]else cl,(a09 rp:Nat)⟩ S T.length=true∧V.length=65536∧e=3)∨(a22 ⟨fnd nm (T.map Tm.name),if cl=[45]then[]else cl,(a09 rp:Nat)⟩ S T.length=true∧V.length<65536∧1000000<sum+(a09 rp:Nat)∧e=3))):PanF L.env 67 [.ptr 0 0 0,.slice 4 0 4 (some n)] [some (.row 4 [[.slice 1 0 S.length none,.slice 2 0 T.length none,.slice 3 0 V.length none,.int .i64 sum]]),some (.row 2 (S.map Sg.enc)),some (.row 6 (T.map Tm.enc)),some (.row 3 (V.map Vc.enc)),some (.row 1 R),none] (a4m e):=by
 have aF:=λd H e=>a0i (d:=d) H e;have aO:=λπ=>a02 π (a0s S);have aP:=a01 (a0s S);have az:=λπ=>a02 π (a0a T);have aA:=a01 (a0a T);have dZ:(T.map Tm.enc).length=T.length:=b41 ..;have aZ:=λπ=>a02 π (a13 V);have a6:=a01 (a13 V);have q1:1<n:=by omega
 have q2:2<n:=by omega
 have q3:3<n:=by omega
 have bg:Nat.beq 43 82=false:=by decide
 have bc:=a8n sum nm S T a7 V;generalize fnd nm (T.map Tm.name)=zz at *;have cr:∀d,a0e L.env d (sem L.env Mf) (.func (.func 85) [] []) [.ptr 0 0 0,.str nm] [some (.row 4 [[.slice 1 0 S.length none,.slice 2 0 T.length none,.slice 3 0 V.length none,.int .i64 sum]]),some (.row 2 (S.map Sg.enc)),some (.row 6 (T.map Tm.enc)),some (.row 3 (V.map Vc.enc)),some (.row 1 R),none]=some (.int .i64 zz,[some (.row 4 [[.slice 1 0 S.length none,.slice 2 0 T.length none,.slice 3 0 V.length none,.int .i64 sum]]),some (.row 2 (S.map Sg.enc)),some (.row 6 (T.map Tm.enc)),some (.row 3 (V.map Vc.enc)),some (.row 1 R),none],[0,1,2,3]):=by intro d;have hc:=a0b (sem L.env Mf 85) [.ptr 0 0 0,.str nm] [some (.row 4 [[.slice 1 0 S.length none,.slice 2 0 T.length none,.slice 3 0 V.length none,.int .i64 sum]]),some (.row 2 (S.map Sg.enc)),some (.row 6 (T.map Tm.enc)),some (.row 3 (V.map Vc.enc)),some (.row 1 R),none] (σ:=[0,1,2,3]) (by simp+decide only[go_sem,aO,aP,az,aA,aZ,a6]<;>rfl) rfl rfl (an:=[.ptr 0 0 0,.str nm]) rfl (H0:=[some (.row 4 [[.slice 1 0 S.length none,.slice 2 0 T.length none,.slice 3 0 V.length none,.int .i64 sum]]),some (.row 2 (S.map Sg.enc)),some (.row 6 (T.map Tm.enc)),some (.row 3 (V.map Vc.enc))]) (by simp+decide only[go_sem,a0q,aO,aP,az,aA,aZ,a6]) bc;refine a14 (by kernel_rfl) (by kernel_rfl) rfl (hc.trans ?_) rfl;simp+decide only[go_sem,a0n,aO,aP,az,aA,aZ,a6]<;>rfl
 refine pf Tryz.f67 ok al noF (by kernel_rfl) ?_;simp only[Tryz.f67,gS];refine pcs ?_
 (repeat first|simp only[ww]|(apply xa;simp+decide only[go_sem,aF];rfl;kernel_rfl))
 refine a1m ?_;refine pcs ?_
 (repeat first|simp only[ww]|(apply xa;simp+decide only[go_sem,aI,aC,ap,q1,q2,cr,bg];rfl;kernel_rfl))
 refine a1m ?_;rcases bF with ⟨bB,rfl⟩|⟨bB,bF⟩
 ·refine PanG.seqL ?_;refine pcs ?_
  (repeat first|simp only[ww]|(apply xa;simp+decide only[go_sem];rfl;kernel_rfl))
  refine a1m ?_;refine PanG.condT (by simp only[go_sem]) ?_;refine pcr 3 (by(simp+decide only[go_sem,c35,e28,cM,ap,q3];rfl)) rfl rfl (a1z (g1:=84) (l:=[.str rp]) rfl (by simp only[go_sem]) (by simp only[go_sem]) rfl (b0z al rp bB))
 have gH:=λd H=>a2m (d:=d) H rp bB;have l8:a09 rp<10000000:=by have:=a84 rp bB.d rp.length (e2c _);rw[e3z]at this;exact e58 this (e5w (e6w (by decide) bB.l7) (by decide))
 refine pcs ?_
 (repeat first|simp only[ww]|(apply xa;simp+decide only[go_sem,cM,ap,q3,gH,bg];rfl;kernel_rfl))
 refine a1m ?_;exact PanG.three (s1:=0) (s2:=1) (s3:=4) (c9g al sum R aw n 4 S T a7 V dQ cl (a09 rp) zz l8 bL cF e bF) rfl rfl rfl
end Go.RInst
