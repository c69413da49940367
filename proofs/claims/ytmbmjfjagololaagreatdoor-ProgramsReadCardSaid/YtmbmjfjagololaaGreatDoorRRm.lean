/- Part of a proof. No condition. -/
import Derived.Test.YtmbmjfjagololaaGreatDoorRRk
import Derived.Test.YtmbmjfjagololaaGreatDoorRPh
import Derived.Test.YtmbmjfjagololaaGreatDoorAxE
import Derived.Test.YtmbmjfjagololaaGreatDoorRRd
set_option linter.unusedSectionVars false
set_option linter.unusedSimpArgs false
set_option linter.unusedVariables false
namespace Go.RInst
open Go.Proofs Go.Ax Go.Pc
variable [PR]
set_option maxRecDepth 100000
structure Rd where
 S:List Sg
 T:List Tm
 V:List Vc
 sum:Int
def GsAt(H:a08)(k:Nat)(x:AV)(R:List (List AV)):Prop:=(R=[]∧x = .nilslice)∨(R≠[]∧∃c,x = .slice c 0 R.length none∧a03 H c=some (.row k R))
def RdAt(H:a08)(b:Nat)(r:Rd):Prop:=∃x y z,a03 H b=some (.row 4 [[x,y,z,.int .i64 r.sum]])∧GsAt H 2 x (r.S.map Sg.enc)∧GsAt H 6 y (r.T.map Tm.enc)∧GsAt H 3 z (r.V.map Vc.enc)
def a2k(r:Rd):a08:=some (.row 4 [[grV 1 (r.S.map Sg.enc),grV (1+(grH 2 (r.S.map Sg.enc)).length) (r.T.map Tm.enc),grV (1+(grH 2 (r.S.map Sg.enc)).length+(grH 6 (r.T.map Tm.enc)).length) (r.V.map Vc.enc),.int .i64 r.sum]])::(grH 2 (r.S.map Sg.enc)++grH 6 (r.T.map Tm.enc)++grH 3 (r.V.map Vc.enc))
def a6l(g m:Nat)(c:Option Nat)(R:List (List AV))(r r':Rd):Prop:=∃H1,sem L.env Mf g [.ptr 0 0 0,.slice (a2k r).length 0 m c] (a2k r++[some (.row 1 R)])=some (.tuple [],H1)∧RdAt H1 0 r'
theorem GsAt.back{H1 H H':a08}{σ:List Nat}{k:Nat}{x:AV}{R:List (List AV)}(h:GsAt H1 k x R)(hR:FlatR R)(h1:∀j b,σ[j]?=some b→a03 H' b=(a03 H1 j).map (a0t (a1e σ H.length)))(h2:∀j,a03 H' (H.length+j)=(a03 H1 (σ.length+j)).map (a0t (a1e σ H.length))):GsAt H' k (ren (a1e σ H.length) x) R:=by
 rcases h with ⟨rfl,rfl⟩|⟨aK,c,rfl,hc⟩
 ·exact .inl ⟨rfl,rfl⟩
 ·right;refine⟨aK,?_⟩;by_cases aq:c<σ.length
  ·have hb:a1e σ H.length c=some σ[c]:=by unfold a1e;rw[show Nat.blt c σ.length=true from by rw[e3f];exact aq];exact z9e aq
   refine⟨σ[c],by simp only[ren,a47,hb],?_⟩;rw[h1 c _ (z9e aq),hc];simp only[e2a,a0t,a02 _ hR]
  ·have hb:a1e σ H.length c=some (H.length+(c-σ.length)):=by
    have:Nat.blt c σ.length=false:=by rw[←e5q,e3f];exact aq
    unfold a1e;rw[this];rfl
   refine⟨H.length+(c-σ.length),by simp only[ren,a47,hb],?_⟩;have:=h2 (c-σ.length);rw[show σ.length+(c-σ.length)=c by omega,hc]at this;rw[this];simp only[e2a,a0t,a02 _ hR]
theorem a4v(H:a08)(b k g m:Nat)(cp:Option Nat)(R:List (List AV))(r r':Rd)(hx:L.env.ext g=false)(cI:(L.env.fn g).isSome=true)(aw:FlatR R)(hR:RdAt H b r)(hk:a03 H k=some (.row 1 R))(hc:a6l g m cp R r r') :
 ∃H' σ,a0e L.env false (sem L.env Mf) (.func (.func g) [.ptr b 0 0] []) [.slice k 0 m cp] H=some (.tuple [],H',σ)∧RdAt H' b r':=by
 obtain⟨H1,mz,x',y',z',e0,eS,eT,eV⟩:=hc;obtain⟨x,y,z,hb,hS,hT,hV⟩:=hR;have lb:=a0v hb;have lk:=a0v hk;have pd:=a0s r.S;have rR:=a0a r.T;have rQ:=a13 r.V;have S1:=λπ=>a02 π pd;have T1:=λπ=>a02 π rR;have V1:=λπ=>a02 π rQ;have R1:=λπ=>a02 π aw;have S2:=a01 pd;have T2:=a01 rR;have V2:=a01 rQ;have R2:=a01 aw;have dS:∀(c d:Nat) (k1 k2:Nat) (R1 R2:List (List AV)),a03 H c=some (.row k1 R1)→a03 H d=some (.row k2 R2)→k1≠k2→c≠d:=by intro c d k1 k2 R1 R2 h1 h2 aK e;subst e;rw[h1]at h2;cases h2;exact aK rfl
 have lU:k≠b:=dS k b 1 4 _ _ hk hb (by decide)
 -- the end,from the list of blocks
 have fin:∀(σ:List Nat),a0j H 1000000 (a0x [AV.ptr b 0 0,.slice k 0 m cp]) []=σ→a25 σ=true→(σ.all λb=>decide (b<H.length))=true→[AV.ptr b 0 0,.slice k 0 m cp].map (ren (a2w σ))=[.ptr 0 0 0,.slice (a2k r).length 0 m cp]→a0q H σ (a2w σ)=a2k r++[some (.row 1 R)]→σ[0]?=some b→
  ∃H' σ,a0e L.env false (sem L.env Mf) (.func (.func g) [.ptr b 0 0] []) [.slice k 0 m cp] H=some (.tuple [],H',σ)∧RdAt H' b r':=by
  intro σ i1 i2 i3 i4 i5 i6;obtain⟨H',h1,h2,h3,h4,h5⟩:=b08 (E:=L.env) (call:=sem L.env Mf) (g:=g) (fs:=[.ptr b 0 0]) (cs:=[]) (ar:=[.slice k 0 m cp]) (H:=H) (σ:=σ) hx cI rfl i1 i2 i3 i4 i5 mz rfl;refine⟨H',σ,h1,ren (a1e σ H.length) x',ren (a1e σ H.length) y',ren (a1e σ H.length) z',?_,eS.back (a0s _) h3 h5,eT.back (a0a _) h3 h5,eV.back (a13 _) h3 h5⟩;rw[h3 0 b i6,e0];simp only[e2a,a0t,e2b,e3a,ren]
 have fj:(1000000:Nat)=999980+1+1+1+1+1+1+1+1+1+1+1+1+1+1+1+1+1+1+1+1:=rfl;rcases hS with ⟨cn,rfl⟩|⟨cn,a,rfl,bK⟩<;>rcases hT with ⟨bZ,rfl⟩|⟨bZ,t,rfl,bJ⟩<;>rcases hV with ⟨b8,rfl⟩|⟨b8,v,rfl,bI⟩
 ·have cB:b≠k:=dS b k 4 1 _ _ hb hk (by decide);have cS:k≠b:=e3m cB;have aj:a2k r=[some (.row 4 [[.nilslice,.nilslice,.nilslice,.int .i64 r.sum]])]:=by
   unfold a2k;rw[cn,a0p,a0u,bZ,a0p,a0u,b8,a0p,a0u];rfl
  refine fin [b,k] ?_ ?_ ?_ ?_ ?_ rfl
  ·show a0j H 1000000 [b,k] []=_;rw[fj,a06 rfl,hb];show a0j H _ ([]++[k]) [b]=_;simp only[b82,b43];rw[a06 (by simp[a04,a05,cB,cS]),hk];show a0j H _ (R.flatMap a0x++[]) _=_;rw[R2,b43];exact a17 _ _ _
  ·simp[a12,a18,a04,a05,cB,cS]
  ·simp[lb,lk]
  ·rw[aj];simp[ren,a47,a2w,e2g,cB,cS]
  ·rw[aj];simp only[a0q,e2b,e3a,hb,hk,e2a,a0t,S1,T1,V1,R1,b82,b43];simp[ren,a47,a2w,e2g,cB,cS]
 ·have lv:=a0v bI;have cz:b≠v:=dS b v 4 3 _ _ hb bI (by decide);have cQ:v≠b:=e3m cz;have cB:b≠k:=dS b k 4 1 _ _ hb hk (by decide);have cS:k≠b:=e3m cB;have ez:v≠k:=dS v k 3 1 _ _ bI hk (by decide);have eZ:k≠v:=e3m ez;have aj:a2k r=[some (.row 4 [[.nilslice,.nilslice,.slice 1 0 (r.V.map Vc.enc).length none,.int .i64 r.sum]]),some (.row 3 (r.V.map Vc.enc))]:=by
   unfold a2k;rw[cn,a0p,a0u,bZ,a0p,a0u,a0h _ b8,a0y _ b8];rfl
  refine fin [b,v,k] ?_ ?_ ?_ ?_ ?_ rfl
  ·show a0j H 1000000 [b,k] []=_;rw[fj,a06 rfl,hb];show a0j H _ ([v]++[k]) [b]=_;simp only[b82,b43];rw[a06 (by simp[a04,a05,cz,cB,cQ,ez,cS,eZ]),bI];show a0j H _ ((r.V.map Vc.enc).flatMap a0x++[k]) _=_;rw[V2,b43];rw[a06 (by simp[a04,a05,cz,cB,cQ,ez,cS,eZ]),hk];show a0j H _ (R.flatMap a0x++[]) _=_;rw[R2,b43];exact a17 _ _ _
  ·simp[a12,a18,a04,a05,cz,cB,cQ,ez,cS,eZ]
  ·simp[lb,lk,lv]
  ·rw[aj];simp[ren,a47,a2w,e2g,cz,cB,cQ,ez,cS,eZ]
  ·rw[aj];simp only[a0q,e2b,e3a,hb,bI,hk,e2a,a0t,S1,T1,V1,R1,b82,b43];simp[ren,a47,a2w,e2g,cz,cB,cQ,ez,cS,eZ]
 ·have lt:=a0v bJ;have cA:b≠t:=dS b t 4 6 _ _ hb bJ (by decide);have cR:t≠b:=e3m cA;have cB:b≠k:=dS b k 4 1 _ _ hb hk (by decide);have cS:k≠b:=e3m cB;have eA:t≠k:=dS t k 6 1 _ _ bJ hk (by decide);have e6:k≠t:=e3m eA;have aj:a2k r=[some (.row 4 [[.nilslice,.slice 1 0 (r.T.map Tm.enc).length none,.nilslice,.int .i64 r.sum]]),some (.row 6 (r.T.map Tm.enc))]:=by
   unfold a2k;rw[cn,a0p,a0u,a0h _ bZ,a0y _ bZ,b8,a0p,a0u];rfl
  refine fin [b,t,k] ?_ ?_ ?_ ?_ ?_ rfl
  ·show a0j H 1000000 [b,k] []=_;rw[fj,a06 rfl,hb];show a0j H _ ([t]++[k]) [b]=_;simp only[b82,b43];rw[a06 (by simp[a04,a05,cA,cB,cR,eA,cS,e6]),bJ];show a0j H _ ((r.T.map Tm.enc).flatMap a0x++[k]) _=_;rw[T2,b43];rw[a06 (by simp[a04,a05,cA,cB,cR,eA,cS,e6]),hk];show a0j H _ (R.flatMap a0x++[]) _=_;rw[R2,b43];exact a17 _ _ _
  ·simp[a12,a18,a04,a05,cA,cB,cR,eA,cS,e6]
  ·simp[lb,lk,lt]
  ·rw[aj];simp[ren,a47,a2w,e2g,cA,cB,cR,eA,cS,e6]
  ·rw[aj];simp only[a0q,e2b,e3a,hb,bJ,hk,e2a,a0t,S1,T1,V1,R1,b82,b43];simp[ren,a47,a2w,e2g,cA,cB,cR,eA,cS,e6]
 ·have lt:=a0v bJ;have lv:=a0v bI;have cA:b≠t:=dS b t 4 6 _ _ hb bJ (by decide);have cR:t≠b:=e3m cA;have cz:b≠v:=dS b v 4 3 _ _ hb bI (by decide);have cQ:v≠b:=e3m cz;have cB:b≠k:=dS b k 4 1 _ _ hb hk (by decide);have cS:k≠b:=e3m cB;have dj:t≠v:=dS t v 6 3 _ _ bJ bI (by decide);have dH:v≠t:=e3m dj;have eA:t≠k:=dS t k 6 1 _ _ bJ hk (by decide);have e6:k≠t:=e3m eA;have ez:v≠k:=dS v k 3 1 _ _ bI hk (by decide);have eZ:k≠v:=e3m ez;have aj:a2k r=[some (.row 4 [[.nilslice,.slice 1 0 (r.T.map Tm.enc).length none,.slice 2 0 (r.V.map Vc.enc).length none,.int .i64 r.sum]]),some (.row 6 (r.T.map Tm.enc)),some (.row 3 (r.V.map Vc.enc))]:=by
   unfold a2k;rw[cn,a0p,a0u,a0h _ bZ,a0y _ bZ,a0h _ b8,a0y _ b8];rfl
  refine fin [b,t,v,k] ?_ ?_ ?_ ?_ ?_ rfl
  ·show a0j H 1000000 [b,k] []=_;rw[fj,a06 rfl,hb];show a0j H _ ([t,v]++[k]) [b]=_;simp only[b82,b43];rw[a06 (by simp[a04,a05,cA,cz,cB,cR,dj,eA,cQ,dH,ez,cS,e6,eZ]),bJ];show a0j H _ ((r.T.map Tm.enc).flatMap a0x++[v,k]) _=_;rw[T2,b43];rw[a06 (by simp[a04,a05,cA,cz,cB,cR,dj,eA,cQ,dH,ez,cS,e6,eZ]),bI];show a0j H _ ((r.V.map Vc.enc).flatMap a0x++[k]) _=_;rw[V2,b43];rw[a06 (by simp[a04,a05,cA,cz,cB,cR,dj,eA,cQ,dH,ez,cS,e6,eZ]),hk];show a0j H _ (R.flatMap a0x++[]) _=_;rw[R2,b43];exact a17 _ _ _
  ·simp[a12,a18,a04,a05,cA,cz,cB,cR,dj,eA,cQ,dH,ez,cS,e6,eZ]
  ·simp[lb,lk,lt,lv]
  ·rw[aj];simp[ren,a47,a2w,e2g,cA,cz,cB,cR,dj,eA,cQ,dH,ez,cS,e6,eZ]
  ·rw[aj];simp only[a0q,e2b,e3a,hb,bJ,bI,hk,e2a,a0t,S1,T1,V1,R1,b82,b43];simp[ren,a47,a2w,e2g,cA,cz,cB,cR,dj,eA,cQ,dH,ez,cS,e6,eZ]
 ·have la:=a0v bK;have cC:b≠a:=dS b a 4 2 _ _ hb bK (by decide);have cT:a≠b:=e3m cC;have cB:b≠k:=dS b k 4 1 _ _ hb hk (by decide);have cS:k≠b:=e3m cB;have eB:a≠k:=dS a k 2 1 _ _ bK hk (by decide);have e7:k≠a:=e3m eB;have aj:a2k r=[some (.row 4 [[.slice 1 0 (r.S.map Sg.enc).length none,.nilslice,.nilslice,.int .i64 r.sum]]),some (.row 2 (r.S.map Sg.enc))]:=by
   unfold a2k;rw[a0h _ cn,a0y _ cn,bZ,a0p,a0u,b8,a0p,a0u];rfl
  refine fin [b,a,k] ?_ ?_ ?_ ?_ ?_ rfl
  ·show a0j H 1000000 [b,k] []=_;rw[fj,a06 rfl,hb];show a0j H _ ([a]++[k]) [b]=_;simp only[b82,b43];rw[a06 (by simp[a04,a05,cC,cB,cT,eB,cS,e7]),bK];show a0j H _ ((r.S.map Sg.enc).flatMap a0x++[k]) _=_;rw[S2,b43];rw[a06 (by simp[a04,a05,cC,cB,cT,eB,cS,e7]),hk];show a0j H _ (R.flatMap a0x++[]) _=_;rw[R2,b43];exact a17 _ _ _
  ·simp[a12,a18,a04,a05,cC,cB,cT,eB,cS,e7]
  ·simp[lb,lk,la]
  ·rw[aj];simp[ren,a47,a2w,e2g,cC,cB,cT,eB,cS,e7]
  ·rw[aj];simp only[a0q,e2b,e3a,hb,bK,hk,e2a,a0t,S1,T1,V1,R1,b82,b43];simp[ren,a47,a2w,e2g,cC,cB,cT,eB,cS,e7]
 ·have la:=a0v bK;have lv:=a0v bI;have cC:b≠a:=dS b a 4 2 _ _ hb bK (by decide);have cT:a≠b:=e3m cC;have cz:b≠v:=dS b v 4 3 _ _ hb bI (by decide);have cQ:v≠b:=e3m cz;have cB:b≠k:=dS b k 4 1 _ _ hb hk (by decide);have cS:k≠b:=e3m cB;have dk:a≠v:=dS a v 2 3 _ _ bK bI (by decide);have dI:v≠a:=e3m dk;have eB:a≠k:=dS a k 2 1 _ _ bK hk (by decide);have e7:k≠a:=e3m eB;have ez:v≠k:=dS v k 3 1 _ _ bI hk (by decide);have eZ:k≠v:=e3m ez;have aj:a2k r=[some (.row 4 [[.slice 1 0 (r.S.map Sg.enc).length none,.nilslice,.slice 2 0 (r.V.map Vc.enc).length none,.int .i64 r.sum]]),some (.row 2 (r.S.map Sg.enc)),some (.row 3 (r.V.map Vc.enc))]:=by
   unfold a2k;rw[a0h _ cn,a0y _ cn,bZ,a0p,a0u,a0h _ b8,a0y _ b8];rfl
  refine fin [b,a,v,k] ?_ ?_ ?_ ?_ ?_ rfl
  ·show a0j H 1000000 [b,k] []=_;rw[fj,a06 rfl,hb];show a0j H _ ([a,v]++[k]) [b]=_;simp only[b82,b43];rw[a06 (by simp[a04,a05,cC,cz,cB,cT,dk,eB,cQ,dI,ez,cS,e7,eZ]),bK];show a0j H _ ((r.S.map Sg.enc).flatMap a0x++[v,k]) _=_;rw[S2,b43];rw[a06 (by simp[a04,a05,cC,cz,cB,cT,dk,eB,cQ,dI,ez,cS,e7,eZ]),bI];show a0j H _ ((r.V.map Vc.enc).flatMap a0x++[k]) _=_;rw[V2,b43];rw[a06 (by simp[a04,a05,cC,cz,cB,cT,dk,eB,cQ,dI,ez,cS,e7,eZ]),hk];show a0j H _ (R.flatMap a0x++[]) _=_;rw[R2,b43];exact a17 _ _ _
  ·simp[a12,a18,a04,a05,cC,cz,cB,cT,dk,eB,cQ,dI,ez,cS,e7,eZ]
  ·simp[lb,lk,la,lv]
  ·rw[aj];simp[ren,a47,a2w,e2g,cC,cz,cB,cT,dk,eB,cQ,dI,ez,cS,e7,eZ]
  ·rw[aj];simp only[a0q,e2b,e3a,hb,bK,bI,hk,e2a,a0t,S1,T1,V1,R1,b82,b43];simp[ren,a47,a2w,e2g,cC,cz,cB,cT,dk,eB,cQ,dI,ez,cS,e7,eZ]
 ·have la:=a0v bK;have lt:=a0v bJ;have cC:b≠a:=dS b a 4 2 _ _ hb bK (by decide);have cT:a≠b:=e3m cC;have cA:b≠t:=dS b t 4 6 _ _ hb bJ (by decide);have cR:t≠b:=e3m cA;have cB:b≠k:=dS b k 4 1 _ _ hb hk (by decide);have cS:k≠b:=e3m cB;have nat:a≠t:=dS a t 2 6 _ _ bK bJ (by decide);have dJ:t≠a:=e3m nat;have eB:a≠k:=dS a k 2 1 _ _ bK hk (by decide);have e7:k≠a:=e3m eB;have eA:t≠k:=dS t k 6 1 _ _ bJ hk (by decide);have e6:k≠t:=e3m eA;have aj:a2k r=[some (.row 4 [[.slice 1 0 (r.S.map Sg.enc).length none,.slice 2 0 (r.T.map Tm.enc).length none,.nilslice,.int .i64 r.sum]]),some (.row 2 (r.S.map Sg.enc)),some (.row 6 (r.T.map Tm.enc))]:=by
   unfold a2k;rw[a0h _ cn,a0y _ cn,a0h _ bZ,a0y _ bZ,b8,a0p,a0u];rfl
  refine fin [b,a,t,k] ?_ ?_ ?_ ?_ ?_ rfl
  ·show a0j H 1000000 [b,k] []=_;rw[fj,a06 rfl,hb];show a0j H _ ([a,t]++[k]) [b]=_;simp only[b82,b43];rw[a06 (by simp[a04,a05,cC,cA,cB,cT,nat,eB,cR,dJ,eA,cS,e7,e6]),bK];show a0j H _ ((r.S.map Sg.enc).flatMap a0x++[t,k]) _=_;rw[S2,b43];rw[a06 (by simp[a04,a05,cC,cA,cB,cT,nat,eB,cR,dJ,eA,cS,e7,e6]),bJ];show a0j H _ ((r.T.map Tm.enc).flatMap a0x++[k]) _=_;rw[T2,b43];rw[a06 (by simp[a04,a05,cC,cA,cB,cT,nat,eB,cR,dJ,eA,cS,e7,e6]),hk];show a0j H _ (R.flatMap a0x++[]) _=_;rw[R2,b43];exact a17 _ _ _
  ·simp[a12,a18,a04,a05,cC,cA,cB,cT,nat,eB,cR,dJ,eA,cS,e7,e6]
  ·simp[lb,lk,la,lt]
  ·rw[aj];simp[ren,a47,a2w,e2g,cC,cA,cB,cT,nat,eB,cR,dJ,eA,cS,e7,e6]
  ·rw[aj];simp only[a0q,e2b,e3a,hb,bK,bJ,hk,e2a,a0t,S1,T1,V1,R1,b82,b43];simp[ren,a47,a2w,e2g,cC,cA,cB,cT,nat,eB,cR,dJ,eA,cS,e7,e6]
 ·have la:=a0v bK;have lt:=a0v bJ;have lv:=a0v bI;have cC:b≠a:=dS b a 4 2 _ _ hb bK (by decide);have cT:a≠b:=e3m cC;have cA:b≠t:=dS b t 4 6 _ _ hb bJ (by decide);have cR:t≠b:=e3m cA;have cz:b≠v:=dS b v 4 3 _ _ hb bI (by decide);have cQ:v≠b:=e3m cz;have cB:b≠k:=dS b k 4 1 _ _ hb hk (by decide);have cS:k≠b:=e3m cB;have nat:a≠t:=dS a t 2 6 _ _ bK bJ (by decide);have dJ:t≠a:=e3m nat;have dk:a≠v:=dS a v 2 3 _ _ bK bI (by decide);have dI:v≠a:=e3m dk;have eB:a≠k:=dS a k 2 1 _ _ bK hk (by decide);have e7:k≠a:=e3m eB;have dj:t≠v:=dS t v 6 3 _ _ bJ bI (by decide);have dH:v≠t:=e3m dj;have eA:t≠k:=dS t k 6 1 _ _ bJ hk (by decide);have e6:k≠t:=e3m eA;have ez:v≠k:=dS v k 3 1 _ _ bI hk (by decide);have eZ:k≠v:=e3m ez;have aj:a2k r=[some (.row 4 [[.slice 1 0 (r.S.map Sg.enc).length none,.slice 2 0 (r.T.map Tm.enc).length none,.slice 3 0 (r.V.map Vc.enc).length none,.int .i64 r.sum]]),some (.row 2 (r.S.map Sg.enc)),some (.row 6 (r.T.map Tm.enc)),some (.row 3 (r.V.map Vc.enc))]:=by
   unfold a2k;rw[a0h _ cn,a0y _ cn,a0h _ bZ,a0y _ bZ,a0h _ b8,a0y _ b8];rfl
  refine fin [b,a,t,v,k] ?_ ?_ ?_ ?_ ?_ rfl
  ·show a0j H 1000000 [b,k] []=_;rw[fj,a06 rfl,hb];show a0j H _ ([a,t,v]++[k]) [b]=_;simp only[b82,b43];rw[a06 (by simp[a04,a05,cC,cA,cz,cB,cT,nat,dk,eB,cR,dJ,dj,eA,cQ,dI,dH,ez,cS,e7,e6,eZ]),bK];show a0j H _ ((r.S.map Sg.enc).flatMap a0x++[t,v,k]) _=_;rw[S2,b43];rw[a06 (by simp[a04,a05,cC,cA,cz,cB,cT,nat,dk,eB,cR,dJ,dj,eA,cQ,dI,dH,ez,cS,e7,e6,eZ]),bJ];show a0j H _ ((r.T.map Tm.enc).flatMap a0x++[v,k]) _=_;rw[T2,b43];rw[a06 (by simp[a04,a05,cC,cA,cz,cB,cT,nat,dk,eB,cR,dJ,dj,eA,cQ,dI,dH,ez,cS,e7,e6,eZ]),bI];show a0j H _ ((r.V.map Vc.enc).flatMap a0x++[k]) _=_;rw[V2,b43];rw[a06 (by simp[a04,a05,cC,cA,cz,cB,cT,nat,dk,eB,cR,dJ,dj,eA,cQ,dI,dH,ez,cS,e7,e6,eZ]),hk];show a0j H _ (R.flatMap a0x++[]) _=_;rw[R2,b43];exact a17 _ _ _
  ·simp[a12,a18,a04,a05,cC,cA,cz,cB,cT,nat,dk,eB,cR,dJ,dj,eA,cQ,dI,dH,ez,cS,e7,e6,eZ]
  ·simp[lb,lk,la,lt,lv]
  ·rw[aj];simp[ren,a47,a2w,e2g,cC,cA,cz,cB,cT,nat,dk,eB,cR,dJ,dj,eA,cQ,dI,dH,ez,cS,e7,e6,eZ]
  ·rw[aj];simp only[a0q,e2b,e3a,hb,bK,bJ,bI,hk,e2a,a0t,S1,T1,V1,R1,b82,b43];simp[ren,a47,a2w,e2g,cC,cA,cz,cB,cT,nat,dk,eB,cR,dJ,dj,eA,cQ,dI,dH,ez,cS,e7,e6,eZ]
end Go.RInst
namespace Go.RInst
open Go.Proofs Go.Ax Go.Pc
variable [PR]
set_option maxRecDepth 100000
theorem a0f{α β:Type}{f:α→β}{l:List α}(h:l≠[]):l.map f≠[]:=by simpa using h
theorem a4q(H:a08)(k:Nat):GsAt H k .nilslice []:=.inl ⟨rfl,rfl⟩
theorem a1j{H:a08}{k c n:Nat}{R:List (List AV)}(aK:R≠[])(hn:n=R.length)(h:a03 H c=some (.row k R)):GsAt H k (.slice c 0 n none) R:=.inr ⟨aK,c,by rw[hn],h⟩
/- signal -/
theorem d1c(S:List Sg)(sum:Int)(n:Nat)(R:List (List AV))(nm:List UInt8)(dr:Nat)(al:dr≤1)(hl:S.length<256)(bP:nm∉S.map Sg.name)(hn:a3s nm=true)(ap:R.length=n)(fv:3≤n)(aw:FlatR R)(aI:R[1]?=some [.str nm])(aC:R[2]?=some [.str (if dr=1 then a9h else inK)]) :
 a6l 65 3 (some n) R ⟨S,[],[],sum⟩ ⟨S++[⟨nm,dr⟩],[],[],sum⟩:=by
 by_cases hS:S=[]
 ·subst hS;obtain⟨r,⟨c,H1,rfl,h1,h2⟩,h3⟩:=d1e sum n R nm dr al hn ap fv aw aI aC;exact⟨H1,h3,_,_,_,h1,a1j (by simp) (by simp) h2,a4q _ _,a4q _ _⟩
 ·obtain⟨r,⟨c,H1,rfl,h1,h2⟩,h3⟩:=d1d sum n R nm dr al S hS hl bP hn ap fv aw aI aC;have aj:a2k ⟨S,[],[],sum⟩=[some (.row 4 [[.slice 1 0 S.length none,.nilslice,.nilslice,.int .i64 sum]]),some (.row 2 (S.map Sg.enc))]:=by
   unfold a2k;rw[a0h _ (a0f hS),a0y _ (a0f hS),b41];rfl
  refine⟨H1,?_,_,_,_,h1,a1j (by simp) (by simp) h2,a4q _ _,a4q _ _⟩;rw[aj];exact h3
/- timing -/
theorem d13(S:List Sg)(T:List Tm)(sum:Int)(n:Nat)(R:List (List AV))(nm w0 w1 w2 w3 w4:List UInt8)(hl:T.length<16)(bP:nm∉T.map Tm.name)(ap:R.length=n)(dY:7≤n)(aw:FlatR R)(aI:R[1]?=some [.str nm])(aC:∀j w,[w0,w1,w2,w3,w4][j]?=some w→R[2+j]?=some [.str w])(aU:∀w∈[w0,w1,w2,w3,w4],NumOk w)(dM:a5l ⟨nm,a09 w0,a09 w1,a09 w2,a09 w3,a09 w4⟩=true) :
 a6l 66 7 (some n) R ⟨S,T,[],sum⟩ ⟨S,T++[⟨nm,a09 w0,a09 w1,a09 w2,a09 w3,a09 w4⟩],[],sum⟩:=by
 by_cases hS:S=[]<;>by_cases hT:T=[]
 ·subst hS;subst hT;skip
  obtain⟨r,⟨c,H1,rfl,h1,h2⟩,h3⟩:=c7m sum n R nm w0 w1 w2 w3 w4 ap dY aw aI aC aU dM;have aj:a2k ⟨[],[],[],sum⟩=[some (.row 4 [[.nilslice,.nilslice,.nilslice,.int .i64 sum]])]:=by
   unfold a2k
   skip
   rfl
  refine⟨H1,?_,_,_,_,h1,a4q _ _,a1j (by simp) (by simp) h2,a4q _ _⟩;rw[aj];exact h3
 ·subst hS;skip
  obtain⟨r,⟨c,H1,rfl,h1,h2⟩,h3⟩:=c7l sum n R nm w0 w1 w2 w3 w4 T (by omega) hT hl bP ap dY aw aI aC aU dM;have aj:a2k ⟨[],T,[],sum⟩=[some (.row 4 [[.nilslice,.slice 1 0 T.length none,.nilslice,.int .i64 sum]]),some (.row 6 (T.map Tm.enc))]:=by unfold a2k;rw[a0h _ (a0f hT),a0y _ (a0f hT),b41];rfl
  refine⟨H1,?_,_,_,_,h1,a4q _ _,a1j (by simp) (by simp) h2,a4q _ _⟩;rw[aj];exact h3
 ·subst hT;skip
  obtain⟨r,⟨c,H1,rfl,h1,h2,h4⟩,h3⟩:=c7k sum n R nm w0 w1 w2 w3 w4 S ap dY aw aI aC aU dM;have aj:a2k ⟨S,[],[],sum⟩=[some (.row 4 [[.slice 1 0 S.length none,.nilslice,.nilslice,.int .i64 sum]]),some (.row 2 (S.map Sg.enc))]:=by unfold a2k;rw[a0h _ (a0f hS),a0y _ (a0f hS),b41];rfl
  refine⟨H1,?_,_,_,_,h1,a1j (a0f hS) (by simp) h4,a1j (by simp) (by simp) h2,a4q _ _⟩;rw[aj];exact h3
 ·skip
  obtain⟨r,⟨c,H1,rfl,h1,h2,h4⟩,h3⟩:=c7j sum n R nm w0 w1 w2 w3 w4 S T (by omega) hT hl bP ap dY aw aI aC aU dM;have aj:a2k ⟨S,T,[],sum⟩=[some (.row 4 [[.slice 1 0 S.length none,.slice 2 0 T.length none,.nilslice,.int .i64 sum]]),some (.row 2 (S.map Sg.enc)),some (.row 6 (T.map Tm.enc))]:=by unfold a2k;rw[a0h _ (a0f hS),a0y _ (a0f hS),b41,a0h _ (a0f hT),a0y _ (a0f hT),b41];rfl
  refine⟨H1,?_,_,_,_,h1,a1j (a0f hS) (by simp) h4,a1j (by simp) (by simp) h2,a4q _ _⟩;rw[aj];exact h3
theorem c7e(S:List Sg)(T:List Tm)(V:List Vc)(sum:Int)(n:Nat)(R:List (List AV))(nm cl:List UInt8)(dQ:S.length≤1000)(a7:T.length≤1000)(kU:V.length<65536)(ap:R.length=n)(bH:3≤n)(aw:FlatR R)(aI:R[1]?=some [.str nm])(aC:R[2]?=some [.str cl])(bL:0≤sum)(bR:sum+(1:Nat)≤1000000)(ba:a22 ⟨fnd nm (T.map Tm.name),if cl=[45]then[]else cl,(1:Nat)⟩ S T.length=true) :
 a6l 67 3 (some n) R ⟨S,T,V,sum⟩ ⟨S,T,V++[⟨fnd nm (T.map Tm.name),if cl=[45]then[]else cl,(1:Nat)⟩],sum+(1:Nat)⟩:=by
 have hT:T≠[]:=by
  rintro rfl
  simp only[a22,b46,e2d,e27]at ba;omega
 by_cases hS:S=[]<;>by_cases hV:V=[]
 ·subst hS;subst hV;skip
  obtain⟨r,⟨c,H1,rfl,h1,h2,h5⟩,h3⟩:=c3z sum n R nm cl T (by omega) ap bH aw aI aC bL bR ba;have aj:a2k ⟨[],T,[],sum⟩=[some (.row 4 [[.nilslice,.slice 1 0 T.length none,.nilslice,.int .i64 sum]]),some (.row 6 (T.map Tm.enc))]:=by unfold a2k;rw[a0h _ (a0f hT),a0y _ (a0f hT),b41];rfl
  refine⟨H1,?_,_,_,_,h1,a4q _ _,a1j (a0f hT) (by simp) h5,a1j (by simp) (by simp) h2⟩;rw[aj];exact h3
 ·subst hS;skip
  obtain⟨r,⟨c,H1,rfl,h1,h2,h5⟩,h3⟩:=c3x sum n R nm cl T (by omega) V kU ap bH aw aI aC bL bR ba;have aj:a2k ⟨[],T,V,sum⟩=[some (.row 4 [[.nilslice,.slice 1 0 T.length none,.slice 2 0 V.length none,.int .i64 sum]]),some (.row 6 (T.map Tm.enc)),some (.row 3 (V.map Vc.enc))]:=by unfold a2k;rw[a0h _ (a0f hT),a0y _ (a0f hT),b41,a0h _ (a0f hV),a0y _ (a0f hV),b41];rfl
  refine⟨H1,?_,_,_,_,h1,a4q _ _,a1j (a0f hT) (by simp) h5,a1j (by simp) (by simp) h2⟩;rw[aj];exact h3
 ·subst hV;skip
  obtain⟨r,⟨c,H1,rfl,h1,h2,h4,h5⟩,h3⟩:=c3v sum n R nm cl S T (by omega) (by omega) ap bH aw aI aC bL bR ba;have aj:a2k ⟨S,T,[],sum⟩=[some (.row 4 [[.slice 1 0 S.length none,.slice 2 0 T.length none,.nilslice,.int .i64 sum]]),some (.row 2 (S.map Sg.enc)),some (.row 6 (T.map Tm.enc))]:=by unfold a2k;rw[a0h _ (a0f hS),a0y _ (a0f hS),b41,a0h _ (a0f hT),a0y _ (a0f hT),b41];rfl
  refine⟨H1,?_,_,_,_,h1,a1j (a0f hS) (by simp) h4,a1j (a0f hT) (by simp) h5,a1j (by simp) (by simp) h2⟩;rw[aj];exact h3
 ·skip
  obtain⟨r,⟨c,H1,rfl,h1,h2,h4,h5⟩,h3⟩:=c3t sum n R nm cl S T (by omega) V (by omega) kU ap bH aw aI aC bL bR ba;have aj:a2k ⟨S,T,V,sum⟩=[some (.row 4 [[.slice 1 0 S.length none,.slice 2 0 T.length none,.slice 3 0 V.length none,.int .i64 sum]]),some (.row 2 (S.map Sg.enc)),some (.row 6 (T.map Tm.enc)),some (.row 3 (V.map Vc.enc))]:=by unfold a2k;rw[a0h _ (a0f hS),a0y _ (a0f hS),b41,a0h _ (a0f hT),a0y _ (a0f hT),b41,a0h _ (a0f hV),a0y _ (a0f hV),b41];rfl
  refine⟨H1,?_,_,_,_,h1,a1j (a0f hS) (by simp) h4,a1j (a0f hT) (by simp) h5,a1j (by simp) (by simp) h2⟩;rw[aj];exact h3
theorem c7d(S:List Sg)(T:List Tm)(V:List Vc)(sum:Int)(n:Nat)(R:List (List AV))(nm cl:List UInt8)(rp:List UInt8)(bB:NumOk rp)(cM:R[3]?=some [.str rp])(dQ:S.length≤1000)(a7:T.length≤1000)(kU:V.length<65536)(ap:R.length=n)(bH:4≤n)(aw:FlatR R)(aI:R[1]?=some [.str nm])(aC:R[2]?=some [.str cl])(bL:0≤sum)(bR:sum+(a09 rp:Nat)≤1000000)(ba:a22 ⟨fnd nm (T.map Tm.name),if cl=[45]then[]else cl,(a09 rp:Nat)⟩ S T.length=true) :
 a6l 67 4 (some n) R ⟨S,T,V,sum⟩ ⟨S,T,V++[⟨fnd nm (T.map Tm.name),if cl=[45]then[]else cl,(a09 rp:Nat)⟩],sum+(a09 rp:Nat)⟩:=by
 have hT:T≠[]:=by
  rintro rfl
  simp only[a22,b46,e2d,e27]at ba;omega
 by_cases hS:S=[]<;>by_cases hV:V=[]
 ·subst hS;subst hV;skip
  obtain⟨r,⟨c,H1,rfl,h1,h2,h5⟩,h3⟩:=c3y sum n R nm cl rp bB cM T (by omega) ap bH aw aI aC bL bR ba;have aj:a2k ⟨[],T,[],sum⟩=[some (.row 4 [[.nilslice,.slice 1 0 T.length none,.nilslice,.int .i64 sum]]),some (.row 6 (T.map Tm.enc))]:=by unfold a2k;rw[a0h _ (a0f hT),a0y _ (a0f hT),b41];rfl
  refine⟨H1,?_,_,_,_,h1,a4q _ _,a1j (a0f hT) (by simp) h5,a1j (by simp) (by simp) h2⟩;rw[aj];exact h3
 ·subst hS;skip
  obtain⟨r,⟨c,H1,rfl,h1,h2,h5⟩,h3⟩:=c3w sum n R nm cl rp bB cM T (by omega) V kU ap bH aw aI aC bL bR ba;have aj:a2k ⟨[],T,V,sum⟩=[some (.row 4 [[.nilslice,.slice 1 0 T.length none,.slice 2 0 V.length none,.int .i64 sum]]),some (.row 6 (T.map Tm.enc)),some (.row 3 (V.map Vc.enc))]:=by unfold a2k;rw[a0h _ (a0f hT),a0y _ (a0f hT),b41,a0h _ (a0f hV),a0y _ (a0f hV),b41];rfl
  refine⟨H1,?_,_,_,_,h1,a4q _ _,a1j (a0f hT) (by simp) h5,a1j (by simp) (by simp) h2⟩;rw[aj];exact h3
 ·subst hV;skip
  obtain⟨r,⟨c,H1,rfl,h1,h2,h4,h5⟩,h3⟩:=c3u sum n R nm cl rp bB cM S T (by omega) (by omega) ap bH aw aI aC bL bR ba;have aj:a2k ⟨S,T,[],sum⟩=[some (.row 4 [[.slice 1 0 S.length none,.slice 2 0 T.length none,.nilslice,.int .i64 sum]]),some (.row 2 (S.map Sg.enc)),some (.row 6 (T.map Tm.enc))]:=by unfold a2k;rw[a0h _ (a0f hS),a0y _ (a0f hS),b41,a0h _ (a0f hT),a0y _ (a0f hT),b41];rfl
  refine⟨H1,?_,_,_,_,h1,a1j (a0f hS) (by simp) h4,a1j (a0f hT) (by simp) h5,a1j (by simp) (by simp) h2⟩;rw[aj];exact h3
 ·skip
  obtain⟨r,⟨c,H1,rfl,h1,h2,h4,h5⟩,h3⟩:=c3s sum n R nm cl rp bB cM S T (by omega) V (by omega) kU ap bH aw aI aC bL bR ba;have aj:a2k ⟨S,T,V,sum⟩=[some (.row 4 [[.slice 1 0 S.length none,.slice 2 0 T.length none,.slice 3 0 V.length none,.int .i64 sum]]),some (.row 2 (S.map Sg.enc)),some (.row 6 (T.map Tm.enc)),some (.row 3 (V.map Vc.enc))]:=by unfold a2k;rw[a0h _ (a0f hS),a0y _ (a0f hS),b41,a0h _ (a0f hT),a0y _ (a0f hT),b41,a0h _ (a0f hV),a0y _ (a0f hV),b41];rfl
  refine⟨H1,?_,_,_,_,h1,a1j (a0f hS) (by simp) h4,a1j (a0f hT) (by simp) h5,a1j (by simp) (by simp) h2⟩;rw[aj];exact h3
end Go.RInst
namespace Go.RInst
set_option maxHeartbeats 200000000
open Go.Proofs Go.Ax Go.Pc
variable [PR]
set_option maxRecDepth 100000
theorem GsAt.ext{H H':a08}{k:Nat}{x:AV}{R:List (List AV)}(h:GsAt H k x R)(he:∀c o,a03 H c=some o→a03 H' c=some o):GsAt H' k x R:=by
 rcases h with h|⟨aK,c,hx,hc⟩
 ·exact .inl h
 ·exact .inr ⟨aK,c,hx,he _ _ hc⟩
theorem RdAt.ext{H H':a08}{b:Nat}{r:Rd}(h:RdAt H b r)(he:∀c o,a03 H c=some o→a03 H' c=some o):RdAt H' b r:=by obtain⟨x,y,z,h0,h1,h2,h3⟩:=h;exact⟨x,y,z,he _ _ h0,h1.ext he,h2.ext he,h3.ext he⟩
theorem a29(H L:a08):∀c o,a03 H c=some o→a03 (H++L) c=some o:=λc o h=>by rw[b77 (eq_true (a0v h))];exact h
theorem c63{l:List (List UInt8)}:∀w∈a2i l,w≠[]:=λw hw=>by have:=(List.mem_filter.1 hw).2;simpa using this
theorem sR0{R:List (List AV)}{ws:List (List UInt8)}(h:R.take ws.length=sR ws){j:Nat}{w:List UInt8}(hj:ws[j]?=some w):R[j]?=some [.str w]:=by have hl:=(e26.1 hj).1;have:=congrArg (λx=>x[j]?) h;simp only[e5g,e3g hl]at this;rw[this];exact a8t hj
theorem c2t(o0:AObj)(r:Rd)(s:List UInt8)(hl:s.length≤4096)(hR:RdAt [some o0] 0 r)(br:a2i (a00 32 s)=[]∨∃a tl,a2i (a00 32 s)=(35::a)::tl):∃q:AV×a08,(∃H1,q=(.tuple [],H1)∧RdAt H1 0 r)∧sem L.env Mf 41 [.ptr 0 0 0,.str s] [some o0]=some q:=by
 have dE:(a00 32 s).length≤2000000:=by rw[a0r];have:=e3k (a:=(32:UInt8)) (l:=s);omega
 have dF:0<(a00 32 s).length:=by rw[a0r];omega
 have aN:(s.length:Int)≤4096:=by omega
 have aF:=λd H e=>a0i (d:=d) H e;obtain⟨rr,⟨R,ap,aM,aw,rfl⟩,hd⟩:=a3v (a00 32 s).length (a00 32 s) rfl dF dE;have aE:=a21 (a00 32 s);have cK:a0e L.env false (sem L.env Mf) (.func (.func 23) [] []) [.str s,.str [32]] [some o0]=some (.slice 1 0 (a00 32 s).length (some (a00 32 s).length),[some o0,some (.row 1 (sR (a00 32 s)))],[]):=a1f [some o0] s 32 (by omega);have bf:a0e L.env false (sem L.env Mf) (.func (.func 63) [] []) [.slice 1 0 (a00 32 s).length (some (a00 32 s).length),.func (.func 64) [] []] [some o0,some (.row 1 (sR (a00 32 s)))]=some (.slice 1 0 (a2i (a00 32 s)).length (some (a00 32 s).length),[some o0,some (.row 1 R)],[1]):=a0z (by kernel_rfl) (by kernel_rfl) rfl (b:=1) (o:=.row 1 (sR (a00 32 s))) (o':=.row 1 R) rfl (a0o (a0m _)) (FlatO.row (a0m _)) rfl rfl hd (FlatO.row aw) rfl;have bi:RdAt [some o0,some (.row 1 R)] 0 r:=hR.ext (a29 [some o0] [some (.row 1 R)]);rcases br with br|⟨a,tl,br⟩
 ·rw[br]at bf aM aE;simp only[e27]at bf aE;generalize(a00 32 s).length=nW at *;generalize sR (a00 32 s)=RW at *
  (refine svE Tryz.f41 ?_;simp only[Tryz.f41,gS])
  (repeat first|simp only[ww]|(apply xa;simp+decide only[go_sem,aF,aN,cK,bf];rfl;kernel_rfl))
  (apply a4x;(·simp+decide only[go_sem]<;>rfl))
  exact⟨_,rfl,bi⟩
 ·rw[br]at bf aM aE;have dw:R[0]?=some [.str (35::a)]:=sR0 aM rfl;simp only[b94]at bf aE;generalize hk:tl.length+1=m at *;have m0:0<m:=by omega
  have m1:¬(m:Int)=0:=by omega
  generalize(a00 32 s).length=nW at *;generalize sR (a00 32 s)=RW at *;have m2:0<nW:=by omega
  have m3:0<a.length+1:=by omega
  (refine svE Tryz.f41 ?_;simp only[Tryz.f41,gS])
  (repeat first|simp only[ww]|(apply xa;simp+decide only[go_sem,aF,aN,cK,bf,m0,m1,m2,m3,dw,ap,e29,b94];rfl;kernel_rfl))
  (apply a4x;(·simp+decide only[go_sem]<;>rfl))
  exact⟨_,rfl,bi⟩
theorem c5i(o0:AObj)(r r':Rd)(s:List UInt8)(hl:s.length≤4096)(hR:RdAt [some o0] 0 r)(tl:List (List UInt8))(br:a2i (a00 32 s)=[115,105,103,110,97,108]::tl)(aj:∀R,R.length=(a00 32 s).length→R.take (tl.length+1)=sR ([115,105,103,110,97,108]::tl)→FlatR R→tl.length+1≤(a00 32 s).length→a6l 65 (tl.length+1) (some (a00 32 s).length) R r r'):∃q:AV×a08,(∃H1,q=(.tuple [],H1)∧RdAt H1 0 r')∧sem L.env Mf 41 [.ptr 0 0 0,.str s] [some o0]=some q:=by
 have dE:(a00 32 s).length≤2000000:=by rw[a0r];have:=e3k (a:=(32:UInt8)) (l:=s);omega
 have dF:0<(a00 32 s).length:=by rw[a0r];omega
 have aN:(s.length:Int)≤4096:=by omega
 have aF:=λd H e=>a0i (d:=d) H e;obtain⟨rr,⟨R,ap,aM,aw,rfl⟩,hd⟩:=a3v (a00 32 s).length (a00 32 s) rfl dF dE;have aE:=a21 (a00 32 s);have cK:a0e L.env false (sem L.env Mf) (.func (.func 23) [] []) [.str s,.str [32]] [some o0]=some (.slice 1 0 (a00 32 s).length (some (a00 32 s).length),[some o0,some (.row 1 (sR (a00 32 s)))],[]):=a1f [some o0] s 32 (by omega);have bf:a0e L.env false (sem L.env Mf) (.func (.func 63) [] []) [.slice 1 0 (a00 32 s).length (some (a00 32 s).length),.func (.func 64) [] []] [some o0,some (.row 1 (sR (a00 32 s)))]=some (.slice 1 0 (a2i (a00 32 s)).length (some (a00 32 s).length),[some o0,some (.row 1 R)],[1]):=a0z (by kernel_rfl) (by kernel_rfl) rfl (b:=1) (o:=.row 1 (sR (a00 32 s))) (o':=.row 1 R) rfl (a0o (a0m _)) (FlatO.row (a0m _)) rfl rfl hd (FlatO.row aw) rfl;rw[br]at bf aM aE;have dw:R[0]?=some [.str [115,105,103,110,97,108]]:=sR0 aM rfl;simp only[b94]at bf aE aM;have ej:=aj R ap aM aw aE;have bi:RdAt [some o0,some (.row 1 R),some (.map [.str a1o,.str a24,.str a34] [fS,fT,fV] [0,1,2] 3)] 0 r:=hR.ext (a29 [some o0] [some (.row 1 R),some (.map [.str a1o,.str a24,.str a34] [fS,fT,fV] [0,1,2] 3)]);obtain⟨H',σ,aX,gy⟩:=a4v [some o0,some (.row 1 R),some (.map [.str a1o,.str a24,.str a34] [fS,fT,fV] [0,1,2] 3)] 0 1 65 (tl.length+1) (some (a00 32 s).length) R r r' (by kernel_rfl) (by kernel_rfl) aw bi rfl ej;generalize hk:tl.length+1=m at *;have m0:0<m:=by omega
 have m1:¬(m:Int)=0:=by omega
 generalize(a00 32 s).length=nW at *;generalize sR (a00 32 s)=RW at *;have m2:0<nW:=by omega
 have t1:a0c L.env (a03 [some o0,some (.row 1 R),some (.map [] [] [] 0)]) 114 (.map 2) (.str [115,105,103,110,97,108]) (.func (.func 65) [.ptr 0 0 0] [])=some (.set 2 (.map [.str a1o] [fS] [0] 1)):=by kernel_rfl
 have t2:a0c L.env (a03 [some o0,some (.row 1 R),some (.map [.str a1o] [fS] [0] 1)]) 114 (.map 2) (.str [116,105,109,105,110,103]) (.func (.func 66) [.ptr 0 0 0] [])=some (.set 2 (.map [.str a1o,.str a24] [fS,fT] [0,1] 2)):=by kernel_rfl
 have t3:a0c L.env (a03 [some o0,some (.row 1 R),some (.map [.str a1o,.str a24] [fS,fT] [0,1] 2)]) 114 (.map 2) (.str [118,101,99,116,111,114]) (.func (.func 67) [.ptr 0 0 0] [])=some (.set 2 (.map [.str a1o,.str a24,.str a34] [fS,fT,fV] [0,1,2] 3)):=by kernel_rfl
 have t4:a28 L.env (a03 [some o0,some (.row 1 R),some (.map [.str a1o,.str a24,.str a34] [fS,fT,fV] [0,1,2] 3)]) 114 (.map 2) (.str [115,105,103,110,97,108]) true=some (.tuple [.func (.func 65) [.ptr 0 0 0] [],.bool true]):=by kernel_rfl
 (refine svE Tryz.f41 ?_;simp only[Tryz.f41,gS])
 (repeat first|simp only[ww]|(apply xa;simp+decide only[go_sem,aF,aN,cK,bf,m0,m1,m2,dw,ap,e29,t1,t2,t3,t4,aX];rfl;kernel_rfl))
 (apply a4x;(·simp+decide only[go_sem]<;>rfl))
 exact⟨_,rfl,gy⟩
theorem c5h(o0:AObj)(r r':Rd)(s:List UInt8)(hl:s.length≤4096)(hR:RdAt [some o0] 0 r)(tl:List (List UInt8))(br:a2i (a00 32 s)=[116,105,109,105,110,103]::tl)(aj:∀R,R.length=(a00 32 s).length→R.take (tl.length+1)=sR ([116,105,109,105,110,103]::tl)→FlatR R→tl.length+1≤(a00 32 s).length→a6l 66 (tl.length+1) (some (a00 32 s).length) R r r'):∃q:AV×a08,(∃H1,q=(.tuple [],H1)∧RdAt H1 0 r')∧sem L.env Mf 41 [.ptr 0 0 0,.str s] [some o0]=some q:=by
 have dE:(a00 32 s).length≤2000000:=by rw[a0r];have:=e3k (a:=(32:UInt8)) (l:=s);omega
 have dF:0<(a00 32 s).length:=by rw[a0r];omega
 have aN:(s.length:Int)≤4096:=by omega
 have aF:=λd H e=>a0i (d:=d) H e;obtain⟨rr,⟨R,ap,aM,aw,rfl⟩,hd⟩:=a3v (a00 32 s).length (a00 32 s) rfl dF dE;have aE:=a21 (a00 32 s);have cK:a0e L.env false (sem L.env Mf) (.func (.func 23) [] []) [.str s,.str [32]] [some o0]=some (.slice 1 0 (a00 32 s).length (some (a00 32 s).length),[some o0,some (.row 1 (sR (a00 32 s)))],[]):=a1f [some o0] s 32 (by omega);have bf:a0e L.env false (sem L.env Mf) (.func (.func 63) [] []) [.slice 1 0 (a00 32 s).length (some (a00 32 s).length),.func (.func 64) [] []] [some o0,some (.row 1 (sR (a00 32 s)))]=some (.slice 1 0 (a2i (a00 32 s)).length (some (a00 32 s).length),[some o0,some (.row 1 R)],[1]):=a0z (by kernel_rfl) (by kernel_rfl) rfl (b:=1) (o:=.row 1 (sR (a00 32 s))) (o':=.row 1 R) rfl (a0o (a0m _)) (FlatO.row (a0m _)) rfl rfl hd (FlatO.row aw) rfl;rw[br]at bf aM aE;have dw:R[0]?=some [.str [116,105,109,105,110,103]]:=sR0 aM rfl;simp only[b94]at bf aE aM;have ej:=aj R ap aM aw aE;have bi:RdAt [some o0,some (.row 1 R),some (.map [.str a1o,.str a24,.str a34] [fS,fT,fV] [0,1,2] 3)] 0 r:=hR.ext (a29 [some o0] [some (.row 1 R),some (.map [.str a1o,.str a24,.str a34] [fS,fT,fV] [0,1,2] 3)]);obtain⟨H',σ,aX,gy⟩:=a4v [some o0,some (.row 1 R),some (.map [.str a1o,.str a24,.str a34] [fS,fT,fV] [0,1,2] 3)] 0 1 66 (tl.length+1) (some (a00 32 s).length) R r r' (by kernel_rfl) (by kernel_rfl) aw bi rfl ej;generalize hk:tl.length+1=m at *;have m0:0<m:=by omega
 have m1:¬(m:Int)=0:=by omega
 generalize(a00 32 s).length=nW at *;generalize sR (a00 32 s)=RW at *;have m2:0<nW:=by omega
 have t1:a0c L.env (a03 [some o0,some (.row 1 R),some (.map [] [] [] 0)]) 114 (.map 2) (.str [115,105,103,110,97,108]) (.func (.func 65) [.ptr 0 0 0] [])=some (.set 2 (.map [.str a1o] [fS] [0] 1)):=by kernel_rfl
 have t2:a0c L.env (a03 [some o0,some (.row 1 R),some (.map [.str a1o] [fS] [0] 1)]) 114 (.map 2) (.str [116,105,109,105,110,103]) (.func (.func 66) [.ptr 0 0 0] [])=some (.set 2 (.map [.str a1o,.str a24] [fS,fT] [0,1] 2)):=by kernel_rfl
 have t3:a0c L.env (a03 [some o0,some (.row 1 R),some (.map [.str a1o,.str a24] [fS,fT] [0,1] 2)]) 114 (.map 2) (.str [118,101,99,116,111,114]) (.func (.func 67) [.ptr 0 0 0] [])=some (.set 2 (.map [.str a1o,.str a24,.str a34] [fS,fT,fV] [0,1,2] 3)):=by kernel_rfl
 have t4:a28 L.env (a03 [some o0,some (.row 1 R),some (.map [.str a1o,.str a24,.str a34] [fS,fT,fV] [0,1,2] 3)]) 114 (.map 2) (.str [116,105,109,105,110,103]) true=some (.tuple [.func (.func 66) [.ptr 0 0 0] [],.bool true]):=by kernel_rfl
 (refine svE Tryz.f41 ?_;simp only[Tryz.f41,gS])
 (repeat first|simp only[ww]|(apply xa;simp+decide only[go_sem,aF,aN,cK,bf,m0,m1,m2,dw,ap,e29,t1,t2,t3,t4,aX];rfl;kernel_rfl))
 (apply a4x;(·simp+decide only[go_sem]<;>rfl))
 exact⟨_,rfl,gy⟩
theorem c5g(o0:AObj)(r r':Rd)(s:List UInt8)(hl:s.length≤4096)(hR:RdAt [some o0] 0 r)(tl:List (List UInt8))(br:a2i (a00 32 s)=[118,101,99,116,111,114]::tl)(aj:∀R,R.length=(a00 32 s).length→R.take (tl.length+1)=sR ([118,101,99,116,111,114]::tl)→FlatR R→tl.length+1≤(a00 32 s).length→a6l 67 (tl.length+1) (some (a00 32 s).length) R r r'):∃q:AV×a08,(∃H1,q=(.tuple [],H1)∧RdAt H1 0 r')∧sem L.env Mf 41 [.ptr 0 0 0,.str s] [some o0]=some q:=by
 have dE:(a00 32 s).length≤2000000:=by rw[a0r];have:=e3k (a:=(32:UInt8)) (l:=s);omega
 have dF:0<(a00 32 s).length:=by rw[a0r];omega
 have aN:(s.length:Int)≤4096:=by omega
 have aF:=λd H e=>a0i (d:=d) H e;obtain⟨rr,⟨R,ap,aM,aw,rfl⟩,hd⟩:=a3v (a00 32 s).length (a00 32 s) rfl dF dE;have aE:=a21 (a00 32 s);have cK:a0e L.env false (sem L.env Mf) (.func (.func 23) [] []) [.str s,.str [32]] [some o0]=some (.slice 1 0 (a00 32 s).length (some (a00 32 s).length),[some o0,some (.row 1 (sR (a00 32 s)))],[]):=a1f [some o0] s 32 (by omega);have bf:a0e L.env false (sem L.env Mf) (.func (.func 63) [] []) [.slice 1 0 (a00 32 s).length (some (a00 32 s).length),.func (.func 64) [] []] [some o0,some (.row 1 (sR (a00 32 s)))]=some (.slice 1 0 (a2i (a00 32 s)).length (some (a00 32 s).length),[some o0,some (.row 1 R)],[1]):=a0z (by kernel_rfl) (by kernel_rfl) rfl (b:=1) (o:=.row 1 (sR (a00 32 s))) (o':=.row 1 R) rfl (a0o (a0m _)) (FlatO.row (a0m _)) rfl rfl hd (FlatO.row aw) rfl;rw[br]at bf aM aE;have dw:R[0]?=some [.str [118,101,99,116,111,114]]:=sR0 aM rfl;simp only[b94]at bf aE aM;have ej:=aj R ap aM aw aE;have bi:RdAt [some o0,some (.row 1 R),some (.map [.str a1o,.str a24,.str a34] [fS,fT,fV] [0,1,2] 3)] 0 r:=hR.ext (a29 [some o0] [some (.row 1 R),some (.map [.str a1o,.str a24,.str a34] [fS,fT,fV] [0,1,2] 3)]);obtain⟨H',σ,aX,gy⟩:=a4v [some o0,some (.row 1 R),some (.map [.str a1o,.str a24,.str a34] [fS,fT,fV] [0,1,2] 3)] 0 1 67 (tl.length+1) (some (a00 32 s).length) R r r' (by kernel_rfl) (by kernel_rfl) aw bi rfl ej;generalize hk:tl.length+1=m at *;have m0:0<m:=by omega
 have m1:¬(m:Int)=0:=by omega
 generalize(a00 32 s).length=nW at *;generalize sR (a00 32 s)=RW at *;have m2:0<nW:=by omega
 have t1:a0c L.env (a03 [some o0,some (.row 1 R),some (.map [] [] [] 0)]) 114 (.map 2) (.str [115,105,103,110,97,108]) (.func (.func 65) [.ptr 0 0 0] [])=some (.set 2 (.map [.str a1o] [fS] [0] 1)):=by kernel_rfl
 have t2:a0c L.env (a03 [some o0,some (.row 1 R),some (.map [.str a1o] [fS] [0] 1)]) 114 (.map 2) (.str [116,105,109,105,110,103]) (.func (.func 66) [.ptr 0 0 0] [])=some (.set 2 (.map [.str a1o,.str a24] [fS,fT] [0,1] 2)):=by kernel_rfl
 have t3:a0c L.env (a03 [some o0,some (.row 1 R),some (.map [.str a1o,.str a24] [fS,fT] [0,1] 2)]) 114 (.map 2) (.str [118,101,99,116,111,114]) (.func (.func 67) [.ptr 0 0 0] [])=some (.set 2 (.map [.str a1o,.str a24,.str a34] [fS,fT,fV] [0,1,2] 3)):=by kernel_rfl
 have t4:a28 L.env (a03 [some o0,some (.row 1 R),some (.map [.str a1o,.str a24,.str a34] [fS,fT,fV] [0,1,2] 3)]) 114 (.map 2) (.str [118,101,99,116,111,114]) true=some (.tuple [.func (.func 67) [.ptr 0 0 0] [],.bool true]):=by kernel_rfl
 (refine svE Tryz.f41 ?_;simp only[Tryz.f41,gS])
 (repeat first|simp only[ww]|(apply xa;simp+decide only[go_sem,aF,aN,cK,bf,m0,m1,m2,dw,ap,e29,t1,t2,t3,t4,aX];rfl;kernel_rfl))
 (apply a4x;(·simp+decide only[go_sem]<;>rfl))
 exact⟨_,rfl,gy⟩
theorem c2s(o0 o1:AObj)(r:Rd)(s:List UInt8)(hl:s.length≤4096)(hR:RdAt [some o0,some o1] 0 r)(br:a2i (a00 32 s)=[]∨∃a tl,a2i (a00 32 s)=(35::a)::tl):∃q:AV×a08,(∃H1,q=(.tuple [],H1)∧RdAt H1 0 r)∧sem L.env Mf 41 [.ptr 0 0 0,.str s] [some o0,some o1]=some q:=by
 have dE:(a00 32 s).length≤2000000:=by rw[a0r];have:=e3k (a:=(32:UInt8)) (l:=s);omega
 have dF:0<(a00 32 s).length:=by rw[a0r];omega
 have aN:(s.length:Int)≤4096:=by omega
 have aF:=λd H e=>a0i (d:=d) H e;obtain⟨rr,⟨R,ap,aM,aw,rfl⟩,hd⟩:=a3v (a00 32 s).length (a00 32 s) rfl dF dE;have aE:=a21 (a00 32 s);have cK:a0e L.env false (sem L.env Mf) (.func (.func 23) [] []) [.str s,.str [32]] [some o0,some o1]=some (.slice 2 0 (a00 32 s).length (some (a00 32 s).length),[some o0,some o1,some (.row 1 (sR (a00 32 s)))],[]):=a1f [some o0,some o1] s 32 (by omega);have bf:a0e L.env false (sem L.env Mf) (.func (.func 63) [] []) [.slice 2 0 (a00 32 s).length (some (a00 32 s).length),.func (.func 64) [] []] [some o0,some o1,some (.row 1 (sR (a00 32 s)))]=some (.slice 2 0 (a2i (a00 32 s)).length (some (a00 32 s).length),[some o0,some o1,some (.row 1 R)],[2]):=a0z (by kernel_rfl) (by kernel_rfl) rfl (b:=2) (o:=.row 1 (sR (a00 32 s))) (o':=.row 1 R) rfl (a0o (a0m _)) (FlatO.row (a0m _)) rfl rfl hd (FlatO.row aw) rfl;have bi:RdAt [some o0,some o1,some (.row 1 R)] 0 r:=hR.ext (a29 [some o0,some o1] [some (.row 1 R)]);rcases br with br|⟨a,tl,br⟩
 ·rw[br]at bf aM aE;simp only[e27]at bf aE;generalize(a00 32 s).length=nW at *;generalize sR (a00 32 s)=RW at *
  (refine svE Tryz.f41 ?_;simp only[Tryz.f41,gS])
  (repeat first|simp only[ww]|(apply xa;simp+decide only[go_sem,aF,aN,cK,bf];rfl;kernel_rfl))
  (apply a4x;(·simp+decide only[go_sem]<;>rfl))
  exact⟨_,rfl,bi⟩
 ·rw[br]at bf aM aE;have dw:R[0]?=some [.str (35::a)]:=sR0 aM rfl;simp only[b94]at bf aE;generalize hk:tl.length+1=m at *;have m0:0<m:=by omega
  have m1:¬(m:Int)=0:=by omega
  generalize(a00 32 s).length=nW at *;generalize sR (a00 32 s)=RW at *;have m2:0<nW:=by omega
  have m3:0<a.length+1:=by omega
  (refine svE Tryz.f41 ?_;simp only[Tryz.f41,gS])
  (repeat first|simp only[ww]|(apply xa;simp+decide only[go_sem,aF,aN,cK,bf,m0,m1,m2,m3,dw,ap,e29,b94];rfl;kernel_rfl))
  (apply a4x;(·simp+decide only[go_sem]<;>rfl))
  exact⟨_,rfl,bi⟩
theorem c5f(o0 o1:AObj)(r r':Rd)(s:List UInt8)(hl:s.length≤4096)(hR:RdAt [some o0,some o1] 0 r)(tl:List (List UInt8))(br:a2i (a00 32 s)=[115,105,103,110,97,108]::tl)(aj:∀R,R.length=(a00 32 s).length→R.take (tl.length+1)=sR ([115,105,103,110,97,108]::tl)→FlatR R→tl.length+1≤(a00 32 s).length→a6l 65 (tl.length+1) (some (a00 32 s).length) R r r'):∃q:AV×a08,(∃H1,q=(.tuple [],H1)∧RdAt H1 0 r')∧sem L.env Mf 41 [.ptr 0 0 0,.str s] [some o0,some o1]=some q:=by
 have dE:(a00 32 s).length≤2000000:=by rw[a0r];have:=e3k (a:=(32:UInt8)) (l:=s);omega
 have dF:0<(a00 32 s).length:=by rw[a0r];omega
 have aN:(s.length:Int)≤4096:=by omega
 have aF:=λd H e=>a0i (d:=d) H e;obtain⟨rr,⟨R,ap,aM,aw,rfl⟩,hd⟩:=a3v (a00 32 s).length (a00 32 s) rfl dF dE;have aE:=a21 (a00 32 s);have cK:a0e L.env false (sem L.env Mf) (.func (.func 23) [] []) [.str s,.str [32]] [some o0,some o1]=some (.slice 2 0 (a00 32 s).length (some (a00 32 s).length),[some o0,some o1,some (.row 1 (sR (a00 32 s)))],[]):=a1f [some o0,some o1] s 32 (by omega);have bf:a0e L.env false (sem L.env Mf) (.func (.func 63) [] []) [.slice 2 0 (a00 32 s).length (some (a00 32 s).length),.func (.func 64) [] []] [some o0,some o1,some (.row 1 (sR (a00 32 s)))]=some (.slice 2 0 (a2i (a00 32 s)).length (some (a00 32 s).length),[some o0,some o1,some (.row 1 R)],[2]):=a0z (by kernel_rfl) (by kernel_rfl) rfl (b:=2) (o:=.row 1 (sR (a00 32 s))) (o':=.row 1 R) rfl (a0o (a0m _)) (FlatO.row (a0m _)) rfl rfl hd (FlatO.row aw) rfl;rw[br]at bf aM aE;have dw:R[0]?=some [.str [115,105,103,110,97,108]]:=sR0 aM rfl;simp only[b94]at bf aE aM;have ej:=aj R ap aM aw aE;have bi:RdAt [some o0,some o1,some (.row 1 R),some (.map [.str a1o,.str a24,.str a34] [fS,fT,fV] [0,1,2] 3)] 0 r:=hR.ext (a29 [some o0,some o1] [some (.row 1 R),some (.map [.str a1o,.str a24,.str a34] [fS,fT,fV] [0,1,2] 3)]);obtain⟨H',σ,aX,gy⟩:=a4v [some o0,some o1,some (.row 1 R),some (.map [.str a1o,.str a24,.str a34] [fS,fT,fV] [0,1,2] 3)] 0 2 65 (tl.length+1) (some (a00 32 s).length) R r r' (by kernel_rfl) (by kernel_rfl) aw bi rfl ej;generalize hk:tl.length+1=m at *;have m0:0<m:=by omega
 have m1:¬(m:Int)=0:=by omega
 generalize(a00 32 s).length=nW at *;generalize sR (a00 32 s)=RW at *;have m2:0<nW:=by omega
 have t1:a0c L.env (a03 [some o0,some o1,some (.row 1 R),some (.map [] [] [] 0)]) 114 (.map 3) (.str [115,105,103,110,97,108]) (.func (.func 65) [.ptr 0 0 0] [])=some (.set 3 (.map [.str a1o] [fS] [0] 1)):=by kernel_rfl
 have t2:a0c L.env (a03 [some o0,some o1,some (.row 1 R),some (.map [.str a1o] [fS] [0] 1)]) 114 (.map 3) (.str [116,105,109,105,110,103]) (.func (.func 66) [.ptr 0 0 0] [])=some (.set 3 (.map [.str a1o,.str a24] [fS,fT] [0,1] 2)):=by kernel_rfl
 have t3:a0c L.env (a03 [some o0,some o1,some (.row 1 R),some (.map [.str a1o,.str a24] [fS,fT] [0,1] 2)]) 114 (.map 3) (.str [118,101,99,116,111,114]) (.func (.func 67) [.ptr 0 0 0] [])=some (.set 3 (.map [.str a1o,.str a24,.str a34] [fS,fT,fV] [0,1,2] 3)):=by kernel_rfl
 have t4:a28 L.env (a03 [some o0,some o1,some (.row 1 R),some (.map [.str a1o,.str a24,.str a34] [fS,fT,fV] [0,1,2] 3)]) 114 (.map 3) (.str [115,105,103,110,97,108]) true=some (.tuple [.func (.func 65) [.ptr 0 0 0] [],.bool true]):=by kernel_rfl
 (refine svE Tryz.f41 ?_;simp only[Tryz.f41,gS])
 (repeat first|simp only[ww]|(apply xa;simp+decide only[go_sem,aF,aN,cK,bf,m0,m1,m2,dw,ap,e29,t1,t2,t3,t4,aX];rfl;kernel_rfl))
 (apply a4x;(·simp+decide only[go_sem]<;>rfl))
 exact⟨_,rfl,gy⟩
theorem c5e(o0 o1:AObj)(r r':Rd)(s:List UInt8)(hl:s.length≤4096)(hR:RdAt [some o0,some o1] 0 r)(tl:List (List UInt8))(br:a2i (a00 32 s)=[116,105,109,105,110,103]::tl)(aj:∀R,R.length=(a00 32 s).length→R.take (tl.length+1)=sR ([116,105,109,105,110,103]::tl)→FlatR R→tl.length+1≤(a00 32 s).length→a6l 66 (tl.length+1) (some (a00 32 s).length) R r r'):∃q:AV×a08,(∃H1,q=(.tuple [],H1)∧RdAt H1 0 r')∧sem L.env Mf 41 [.ptr 0 0 0,.str s] [some o0,some o1]=some q:=by
 have dE:(a00 32 s).length≤2000000:=by rw[a0r];have:=e3k (a:=(32:UInt8)) (l:=s);omega
 have dF:0<(a00 32 s).length:=by rw[a0r];omega
 have aN:(s.length:Int)≤4096:=by omega
 have aF:=λd H e=>a0i (d:=d) H e;obtain⟨rr,⟨R,ap,aM,aw,rfl⟩,hd⟩:=a3v (a00 32 s).length (a00 32 s) rfl dF dE;have aE:=a21 (a00 32 s);have cK:a0e L.env false (sem L.env Mf) (.func (.func 23) [] []) [.str s,.str [32]] [some o0,some o1]=some (.slice 2 0 (a00 32 s).length (some (a00 32 s).length),[some o0,some o1,some (.row 1 (sR (a00 32 s)))],[]):=a1f [some o0,some o1] s 32 (by omega);have bf:a0e L.env false (sem L.env Mf) (.func (.func 63) [] []) [.slice 2 0 (a00 32 s).length (some (a00 32 s).length),.func (.func 64) [] []] [some o0,some o1,some (.row 1 (sR (a00 32 s)))]=some (.slice 2 0 (a2i (a00 32 s)).length (some (a00 32 s).length),[some o0,some o1,some (.row 1 R)],[2]):=a0z (by kernel_rfl) (by kernel_rfl) rfl (b:=2) (o:=.row 1 (sR (a00 32 s))) (o':=.row 1 R) rfl (a0o (a0m _)) (FlatO.row (a0m _)) rfl rfl hd (FlatO.row aw) rfl;rw[br]at bf aM aE;have dw:R[0]?=some [.str [116,105,109,105,110,103]]:=sR0 aM rfl;simp only[b94]at bf aE aM;have ej:=aj R ap aM aw aE;have bi:RdAt [some o0,some o1,some (.row 1 R),some (.map [.str a1o,.str a24,.str a34] [fS,fT,fV] [0,1,2] 3)] 0 r:=hR.ext (a29 [some o0,some o1] [some (.row 1 R),some (.map [.str a1o,.str a24,.str a34] [fS,fT,fV] [0,1,2] 3)]);obtain⟨H',σ,aX,gy⟩:=a4v [some o0,some o1,some (.row 1 R),some (.map [.str a1o,.str a24,.str a34] [fS,fT,fV] [0,1,2] 3)] 0 2 66 (tl.length+1) (some (a00 32 s).length) R r r' (by kernel_rfl) (by kernel_rfl) aw bi rfl ej;generalize hk:tl.length+1=m at *;have m0:0<m:=by omega
 have m1:¬(m:Int)=0:=by omega
 generalize(a00 32 s).length=nW at *;generalize sR (a00 32 s)=RW at *;have m2:0<nW:=by omega
 have t1:a0c L.env (a03 [some o0,some o1,some (.row 1 R),some (.map [] [] [] 0)]) 114 (.map 3) (.str [115,105,103,110,97,108]) (.func (.func 65) [.ptr 0 0 0] [])=some (.set 3 (.map [.str a1o] [fS] [0] 1)):=by kernel_rfl
 have t2:a0c L.env (a03 [some o0,some o1,some (.row 1 R),some (.map [.str a1o] [fS] [0] 1)]) 114 (.map 3) (.str [116,105,109,105,110,103]) (.func (.func 66) [.ptr 0 0 0] [])=some (.set 3 (.map [.str a1o,.str a24] [fS,fT] [0,1] 2)):=by kernel_rfl
 have t3:a0c L.env (a03 [some o0,some o1,some (.row 1 R),some (.map [.str a1o,.str a24] [fS,fT] [0,1] 2)]) 114 (.map 3) (.str [118,101,99,116,111,114]) (.func (.func 67) [.ptr 0 0 0] [])=some (.set 3 (.map [.str a1o,.str a24,.str a34] [fS,fT,fV] [0,1,2] 3)):=by kernel_rfl
 have t4:a28 L.env (a03 [some o0,some o1,some (.row 1 R),some (.map [.str a1o,.str a24,.str a34] [fS,fT,fV] [0,1,2] 3)]) 114 (.map 3) (.str [116,105,109,105,110,103]) true=some (.tuple [.func (.func 66) [.ptr 0 0 0] [],.bool true]):=by kernel_rfl
 (refine svE Tryz.f41 ?_;simp only[Tryz.f41,gS])
 (repeat first|simp only[ww]|(apply xa;simp+decide only[go_sem,aF,aN,cK,bf,m0,m1,m2,dw,ap,e29,t1,t2,t3,t4,aX];rfl;kernel_rfl))
 (apply a4x;(·simp+decide only[go_sem]<;>rfl))
 exact⟨_,rfl,gy⟩
theorem c5d(o0 o1:AObj)(r r':Rd)(s:List UInt8)(hl:s.length≤4096)(hR:RdAt [some o0,some o1] 0 r)(tl:List (List UInt8))(br:a2i (a00 32 s)=[118,101,99,116,111,114]::tl)(aj:∀R,R.length=(a00 32 s).length→R.take (tl.length+1)=sR ([118,101,99,116,111,114]::tl)→FlatR R→tl.length+1≤(a00 32 s).length→a6l 67 (tl.length+1) (some (a00 32 s).length) R r r'):∃q:AV×a08,(∃H1,q=(.tuple [],H1)∧RdAt H1 0 r')∧sem L.env Mf 41 [.ptr 0 0 0,.str s] [some o0,some o1]=some q:=by
 have dE:(a00 32 s).length≤2000000:=by rw[a0r];have:=e3k (a:=(32:UInt8)) (l:=s);omega
 have dF:0<(a00 32 s).length:=by rw[a0r];omega
 have aN:(s.length:Int)≤4096:=by omega
 have aF:=λd H e=>a0i (d:=d) H e;obtain⟨rr,⟨R,ap,aM,aw,rfl⟩,hd⟩:=a3v (a00 32 s).length (a00 32 s) rfl dF dE;have aE:=a21 (a00 32 s);have cK:a0e L.env false (sem L.env Mf) (.func (.func 23) [] []) [.str s,.str [32]] [some o0,some o1]=some (.slice 2 0 (a00 32 s).length (some (a00 32 s).length),[some o0,some o1,some (.row 1 (sR (a00 32 s)))],[]):=a1f [some o0,some o1] s 32 (by omega);have bf:a0e L.env false (sem L.env Mf) (.func (.func 63) [] []) [.slice 2 0 (a00 32 s).length (some (a00 32 s).length),.func (.func 64) [] []] [some o0,some o1,some (.row 1 (sR (a00 32 s)))]=some (.slice 2 0 (a2i (a00 32 s)).length (some (a00 32 s).length),[some o0,some o1,some (.row 1 R)],[2]):=a0z (by kernel_rfl) (by kernel_rfl) rfl (b:=2) (o:=.row 1 (sR (a00 32 s))) (o':=.row 1 R) rfl (a0o (a0m _)) (FlatO.row (a0m _)) rfl rfl hd (FlatO.row aw) rfl;rw[br]at bf aM aE;have dw:R[0]?=some [.str [118,101,99,116,111,114]]:=sR0 aM rfl;simp only[b94]at bf aE aM;have ej:=aj R ap aM aw aE;have bi:RdAt [some o0,some o1,some (.row 1 R),some (.map [.str a1o,.str a24,.str a34] [fS,fT,fV] [0,1,2] 3)] 0 r:=hR.ext (a29 [some o0,some o1] [some (.row 1 R),some (.map [.str a1o,.str a24,.str a34] [fS,fT,fV] [0,1,2] 3)]);obtain⟨H',σ,aX,gy⟩:=a4v [some o0,some o1,some (.row 1 R),some (.map [.str a1o,.str a24,.str a34] [fS,fT,fV] [0,1,2] 3)] 0 2 67 (tl.length+1) (some (a00 32 s).length) R r r' (by kernel_rfl) (by kernel_rfl) aw bi rfl ej;generalize hk:tl.length+1=m at *;have m0:0<m:=by omega
 have m1:¬(m:Int)=0:=by omega
 generalize(a00 32 s).length=nW at *;generalize sR (a00 32 s)=RW at *;have m2:0<nW:=by omega
 have t1:a0c L.env (a03 [some o0,some o1,some (.row 1 R),some (.map [] [] [] 0)]) 114 (.map 3) (.str [115,105,103,110,97,108]) (.func (.func 65) [.ptr 0 0 0] [])=some (.set 3 (.map [.str a1o] [fS] [0] 1)):=by kernel_rfl
 have t2:a0c L.env (a03 [some o0,some o1,some (.row 1 R),some (.map [.str a1o] [fS] [0] 1)]) 114 (.map 3) (.str [116,105,109,105,110,103]) (.func (.func 66) [.ptr 0 0 0] [])=some (.set 3 (.map [.str a1o,.str a24] [fS,fT] [0,1] 2)):=by kernel_rfl
 have t3:a0c L.env (a03 [some o0,some o1,some (.row 1 R),some (.map [.str a1o,.str a24] [fS,fT] [0,1] 2)]) 114 (.map 3) (.str [118,101,99,116,111,114]) (.func (.func 67) [.ptr 0 0 0] [])=some (.set 3 (.map [.str a1o,.str a24,.str a34] [fS,fT,fV] [0,1,2] 3)):=by kernel_rfl
 have t4:a28 L.env (a03 [some o0,some o1,some (.row 1 R),some (.map [.str a1o,.str a24,.str a34] [fS,fT,fV] [0,1,2] 3)]) 114 (.map 3) (.str [118,101,99,116,111,114]) true=some (.tuple [.func (.func 67) [.ptr 0 0 0] [],.bool true]):=by kernel_rfl
 (refine svE Tryz.f41 ?_;simp only[Tryz.f41,gS])
 (repeat first|simp only[ww]|(apply xa;simp+decide only[go_sem,aF,aN,cK,bf,m0,m1,m2,dw,ap,e29,t1,t2,t3,t4,aX];rfl;kernel_rfl))
 (apply a4x;(·simp+decide only[go_sem]<;>rfl))
 exact⟨_,rfl,gy⟩
theorem c2r(o0 o1 o2:AObj)(r:Rd)(s:List UInt8)(hl:s.length≤4096)(hR:RdAt [some o0,some o1,some o2] 0 r)(br:a2i (a00 32 s)=[]∨∃a tl,a2i (a00 32 s)=(35::a)::tl):∃q:AV×a08,(∃H1,q=(.tuple [],H1)∧RdAt H1 0 r)∧sem L.env Mf 41 [.ptr 0 0 0,.str s] [some o0,some o1,some o2]=some q:=by
 have dE:(a00 32 s).length≤2000000:=by rw[a0r];have:=e3k (a:=(32:UInt8)) (l:=s);omega
 have dF:0<(a00 32 s).length:=by rw[a0r];omega
 have aN:(s.length:Int)≤4096:=by omega
 have aF:=λd H e=>a0i (d:=d) H e;obtain⟨rr,⟨R,ap,aM,aw,rfl⟩,hd⟩:=a3v (a00 32 s).length (a00 32 s) rfl dF dE;have aE:=a21 (a00 32 s);have cK:a0e L.env false (sem L.env Mf) (.func (.func 23) [] []) [.str s,.str [32]] [some o0,some o1,some o2]=some (.slice 3 0 (a00 32 s).length (some (a00 32 s).length),[some o0,some o1,some o2,some (.row 1 (sR (a00 32 s)))],[]):=a1f [some o0,some o1,some o2] s 32 (by omega);have bf:a0e L.env false (sem L.env Mf) (.func (.func 63) [] []) [.slice 3 0 (a00 32 s).length (some (a00 32 s).length),.func (.func 64) [] []] [some o0,some o1,some o2,some (.row 1 (sR (a00 32 s)))]=some (.slice 3 0 (a2i (a00 32 s)).length (some (a00 32 s).length),[some o0,some o1,some o2,some (.row 1 R)],[3]):=a0z (by kernel_rfl) (by kernel_rfl) rfl (b:=3) (o:=.row 1 (sR (a00 32 s))) (o':=.row 1 R) rfl (a0o (a0m _)) (FlatO.row (a0m _)) rfl rfl hd (FlatO.row aw) rfl;have bi:RdAt [some o0,some o1,some o2,some (.row 1 R)] 0 r:=hR.ext (a29 [some o0,some o1,some o2] [some (.row 1 R)]);rcases br with br|⟨a,tl,br⟩
 ·rw[br]at bf aM aE;simp only[e27]at bf aE;generalize(a00 32 s).length=nW at *;generalize sR (a00 32 s)=RW at *
  (refine svE Tryz.f41 ?_;simp only[Tryz.f41,gS])
  (repeat first|simp only[ww]|(apply xa;simp+decide only[go_sem,aF,aN,cK,bf];rfl;kernel_rfl))
  (apply a4x;(·simp+decide only[go_sem]<;>rfl))
  exact⟨_,rfl,bi⟩
 ·rw[br]at bf aM aE;have dw:R[0]?=some [.str (35::a)]:=sR0 aM rfl;simp only[b94]at bf aE;generalize hk:tl.length+1=m at *;have m0:0<m:=by omega
  have m1:¬(m:Int)=0:=by omega
  generalize(a00 32 s).length=nW at *;generalize sR (a00 32 s)=RW at *;have m2:0<nW:=by omega
  have m3:0<a.length+1:=by omega
  (refine svE Tryz.f41 ?_;simp only[Tryz.f41,gS])
  (repeat first|simp only[ww]|(apply xa;simp+decide only[go_sem,aF,aN,cK,bf,m0,m1,m2,m3,dw,ap,e29,b94];rfl;kernel_rfl))
  (apply a4x;(·simp+decide only[go_sem]<;>rfl))
  exact⟨_,rfl,bi⟩
theorem c5c(o0 o1 o2:AObj)(r r':Rd)(s:List UInt8)(hl:s.length≤4096)(hR:RdAt [some o0,some o1,some o2] 0 r)(tl:List (List UInt8))(br:a2i (a00 32 s)=[115,105,103,110,97,108]::tl)(aj:∀R,R.length=(a00 32 s).length→R.take (tl.length+1)=sR ([115,105,103,110,97,108]::tl)→FlatR R→tl.length+1≤(a00 32 s).length→a6l 65 (tl.length+1) (some (a00 32 s).length) R r r'):∃q:AV×a08,(∃H1,q=(.tuple [],H1)∧RdAt H1 0 r')∧sem L.env Mf 41 [.ptr 0 0 0,.str s] [some o0,some o1,some o2]=some q:=by
 have dE:(a00 32 s).length≤2000000:=by rw[a0r];have:=e3k (a:=(32:UInt8)) (l:=s);omega
 have dF:0<(a00 32 s).length:=by rw[a0r];omega
 have aN:(s.length:Int)≤4096:=by omega
 have aF:=λd H e=>a0i (d:=d) H e;obtain⟨rr,⟨R,ap,aM,aw,rfl⟩,hd⟩:=a3v (a00 32 s).length (a00 32 s) rfl dF dE;have aE:=a21 (a00 32 s);have cK:a0e L.env false (sem L.env Mf) (.func (.func 23) [] []) [.str s,.str [32]] [some o0,some o1,some o2]=some (.slice 3 0 (a00 32 s).length (some (a00 32 s).length),[some o0,some o1,some o2,some (.row 1 (sR (a00 32 s)))],[]):=a1f [some o0,some o1,some o2] s 32 (by omega);have bf:a0e L.env false (sem L.env Mf) (.func (.func 63) [] []) [.slice 3 0 (a00 32 s).length (some (a00 32 s).length),.func (.func 64) [] []] [some o0,some o1,some o2,some (.row 1 (sR (a00 32 s)))]=some (.slice 3 0 (a2i (a00 32 s)).length (some (a00 32 s).length),[some o0,some o1,some o2,some (.row 1 R)],[3]):=a0z (by kernel_rfl) (by kernel_rfl) rfl (b:=3) (o:=.row 1 (sR (a00 32 s))) (o':=.row 1 R) rfl (a0o (a0m _)) (FlatO.row (a0m _)) rfl rfl hd (FlatO.row aw) rfl;rw[br]at bf aM aE;have dw:R[0]?=some [.str [115,105,103,110,97,108]]:=sR0 aM rfl;simp only[b94]at bf aE aM;have ej:=aj R ap aM aw aE;have bi:RdAt [some o0,some o1,some o2,some (.row 1 R),some (.map [.str a1o,.str a24,.str a34] [fS,fT,fV] [0,1,2] 3)] 0 r:=hR.ext (a29 [some o0,some o1,some o2] [some (.row 1 R),some (.map [.str a1o,.str a24,.str a34] [fS,fT,fV] [0,1,2] 3)]);obtain⟨H',σ,aX,gy⟩:=a4v [some o0,some o1,some o2,some (.row 1 R),some (.map [.str a1o,.str a24,.str a34] [fS,fT,fV] [0,1,2] 3)] 0 3 65 (tl.length+1) (some (a00 32 s).length) R r r' (by kernel_rfl) (by kernel_rfl) aw bi rfl ej;generalize hk:tl.length+1=m at *;have m0:0<m:=by omega
 have m1:¬(m:Int)=0:=by omega
 generalize(a00 32 s).length=nW at *;generalize sR (a00 32 s)=RW at *;have m2:0<nW:=by omega
 have t1:a0c L.env (a03 [some o0,some o1,some o2,some (.row 1 R),some (.map [] [] [] 0)]) 114 (.map 4) (.str [115,105,103,110,97,108]) (.func (.func 65) [.ptr 0 0 0] [])=some (.set 4 (.map [.str a1o] [fS] [0] 1)):=by kernel_rfl
 have t2:a0c L.env (a03 [some o0,some o1,some o2,some (.row 1 R),some (.map [.str a1o] [fS] [0] 1)]) 114 (.map 4) (.str [116,105,109,105,110,103]) (.func (.func 66) [.ptr 0 0 0] [])=some (.set 4 (.map [.str a1o,.str a24] [fS,fT] [0,1] 2)):=by kernel_rfl
 have t3:a0c L.env (a03 [some o0,some o1,some o2,some (.row 1 R),some (.map [.str a1o,.str a24] [fS,fT] [0,1] 2)]) 114 (.map 4) (.str [118,101,99,116,111,114]) (.func (.func 67) [.ptr 0 0 0] [])=some (.set 4 (.map [.str a1o,.str a24,.str a34] [fS,fT,fV] [0,1,2] 3)):=by kernel_rfl
 have t4:a28 L.env (a03 [some o0,some o1,some o2,some (.row 1 R),some (.map [.str a1o,.str a24,.str a34] [fS,fT,fV] [0,1,2] 3)]) 114 (.map 4) (.str [115,105,103,110,97,108]) true=some (.tuple [.func (.func 65) [.ptr 0 0 0] [],.bool true]):=by kernel_rfl
 (refine svE Tryz.f41 ?_;simp only[Tryz.f41,gS])
 (repeat first|simp only[ww]|(apply xa;simp+decide only[go_sem,aF,aN,cK,bf,m0,m1,m2,dw,ap,e29,t1,t2,t3,t4,aX];rfl;kernel_rfl))
 (apply a4x;(·simp+decide only[go_sem]<;>rfl))
 exact⟨_,rfl,gy⟩
theorem c5b(o0 o1 o2:AObj)(r r':Rd)(s:List UInt8)(hl:s.length≤4096)(hR:RdAt [some o0,some o1,some o2] 0 r)(tl:List (List UInt8))(br:a2i (a00 32 s)=[116,105,109,105,110,103]::tl)(aj:∀R,R.length=(a00 32 s).length→R.take (tl.length+1)=sR ([116,105,109,105,110,103]::tl)→FlatR R→tl.length+1≤(a00 32 s).length→a6l 66 (tl.length+1) (some (a00 32 s).length) R r r'):∃q:AV×a08,(∃H1,q=(.tuple [],H1)∧RdAt H1 0 r')∧sem L.env Mf 41 [.ptr 0 0 0,.str s] [some o0,some o1,some o2]=some q:=by
 have dE:(a00 32 s).length≤2000000:=by rw[a0r];have:=e3k (a:=(32:UInt8)) (l:=s);omega
 have dF:0<(a00 32 s).length:=by rw[a0r];omega
 have aN:(s.length:Int)≤4096:=by omega
 have aF:=λd H e=>a0i (d:=d) H e;obtain⟨rr,⟨R,ap,aM,aw,rfl⟩,hd⟩:=a3v (a00 32 s).length (a00 32 s) rfl dF dE;have aE:=a21 (a00 32 s);have cK:a0e L.env false (sem L.env Mf) (.func (.func 23) [] []) [.str s,.str [32]] [some o0,some o1,some o2]=some (.slice 3 0 (a00 32 s).length (some (a00 32 s).length),[some o0,some o1,some o2,some (.row 1 (sR (a00 32 s)))],[]):=a1f [some o0,some o1,some o2] s 32 (by omega);have bf:a0e L.env false (sem L.env Mf) (.func (.func 63) [] []) [.slice 3 0 (a00 32 s).length (some (a00 32 s).length),.func (.func 64) [] []] [some o0,some o1,some o2,some (.row 1 (sR (a00 32 s)))]=some (.slice 3 0 (a2i (a00 32 s)).length (some (a00 32 s).length),[some o0,some o1,some o2,some (.row 1 R)],[3]):=a0z (by kernel_rfl) (by kernel_rfl) rfl (b:=3) (o:=.row 1 (sR (a00 32 s))) (o':=.row 1 R) rfl (a0o (a0m _)) (FlatO.row (a0m _)) rfl rfl hd (FlatO.row aw) rfl;rw[br]at bf aM aE;have dw:R[0]?=some [.str [116,105,109,105,110,103]]:=sR0 aM rfl;simp only[b94]at bf aE aM;have ej:=aj R ap aM aw aE;have bi:RdAt [some o0,some o1,some o2,some (.row 1 R),some (.map [.str a1o,.str a24,.str a34] [fS,fT,fV] [0,1,2] 3)] 0 r:=hR.ext (a29 [some o0,some o1,some o2] [some (.row 1 R),some (.map [.str a1o,.str a24,.str a34] [fS,fT,fV] [0,1,2] 3)]);obtain⟨H',σ,aX,gy⟩:=a4v [some o0,some o1,some o2,some (.row 1 R),some (.map [.str a1o,.str a24,.str a34] [fS,fT,fV] [0,1,2] 3)] 0 3 66 (tl.length+1) (some (a00 32 s).length) R r r' (by kernel_rfl) (by kernel_rfl) aw bi rfl ej;generalize hk:tl.length+1=m at *;have m0:0<m:=by omega
 have m1:¬(m:Int)=0:=by omega
 generalize(a00 32 s).length=nW at *;generalize sR (a00 32 s)=RW at *;have m2:0<nW:=by omega
 have t1:a0c L.env (a03 [some o0,some o1,some o2,some (.row 1 R),some (.map [] [] [] 0)]) 114 (.map 4) (.str [115,105,103,110,97,108]) (.func (.func 65) [.ptr 0 0 0] [])=some (.set 4 (.map [.str a1o] [fS] [0] 1)):=by kernel_rfl
 have t2:a0c L.env (a03 [some o0,some o1,some o2,some (.row 1 R),some (.map [.str a1o] [fS] [0] 1)]) 114 (.map 4) (.str [116,105,109,105,110,103]) (.func (.func 66) [.ptr 0 0 0] [])=some (.set 4 (.map [.str a1o,.str a24] [fS,fT] [0,1] 2)):=by kernel_rfl
 have t3:a0c L.env (a03 [some o0,some o1,some o2,some (.row 1 R),some (.map [.str a1o,.str a24] [fS,fT] [0,1] 2)]) 114 (.map 4) (.str [118,101,99,116,111,114]) (.func (.func 67) [.ptr 0 0 0] [])=some (.set 4 (.map [.str a1o,.str a24,.str a34] [fS,fT,fV] [0,1,2] 3)):=by kernel_rfl
 have t4:a28 L.env (a03 [some o0,some o1,some o2,some (.row 1 R),some (.map [.str a1o,.str a24,.str a34] [fS,fT,fV] [0,1,2] 3)]) 114 (.map 4) (.str [116,105,109,105,110,103]) true=some (.tuple [.func (.func 66) [.ptr 0 0 0] [],.bool true]):=by kernel_rfl
 (refine svE Tryz.f41 ?_;simp only[Tryz.f41,gS])
 (repeat first|simp only[ww]|(apply xa;simp+decide only[go_sem,aF,aN,cK,bf,m0,m1,m2,dw,ap,e29,t1,t2,t3,t4,aX];rfl;kernel_rfl))
 (apply a4x;(·simp+decide only[go_sem]<;>rfl))
 exact⟨_,rfl,gy⟩
theorem c5a(o0 o1 o2:AObj)(r r':Rd)(s:List UInt8)(hl:s.length≤4096)(hR:RdAt [some o0,some o1,some o2] 0 r)(tl:List (List UInt8))(br:a2i (a00 32 s)=[118,101,99,116,111,114]::tl)(aj:∀R,R.length=(a00 32 s).length→R.take (tl.length+1)=sR ([118,101,99,116,111,114]::tl)→FlatR R→tl.length+1≤(a00 32 s).length→a6l 67 (tl.length+1) (some (a00 32 s).length) R r r'):∃q:AV×a08,(∃H1,q=(.tuple [],H1)∧RdAt H1 0 r')∧sem L.env Mf 41 [.ptr 0 0 0,.str s] [some o0,some o1,some o2]=some q:=by
 have dE:(a00 32 s).length≤2000000:=by rw[a0r];have:=e3k (a:=(32:UInt8)) (l:=s);omega
 have dF:0<(a00 32 s).length:=by rw[a0r];omega
 have aN:(s.length:Int)≤4096:=by omega
 have aF:=λd H e=>a0i (d:=d) H e;obtain⟨rr,⟨R,ap,aM,aw,rfl⟩,hd⟩:=a3v (a00 32 s).length (a00 32 s) rfl dF dE;have aE:=a21 (a00 32 s);have cK:a0e L.env false (sem L.env Mf) (.func (.func 23) [] []) [.str s,.str [32]] [some o0,some o1,some o2]=some (.slice 3 0 (a00 32 s).length (some (a00 32 s).length),[some o0,some o1,some o2,some (.row 1 (sR (a00 32 s)))],[]):=a1f [some o0,some o1,some o2] s 32 (by omega);have bf:a0e L.env false (sem L.env Mf) (.func (.func 63) [] []) [.slice 3 0 (a00 32 s).length (some (a00 32 s).length),.func (.func 64) [] []] [some o0,some o1,some o2,some (.row 1 (sR (a00 32 s)))]=some (.slice 3 0 (a2i (a00 32 s)).length (some (a00 32 s).length),[some o0,some o1,some o2,some (.row 1 R)],[3]):=a0z (by kernel_rfl) (by kernel_rfl) rfl (b:=3) (o:=.row 1 (sR (a00 32 s))) (o':=.row 1 R) rfl (a0o (a0m _)) (FlatO.row (a0m _)) rfl rfl hd (FlatO.row aw) rfl;rw[br]at bf aM aE;have dw:R[0]?=some [.str [118,101,99,116,111,114]]:=sR0 aM rfl;simp only[b94]at bf aE aM;have ej:=aj R ap aM aw aE;have bi:RdAt [some o0,some o1,some o2,some (.row 1 R),some (.map [.str a1o,.str a24,.str a34] [fS,fT,fV] [0,1,2] 3)] 0 r:=hR.ext (a29 [some o0,some o1,some o2] [some (.row 1 R),some (.map [.str a1o,.str a24,.str a34] [fS,fT,fV] [0,1,2] 3)]);obtain⟨H',σ,aX,gy⟩:=a4v [some o0,some o1,some o2,some (.row 1 R),some (.map [.str a1o,.str a24,.str a34] [fS,fT,fV] [0,1,2] 3)] 0 3 67 (tl.length+1) (some (a00 32 s).length) R r r' (by kernel_rfl) (by kernel_rfl) aw bi rfl ej;generalize hk:tl.length+1=m at *;have m0:0<m:=by omega
 have m1:¬(m:Int)=0:=by omega
 generalize(a00 32 s).length=nW at *;generalize sR (a00 32 s)=RW at *;have m2:0<nW:=by omega
 have t1:a0c L.env (a03 [some o0,some o1,some o2,some (.row 1 R),some (.map [] [] [] 0)]) 114 (.map 4) (.str [115,105,103,110,97,108]) (.func (.func 65) [.ptr 0 0 0] [])=some (.set 4 (.map [.str a1o] [fS] [0] 1)):=by kernel_rfl
 have t2:a0c L.env (a03 [some o0,some o1,some o2,some (.row 1 R),some (.map [.str a1o] [fS] [0] 1)]) 114 (.map 4) (.str [116,105,109,105,110,103]) (.func (.func 66) [.ptr 0 0 0] [])=some (.set 4 (.map [.str a1o,.str a24] [fS,fT] [0,1] 2)):=by kernel_rfl
 have t3:a0c L.env (a03 [some o0,some o1,some o2,some (.row 1 R),some (.map [.str a1o,.str a24] [fS,fT] [0,1] 2)]) 114 (.map 4) (.str [118,101,99,116,111,114]) (.func (.func 67) [.ptr 0 0 0] [])=some (.set 4 (.map [.str a1o,.str a24,.str a34] [fS,fT,fV] [0,1,2] 3)):=by kernel_rfl
 have t4:a28 L.env (a03 [some o0,some o1,some o2,some (.row 1 R),some (.map [.str a1o,.str a24,.str a34] [fS,fT,fV] [0,1,2] 3)]) 114 (.map 4) (.str [118,101,99,116,111,114]) true=some (.tuple [.func (.func 67) [.ptr 0 0 0] [],.bool true]):=by kernel_rfl
 (refine svE Tryz.f41 ?_;simp only[Tryz.f41,gS])
 (repeat first|simp only[ww]|(apply xa;simp+decide only[go_sem,aF,aN,cK,bf,m0,m1,m2,dw,ap,e29,t1,t2,t3,t4,aX];rfl;kernel_rfl))
 (apply a4x;(·simp+decide only[go_sem]<;>rfl))
 exact⟨_,rfl,gy⟩
theorem c2q(o0 o1 o2 o3:AObj)(r:Rd)(s:List UInt8)(hl:s.length≤4096)(hR:RdAt [some o0,some o1,some o2,some o3] 0 r)(br:a2i (a00 32 s)=[]∨∃a tl,a2i (a00 32 s)=(35::a)::tl):∃q:AV×a08,(∃H1,q=(.tuple [],H1)∧RdAt H1 0 r)∧sem L.env Mf 41 [.ptr 0 0 0,.str s] [some o0,some o1,some o2,some o3]=some q:=by
 have dE:(a00 32 s).length≤2000000:=by rw[a0r];have:=e3k (a:=(32:UInt8)) (l:=s);omega
 have dF:0<(a00 32 s).length:=by rw[a0r];omega
 have aN:(s.length:Int)≤4096:=by omega
 have aF:=λd H e=>a0i (d:=d) H e;obtain⟨rr,⟨R,ap,aM,aw,rfl⟩,hd⟩:=a3v (a00 32 s).length (a00 32 s) rfl dF dE;have aE:=a21 (a00 32 s);have cK:a0e L.env false (sem L.env Mf) (.func (.func 23) [] []) [.str s,.str [32]] [some o0,some o1,some o2,some o3]=some (.slice 4 0 (a00 32 s).length (some (a00 32 s).length),[some o0,some o1,some o2,some o3,some (.row 1 (sR (a00 32 s)))],[]):=a1f [some o0,some o1,some o2,some o3] s 32 (by omega);have bf:a0e L.env false (sem L.env Mf) (.func (.func 63) [] []) [.slice 4 0 (a00 32 s).length (some (a00 32 s).length),.func (.func 64) [] []] [some o0,some o1,some o2,some o3,some (.row 1 (sR (a00 32 s)))]=some (.slice 4 0 (a2i (a00 32 s)).length (some (a00 32 s).length),[some o0,some o1,some o2,some o3,some (.row 1 R)],[4]):=a0z (by kernel_rfl) (by kernel_rfl) rfl (b:=4) (o:=.row 1 (sR (a00 32 s))) (o':=.row 1 R) rfl (a0o (a0m _)) (FlatO.row (a0m _)) rfl rfl hd (FlatO.row aw) rfl;have bi:RdAt [some o0,some o1,some o2,some o3,some (.row 1 R)] 0 r:=hR.ext (a29 [some o0,some o1,some o2,some o3] [some (.row 1 R)]);rcases br with br|⟨a,tl,br⟩
 ·rw[br]at bf aM aE;simp only[e27]at bf aE;generalize(a00 32 s).length=nW at *;generalize sR (a00 32 s)=RW at *
  (refine svE Tryz.f41 ?_;simp only[Tryz.f41,gS])
  (repeat first|simp only[ww]|(apply xa;simp+decide only[go_sem,aF,aN,cK,bf];rfl;kernel_rfl))
  (apply a4x;(·simp+decide only[go_sem]<;>rfl))
  exact⟨_,rfl,bi⟩
 ·rw[br]at bf aM aE;have dw:R[0]?=some [.str (35::a)]:=sR0 aM rfl;simp only[b94]at bf aE;generalize hk:tl.length+1=m at *;have m0:0<m:=by omega
  have m1:¬(m:Int)=0:=by omega
  generalize(a00 32 s).length=nW at *;generalize sR (a00 32 s)=RW at *;have m2:0<nW:=by omega
  have m3:0<a.length+1:=by omega
  (refine svE Tryz.f41 ?_;simp only[Tryz.f41,gS])
  (repeat first|simp only[ww]|(apply xa;simp+decide only[go_sem,aF,aN,cK,bf,m0,m1,m2,m3,dw,ap,e29,b94];rfl;kernel_rfl))
  (apply a4x;(·simp+decide only[go_sem]<;>rfl))
  exact⟨_,rfl,bi⟩
theorem c59(o0 o1 o2 o3:AObj)(r r':Rd)(s:List UInt8)(hl:s.length≤4096)(hR:RdAt [some o0,some o1,some o2,some o3] 0 r)(tl:List (List UInt8))(br:a2i (a00 32 s)=[115,105,103,110,97,108]::tl)(aj:∀R,R.length=(a00 32 s).length→R.take (tl.length+1)=sR ([115,105,103,110,97,108]::tl)→FlatR R→tl.length+1≤(a00 32 s).length→a6l 65 (tl.length+1) (some (a00 32 s).length) R r r'):∃q:AV×a08,(∃H1,q=(.tuple [],H1)∧RdAt H1 0 r')∧sem L.env Mf 41 [.ptr 0 0 0,.str s] [some o0,some o1,some o2,some o3]=some q:=by
 have dE:(a00 32 s).length≤2000000:=by rw[a0r];have:=e3k (a:=(32:UInt8)) (l:=s);omega
 have dF:0<(a00 32 s).length:=by rw[a0r];omega
 have aN:(s.length:Int)≤4096:=by omega
 have aF:=λd H e=>a0i (d:=d) H e;obtain⟨rr,⟨R,ap,aM,aw,rfl⟩,hd⟩:=a3v (a00 32 s).length (a00 32 s) rfl dF dE;have aE:=a21 (a00 32 s);have cK:a0e L.env false (sem L.env Mf) (.func (.func 23) [] []) [.str s,.str [32]] [some o0,some o1,some o2,some o3]=some (.slice 4 0 (a00 32 s).length (some (a00 32 s).length),[some o0,some o1,some o2,some o3,some (.row 1 (sR (a00 32 s)))],[]):=a1f [some o0,some o1,some o2,some o3] s 32 (by omega);have bf:a0e L.env false (sem L.env Mf) (.func (.func 63) [] []) [.slice 4 0 (a00 32 s).length (some (a00 32 s).length),.func (.func 64) [] []] [some o0,some o1,some o2,some o3,some (.row 1 (sR (a00 32 s)))]=some (.slice 4 0 (a2i (a00 32 s)).length (some (a00 32 s).length),[some o0,some o1,some o2,some o3,some (.row 1 R)],[4]):=a0z (by kernel_rfl) (by kernel_rfl) rfl (b:=4) (o:=.row 1 (sR (a00 32 s))) (o':=.row 1 R) rfl (a0o (a0m _)) (FlatO.row (a0m _)) rfl rfl hd (FlatO.row aw) rfl;rw[br]at bf aM aE;have dw:R[0]?=some [.str [115,105,103,110,97,108]]:=sR0 aM rfl;simp only[b94]at bf aE aM;have ej:=aj R ap aM aw aE;have bi:RdAt [some o0,some o1,some o2,some o3,some (.row 1 R),some (.map [.str a1o,.str a24,.str a34] [fS,fT,fV] [0,1,2] 3)] 0 r:=hR.ext (a29 [some o0,some o1,some o2,some o3] [some (.row 1 R),some (.map [.str a1o,.str a24,.str a34] [fS,fT,fV] [0,1,2] 3)]);obtain⟨H',σ,aX,gy⟩:=a4v [some o0,some o1,some o2,some o3,some (.row 1 R),some (.map [.str a1o,.str a24,.str a34] [fS,fT,fV] [0,1,2] 3)] 0 4 65 (tl.length+1) (some (a00 32 s).length) R r r' (by kernel_rfl) (by kernel_rfl) aw bi rfl ej;generalize hk:tl.length+1=m at *;have m0:0<m:=by omega
 have m1:¬(m:Int)=0:=by omega
 generalize(a00 32 s).length=nW at *;generalize sR (a00 32 s)=RW at *;have m2:0<nW:=by omega
 have t1:a0c L.env (a03 [some o0,some o1,some o2,some o3,some (.row 1 R),some (.map [] [] [] 0)]) 114 (.map 5) (.str [115,105,103,110,97,108]) (.func (.func 65) [.ptr 0 0 0] [])=some (.set 5 (.map [.str a1o] [fS] [0] 1)):=by kernel_rfl
 have t2:a0c L.env (a03 [some o0,some o1,some o2,some o3,some (.row 1 R),some (.map [.str a1o] [fS] [0] 1)]) 114 (.map 5) (.str [116,105,109,105,110,103]) (.func (.func 66) [.ptr 0 0 0] [])=some (.set 5 (.map [.str a1o,.str a24] [fS,fT] [0,1] 2)):=by kernel_rfl
 have t3:a0c L.env (a03 [some o0,some o1,some o2,some o3,some (.row 1 R),some (.map [.str a1o,.str a24] [fS,fT] [0,1] 2)]) 114 (.map 5) (.str [118,101,99,116,111,114]) (.func (.func 67) [.ptr 0 0 0] [])=some (.set 5 (.map [.str a1o,.str a24,.str a34] [fS,fT,fV] [0,1,2] 3)):=by kernel_rfl
 have t4:a28 L.env (a03 [some o0,some o1,some o2,some o3,some (.row 1 R),some (.map [.str a1o,.str a24,.str a34] [fS,fT,fV] [0,1,2] 3)]) 114 (.map 5) (.str [115,105,103,110,97,108]) true=some (.tuple [.func (.func 65) [.ptr 0 0 0] [],.bool true]):=by kernel_rfl
 (refine svE Tryz.f41 ?_;simp only[Tryz.f41,gS])
 (repeat first|simp only[ww]|(apply xa;simp+decide only[go_sem,aF,aN,cK,bf,m0,m1,m2,dw,ap,e29,t1,t2,t3,t4,aX];rfl;kernel_rfl))
 (apply a4x;(·simp+decide only[go_sem]<;>rfl))
 exact⟨_,rfl,gy⟩
theorem c58(o0 o1 o2 o3:AObj)(r r':Rd)(s:List UInt8)(hl:s.length≤4096)(hR:RdAt [some o0,some o1,some o2,some o3] 0 r)(tl:List (List UInt8))(br:a2i (a00 32 s)=[116,105,109,105,110,103]::tl)(aj:∀R,R.length=(a00 32 s).length→R.take (tl.length+1)=sR ([116,105,109,105,110,103]::tl)→FlatR R→tl.length+1≤(a00 32 s).length→a6l 66 (tl.length+1) (some (a00 32 s).length) R r r'):∃q:AV×a08,(∃H1,q=(.tuple [],H1)∧RdAt H1 0 r')∧sem L.env Mf 41 [.ptr 0 0 0,.str s] [some o0,some o1,some o2,some o3]=some q:=by
 have dE:(a00 32 s).length≤2000000:=by rw[a0r];have:=e3k (a:=(32:UInt8)) (l:=s);omega
 have dF:0<(a00 32 s).length:=by rw[a0r];omega
 have aN:(s.length:Int)≤4096:=by omega
 have aF:=λd H e=>a0i (d:=d) H e;obtain⟨rr,⟨R,ap,aM,aw,rfl⟩,hd⟩:=a3v (a00 32 s).length (a00 32 s) rfl dF dE;have aE:=a21 (a00 32 s);have cK:a0e L.env false (sem L.env Mf) (.func (.func 23) [] []) [.str s,.str [32]] [some o0,some o1,some o2,some o3]=some (.slice 4 0 (a00 32 s).length (some (a00 32 s).length),[some o0,some o1,some o2,some o3,some (.row 1 (sR (a00 32 s)))],[]):=a1f [some o0,some o1,some o2,some o3] s 32 (by omega);have bf:a0e L.env false (sem L.env Mf) (.func (.func 63) [] []) [.slice 4 0 (a00 32 s).length (some (a00 32 s).length),.func (.func 64) [] []] [some o0,some o1,some o2,some o3,some (.row 1 (sR (a00 32 s)))]=some (.slice 4 0 (a2i (a00 32 s)).length (some (a00 32 s).length),[some o0,some o1,some o2,some o3,some (.row 1 R)],[4]):=a0z (by kernel_rfl) (by kernel_rfl) rfl (b:=4) (o:=.row 1 (sR (a00 32 s))) (o':=.row 1 R) rfl (a0o (a0m _)) (FlatO.row (a0m _)) rfl rfl hd (FlatO.row aw) rfl;rw[br]at bf aM aE;have dw:R[0]?=some [.str [116,105,109,105,110,103]]:=sR0 aM rfl;simp only[b94]at bf aE aM;have ej:=aj R ap aM aw aE;have bi:RdAt [some o0,some o1,some o2,some o3,some (.row 1 R),some (.map [.str a1o,.str a24,.str a34] [fS,fT,fV] [0,1,2] 3)] 0 r:=hR.ext (a29 [some o0,some o1,some o2,some o3] [some (.row 1 R),some (.map [.str a1o,.str a24,.str a34] [fS,fT,fV] [0,1,2] 3)]);obtain⟨H',σ,aX,gy⟩:=a4v [some o0,some o1,some o2,some o3,some (.row 1 R),some (.map [.str a1o,.str a24,.str a34] [fS,fT,fV] [0,1,2] 3)] 0 4 66 (tl.length+1) (some (a00 32 s).length) R r r' (by kernel_rfl) (by kernel_rfl) aw bi rfl ej;generalize hk:tl.length+1=m at *;have m0:0<m:=by omega
 have m1:¬(m:Int)=0:=by omega
 generalize(a00 32 s).length=nW at *;generalize sR (a00 32 s)=RW at *;have m2:0<nW:=by omega
 have t1:a0c L.env (a03 [some o0,some o1,some o2,some o3,some (.row 1 R),some (.map [] [] [] 0)]) 114 (.map 5) (.str [115,105,103,110,97,108]) (.func (.func 65) [.ptr 0 0 0] [])=some (.set 5 (.map [.str a1o] [fS] [0] 1)):=by kernel_rfl
 have t2:a0c L.env (a03 [some o0,some o1,some o2,some o3,some (.row 1 R),some (.map [.str a1o] [fS] [0] 1)]) 114 (.map 5) (.str [116,105,109,105,110,103]) (.func (.func 66) [.ptr 0 0 0] [])=some (.set 5 (.map [.str a1o,.str a24] [fS,fT] [0,1] 2)):=by kernel_rfl
 have t3:a0c L.env (a03 [some o0,some o1,some o2,some o3,some (.row 1 R),some (.map [.str a1o,.str a24] [fS,fT] [0,1] 2)]) 114 (.map 5) (.str [118,101,99,116,111,114]) (.func (.func 67) [.ptr 0 0 0] [])=some (.set 5 (.map [.str a1o,.str a24,.str a34] [fS,fT,fV] [0,1,2] 3)):=by kernel_rfl
 have t4:a28 L.env (a03 [some o0,some o1,some o2,some o3,some (.row 1 R),some (.map [.str a1o,.str a24,.str a34] [fS,fT,fV] [0,1,2] 3)]) 114 (.map 5) (.str [116,105,109,105,110,103]) true=some (.tuple [.func (.func 66) [.ptr 0 0 0] [],.bool true]):=by kernel_rfl
 (refine svE Tryz.f41 ?_;simp only[Tryz.f41,gS])
 (repeat first|simp only[ww]|(apply xa;simp+decide only[go_sem,aF,aN,cK,bf,m0,m1,m2,dw,ap,e29,t1,t2,t3,t4,aX];rfl;kernel_rfl))
 (apply a4x;(·simp+decide only[go_sem]<;>rfl))
 exact⟨_,rfl,gy⟩
theorem c57(o0 o1 o2 o3:AObj)(r r':Rd)(s:List UInt8)(hl:s.length≤4096)(hR:RdAt [some o0,some o1,some o2,some o3] 0 r)(tl:List (List UInt8))(br:a2i (a00 32 s)=[118,101,99,116,111,114]::tl)(aj:∀R,R.length=(a00 32 s).length→R.take (tl.length+1)=sR ([118,101,99,116,111,114]::tl)→FlatR R→tl.length+1≤(a00 32 s).length→a6l 67 (tl.length+1) (some (a00 32 s).length) R r r'):∃q:AV×a08,(∃H1,q=(.tuple [],H1)∧RdAt H1 0 r')∧sem L.env Mf 41 [.ptr 0 0 0,.str s] [some o0,some o1,some o2,some o3]=some q:=by
 have dE:(a00 32 s).length≤2000000:=by rw[a0r];have:=e3k (a:=(32:UInt8)) (l:=s);omega
 have dF:0<(a00 32 s).length:=by rw[a0r];omega
 have aN:(s.length:Int)≤4096:=by omega
 have aF:=λd H e=>a0i (d:=d) H e;obtain⟨rr,⟨R,ap,aM,aw,rfl⟩,hd⟩:=a3v (a00 32 s).length (a00 32 s) rfl dF dE;have aE:=a21 (a00 32 s);have cK:a0e L.env false (sem L.env Mf) (.func (.func 23) [] []) [.str s,.str [32]] [some o0,some o1,some o2,some o3]=some (.slice 4 0 (a00 32 s).length (some (a00 32 s).length),[some o0,some o1,some o2,some o3,some (.row 1 (sR (a00 32 s)))],[]):=a1f [some o0,some o1,some o2,some o3] s 32 (by omega);have bf:a0e L.env false (sem L.env Mf) (.func (.func 63) [] []) [.slice 4 0 (a00 32 s).length (some (a00 32 s).length),.func (.func 64) [] []] [some o0,some o1,some o2,some o3,some (.row 1 (sR (a00 32 s)))]=some (.slice 4 0 (a2i (a00 32 s)).length (some (a00 32 s).length),[some o0,some o1,some o2,some o3,some (.row 1 R)],[4]):=a0z (by kernel_rfl) (by kernel_rfl) rfl (b:=4) (o:=.row 1 (sR (a00 32 s))) (o':=.row 1 R) rfl (a0o (a0m _)) (FlatO.row (a0m _)) rfl rfl hd (FlatO.row aw) rfl;rw[br]at bf aM aE;have dw:R[0]?=some [.str [118,101,99,116,111,114]]:=sR0 aM rfl;simp only[b94]at bf aE aM;have ej:=aj R ap aM aw aE;have bi:RdAt [some o0,some o1,some o2,some o3,some (.row 1 R),some (.map [.str a1o,.str a24,.str a34] [fS,fT,fV] [0,1,2] 3)] 0 r:=hR.ext (a29 [some o0,some o1,some o2,some o3] [some (.row 1 R),some (.map [.str a1o,.str a24,.str a34] [fS,fT,fV] [0,1,2] 3)]);obtain⟨H',σ,aX,gy⟩:=a4v [some o0,some o1,some o2,some o3,some (.row 1 R),some (.map [.str a1o,.str a24,.str a34] [fS,fT,fV] [0,1,2] 3)] 0 4 67 (tl.length+1) (some (a00 32 s).length) R r r' (by kernel_rfl) (by kernel_rfl) aw bi rfl ej;generalize hk:tl.length+1=m at *;have m0:0<m:=by omega
 have m1:¬(m:Int)=0:=by omega
 generalize(a00 32 s).length=nW at *;generalize sR (a00 32 s)=RW at *;have m2:0<nW:=by omega
 have t1:a0c L.env (a03 [some o0,some o1,some o2,some o3,some (.row 1 R),some (.map [] [] [] 0)]) 114 (.map 5) (.str [115,105,103,110,97,108]) (.func (.func 65) [.ptr 0 0 0] [])=some (.set 5 (.map [.str a1o] [fS] [0] 1)):=by kernel_rfl
 have t2:a0c L.env (a03 [some o0,some o1,some o2,some o3,some (.row 1 R),some (.map [.str a1o] [fS] [0] 1)]) 114 (.map 5) (.str [116,105,109,105,110,103]) (.func (.func 66) [.ptr 0 0 0] [])=some (.set 5 (.map [.str a1o,.str a24] [fS,fT] [0,1] 2)):=by kernel_rfl
 have t3:a0c L.env (a03 [some o0,some o1,some o2,some o3,some (.row 1 R),some (.map [.str a1o,.str a24] [fS,fT] [0,1] 2)]) 114 (.map 5) (.str [118,101,99,116,111,114]) (.func (.func 67) [.ptr 0 0 0] [])=some (.set 5 (.map [.str a1o,.str a24,.str a34] [fS,fT,fV] [0,1,2] 3)):=by kernel_rfl
 have t4:a28 L.env (a03 [some o0,some o1,some o2,some o3,some (.row 1 R),some (.map [.str a1o,.str a24,.str a34] [fS,fT,fV] [0,1,2] 3)]) 114 (.map 5) (.str [118,101,99,116,111,114]) true=some (.tuple [.func (.func 67) [.ptr 0 0 0] [],.bool true]):=by kernel_rfl
 (refine svE Tryz.f41 ?_;simp only[Tryz.f41,gS])
 (repeat first|simp only[ww]|(apply xa;simp+decide only[go_sem,aF,aN,cK,bf,m0,m1,m2,dw,ap,e29,t1,t2,t3,t4,aX];rfl;kernel_rfl))
 (apply a4x;(·simp+decide only[go_sem]<;>rfl))
 exact⟨_,rfl,gy⟩
end Go.RInst
namespace Go.RInst
open Go.Proofs Go.Ax Go.Pc
variable [PR]
set_option maxRecDepth 100000
/- the deferred closure where nothing panics -/
theorem d2s(c0 c1 c2:Value)(cf:Frame)(cs:List Frame)(w:World)(hu:cf.mode = .returning){Q:Exit→Act→List Frame→World→Prop}
 (hQ:∀t:Array Value,t.size=15→t.getD 4 undef = .bool false→Q .normal ⟨t,[]⟩ (cf::cs) w) :
 (match(Tryz.f40.body.getD .skip)with|.seq a b=>a|c=>c).wpSIn Fence.wide 0 Tryz.prog Q { tmps:=#[c0,c1,c2]++Array.replicate 12 undef,defers:=[] } (cf::cs) w:=by
 simp only[Tryz.f40,gS];refine wpSIn_region ?_;simp[wpOpsSIn,go_sem,recoverD,hu,d5d];exact hQ _ (by simp) (by kernel_rfl)
theorem d7t(al:DrOk L.env){I K:Nat→Prop}{ρ:PMap}{w:World}{H:a08}(r:HRel L.env.G I K ρ (a03 H) w)(hn:NRel ρ H.length){c0 c1 c2:Value} :
 CallsDIn Fence.wide 0 Tryz.prog 40 #[c0,c1,c2] .returning w λen u' w'=>en = .returned (.tuple #[])∧u' = .returning∧
  ∃I' ρ',(∀c,I c→I' c)∧(∀b,b<H.length→ρ' b=ρ b)∧Ext I K w w'∧HRel L.env.G I' K ρ' (a03 H) w'∧NRel ρ' H.length:=by
 have cI:L.env.fn 40=some ⟨Tryz.f40.body.getD .skip,15,[]⟩:=by kernel_rfl
 refine callsDIn_of_wpSIn (fn:=Tryz.f40) (c:=Tryz.f40.body.getD .skip) (by kernel_rfl) rfl trivial ?_;intro cf cs hu;have j7:=λQ=>d2s (Q:=Q) c0 c1 c2 cf cs w hu;simp only[Tryz.f40,gS]at j7⊢;refine wpSIn_seq (j7 _ ?_);intro t bA g4;refine wpSIn_of_wpIn rfl ?_
 let ent:Entry:=⟨I,K,ρ,H.length,w,[]⟩
 have ae:Now L.env ent 15 [(4,.bool false)] H I ρ ⟨t,[]⟩ w:=by
  refine⟨λ_ h=>h,λ_ _=>rfl,Ext.refl _ _ _,r,hn,⟨bA,λs=>?_⟩,e2c _,Marks.nil⟩;simp only[a2h];by_cases e4:s=4
  ·subst e4;show VRel I w ρ (.bool false) _;rw[g4];simp[VRel]
  have hj:∀k,k≠s→Nat.beq k s=false:=λk hk=>by rw[←e5q,e5a];exact hk
  simp only[hj 4 (e3m e4),e3p];simp[VRel]
 refine wpIn_seq (b6x ok al noF (ro:=none) (F1:=(10,.bool false)::_) (by simp[b0x]) (by simp+decide only[go_sem];rfl) ae ?_);intro I1 ρ1 a1 w1 aY jC;show Code.wpIn _ _ _ _ _ _ _;have oM:VRel I1 w1 ρ1 (.bool false) (a1.tmps.getD 10 undef):=aY.frm.2 10;simp only[VRel]at oM;refine wpIn_cond_false oM (wpIn_skip ?_);refine⟨jC,_,rfl,.tuple #[],by simp[results],rfl,hu,I1,ρ1,aY.imm,aY.map,aY.ext,aY.rel,aY.nrel⟩
theorem c4o(al:DrOk L.env)(s:List UInt8)(hl:s.length≤1048576)(v:AV)
 (cj:Wp (cx L.env Mf 3 49 19 0) b5e (rdF s) [clO,some (.row 2 [[.int .i64 0,.int .i64 0]]),clN 0] (λex F H=>ex = .ret∧a2h F 2 = .ptr 0 0 0∧a2h F 3 = .ptr 1 0 0∧∃vs,a1l L.env [(2,.ptr 0 0 0),(3,.ptr 1 0 0)] H [.cell 2 29,.cell 3 56]=some vs∧a5t false 0 (a7t vs) H=some (v,[])))
 {I K:Nat→Prop}{ρ:PMap}{w:World}{ah:List Value}(rel:HRel L.env.G I K ρ (a03 []) w)(hn:NRel ρ 0)(ha:VRels I w ρ [.str s] ah) :
 XOf L.env 19 ah w λen w'=>∃c I' ρ',en = .returned c∧Ret L.env I K ρ 0 w I' ρ' [] w'∧VRel I' w' ρ' v c:=by
 have cI:L.env.fn 19=some ⟨Tryz.f19.body.getD .skip,49,[.cell 2 29,.cell 3 56]⟩:=by kernel_rfl
 have jD:a1p false (Tryz.f19.body.getD .skip)=true:=al.draws _ _ cI;have bv:=al.code cI;rw[a3l (b20 ok cI)];refine callsIn_wide.1 (callsIn_of_wp_marks (F:=Fence.wide) (n:=0) (fn:=Tryz.f19) (c:=Tryz.f19.body.getD .skip) (by kernel_rfl) rfl trivial ?_)
 let e0:Entry:=⟨I,K,ρ,0,w,[]⟩
 have ae:Now L.env e0 49 (a3k 0 [.str s]) [] I ρ { tmps:=ah.toArray++Array.replicate (49-ah.toArray.size) undef,defers:=[] } w:=⟨λ_ h=>h,λ_ _=>rfl,Ext.refl _ _ _,rel,hn,b03 (by simp) ha,e2c _,Marks.nil⟩
 have c1:¬(1048576:Int)<s.length:=by omega
 simp only[Tryz.f19,gS]at jD bv⊢;refine gos ok al noF (ro:=none) (e:=e0) (m:=0) rfl jD bv ?_ ae
 (repeat first|simp only[ww]|(apply xa;simp+decide only[go_sem];rfl;kernel_rfl))
 refine d4g ?_;intro I1 ρ1 a1 w1 aY;refine gos ok al noF (ro:=none) (e:=e0) (m:=0) rfl (ds2 jD) bv.seq2 ?_ aY
 (repeat first|simp only[ww]|(apply xa;simp+decide only[go_sem,c1];rfl;kernel_rfl))
 refine d4g ?_;intro I2 ρ2 a2 w2 fG;refine gos ok al noF (ro:=none) (e:=e0) (m:=0) rfl (ds2 (ds2 jD)) bv.seq2.seq2 ?_ fG
 (repeat first|simp only[ww]|(apply xa;simp+decide only[go_sem];rfl;kernel_rfl))
 refine d4g ?_;intro I3 ρ3 a3 w3 fv;refine wpIn_seq (c62 ok al noF rfl rfl rfl rfl rfl rfl (by rfl) fv ?_);intro I4 ρ4 a4 w4 cs eN dp;show Code.wpIn _ _ _ _ _ _ _
 let e1:Entry:=⟨I4,K,ρ4,3,w4,⟨.fn (.func 40) cs.toArray,#[]⟩::a4.defers⟩
 have ke:Now L.env e1 49 (rdF s) [clO,some (.row 2 [[.int .i64 0,.int .i64 0]]),clN 0] I4 ρ4 { a4 with defers:=⟨.fn (.func 40) cs.toArray,#[]⟩::a4.defers } w4:=⟨λ_ h=>h,λ_ _=>rfl,Ext.refl _ _ _,eN.rel,eN.nrel,eN.frm,e2c _,Marks.nil⟩
 obtain⟨ex,F5,H5,⟨n0,kv⟩,rfl,f2,f3,vs,iH,bi⟩:=b6b _ cj;have s8:=kv n0 (e2c _) (AExit×Frm×a08) (λe F H=>some (e,F,H));refine a5j ok (sem_ok ok al noF) _ (ds2 (ds2 (ds2 (ds2 jD)))) bv.seq2.seq2.seq2.seq2 ?_ ke s8;intro y F6 H6 I5 ρ5 a5 w5 gB hk;cases hk;obtain⟨rs,q1,q2,q3⟩:=gB.marks;show LeavesInM _ _ _ _ _ _ a5.defers _ _;rw[q1];refine a6x (by simp[AExit.conv]) rs w5 q2 (λr hr=>(q3 r hr).2.2) ?_;obtain⟨r6,x6⟩:=b26 gB.ext (λc hc=>hc.elim (eN.rel.imm c) (eN.rel.kept c)) gB.rel q3;obtain⟨c0,kX,c2,rfl⟩:∃c0 c1 c2,cs=[c0,c1,c2]:=by have dp:VRels I4 w4 ρ4 [.ptr 2 0 0,.ptr 0 0 0,.ptr 1 0 0] cs:=dp;simp only[VRels]at dp;obtain⟨d0,_,rfl,h0,d1,_,rfl,h1,d2,_,rfl,h2,rfl⟩:=dp;exact⟨d0,d1,d2,rfl⟩
 show LeavesInM _ _ _ _ _ _ (⟨.fn (.func 40) #[c0,kX,c2],#[]⟩::a4.defers) _ _;unfold LeavesInM;refine⟨by simp,.inr ⟨λh=>(by cases h),.func 40,#[c0,kX,c2],40,#[c0,kX,c2],rfl,?_,λ_ _=>trivial,?_⟩⟩
 ·show(callFunc 40 (#[] ++ #[c0,kX,c2])).run L.env.P _=_;rw[a1u ok (by kernel_rfl)];simp
 refine CallsDIn.mono (d7t al r6 gB.nrel) ?_
 rintro en u' w7 ⟨rfl,rfl,I7,ρ7,i7,m7,x7,pw,n7⟩
 show LeavesInM _ _ _ _ _ _ a4.defers .returning w7;obtain⟨nu,p1,p2,p3⟩:=eN.marks;rw[p1,show e0.base=[]from rfl,e2h];have qi:∀c,I4 c→w7.heap[c]?=w4.heap[c]?:=λc hc=>(x7.keep c (.inl (gB.imm c hc))).trans (x6.keep c (.inl hc));have x8:Ext I K w w7:=eN.ext.trans eN.imm (x6.trans gB.imm x7);have p4:∀r∈nu,I7 r∧w.heap.size≤r∧w7.heap[r]?=some (.deferred (some [])):=λr hr=>⟨i7 r (gB.imm r (p3 r hr).1),(p3 r hr).2.1,(qi r (p3 r hr).1).trans (p3 r hr).2.2⟩
 obtain⟨r9,x9⟩:=b26 x8 (λc hc=>hc.elim (rel.imm c) (rel.kept c)) pw p4;refine a5s nu w7 p2 (λr hr=>(p4 r hr).2.2) ?_;have lO:∀{b:Nat} {c:Value} {I' oP:Nat→Prop} {u u':World} {ρ' ρ'':PMap},VRel I' u ρ' (.ptr b 0 0) c→ρ'' b=ρ' b→VRel oP u' ρ'' (.ptr b 0 0) c:=by intro b c I' oP u u' ρ' ρ'' h hb;simp only[VRel]at h⊢;obtain⟨m,hm,rfl⟩:=h;exact⟨m,by rw[hb];exact hm,rfl⟩
 have t2:VRel I5 w5 ρ5 (.ptr 0 0 0) (a5.tmps.getD 2 undef):=by have:=gB.frm.2 2;rwa [f2]at this
 have t3:VRel I5 w5 ρ5 (.ptr 1 0 0) (a5.tmps.getD 3 undef):=by have:=gB.frm.2 3;rwa [f3]at this
 have ee:3≤H5.length:=gB.low;obtain⟨c,ac,hv⟩:=b0t (fn:=Tryz.f19) (tmps:=a5.tmps) (F:=[(2,.ptr 0 0 0),(3,.ptr 1 0 0)]) ok r9 (λs=>by
  simp only[a2h];by_cases e2:s=2
  ·subst e2;exact lO t2 (m7 0 (show 0<H5.length by omega))
  by_cases e3:s=3
  ·subst e3;exact lO t3 (m7 1 (show 1<H5.length by omega))
  have hj:∀k,k≠s→Nat.beq k s=false:=λk hk=>by rw[←e5q,e5a];exact hk
  simp only[hj 2 (e3m e2),hj 3 (e3m e3),e3p];simp[VRel]) iH
 obtain⟨I8,ρ8,f1,g2,g3,g4,g5,g6⟩:=b98 bi (e3h _) r9 n7 hv;exact⟨c,ac,c,I8,ρ8,rfl,⟨λc hc=>f1 c (i7 c (gB.imm c (eN.imm c hc))),λb hb=>by omega,x9,g3,g4,e2c _⟩,g6⟩
end Go.RInst
namespace Go.RInst
open Go.Proofs Go.Ax Go.Pc
variable [PR]
set_option maxRecDepth 100000
open Classical in
noncomputable def rdS(r:Rd):List (List UInt8)→Option Rd
 | [nm,d]=>if(d=inK∨d=a9h)∧r.T=[]∧r.V=[]∧a3s nm=true∧nm∉r.S.map Sg.name∧r.S.length<256 then some ⟨r.S++[⟨nm,if d=a9h then 1 else 0⟩],r.T,r.V,r.sum⟩else none
 |_=>none
open Classical in
noncomputable def rdT(r:Rd):List (List UInt8)→Option Rd
 | [nm,w0,w1,w2,w3,w4]=>if r.V=[]∧(∀w∈[w0,w1,w2,w3,w4],NumOk w)∧a5l ⟨nm,a09 w0,a09 w1,a09 w2,a09 w3,a09 w4⟩=true∧nm∉r.T.map Tm.name∧r.T.length<16 then some ⟨r.S,r.T++[⟨nm,a09 w0,a09 w1,a09 w2,a09 w3,a09 w4⟩],r.V,r.sum⟩else none
 |_=>none
def b4m(r:Rd)(nm cl:List UInt8)(k:Nat):Vc:=⟨fnd nm (r.T.map Tm.name),if cl=[45]then[]else cl,k⟩
open Classical in
noncomputable def b0h(r:Rd)(nm cl:List UInt8)(k:Nat):Option Rd:=if a22 (b4m r nm cl k) r.S r.T.length=true∧r.V.length<65536∧r.sum+k≤1000000 then some ⟨r.S,r.T,r.V++[b4m r nm cl k],r.sum+k⟩else none
open Classical in
noncomputable def rdV(r:Rd):List (List UInt8)→Option Rd
 | [nm,cl]=>b0h r nm cl 1
 | [nm,cl,rp]=>if NumOk rp then b0h r nm cl (a09 rp)else none
 |_=>none
noncomputable def rdW(r:Rd):List (List UInt8)→Option Rd
 | []=>some r
 |w0::tl=>if w0.head?=some 35 then some r else if w0=sigK0 then rdS r tl else if w0=a3y then rdT r tl else if w0=vecK0 then rdV r tl else none
noncomputable def a2v(r:Rd)(s:List UInt8):Option Rd:=if s.length≤4096 then rdW r (a2i (a00 32 s))else none
noncomputable def a2a:Rd→List (List UInt8)→Option Rd
 |r,[]=>some r
 |r,s::l=>match a2v r s with
  |some r'=>a2a r' l
  |none=>none
structure RdWf(r:Rd):Prop where
 s0:0≤r.sum
 hS:r.S.length≤256
 hT:r.T.length≤16
theorem d67:RdWf ⟨[],[],[],0⟩:=⟨Int.le_refl _,by simp,by simp⟩
theorem c9z{r r':Rd}{ws:List (List UInt8)}(h:rdW r ws=some r')(hw:RdWf r):RdWf r':=by
 obtain⟨h1,h2,h3⟩:=hw;have mp:∀nm cl k,b0h r nm cl k=some r'→RdWf r':=by
  intro nm cl k h;unfold b0h at h;split at h
  ·cases h;exact⟨by simp only;omega,h2,h3⟩
  ·cases h
 unfold rdW at h;split at h
 ·cases h;exact⟨h1,h2,h3⟩
 split at h
 ·cases h;exact⟨h1,h2,h3⟩
 split at h
 ·unfold rdS at h;split at h
  ·split at h
   ·rename_i hc;cases h;exact⟨h1,by simp only[e2f,e68];omega,h3⟩
   ·cases h
  ·cases h
 split at h
 ·unfold rdT at h;split at h
  ·split at h
   ·rename_i hc;cases h;exact⟨h1,h2,by simp only[e2f,e68];omega⟩
   ·cases h
  ·cases h
 split at h
 ·unfold rdV at h;split at h
  ·exact mp _ _ _ h
  ·split at h
   ·exact mp _ _ _ h
   ·cases h
  ·cases h
 ·cases h
theorem d66(r:Rd):RdAt (a2k r) 0 r:=by
 refine⟨_,_,_,rfl,?_,?_,?_⟩
 ·cases hS:r.S.map Sg.enc with
  |nil=>rw[a0p];exact a4q _ _
  |cons a l=>rw[a1t];exact a1j (by simp) rfl (by unfold a2k;rw[hS,a1q];rfl)
 ·cases hT:r.T.map Tm.enc with
  |nil=>rw[a0p];exact a4q _ _
  |cons a l=>rw[a1t];refine a1j (by simp) rfl ?_;unfold a2k;rw[hT,a1q];cases r.S.map Sg.enc<;>rfl
 ·cases hV:r.V.map Vc.enc with
  |nil=>rw[a0p];exact a4q _ _
  |cons a l=>rw[a1t];refine a1j (by simp) rfl ?_;unfold a2k;rw[hV,a1q];cases r.S.map Sg.enc<;>cases r.T.map Tm.enc<;>rfl
theorem a8q(r:Rd):(∃o0,a2k r=[some o0])∨(∃o0 o1,a2k r=[some o0,some o1])∨(∃o0 o1 o2,a2k r=[some o0,some o1,some o2])∨(∃o0 o1 o2 o3,a2k r=[some o0,some o1,some o2,some o3]):=by
 unfold a2k;cases r.S.map Sg.enc<;>cases r.T.map Tm.enc<;>cases r.V.map Vc.enc<;>simp only[a0u,a1q,b43,b82,e2h]
 ·exact .inl ⟨_,rfl⟩
 ·exact .inr (.inl ⟨_,_,rfl⟩)
 ·exact .inr (.inl ⟨_,_,rfl⟩)
 ·exact .inr (.inr (.inl ⟨_,_,_,rfl⟩))
 ·exact .inr (.inl ⟨_,_,rfl⟩)
 ·exact .inr (.inr (.inl ⟨_,_,_,rfl⟩))
 ·exact .inr (.inr (.inl ⟨_,_,_,rfl⟩))
 ·exact .inr (.inr (.inr ⟨_,_,_,_,rfl⟩))
theorem c8a(r r':Rd)(s:List UInt8)(hw:RdWf r)(h:a2v r s=some r'):∃H1,sem L.env Mf 41 [.ptr 0 0 0,.str s] (a2k r)=some (.tuple [],H1)∧RdAt H1 0 r':=by
 unfold a2v at h;split at h
 case isFalse=>cases h
 rename_i hl;have hR:=d66 r;have skip:(a2i (a00 32 s)=[]∨∃a tl,a2i (a00 32 s)=(35::a)::tl)→∃H1,sem L.env Mf 41 [.ptr 0 0 0,.str s] (a2k r)=some (.tuple [],H1)∧RdAt H1 0 r:=by
  intro br;rcases a8q r with ⟨o0,e⟩|⟨o0,o1,e⟩|⟨o0,o1,o2,e⟩|⟨o0,o1,o2,o3,e⟩<;>rw[e]at hR⊢
  ·obtain⟨q,⟨H1,rfl,h1⟩,h2⟩:=c2t o0 r s hl hR br;exact⟨H1,h2,h1⟩
  ·obtain⟨q,⟨H1,rfl,h1⟩,h2⟩:=c2s o0 o1 r s hl hR br;exact⟨H1,h2,h1⟩
  ·obtain⟨q,⟨H1,rfl,h1⟩,h2⟩:=c2r o0 o1 o2 r s hl hR br;exact⟨H1,h2,h1⟩
  ·obtain⟨q,⟨H1,rfl,h1⟩,h2⟩:=c2q o0 o1 o2 o3 r s hl hR br;exact⟨H1,h2,h1⟩
 have pt:∀tl,a2i (a00 32 s)=sigK0::tl→(∀R,R.length=(a00 32 s).length→R.take (tl.length+1)=sR (sigK0::tl)→FlatR R→tl.length+1≤(a00 32 s).length→a6l 65 (tl.length+1) (some (a00 32 s).length) R r r')→∃H1,sem L.env Mf 41 [.ptr 0 0 0,.str s] (a2k r)=some (.tuple [],H1)∧RdAt H1 0 r':=by
  intro tl br hc;rcases a8q r with ⟨o0,e⟩|⟨o0,o1,e⟩|⟨o0,o1,o2,e⟩|⟨o0,o1,o2,o3,e⟩<;>rw[e]at hR⊢
  ·obtain⟨q,⟨H1,rfl,h1⟩,h2⟩:=c5i o0 r r' s hl hR tl br hc;exact⟨H1,h2,h1⟩
  ·obtain⟨q,⟨H1,rfl,h1⟩,h2⟩:=c5f o0 o1 r r' s hl hR tl br hc;exact⟨H1,h2,h1⟩
  ·obtain⟨q,⟨H1,rfl,h1⟩,h2⟩:=c5c o0 o1 o2 r r' s hl hR tl br hc;exact⟨H1,h2,h1⟩
  ·obtain⟨q,⟨H1,rfl,h1⟩,h2⟩:=c59 o0 o1 o2 o3 r r' s hl hR tl br hc;exact⟨H1,h2,h1⟩
 have po:∀tl,a2i (a00 32 s)=a3y::tl→(∀R,R.length=(a00 32 s).length→R.take (tl.length+1)=sR (a3y::tl)→FlatR R→tl.length+1≤(a00 32 s).length→a6l 66 (tl.length+1) (some (a00 32 s).length) R r r')→∃H1,sem L.env Mf 41 [.ptr 0 0 0,.str s] (a2k r)=some (.tuple [],H1)∧RdAt H1 0 r':=by
  intro tl br hc;rcases a8q r with ⟨o0,e⟩|⟨o0,o1,e⟩|⟨o0,o1,o2,e⟩|⟨o0,o1,o2,o3,e⟩<;>rw[e]at hR⊢
  ·obtain⟨q,⟨H1,rfl,h1⟩,h2⟩:=c5h o0 r r' s hl hR tl br hc;exact⟨H1,h2,h1⟩
  ·obtain⟨q,⟨H1,rfl,h1⟩,h2⟩:=c5e o0 o1 r r' s hl hR tl br hc;exact⟨H1,h2,h1⟩
  ·obtain⟨q,⟨H1,rfl,h1⟩,h2⟩:=c5b o0 o1 o2 r r' s hl hR tl br hc;exact⟨H1,h2,h1⟩
  ·obtain⟨q,⟨H1,rfl,h1⟩,h2⟩:=c58 o0 o1 o2 o3 r r' s hl hR tl br hc;exact⟨H1,h2,h1⟩
 have oQ:∀tl,a2i (a00 32 s)=vecK0::tl→(∀R,R.length=(a00 32 s).length→R.take (tl.length+1)=sR (vecK0::tl)→FlatR R→tl.length+1≤(a00 32 s).length→a6l 67 (tl.length+1) (some (a00 32 s).length) R r r')→∃H1,sem L.env Mf 41 [.ptr 0 0 0,.str s] (a2k r)=some (.tuple [],H1)∧RdAt H1 0 r':=by
  intro tl br hc;rcases a8q r with ⟨o0,e⟩|⟨o0,o1,e⟩|⟨o0,o1,o2,e⟩|⟨o0,o1,o2,o3,e⟩<;>rw[e]at hR⊢
  ·obtain⟨q,⟨H1,rfl,h1⟩,h2⟩:=c5g o0 r r' s hl hR tl br hc;exact⟨H1,h2,h1⟩
  ·obtain⟨q,⟨H1,rfl,h1⟩,h2⟩:=c5d o0 o1 r r' s hl hR tl br hc;exact⟨H1,h2,h1⟩
  ·obtain⟨q,⟨H1,rfl,h1⟩,h2⟩:=c5a o0 o1 o2 r r' s hl hR tl br hc;exact⟨H1,h2,h1⟩
  ·obtain⟨q,⟨H1,rfl,h1⟩,h2⟩:=c57 o0 o1 o2 o3 r r' s hl hR tl br hc;exact⟨H1,h2,h1⟩
 generalize hWW:a2i (a00 32 s)=ws at h skip pt po oQ;have aK:∀w∈ws,w≠[]:=by rw[←hWW];exact c63
 generalize(a00 32 s).length=n at pt po oQ;unfold rdW at h;split at h
 ·cases h;exact skip (.inl rfl)
 rename_i w0 tl;split at h
 ·rename_i hh;cases h;refine skip (.inr ?_);cases w0 with
  |nil=>exact absurd rfl (aK [] (by simp))
  |cons a q=>
   have:a=35:=by simpa using hh
   subst this;exact⟨q,tl,rfl⟩
 split at h
 ·rename_i hk;subst hk;unfold rdS at h;split at h
  case h_2=>cases h
  rename_i nm d;split at h
  case isFalse=>cases h
  rename_i hc;obtain⟨c1,c2,c3,c4,c5,c6⟩:=hc;cases h;refine pt _ rfl ?_;intro R ap aM aw hm;obtain⟨S,T,V,sum⟩:=r;simp only at c2 c3 c5 c6;subst c2;subst c3;have h3:R.take [sigK0,nm,d].length=sR [sigK0,nm,d]:=aM;refine d1c S sum n R nm (if d=a9h then 1 else 0) (by split<;>omega) c6 c5 c4 ap hm aw (sR0 h3 rfl) ?_;rw[sR0 h3 (show [sigK0,nm,d][2]?=some d from rfl)];by_cases hd:d=a9h
  ·rw[e3g hd,e3g rfl,hd]
  ·rw[e2i hd,e2i (by decide),c1.resolve_right hd]
 split at h
 ·rename_i hk;subst hk;unfold rdT at h;split at h
  case h_2=>cases h
  rename_i nm w0 w1 w2 w3 w4;split at h
  case isFalse=>cases h
  rename_i hc;obtain⟨c1,c2,c3,c4,c5⟩:=hc;cases h;refine po _ rfl ?_;intro R ap aM aw hm;obtain⟨S,T,V,sum⟩:=r;simp only at c1 c4 c5;subst c1;have h3:R.take [a3y,nm,w0,w1,w2,w3,w4].length=sR [a3y,nm,w0,w1,w2,w3,w4]:=aM;refine d13 S T sum n R nm w0 w1 w2 w3 w4 c5 c4 ap hm aw (sR0 h3 rfl) ?_ c2 c3;intro j w hj;refine sR0 h3 ?_;rw[show 2+j=(j+1)+1 by omega];simpa using hj
 split at h
 ·rename_i hk;subst hk;have bL:=hw.s0;have hS:=hw.hS;have hT:=hw.hT;obtain⟨S,T,V,sum⟩:=r;simp only at bL hS hT;unfold rdV at h;split at h
  ·rename_i nm cl;unfold b0h at h;split at h
   case isFalse=>cases h
   rename_i hc;obtain⟨c1,c2,c3⟩:=hc;cases h;refine oQ _ rfl ?_;intro R ap aM aw hm;have h3:R.take [vecK0,nm,cl].length=sR [vecK0,nm,cl]:=aM;exact c7e S T V sum n R nm cl (by omega) (by omega) c2 ap hm aw (sR0 h3 rfl) (sR0 h3 rfl) bL c3 c1
  ·rename_i nm cl rp;split at h
   case isFalse=>cases h
   rename_i aU;unfold b0h at h;split at h
   case isFalse=>cases h
   rename_i hc;obtain⟨c1,c2,c3⟩:=hc;cases h;refine oQ _ rfl ?_;intro R ap aM aw hm;have h3:R.take [vecK0,nm,cl,rp].length=sR [vecK0,nm,cl,rp]:=aM;exact c7d S T V sum n R nm cl rp aU (sR0 h3 rfl) (by omega) (by omega) c2 ap hm aw (sR0 h3 rfl) (sR0 h3 rfl) bL c3 c1
  ·cases h
 ·cases h
end Go.RInst
namespace Go.RInst
open Go.Proofs Go.Ax Go.Pc
variable [PR]
set_option maxRecDepth 100000
def GsL(lo:Nat)(H:a08)(k:Nat)(x:AV)(R:List (List AV)):Prop:=(R=[]∧x = .nilslice)∨(R≠[]∧∃c,x = .slice c 0 R.length none∧a03 H c=some (.row k R)∧lo≤c)
def RdL(lo:Nat)(H:a08)(b:Nat)(r:Rd):Prop:=∃x y z,a03 H b=some (.row 4 [[x,y,z,.int .i64 r.sum]])∧GsL lo H 2 x (r.S.map Sg.enc)∧GsL lo H 6 y (r.T.map Tm.enc)∧GsL lo H 3 z (r.V.map Vc.enc)
theorem GsAt.backL{lo:Nat}{H1 H H':a08}{σ:List Nat}{k:Nat}{x:AV}{R:List (List AV)}(h:GsAt H1 k x R)(hR:FlatR R)(h1:∀j b,σ[j]?=some b→a03 H' b=(a03 H1 j).map (a0t (a1e σ H.length)))(h2:∀j,a03 H' (H.length+j)=(a03 H1 (σ.length+j)).map (a0t (a1e σ H.length)))(ee:∀b∈σ,lo≤b)(uF:lo≤H.length):GsL lo H' k (ren (a1e σ H.length) x) R:=by
 rcases h with ⟨rfl,rfl⟩|⟨aK,c,rfl,hc⟩
 ·exact .inl ⟨rfl,rfl⟩
 ·right;refine⟨aK,?_⟩;by_cases aq:c<σ.length
  ·have hb:a1e σ H.length c=some σ[c]:=by unfold a1e;rw[show Nat.blt c σ.length=true from by rw[e3f];exact aq];exact z9e aq
   refine⟨σ[c],by simp only[ren,a47,hb],?_,ee _ (List.getElem_mem aq)⟩;rw[h1 c _ (z9e aq),hc];simp only[e2a,a0t,a02 _ hR]
  ·have hb:a1e σ H.length c=some (H.length+(c-σ.length)):=by
    have:Nat.blt c σ.length=false:=by rw[←e5q,e3f];exact aq
    unfold a1e;rw[this];rfl
   refine⟨H.length+(c-σ.length),by simp only[ren,a47,hb],?_,by omega⟩;have:=h2 (c-σ.length);rw[show σ.length+(c-σ.length)=c by omega,hc]at this;rw[this];simp only[e2a,a0t,a02 _ hR]
theorem a10{H:a08}(c d:Nat)(k1 k2:Nat)(R1 R2:List (List AV))(h1:a03 H c=some (.row k1 R1))(h2:a03 H d=some (.row k2 R2))(aK:k1≠k2):c≠d:=by intro e;subst e;rw[h1]at h2;cases h2;exact aK rfl
theorem c54(lo:Nat)(H:a08)(b:Nat)(r r':Rd)(s:List UInt8)(hw:RdWf r)(h:a2v r s=some r')(hR:RdL lo H b r)(lS:lo≤b) :
 ∃H' σ,a0e L.env false (sem L.env Mf) (.func (.func 41) [] []) [.ptr b 0 0,.str s] H=some (.tuple [],H',σ)∧RdL lo H' b r'∧H.length≤H'.length∧(∀c,c<H.length→c<lo→a03 H' c=a03 H c)∧(∀c R,a03 H c=some (.row 1 R)→a03 H' c=a03 H c):=by
 obtain⟨H1,mz,x',y',z',e0,eS,eT,eV⟩:=c8a r r' s hw h;obtain⟨x,y,z,hb,hS,hT,hV⟩:=hR;have lb:=a0v hb;have S1:=λπ=>a02 π (a0s r.S);have T1:=λπ=>a02 π (a0a r.T);have V1:=λπ=>a02 π (a13 r.V);have S2:=a01 (a0s r.S);have T2:=a01 (a0a r.T);have V2:=a01 (a13 r.V);have fin:∀(σ:List Nat),a0j H 1000000 (a0x [AV.ptr b 0 0,.str s]) []=σ→a25 σ=true→(σ.all λb=>decide (b<H.length))=true→[AV.ptr b 0 0,.str s].map (ren (a2w σ))=[.ptr 0 0 0,.str s]→a0q H σ (a2w σ)=a2k r→σ[0]?=some b→(∀c∈σ,lo≤c∧∃k R,a03 H c=some (.row k R)∧k≠1)→
  ∃H' σ,a0e L.env false (sem L.env Mf) (.func (.func 41) [] []) [.ptr b 0 0,.str s] H=some (.tuple [],H',σ)∧RdL lo H' b r'∧H.length≤H'.length∧(∀c,c<H.length→c<lo→a03 H' c=a03 H c)∧(∀c R,a03 H c=some (.row 1 R)→a03 H' c=a03 H c):=by
  intro σ i1 i2 i3 i4 i5 i6 i7;obtain⟨H',h1,h2,h3,h4,h5⟩:=b08 (E:=L.env) (call:=sem L.env Mf) (g:=41) (fs:=[]) (cs:=[]) (ar:=[.ptr b 0 0,.str s]) (H:=H) (σ:=σ) (by kernel_rfl) (by kernel_rfl) rfl i1 i2 i3 i4 i5 mz rfl;have ee:=λc hc=>(i7 c hc).1;refine⟨H',σ,h1,⟨ren (a1e σ H.length) x',ren (a1e σ H.length) y',ren (a1e σ H.length) z',?_,eS.backL (a0s _) h3 h5 ee (by omega),eT.backL (a0a _) h3 h5 ee (by omega),eV.backL (a13 _) h3 h5 ee (by omega)⟩,by omega,λc hc aX=>h4 c hc λhm=>by have:=ee c hm;omega,λc R hc=>h4 c (a0v hc) λhm=>?_⟩
  ·rw[h3 0 b i6,e0];simp only[e2a,a0t,e2b,e3a,ren]
  ·obtain⟨_,k,R',hk,ne⟩:=i7 c hm;rw[hc]at hk;cases hk;exact ne rfl
 have fj:(1000000:Nat)=999980+1+1+1+1+1+1+1+1+1+1+1+1+1+1+1+1+1+1+1+1:=rfl;rcases hS with ⟨cn,rfl⟩|⟨cn,a,rfl,bK,oa⟩<;>rcases hT with ⟨bZ,rfl⟩|⟨bZ,t,rfl,bJ,ot⟩<;>rcases hV with ⟨b8,rfl⟩|⟨b8,v,rfl,bI,ov⟩
 ·have aj:a2k r=[some (.row 4 [[.nilslice,.nilslice,.nilslice,.int .i64 r.sum]])]:=by
   unfold a2k;rw[cn,a0p,a0u,bZ,a0p,a0u,b8,a0p,a0u];rfl
  refine fin [b] ?_ ?_ ?_ ?_ ?_ rfl ?_
  ·show a0j H 1000000 [b] []=_;rw[fj,a06 rfl,hb];show a0j H _ ([]++[]) [b]=_;simp only[e2h];exact a17 _ _ _
  ·simp[a12,a18,a04,a05]
  ·simp[lb]
  ·simp[ren,a47,a2w,e2g]
  ·rw[aj];simp only[a0q,e2b,e3a,hb,e2a,a0t,S1,T1,V1,b82,b43];simp[ren,a47,a2w,e2g]
  ·intro c hc;simp only[e3b,e5f,e7f]at hc;subst hc
   ·exact⟨lS,_,_,hb,by decide⟩
 ·have lv:=a0v bI;have cz:b≠v:=a10 b v 4 3 _ _ hb bI (by decide);have cQ:v≠b:=e3m cz;have aj:a2k r=[some (.row 4 [[.nilslice,.nilslice,.slice 1 0 (r.V.map Vc.enc).length none,.int .i64 r.sum]]),some (.row 3 (r.V.map Vc.enc))]:=by
   unfold a2k;rw[cn,a0p,a0u,bZ,a0p,a0u,a0h _ b8,a0y _ b8];rfl
  refine fin [b,v] ?_ ?_ ?_ ?_ ?_ rfl ?_
  ·show a0j H 1000000 [b] []=_;rw[fj,a06 rfl,hb];show a0j H _ ([v]++[]) [b]=_;simp only[e2h];rw[a06 (by simp[a04,a05,cz,cQ]),bI];show a0j H _ ((r.V.map Vc.enc).flatMap a0x++[]) _=_;rw[V2,b43];exact a17 _ _ _
  ·simp[a12,a18,a04,a05,cz,cQ]
  ·simp[lb,lv]
  ·simp[ren,a47,a2w,e2g,cz,cQ]
  ·rw[aj];simp only[a0q,e2b,e3a,hb,bI,e2a,a0t,S1,T1,V1,b82,b43];simp[ren,a47,a2w,e2g,cz,cQ]
  ·intro c hc;simp only[e3b,e5f,e7f]at hc;rcases hc with rfl|rfl
   ·exact⟨lS,_,_,hb,by decide⟩
   ·exact⟨ov,_,_,bI,by decide⟩
 ·have lt:=a0v bJ;have cA:b≠t:=a10 b t 4 6 _ _ hb bJ (by decide);have cR:t≠b:=e3m cA;have aj:a2k r=[some (.row 4 [[.nilslice,.slice 1 0 (r.T.map Tm.enc).length none,.nilslice,.int .i64 r.sum]]),some (.row 6 (r.T.map Tm.enc))]:=by
   unfold a2k;rw[cn,a0p,a0u,a0h _ bZ,a0y _ bZ,b8,a0p,a0u];rfl
  refine fin [b,t] ?_ ?_ ?_ ?_ ?_ rfl ?_
  ·show a0j H 1000000 [b] []=_;rw[fj,a06 rfl,hb];show a0j H _ ([t]++[]) [b]=_;simp only[e2h];rw[a06 (by simp[a04,a05,cA,cR]),bJ];show a0j H _ ((r.T.map Tm.enc).flatMap a0x++[]) _=_;rw[T2,b43];exact a17 _ _ _
  ·simp[a12,a18,a04,a05,cA,cR]
  ·simp[lb,lt]
  ·simp[ren,a47,a2w,e2g,cA,cR]
  ·rw[aj];simp only[a0q,e2b,e3a,hb,bJ,e2a,a0t,S1,T1,V1,b82,b43];simp[ren,a47,a2w,e2g,cA,cR]
  ·intro c hc;simp only[e3b,e5f,e7f]at hc;rcases hc with rfl|rfl
   ·exact⟨lS,_,_,hb,by decide⟩
   ·exact⟨ot,_,_,bJ,by decide⟩
 ·have lt:=a0v bJ;have lv:=a0v bI;have cA:b≠t:=a10 b t 4 6 _ _ hb bJ (by decide);have cR:t≠b:=e3m cA;have cz:b≠v:=a10 b v 4 3 _ _ hb bI (by decide);have cQ:v≠b:=e3m cz;have dj:t≠v:=a10 t v 6 3 _ _ bJ bI (by decide);have dH:v≠t:=e3m dj;have aj:a2k r=[some (.row 4 [[.nilslice,.slice 1 0 (r.T.map Tm.enc).length none,.slice 2 0 (r.V.map Vc.enc).length none,.int .i64 r.sum]]),some (.row 6 (r.T.map Tm.enc)),some (.row 3 (r.V.map Vc.enc))]:=by
   unfold a2k;rw[cn,a0p,a0u,a0h _ bZ,a0y _ bZ,a0h _ b8,a0y _ b8];rfl
  refine fin [b,t,v] ?_ ?_ ?_ ?_ ?_ rfl ?_
  ·show a0j H 1000000 [b] []=_;rw[fj,a06 rfl,hb];show a0j H _ ([t,v]++[]) [b]=_;simp only[e2h];rw[a06 (by simp[a04,a05,cA,cz,cR,dj,cQ,dH]),bJ];show a0j H _ ((r.T.map Tm.enc).flatMap a0x++[v]) _=_;rw[T2,b43];rw[a06 (by simp[a04,a05,cA,cz,cR,dj,cQ,dH]),bI];show a0j H _ ((r.V.map Vc.enc).flatMap a0x++[]) _=_;rw[V2,b43];exact a17 _ _ _
  ·simp[a12,a18,a04,a05,cA,cz,cR,dj,cQ,dH]
  ·simp[lb,lt,lv]
  ·simp[ren,a47,a2w,e2g,cA,cz,cR,dj,cQ,dH]
  ·rw[aj];simp only[a0q,e2b,e3a,hb,bJ,bI,e2a,a0t,S1,T1,V1,b82,b43];simp[ren,a47,a2w,e2g,cA,cz,cR,dj,cQ,dH]
  ·intro c hc;simp only[e3b,e5f,e7f]at hc;rcases hc with rfl|rfl|rfl
   ·exact⟨lS,_,_,hb,by decide⟩
   ·exact⟨ot,_,_,bJ,by decide⟩
   ·exact⟨ov,_,_,bI,by decide⟩
 ·have la:=a0v bK;have cC:b≠a:=a10 b a 4 2 _ _ hb bK (by decide);have cT:a≠b:=e3m cC;have aj:a2k r=[some (.row 4 [[.slice 1 0 (r.S.map Sg.enc).length none,.nilslice,.nilslice,.int .i64 r.sum]]),some (.row 2 (r.S.map Sg.enc))]:=by
   unfold a2k;rw[a0h _ cn,a0y _ cn,bZ,a0p,a0u,b8,a0p,a0u];rfl
  refine fin [b,a] ?_ ?_ ?_ ?_ ?_ rfl ?_
  ·show a0j H 1000000 [b] []=_;rw[fj,a06 rfl,hb];show a0j H _ ([a]++[]) [b]=_;simp only[e2h];rw[a06 (by simp[a04,a05,cC,cT]),bK];show a0j H _ ((r.S.map Sg.enc).flatMap a0x++[]) _=_;rw[S2,b43];exact a17 _ _ _
  ·simp[a12,a18,a04,a05,cC,cT]
  ·simp[lb,la]
  ·simp[ren,a47,a2w,e2g,cC,cT]
  ·rw[aj];simp only[a0q,e2b,e3a,hb,bK,e2a,a0t,S1,T1,V1,b82,b43];simp[ren,a47,a2w,e2g,cC,cT]
  ·intro c hc;simp only[e3b,e5f,e7f]at hc;rcases hc with rfl|rfl
   ·exact⟨lS,_,_,hb,by decide⟩
   ·exact⟨oa,_,_,bK,by decide⟩
 ·have la:=a0v bK;have lv:=a0v bI;have cC:b≠a:=a10 b a 4 2 _ _ hb bK (by decide);have cT:a≠b:=e3m cC;have cz:b≠v:=a10 b v 4 3 _ _ hb bI (by decide);have cQ:v≠b:=e3m cz;have dk:a≠v:=a10 a v 2 3 _ _ bK bI (by decide);have dI:v≠a:=e3m dk;have aj:a2k r=[some (.row 4 [[.slice 1 0 (r.S.map Sg.enc).length none,.nilslice,.slice 2 0 (r.V.map Vc.enc).length none,.int .i64 r.sum]]),some (.row 2 (r.S.map Sg.enc)),some (.row 3 (r.V.map Vc.enc))]:=by
   unfold a2k;rw[a0h _ cn,a0y _ cn,bZ,a0p,a0u,a0h _ b8,a0y _ b8];rfl
  refine fin [b,a,v] ?_ ?_ ?_ ?_ ?_ rfl ?_
  ·show a0j H 1000000 [b] []=_;rw[fj,a06 rfl,hb];show a0j H _ ([a,v]++[]) [b]=_;simp only[e2h];rw[a06 (by simp[a04,a05,cC,cz,cT,dk,cQ,dI]),bK];show a0j H _ ((r.S.map Sg.enc).flatMap a0x++[v]) _=_;rw[S2,b43];rw[a06 (by simp[a04,a05,cC,cz,cT,dk,cQ,dI]),bI];show a0j H _ ((r.V.map Vc.enc).flatMap a0x++[]) _=_;rw[V2,b43];exact a17 _ _ _
  ·simp[a12,a18,a04,a05,cC,cz,cT,dk,cQ,dI]
  ·simp[lb,la,lv]
  ·simp[ren,a47,a2w,e2g,cC,cz,cT,dk,cQ,dI]
  ·rw[aj];simp only[a0q,e2b,e3a,hb,bK,bI,e2a,a0t,S1,T1,V1,b82,b43];simp[ren,a47,a2w,e2g,cC,cz,cT,dk,cQ,dI]
  ·intro c hc;simp only[e3b,e5f,e7f]at hc;rcases hc with rfl|rfl|rfl
   ·exact⟨lS,_,_,hb,by decide⟩
   ·exact⟨oa,_,_,bK,by decide⟩
   ·exact⟨ov,_,_,bI,by decide⟩
 ·have la:=a0v bK;have lt:=a0v bJ;have cC:b≠a:=a10 b a 4 2 _ _ hb bK (by decide);have cT:a≠b:=e3m cC;have cA:b≠t:=a10 b t 4 6 _ _ hb bJ (by decide);have cR:t≠b:=e3m cA;have nat:a≠t:=a10 a t 2 6 _ _ bK bJ (by decide);have dJ:t≠a:=e3m nat;have aj:a2k r=[some (.row 4 [[.slice 1 0 (r.S.map Sg.enc).length none,.slice 2 0 (r.T.map Tm.enc).length none,.nilslice,.int .i64 r.sum]]),some (.row 2 (r.S.map Sg.enc)),some (.row 6 (r.T.map Tm.enc))]:=by
   unfold a2k;rw[a0h _ cn,a0y _ cn,a0h _ bZ,a0y _ bZ,b8,a0p,a0u];rfl
  refine fin [b,a,t] ?_ ?_ ?_ ?_ ?_ rfl ?_
  ·show a0j H 1000000 [b] []=_;rw[fj,a06 rfl,hb];show a0j H _ ([a,t]++[]) [b]=_;simp only[e2h];rw[a06 (by simp[a04,a05,cC,cA,cT,nat,cR,dJ]),bK];show a0j H _ ((r.S.map Sg.enc).flatMap a0x++[t]) _=_;rw[S2,b43];rw[a06 (by simp[a04,a05,cC,cA,cT,nat,cR,dJ]),bJ];show a0j H _ ((r.T.map Tm.enc).flatMap a0x++[]) _=_;rw[T2,b43];exact a17 _ _ _
  ·simp[a12,a18,a04,a05,cC,cA,cT,nat,cR,dJ]
  ·simp[lb,la,lt]
  ·simp[ren,a47,a2w,e2g,cC,cA,cT,nat,cR,dJ]
  ·rw[aj];simp only[a0q,e2b,e3a,hb,bK,bJ,e2a,a0t,S1,T1,V1,b82,b43];simp[ren,a47,a2w,e2g,cC,cA,cT,nat,cR,dJ]
  ·intro c hc;simp only[e3b,e5f,e7f]at hc;rcases hc with rfl|rfl|rfl
   ·exact⟨lS,_,_,hb,by decide⟩
   ·exact⟨oa,_,_,bK,by decide⟩
   ·exact⟨ot,_,_,bJ,by decide⟩
 ·have la:=a0v bK;have lt:=a0v bJ;have lv:=a0v bI;have cC:b≠a:=a10 b a 4 2 _ _ hb bK (by decide);have cT:a≠b:=e3m cC;have cA:b≠t:=a10 b t 4 6 _ _ hb bJ (by decide);have cR:t≠b:=e3m cA;have cz:b≠v:=a10 b v 4 3 _ _ hb bI (by decide);have cQ:v≠b:=e3m cz;have nat:a≠t:=a10 a t 2 6 _ _ bK bJ (by decide);have dJ:t≠a:=e3m nat;have dk:a≠v:=a10 a v 2 3 _ _ bK bI (by decide);have dI:v≠a:=e3m dk;have dj:t≠v:=a10 t v 6 3 _ _ bJ bI (by decide);have dH:v≠t:=e3m dj;have aj:a2k r=[some (.row 4 [[.slice 1 0 (r.S.map Sg.enc).length none,.slice 2 0 (r.T.map Tm.enc).length none,.slice 3 0 (r.V.map Vc.enc).length none,.int .i64 r.sum]]),some (.row 2 (r.S.map Sg.enc)),some (.row 6 (r.T.map Tm.enc)),some (.row 3 (r.V.map Vc.enc))]:=by
   unfold a2k;rw[a0h _ cn,a0y _ cn,a0h _ bZ,a0y _ bZ,a0h _ b8,a0y _ b8];rfl
  refine fin [b,a,t,v] ?_ ?_ ?_ ?_ ?_ rfl ?_
  ·show a0j H 1000000 [b] []=_;rw[fj,a06 rfl,hb];show a0j H _ ([a,t,v]++[]) [b]=_;simp only[e2h];rw[a06 (by simp[a04,a05,cC,cA,cz,cT,nat,dk,cR,dJ,dj,cQ,dI,dH]),bK];show a0j H _ ((r.S.map Sg.enc).flatMap a0x++[t,v]) _=_;rw[S2,b43];rw[a06 (by simp[a04,a05,cC,cA,cz,cT,nat,dk,cR,dJ,dj,cQ,dI,dH]),bJ];show a0j H _ ((r.T.map Tm.enc).flatMap a0x++[v]) _=_;rw[T2,b43];rw[a06 (by simp[a04,a05,cC,cA,cz,cT,nat,dk,cR,dJ,dj,cQ,dI,dH]),bI];show a0j H _ ((r.V.map Vc.enc).flatMap a0x++[]) _=_;rw[V2,b43];exact a17 _ _ _
  ·simp[a12,a18,a04,a05,cC,cA,cz,cT,nat,dk,cR,dJ,dj,cQ,dI,dH]
  ·simp[lb,la,lt,lv]
  ·simp[ren,a47,a2w,e2g,cC,cA,cz,cT,nat,dk,cR,dJ,dj,cQ,dI,dH]
  ·rw[aj];simp only[a0q,e2b,e3a,hb,bK,bJ,bI,e2a,a0t,S1,T1,V1,b82,b43];simp[ren,a47,a2w,e2g,cC,cA,cz,cT,nat,dk,cR,dJ,dj,cQ,dI,dH]
  ·intro c hc;simp only[e3b,e5f,e7f]at hc;rcases hc with rfl|rfl|rfl|rfl
   ·exact⟨lS,_,_,hb,by decide⟩
   ·exact⟨oa,_,_,bK,by decide⟩
   ·exact⟨ot,_,_,bJ,by decide⟩
   ·exact⟨ov,_,_,bI,by decide⟩
def a1s(r:Rd):a08:=some (.row 4 [[grV 4 (r.S.map Sg.enc),grV (4+(grH 2 (r.S.map Sg.enc)).length) (r.T.map Tm.enc),grV (4+(grH 2 (r.S.map Sg.enc)).length+(grH 6 (r.T.map Tm.enc)).length) (r.V.map Vc.enc),.int .i64 r.sum]])::(grH 2 (r.S.map Sg.enc)++grH 6 (r.T.map Tm.enc)++grH 3 (r.V.map Vc.enc))
theorem e0l{H:a08}{o0 o1 o2:AObj}(h0:a03 H 0=some o0)(h1:a03 H 1=some o1)(h2:a03 H 2=some o2):H.take 3=[some o0,some o1,some o2]:=by
 match H,h0,h1,h2 with
 | [],h0,_,_=>cases h0
 | [_],_,h1,_=>cases h1
 | [_,_],_,_,h2=>cases h2
 |a::b::c::l,h0,h1,h2=>simp only[a03,e29,e63]at h0;have h1:b=some o1:=h1;have h2:c=some o2:=h2;rw[h0,h1,h2];rfl
theorem d73(H:a08)(r:Rd)(lb nl i:Nat)(n:Int)(LR:List (List AV))(rU:FlatR LR)(h0:a03 H 0=clO)(h1:a03 H 1=some (.row 2 [[.int .i64 0,.int .i64 0]]))(h2:a03 H 2=clN n)(hR:RdL 3 H 3 r)(hl:a03 H lb=some (.row 1 LR))(fI:3≤lb){F0:Frm}(kW:F0=[(2,.ptr 0 0 0),(3,.ptr 1 0 0),(4,.ptr 2 0 0),(5,.ptr 3 0 0),(17,.slice lb 0 nl (some nl)),(18,.int .i64 nl),(19,.int .i64 (i:Nat))]) :
 (bif a25 (a80 3 F0 H)&&(a80 3 F0 H).all (λb=>decide (3≤b))&&decide (3≤H.length)then some (c3j (b95 3 (a80 3 F0 H)) F0,gcH 3 (a80 3 F0 H) H)else none) =
  some ([(2,.ptr 0 0 0),(3,.ptr 1 0 0),(4,.ptr 2 0 0),(5,.ptr 3 0 0),(17,.slice (3+(a1s r).length) 0 nl (some nl)),(18,.int .i64 nl),(19,.int .i64 (i:Nat))],[clO,some (.row 2 [[.int .i64 0,.int .i64 0]]),clN n]++a1s r++[some (.row 1 LR)]):=by
 subst kW;have ht:=e0l h0 h1 h2;obtain⟨x,y,z,hb,hS,hT,hV⟩:=hR;have uz:=a0v hb;have ll:=a0v hl;have S1:=λπ=>a02 π (a0s r.S);have T1:=λπ=>a02 π (a0a r.T);have V1:=λπ=>a02 π (a13 r.V);have L1:=λπ=>a02 π rU;have S2:=a01 (a0s r.S);have T2:=a01 (a0a r.T);have V2:=a01 (a13 r.V);have L2:=a01 rU;have z0:a36 (a03 H 0)=[]:=by rw[h0];rfl
 have z1:a36 (a03 H 1)=[]:=by rw[h1];rfl
 have z2:a36 (a03 H 2)=[]:=by rw[h2];rfl
 have dW:(3:Nat)≠lb:=a10 3 lb 4 1 _ _ hb hl (by decide);have d6:lb≠3:=e3m dW;have fj:(1000000:Nat)=999980+1+1+1+1+1+1+1+1+1+1+1+1+1+1+1+1+1+1+1+1:=rfl;have mf:3≤H.length:=by omega
 have aR:∀pB:List Nat,a0j H 1000000 ((H.take 3).flatMap a36++a0x [AV.ptr 0 0 0,.ptr 1 0 0,.ptr 2 0 0,.ptr 3 0 0,.slice lb 0 nl (some nl),.int .i64 nl,.int .i64 (i:Nat)]) []=pB→a80 3 [(2,.ptr 0 0 0),(3,.ptr 1 0 0),(4,.ptr 2 0 0),(5,.ptr 3 0 0),(17,.slice lb 0 nl (some nl)),(18,.int .i64 nl),(19,.int .i64 (i:Nat))] H=pB.filter λb=>decide (3≤b):=by intro pB h;rw[a07];show(a0j H 1000000 ((H.take 3).flatMap a36++a0x [AV.ptr 0 0 0,.ptr 1 0 0,.ptr 2 0 0,.ptr 3 0 0,.slice lb 0 nl (some nl),.int .i64 nl,.int .i64 (i:Nat)]) []).filter _=_;rw[h]
 rcases hS with ⟨cn,rfl⟩|⟨cn,a,rfl,bK,oa⟩<;>rcases hT with ⟨bZ,rfl⟩|⟨bZ,t,rfl,bJ,ot⟩<;>rcases hV with ⟨b8,rfl⟩|⟨b8,v,rfl,bI,ov⟩
 ·have bq:(0:Nat)≠lb:=by omega
  have bn:lb≠0:=by omega
  have bp:(1:Nat)≠lb:=by omega
  have bm:lb≠1:=by omega
  have bo:(2:Nat)≠lb:=by omega
  have bl:lb≠2:=by omega
  have aj:a1s r=[some (.row 4 [[.nilslice,.nilslice,.nilslice,.int .i64 r.sum]])]:=by unfold a1s;rw[cn,a0p,a0u,bZ,a0p,a0u,b8,a0p,a0u];rfl
  have fu:a0j H 1000000 ((H.take 3).flatMap a36++a0x [AV.ptr 0 0 0,.ptr 1 0 0,.ptr 2 0 0,.ptr 3 0 0,.slice lb 0 nl (some nl),.int .i64 nl,.int .i64 (i:Nat)]) []=[0,1,2,3,lb]:=by rw[ht];show a0j H 1000000 [0,1,2,3,lb] []=_;rw[fj,a06 rfl,z0,b43,a06 rfl,z1,b43,a06 rfl,z2,b43,a06 rfl,hb];show a0j H _ ([]++[lb]) _=_;simp only[b82,b43];rw[a06 (by simp[a04,a05,dW,d6,bq,bn,bp,bm,bo,bl]),hl];show a0j H _ (LR.flatMap a0x++[]) _=_;rw[L2];exact a17 _ _ _
  have dh:=aR _ fu;have eH:([0,1,2,3,lb]:List Nat).filter (λb=>decide (3≤b))=[3,lb]:=by simp[fI]
  rw[eH]at dh;rw[dh,aj];have c1:a25 [3,lb]=true:=by simp[a12,a18,a04,a05,dW,d6,bq,bn,bp,bm,bo,bl]
  have c2:([3,lb]:List Nat).all (λb=>decide (3≤b))=true:=by simp[fI]
  rw[c1,c2,e3d mf];simp only[e57,e3e,b1r,ht,a0q,e2b,e3a,hb,hl,e2a,a0t,S1,T1,V1,L1,b82,b43,b94,e27];have jc:decide (lb<3)=false:=e50 (by omega);simp only[a5q,a4o,ren,a47,a7z,e2g,e75,jc,e3p,e3e];simp[dW,d6,bq,bn,bp,bm,bo,bl,fI]
 ·have pz:=a0v bI;have fb:(3:Nat)≠v:=a10 3 v 4 3 _ _ hb bI (by decide);have fK:v≠3:=e3m fb;have eX:v≠lb:=a10 v lb 3 1 _ _ bI hl (by decide);have fM:lb≠v:=e3m eX;have gl:(0:Nat)≠v:=by omega
  have fU:v≠0:=by omega
  have gh:(1:Nat)≠v:=by omega
  have fR:v≠1:=by omega
  have gd:(2:Nat)≠v:=by omega
  have fQ:v≠2:=by omega
  have bq:(0:Nat)≠lb:=by omega
  have bn:lb≠0:=by omega
  have bp:(1:Nat)≠lb:=by omega
  have bm:lb≠1:=by omega
  have bo:(2:Nat)≠lb:=by omega
  have bl:lb≠2:=by omega
  have aj:a1s r=[some (.row 4 [[.nilslice,.nilslice,.slice 4 0 (r.V.map Vc.enc).length none,.int .i64 r.sum]]),some (.row 3 (r.V.map Vc.enc))]:=by unfold a1s;rw[cn,a0p,a0u,bZ,a0p,a0u,a0h _ b8,a0y _ b8];rfl
  have fu:a0j H 1000000 ((H.take 3).flatMap a36++a0x [AV.ptr 0 0 0,.ptr 1 0 0,.ptr 2 0 0,.ptr 3 0 0,.slice lb 0 nl (some nl),.int .i64 nl,.int .i64 (i:Nat)]) []=[0,1,2,3,v,lb]:=by rw[ht];show a0j H 1000000 [0,1,2,3,lb] []=_;rw[fj,a06 rfl,z0,b43,a06 rfl,z1,b43,a06 rfl,z2,b43,a06 rfl,hb];show a0j H _ ([v]++[lb]) _=_;simp only[b82,b43];rw[a06 (by simp[a04,a05,dW,d6,fb,fK,eX,fM,gl,fU,gh,fR,gd,fQ,bq,bn,bp,bm,bo,bl]),bI];show a0j H _ ((r.V.map Vc.enc).flatMap a0x++[lb]) _=_;rw[V2,b43];rw[a06 (by simp[a04,a05,dW,d6,fb,fK,eX,fM,gl,fU,gh,fR,gd,fQ,bq,bn,bp,bm,bo,bl]),hl];show a0j H _ (LR.flatMap a0x++[]) _=_;rw[L2];exact a17 _ _ _
  have dh:=aR _ fu;have eH:([0,1,2,3,v,lb]:List Nat).filter (λb=>decide (3≤b))=[3,v,lb]:=by simp[fI,ov]
  rw[eH]at dh;rw[dh,aj];have c1:a25 [3,v,lb]=true:=by simp[a12,a18,a04,a05,dW,d6,fb,fK,eX,fM,gl,fU,gh,fR,gd,fQ,bq,bn,bp,bm,bo,bl]
  have c2:([3,v,lb]:List Nat).all (λb=>decide (3≤b))=true:=by simp[fI,ov]
  rw[c1,c2,e3d mf];simp only[e57,e3e,b1r,ht,a0q,e2b,e3a,hb,hl,bI,e2a,a0t,S1,T1,V1,L1,b82,b43,b94,e27];have dv:decide (v<3)=false:=e50 (by omega);have jc:decide (lb<3)=false:=e50 (by omega);simp only[a5q,a4o,ren,a47,a7z,e2g,e75,dv,jc,e3p,e3e];simp[dW,d6,fb,fK,eX,fM,gl,fU,gh,fR,gd,fQ,bq,bn,bp,bm,bo,bl,fI,ov]
 ·have pA:=a0v bJ;have fc:(3:Nat)≠t:=a10 3 t 4 6 _ _ hb bJ (by decide);have fL:t≠3:=e3m fc;have eY:t≠lb:=a10 t lb 6 1 _ _ bJ hl (by decide);have fN:lb≠t:=e3m eY;have gm:(0:Nat)≠t:=by omega
  have fY:t≠0:=by omega
  have gi:(1:Nat)≠t:=by omega
  have fX:t≠1:=by omega
  have ge:(2:Nat)≠t:=by omega
  have fW:t≠2:=by omega
  have bq:(0:Nat)≠lb:=by omega
  have bn:lb≠0:=by omega
  have bp:(1:Nat)≠lb:=by omega
  have bm:lb≠1:=by omega
  have bo:(2:Nat)≠lb:=by omega
  have bl:lb≠2:=by omega
  have aj:a1s r=[some (.row 4 [[.nilslice,.slice 4 0 (r.T.map Tm.enc).length none,.nilslice,.int .i64 r.sum]]),some (.row 6 (r.T.map Tm.enc))]:=by unfold a1s;rw[cn,a0p,a0u,a0h _ bZ,a0y _ bZ,b8,a0p,a0u];rfl
  have fu:a0j H 1000000 ((H.take 3).flatMap a36++a0x [AV.ptr 0 0 0,.ptr 1 0 0,.ptr 2 0 0,.ptr 3 0 0,.slice lb 0 nl (some nl),.int .i64 nl,.int .i64 (i:Nat)]) []=[0,1,2,3,t,lb]:=by rw[ht];show a0j H 1000000 [0,1,2,3,lb] []=_;rw[fj,a06 rfl,z0,b43,a06 rfl,z1,b43,a06 rfl,z2,b43,a06 rfl,hb];show a0j H _ ([t]++[lb]) _=_;simp only[b82,b43];rw[a06 (by simp[a04,a05,dW,d6,fc,fL,eY,fN,gm,fY,gi,fX,ge,fW,bq,bn,bp,bm,bo,bl]),bJ];show a0j H _ ((r.T.map Tm.enc).flatMap a0x++[lb]) _=_;rw[T2,b43];rw[a06 (by simp[a04,a05,dW,d6,fc,fL,eY,fN,gm,fY,gi,fX,ge,fW,bq,bn,bp,bm,bo,bl]),hl];show a0j H _ (LR.flatMap a0x++[]) _=_;rw[L2];exact a17 _ _ _
  have dh:=aR _ fu;have eH:([0,1,2,3,t,lb]:List Nat).filter (λb=>decide (3≤b))=[3,t,lb]:=by simp[fI,ot]
  rw[eH]at dh;rw[dh,aj];have c1:a25 [3,t,lb]=true:=by simp[a12,a18,a04,a05,dW,d6,fc,fL,eY,fN,gm,fY,gi,fX,ge,fW,bq,bn,bp,bm,bo,bl]
  have c2:([3,t,lb]:List Nat).all (λb=>decide (3≤b))=true:=by simp[fI,ot]
  rw[c1,c2,e3d mf];simp only[e57,e3e,b1r,ht,a0q,e2b,e3a,hb,hl,bJ,e2a,a0t,S1,T1,V1,L1,b82,b43,b94,e27];have dt:decide (t<3)=false:=e50 (by omega);have jc:decide (lb<3)=false:=e50 (by omega);simp only[a5q,a4o,ren,a47,a7z,e2g,e75,dt,jc,e3p,e3e];simp[dW,d6,fc,fL,eY,fN,gm,fY,gi,fX,ge,fW,bq,bn,bp,bm,bo,bl,fI,ot]
 ·have pA:=a0v bJ;have fc:(3:Nat)≠t:=a10 3 t 4 6 _ _ hb bJ (by decide);have fL:t≠3:=e3m fc;have eY:t≠lb:=a10 t lb 6 1 _ _ bJ hl (by decide);have fN:lb≠t:=e3m eY;have pz:=a0v bI;have fb:(3:Nat)≠v:=a10 3 v 4 3 _ _ hb bI (by decide);have fK:v≠3:=e3m fb;have eX:v≠lb:=a10 v lb 3 1 _ _ bI hl (by decide);have fM:lb≠v:=e3m eX;have dj:t≠v:=a10 t v 6 3 _ _ bJ bI (by decide);have dH:v≠t:=e3m dj;have gm:(0:Nat)≠t:=by omega
  have fY:t≠0:=by omega
  have gi:(1:Nat)≠t:=by omega
  have fX:t≠1:=by omega
  have ge:(2:Nat)≠t:=by omega
  have fW:t≠2:=by omega
  have gl:(0:Nat)≠v:=by omega
  have fU:v≠0:=by omega
  have gh:(1:Nat)≠v:=by omega
  have fR:v≠1:=by omega
  have gd:(2:Nat)≠v:=by omega
  have fQ:v≠2:=by omega
  have bq:(0:Nat)≠lb:=by omega
  have bn:lb≠0:=by omega
  have bp:(1:Nat)≠lb:=by omega
  have bm:lb≠1:=by omega
  have bo:(2:Nat)≠lb:=by omega
  have bl:lb≠2:=by omega
  have aj:a1s r=[some (.row 4 [[.nilslice,.slice 4 0 (r.T.map Tm.enc).length none,.slice 5 0 (r.V.map Vc.enc).length none,.int .i64 r.sum]]),some (.row 6 (r.T.map Tm.enc)),some (.row 3 (r.V.map Vc.enc))]:=by unfold a1s;rw[cn,a0p,a0u,a0h _ bZ,a0y _ bZ,a0h _ b8,a0y _ b8];rfl
  have fu:a0j H 1000000 ((H.take 3).flatMap a36++a0x [AV.ptr 0 0 0,.ptr 1 0 0,.ptr 2 0 0,.ptr 3 0 0,.slice lb 0 nl (some nl),.int .i64 nl,.int .i64 (i:Nat)]) []=[0,1,2,3,t,v,lb]:=by rw[ht];show a0j H 1000000 [0,1,2,3,lb] []=_;rw[fj,a06 rfl,z0,b43,a06 rfl,z1,b43,a06 rfl,z2,b43,a06 rfl,hb];show a0j H _ ([t,v]++[lb]) _=_;simp only[b82,b43];rw[a06 (by simp[a04,a05,dW,d6,fc,fL,eY,fN,fb,fK,eX,fM,dj,dH,gm,fY,gi,fX,ge,fW,gl,fU,gh,fR,gd,fQ,bq,bn,bp,bm,bo,bl]),bJ];show a0j H _ ((r.T.map Tm.enc).flatMap a0x++[v,lb]) _=_;rw[T2,b43];rw[a06 (by simp[a04,a05,dW,d6,fc,fL,eY,fN,fb,fK,eX,fM,dj,dH,gm,fY,gi,fX,ge,fW,gl,fU,gh,fR,gd,fQ,bq,bn,bp,bm,bo,bl]),bI];show a0j H _ ((r.V.map Vc.enc).flatMap a0x++[lb]) _=_;rw[V2,b43];rw[a06 (by simp[a04,a05,dW,d6,fc,fL,eY,fN,fb,fK,eX,fM,dj,dH,gm,fY,gi,fX,ge,fW,gl,fU,gh,fR,gd,fQ,bq,bn,bp,bm,bo,bl]),hl];show a0j H _ (LR.flatMap a0x++[]) _=_;rw[L2];exact a17 _ _ _
  have dh:=aR _ fu;have eH:([0,1,2,3,t,v,lb]:List Nat).filter (λb=>decide (3≤b))=[3,t,v,lb]:=by simp[fI,ot,ov]
  rw[eH]at dh;rw[dh,aj];have c1:a25 [3,t,v,lb]=true:=by simp[a12,a18,a04,a05,dW,d6,fc,fL,eY,fN,fb,fK,eX,fM,dj,dH,gm,fY,gi,fX,ge,fW,gl,fU,gh,fR,gd,fQ,bq,bn,bp,bm,bo,bl]
  have c2:([3,t,v,lb]:List Nat).all (λb=>decide (3≤b))=true:=by simp[fI,ot,ov]
  rw[c1,c2,e3d mf];simp only[e57,e3e,b1r,ht,a0q,e2b,e3a,hb,hl,bJ,bI,e2a,a0t,S1,T1,V1,L1,b82,b43,b94,e27];have dt:decide (t<3)=false:=e50 (by omega);have dv:decide (v<3)=false:=e50 (by omega);have jc:decide (lb<3)=false:=e50 (by omega);simp only[a5q,a4o,ren,a47,a7z,e2g,e75,dt,dv,jc,e3p,e3e];simp[dW,d6,fc,fL,eY,fN,fb,fK,eX,fM,dj,dH,gm,fY,gi,fX,ge,fW,gl,fU,gh,fR,gd,fQ,bq,bn,bp,bm,bo,bl,fI,ot,ov]
 ·have pC:=a0v bK;have fe:(3:Nat)≠a:=a10 3 a 4 2 _ _ hb bK (by decide);have fP:a≠3:=e3m fe;have e9:a≠lb:=a10 a lb 2 1 _ _ bK hl (by decide);have fO:lb≠a:=e3m e9;have gn:(0:Nat)≠a:=by omega
  have gb:a≠0:=by omega
  have gj:(1:Nat)≠a:=by omega
  have ga:a≠1:=by omega
  have gg:(2:Nat)≠a:=by omega
  have fZ:a≠2:=by omega
  have bq:(0:Nat)≠lb:=by omega
  have bn:lb≠0:=by omega
  have bp:(1:Nat)≠lb:=by omega
  have bm:lb≠1:=by omega
  have bo:(2:Nat)≠lb:=by omega
  have bl:lb≠2:=by omega
  have aj:a1s r=[some (.row 4 [[.slice 4 0 (r.S.map Sg.enc).length none,.nilslice,.nilslice,.int .i64 r.sum]]),some (.row 2 (r.S.map Sg.enc))]:=by unfold a1s;rw[a0h _ cn,a0y _ cn,bZ,a0p,a0u,b8,a0p,a0u];rfl
  have fu:a0j H 1000000 ((H.take 3).flatMap a36++a0x [AV.ptr 0 0 0,.ptr 1 0 0,.ptr 2 0 0,.ptr 3 0 0,.slice lb 0 nl (some nl),.int .i64 nl,.int .i64 (i:Nat)]) []=[0,1,2,3,a,lb]:=by rw[ht];show a0j H 1000000 [0,1,2,3,lb] []=_;rw[fj,a06 rfl,z0,b43,a06 rfl,z1,b43,a06 rfl,z2,b43,a06 rfl,hb];show a0j H _ ([a]++[lb]) _=_;simp only[b82,b43];rw[a06 (by simp[a04,a05,dW,d6,fe,fP,e9,fO,gn,gb,gj,ga,gg,fZ,bq,bn,bp,bm,bo,bl]),bK];show a0j H _ ((r.S.map Sg.enc).flatMap a0x++[lb]) _=_;rw[S2,b43];rw[a06 (by simp[a04,a05,dW,d6,fe,fP,e9,fO,gn,gb,gj,ga,gg,fZ,bq,bn,bp,bm,bo,bl]),hl];show a0j H _ (LR.flatMap a0x++[]) _=_;rw[L2];exact a17 _ _ _
  have dh:=aR _ fu;have eH:([0,1,2,3,a,lb]:List Nat).filter (λb=>decide (3≤b))=[3,a,lb]:=by simp[fI,oa]
  rw[eH]at dh;rw[dh,aj];have c1:a25 [3,a,lb]=true:=by simp[a12,a18,a04,a05,dW,d6,fe,fP,e9,fO,gn,gb,gj,ga,gg,fZ,bq,bn,bp,bm,bo,bl]
  have c2:([3,a,lb]:List Nat).all (λb=>decide (3≤b))=true:=by simp[fI,oa]
  rw[c1,c2,e3d mf];simp only[e57,e3e,b1r,ht,a0q,e2b,e3a,hb,hl,bK,e2a,a0t,S1,T1,V1,L1,b82,b43,b94,e27];have da:decide (a<3)=false:=e50 (by omega);have jc:decide (lb<3)=false:=e50 (by omega);simp only[a5q,a4o,ren,a47,a7z,e2g,e75,da,jc,e3p,e3e];simp[dW,d6,fe,fP,e9,fO,gn,gb,gj,ga,gg,fZ,bq,bn,bp,bm,bo,bl,fI,oa]
 ·have pC:=a0v bK;have fe:(3:Nat)≠a:=a10 3 a 4 2 _ _ hb bK (by decide);have fP:a≠3:=e3m fe;have e9:a≠lb:=a10 a lb 2 1 _ _ bK hl (by decide);have fO:lb≠a:=e3m e9;have pz:=a0v bI;have fb:(3:Nat)≠v:=a10 3 v 4 3 _ _ hb bI (by decide);have fK:v≠3:=e3m fb;have eX:v≠lb:=a10 v lb 3 1 _ _ bI hl (by decide);have fM:lb≠v:=e3m eX;have dk:a≠v:=a10 a v 2 3 _ _ bK bI (by decide);have dI:v≠a:=e3m dk;have gn:(0:Nat)≠a:=by omega
  have gb:a≠0:=by omega
  have gj:(1:Nat)≠a:=by omega
  have ga:a≠1:=by omega
  have gg:(2:Nat)≠a:=by omega
  have fZ:a≠2:=by omega
  have gl:(0:Nat)≠v:=by omega
  have fU:v≠0:=by omega
  have gh:(1:Nat)≠v:=by omega
  have fR:v≠1:=by omega
  have gd:(2:Nat)≠v:=by omega
  have fQ:v≠2:=by omega
  have bq:(0:Nat)≠lb:=by omega
  have bn:lb≠0:=by omega
  have bp:(1:Nat)≠lb:=by omega
  have bm:lb≠1:=by omega
  have bo:(2:Nat)≠lb:=by omega
  have bl:lb≠2:=by omega
  have aj:a1s r=[some (.row 4 [[.slice 4 0 (r.S.map Sg.enc).length none,.nilslice,.slice 5 0 (r.V.map Vc.enc).length none,.int .i64 r.sum]]),some (.row 2 (r.S.map Sg.enc)),some (.row 3 (r.V.map Vc.enc))]:=by unfold a1s;rw[a0h _ cn,a0y _ cn,bZ,a0p,a0u,a0h _ b8,a0y _ b8];rfl
  have fu:a0j H 1000000 ((H.take 3).flatMap a36++a0x [AV.ptr 0 0 0,.ptr 1 0 0,.ptr 2 0 0,.ptr 3 0 0,.slice lb 0 nl (some nl),.int .i64 nl,.int .i64 (i:Nat)]) []=[0,1,2,3,a,v,lb]:=by rw[ht];show a0j H 1000000 [0,1,2,3,lb] []=_;rw[fj,a06 rfl,z0,b43,a06 rfl,z1,b43,a06 rfl,z2,b43,a06 rfl,hb];show a0j H _ ([a,v]++[lb]) _=_;simp only[b82,b43];rw[a06 (by simp[a04,a05,dW,d6,fe,fP,e9,fO,fb,fK,eX,fM,dk,dI,gn,gb,gj,ga,gg,fZ,gl,fU,gh,fR,gd,fQ,bq,bn,bp,bm,bo,bl]),bK];show a0j H _ ((r.S.map Sg.enc).flatMap a0x++[v,lb]) _=_;rw[S2,b43];rw[a06 (by simp[a04,a05,dW,d6,fe,fP,e9,fO,fb,fK,eX,fM,dk,dI,gn,gb,gj,ga,gg,fZ,gl,fU,gh,fR,gd,fQ,bq,bn,bp,bm,bo,bl]),bI];show a0j H _ ((r.V.map Vc.enc).flatMap a0x++[lb]) _=_;rw[V2,b43];rw[a06 (by simp[a04,a05,dW,d6,fe,fP,e9,fO,fb,fK,eX,fM,dk,dI,gn,gb,gj,ga,gg,fZ,gl,fU,gh,fR,gd,fQ,bq,bn,bp,bm,bo,bl]),hl];show a0j H _ (LR.flatMap a0x++[]) _=_;rw[L2];exact a17 _ _ _
  have dh:=aR _ fu;have eH:([0,1,2,3,a,v,lb]:List Nat).filter (λb=>decide (3≤b))=[3,a,v,lb]:=by simp[fI,oa,ov]
  rw[eH]at dh;rw[dh,aj];have c1:a25 [3,a,v,lb]=true:=by simp[a12,a18,a04,a05,dW,d6,fe,fP,e9,fO,fb,fK,eX,fM,dk,dI,gn,gb,gj,ga,gg,fZ,gl,fU,gh,fR,gd,fQ,bq,bn,bp,bm,bo,bl]
  have c2:([3,a,v,lb]:List Nat).all (λb=>decide (3≤b))=true:=by simp[fI,oa,ov]
  rw[c1,c2,e3d mf];simp only[e57,e3e,b1r,ht,a0q,e2b,e3a,hb,hl,bK,bI,e2a,a0t,S1,T1,V1,L1,b82,b43,b94,e27];have da:decide (a<3)=false:=e50 (by omega);have dv:decide (v<3)=false:=e50 (by omega);have jc:decide (lb<3)=false:=e50 (by omega);simp only[a5q,a4o,ren,a47,a7z,e2g,e75,da,dv,jc,e3p,e3e];simp[dW,d6,fe,fP,e9,fO,fb,fK,eX,fM,dk,dI,gn,gb,gj,ga,gg,fZ,gl,fU,gh,fR,gd,fQ,bq,bn,bp,bm,bo,bl,fI,oa,ov]
 ·have pC:=a0v bK;have fe:(3:Nat)≠a:=a10 3 a 4 2 _ _ hb bK (by decide);have fP:a≠3:=e3m fe;have e9:a≠lb:=a10 a lb 2 1 _ _ bK hl (by decide);have fO:lb≠a:=e3m e9;have pA:=a0v bJ;have fc:(3:Nat)≠t:=a10 3 t 4 6 _ _ hb bJ (by decide);have fL:t≠3:=e3m fc;have eY:t≠lb:=a10 t lb 6 1 _ _ bJ hl (by decide);have fN:lb≠t:=e3m eY;have nat:a≠t:=a10 a t 2 6 _ _ bK bJ (by decide);have dJ:t≠a:=e3m nat;have gn:(0:Nat)≠a:=by omega
  have gb:a≠0:=by omega
  have gj:(1:Nat)≠a:=by omega
  have ga:a≠1:=by omega
  have gg:(2:Nat)≠a:=by omega
  have fZ:a≠2:=by omega
  have gm:(0:Nat)≠t:=by omega
  have fY:t≠0:=by omega
  have gi:(1:Nat)≠t:=by omega
  have fX:t≠1:=by omega
  have ge:(2:Nat)≠t:=by omega
  have fW:t≠2:=by omega
  have bq:(0:Nat)≠lb:=by omega
  have bn:lb≠0:=by omega
  have bp:(1:Nat)≠lb:=by omega
  have bm:lb≠1:=by omega
  have bo:(2:Nat)≠lb:=by omega
  have bl:lb≠2:=by omega
  have aj:a1s r=[some (.row 4 [[.slice 4 0 (r.S.map Sg.enc).length none,.slice 5 0 (r.T.map Tm.enc).length none,.nilslice,.int .i64 r.sum]]),some (.row 2 (r.S.map Sg.enc)),some (.row 6 (r.T.map Tm.enc))]:=by unfold a1s;rw[a0h _ cn,a0y _ cn,a0h _ bZ,a0y _ bZ,b8,a0p,a0u];rfl
  have fu:a0j H 1000000 ((H.take 3).flatMap a36++a0x [AV.ptr 0 0 0,.ptr 1 0 0,.ptr 2 0 0,.ptr 3 0 0,.slice lb 0 nl (some nl),.int .i64 nl,.int .i64 (i:Nat)]) []=[0,1,2,3,a,t,lb]:=by rw[ht];show a0j H 1000000 [0,1,2,3,lb] []=_;rw[fj,a06 rfl,z0,b43,a06 rfl,z1,b43,a06 rfl,z2,b43,a06 rfl,hb];show a0j H _ ([a,t]++[lb]) _=_;simp only[b82,b43];rw[a06 (by simp[a04,a05,dW,d6,fe,fP,e9,fO,fc,fL,eY,fN,nat,dJ,gn,gb,gj,ga,gg,fZ,gm,fY,gi,fX,ge,fW,bq,bn,bp,bm,bo,bl]),bK];show a0j H _ ((r.S.map Sg.enc).flatMap a0x++[t,lb]) _=_;rw[S2,b43];rw[a06 (by simp[a04,a05,dW,d6,fe,fP,e9,fO,fc,fL,eY,fN,nat,dJ,gn,gb,gj,ga,gg,fZ,gm,fY,gi,fX,ge,fW,bq,bn,bp,bm,bo,bl]),bJ];show a0j H _ ((r.T.map Tm.enc).flatMap a0x++[lb]) _=_;rw[T2,b43];rw[a06 (by simp[a04,a05,dW,d6,fe,fP,e9,fO,fc,fL,eY,fN,nat,dJ,gn,gb,gj,ga,gg,fZ,gm,fY,gi,fX,ge,fW,bq,bn,bp,bm,bo,bl]),hl];show a0j H _ (LR.flatMap a0x++[]) _=_;rw[L2];exact a17 _ _ _
  have dh:=aR _ fu;have eH:([0,1,2,3,a,t,lb]:List Nat).filter (λb=>decide (3≤b))=[3,a,t,lb]:=by simp[fI,oa,ot]
  rw[eH]at dh;rw[dh,aj];have c1:a25 [3,a,t,lb]=true:=by simp[a12,a18,a04,a05,dW,d6,fe,fP,e9,fO,fc,fL,eY,fN,nat,dJ,gn,gb,gj,ga,gg,fZ,gm,fY,gi,fX,ge,fW,bq,bn,bp,bm,bo,bl]
  have c2:([3,a,t,lb]:List Nat).all (λb=>decide (3≤b))=true:=by simp[fI,oa,ot]
  rw[c1,c2,e3d mf];simp only[e57,e3e,b1r,ht,a0q,e2b,e3a,hb,hl,bK,bJ,e2a,a0t,S1,T1,V1,L1,b82,b43,b94,e27];have da:decide (a<3)=false:=e50 (by omega);have dt:decide (t<3)=false:=e50 (by omega);have jc:decide (lb<3)=false:=e50 (by omega);simp only[a5q,a4o,ren,a47,a7z,e2g,e75,da,dt,jc,e3p,e3e];simp[dW,d6,fe,fP,e9,fO,fc,fL,eY,fN,nat,dJ,gn,gb,gj,ga,gg,fZ,gm,fY,gi,fX,ge,fW,bq,bn,bp,bm,bo,bl,fI,oa,ot]
 ·have pC:=a0v bK;have fe:(3:Nat)≠a:=a10 3 a 4 2 _ _ hb bK (by decide);have fP:a≠3:=e3m fe;have e9:a≠lb:=a10 a lb 2 1 _ _ bK hl (by decide);have fO:lb≠a:=e3m e9;have pA:=a0v bJ;have fc:(3:Nat)≠t:=a10 3 t 4 6 _ _ hb bJ (by decide);have fL:t≠3:=e3m fc;have eY:t≠lb:=a10 t lb 6 1 _ _ bJ hl (by decide);have fN:lb≠t:=e3m eY;have pz:=a0v bI;have fb:(3:Nat)≠v:=a10 3 v 4 3 _ _ hb bI (by decide);have fK:v≠3:=e3m fb;have eX:v≠lb:=a10 v lb 3 1 _ _ bI hl (by decide);have fM:lb≠v:=e3m eX;have nat:a≠t:=a10 a t 2 6 _ _ bK bJ (by decide);have dJ:t≠a:=e3m nat;have dk:a≠v:=a10 a v 2 3 _ _ bK bI (by decide);have dI:v≠a:=e3m dk;have dj:t≠v:=a10 t v 6 3 _ _ bJ bI (by decide);have dH:v≠t:=e3m dj;have gn:(0:Nat)≠a:=by omega
  have gb:a≠0:=by omega
  have gj:(1:Nat)≠a:=by omega
  have ga:a≠1:=by omega
  have gg:(2:Nat)≠a:=by omega
  have fZ:a≠2:=by omega
  have gm:(0:Nat)≠t:=by omega
  have fY:t≠0:=by omega
  have gi:(1:Nat)≠t:=by omega
  have fX:t≠1:=by omega
  have ge:(2:Nat)≠t:=by omega
  have fW:t≠2:=by omega
  have gl:(0:Nat)≠v:=by omega
  have fU:v≠0:=by omega
  have gh:(1:Nat)≠v:=by omega
  have fR:v≠1:=by omega
  have gd:(2:Nat)≠v:=by omega
  have fQ:v≠2:=by omega
  have bq:(0:Nat)≠lb:=by omega
  have bn:lb≠0:=by omega
  have bp:(1:Nat)≠lb:=by omega
  have bm:lb≠1:=by omega
  have bo:(2:Nat)≠lb:=by omega
  have bl:lb≠2:=by omega
  have aj:a1s r=[some (.row 4 [[.slice 4 0 (r.S.map Sg.enc).length none,.slice 5 0 (r.T.map Tm.enc).length none,.slice 6 0 (r.V.map Vc.enc).length none,.int .i64 r.sum]]),some (.row 2 (r.S.map Sg.enc)),some (.row 6 (r.T.map Tm.enc)),some (.row 3 (r.V.map Vc.enc))]:=by unfold a1s;rw[a0h _ cn,a0y _ cn,a0h _ bZ,a0y _ bZ,a0h _ b8,a0y _ b8];rfl
  have fu:a0j H 1000000 ((H.take 3).flatMap a36++a0x [AV.ptr 0 0 0,.ptr 1 0 0,.ptr 2 0 0,.ptr 3 0 0,.slice lb 0 nl (some nl),.int .i64 nl,.int .i64 (i:Nat)]) []=[0,1,2,3,a,t,v,lb]:=by rw[ht];show a0j H 1000000 [0,1,2,3,lb] []=_;rw[fj,a06 rfl,z0,b43,a06 rfl,z1,b43,a06 rfl,z2,b43,a06 rfl,hb];show a0j H _ ([a,t,v]++[lb]) _=_;simp only[b82,b43];rw[a06 (by simp[a04,a05,dW,d6,fe,fP,e9,fO,fc,fL,eY,fN,fb,fK,eX,fM,nat,dk,dJ,dj,dI,dH,gn,gb,gj,ga,gg,fZ,gm,fY,gi,fX,ge,fW,gl,fU,gh,fR,gd,fQ,bq,bn,bp,bm,bo,bl]),bK];show a0j H _ ((r.S.map Sg.enc).flatMap a0x++[t,v,lb]) _=_;rw[S2,b43];rw[a06 (by simp[a04,a05,dW,d6,fe,fP,e9,fO,fc,fL,eY,fN,fb,fK,eX,fM,nat,dk,dJ,dj,dI,dH,gn,gb,gj,ga,gg,fZ,gm,fY,gi,fX,ge,fW,gl,fU,gh,fR,gd,fQ,bq,bn,bp,bm,bo,bl]),bJ];show a0j H _ ((r.T.map Tm.enc).flatMap a0x++[v,lb]) _=_;rw[T2,b43];rw[a06 (by simp[a04,a05,dW,d6,fe,fP,e9,fO,fc,fL,eY,fN,fb,fK,eX,fM,nat,dk,dJ,dj,dI,dH,gn,gb,gj,ga,gg,fZ,gm,fY,gi,fX,ge,fW,gl,fU,gh,fR,gd,fQ,bq,bn,bp,bm,bo,bl]),bI];show a0j H _ ((r.V.map Vc.enc).flatMap a0x++[lb]) _=_;rw[V2,b43];rw[a06 (by simp[a04,a05,dW,d6,fe,fP,e9,fO,fc,fL,eY,fN,fb,fK,eX,fM,nat,dk,dJ,dj,dI,dH,gn,gb,gj,ga,gg,fZ,gm,fY,gi,fX,ge,fW,gl,fU,gh,fR,gd,fQ,bq,bn,bp,bm,bo,bl]),hl];show a0j H _ (LR.flatMap a0x++[]) _=_;rw[L2];exact a17 _ _ _
  have dh:=aR _ fu;have eH:([0,1,2,3,a,t,v,lb]:List Nat).filter (λb=>decide (3≤b))=[3,a,t,v,lb]:=by simp[fI,oa,ot,ov]
  rw[eH]at dh;rw[dh,aj];have c1:a25 [3,a,t,v,lb]=true:=by simp[a12,a18,a04,a05,dW,d6,fe,fP,e9,fO,fc,fL,eY,fN,fb,fK,eX,fM,nat,dk,dJ,dj,dI,dH,gn,gb,gj,ga,gg,fZ,gm,fY,gi,fX,ge,fW,gl,fU,gh,fR,gd,fQ,bq,bn,bp,bm,bo,bl]
  have c2:([3,a,t,v,lb]:List Nat).all (λb=>decide (3≤b))=true:=by simp[fI,oa,ot,ov]
  rw[c1,c2,e3d mf];simp only[e57,e3e,b1r,ht,a0q,e2b,e3a,hb,hl,bK,bJ,bI,e2a,a0t,S1,T1,V1,L1,b82,b43,b94,e27];have da:decide (a<3)=false:=e50 (by omega);have dt:decide (t<3)=false:=e50 (by omega);have dv:decide (v<3)=false:=e50 (by omega);have jc:decide (lb<3)=false:=e50 (by omega);simp only[a5q,a4o,ren,a47,a7z,e2g,e75,da,dt,dv,jc,e3p,e3e];simp[dW,d6,fe,fP,e9,fO,fc,fL,eY,fN,fb,fK,eX,fM,nat,dk,dJ,dj,dI,dH,gn,gb,gj,ga,gg,fZ,gm,fY,gi,fX,ge,fW,gl,fU,gh,fR,gd,fQ,bq,bn,bp,bm,bo,bl,fI,oa,ot,ov]
end Go.RInst
