/- Part of a proof. No condition. -/
import Derived.Test.YtmbmjfjagololaaGreatDoorRRk
import Derived.Test.YtmbmjfjagololaaGreatDoorRPh
import Derived.Test.YtmbmjfjagololaaGreatDoorAxE
import Derived.Test.YtmbmjfjagololaaGreatDoorRRd
set_option linter.unusedSectionVars false
set_option linter.unusedSimpArgs false
set_option linter.unusedVariables false
namespace Go.RInst
open Go.Proofs Go.Ax Go.Pc
variable [PR]
set_option maxRecDepth 100000
structure Rd where
 S:List Sg
 T:List Tm
 V:List Vc
 sum:Int
def GsAt(H:a08)(k:Nat)(x:AV)(R:List (List AV)):Prop:=(R=[]∧x = .nilslice)∨(R≠[]∧∃c,x = .slice c 0 R.length none∧a04 H c=some (.row k R))
def RdAt(H:a08)(b:Nat)(r:Rd):Prop:=∃x y z,a04 H b=some (.row 4 [[x,y,z,.int .i64 r.sum]])∧GsAt H 2 x (r.S.map Sg.enc)∧GsAt H 6 y (r.T.map Tm.enc)∧GsAt H 3 z (r.V.map Vc.enc)
def a32(r:Rd):a08:=some (.row 4 [[grV 1 (r.S.map Sg.enc),grV (1+(grH 2 (r.S.map Sg.enc)).length) (r.T.map Tm.enc),grV (1+(grH 2 (r.S.map Sg.enc)).length+(grH 6 (r.T.map Tm.enc)).length) (r.V.map Vc.enc),.int .i64 r.sum]])::(grH 2 (r.S.map Sg.enc)++grH 6 (r.T.map Tm.enc)++grH 3 (r.V.map Vc.enc))
def a6g(g m:Nat)(c:Option Nat)(R:List (List AV))(r r':Rd):Prop:=∃H1,sem L.env Mf g [.ptr 0 0 0,.slice (a32 r).length 0 m c] (a32 r++[some (.row 1 R)])=some (.tuple [],H1)∧RdAt H1 0 r'
theorem GsAt.back{H1 H H':a08}{σ:List Nat}{k:Nat}{x:AV}{R:List (List AV)}(h:GsAt H1 k x R)(hR:FlatR R)(h1:∀j b,σ[j]?=some b→a04 H' b=(a04 H1 j).map (a0q (a1g σ H.length)))(h2:∀j,a04 H' (H.length+j)=(a04 H1 (σ.length+j)).map (a0q (a1g σ H.length))):GsAt H' k (ren (a1g σ H.length) x) R:=by
 rcases h with ⟨rfl,rfl⟩|⟨hne,c,rfl,hc⟩
 ·exact .inl ⟨rfl,rfl⟩
 ·right;refine⟨hne,?_⟩;by_cases hlt:c<σ.length
  ·have hb:a1g σ H.length c=some σ[c]:=by unfold a1g;rw[show Nat.blt c σ.length=true from by rw[Nat.blt_eq];exact hlt];exact z9e hlt
   refine⟨σ[c],by simp only[ren,a4d,hb],?_⟩;rw[h1 c _ (z9e hlt),hc];simp only[Option.map_some,a0q,a02 _ hR]
  ·have hb:a1g σ H.length c=some (H.length+(c-σ.length)):=by
    have:Nat.blt c σ.length=false:=by rw[←Bool.not_eq_true,Nat.blt_eq];exact hlt
    unfold a1g;rw[this];rfl
   refine⟨H.length+(c-σ.length),by simp only[ren,a4d,hb],?_⟩;have:=h2 (c-σ.length);rw[show σ.length+(c-σ.length)=c by omega,hc]at this;rw[this];simp only[Option.map_some,a0q,a02 _ hR]
theorem a4v(H:a08)(b k g m:Nat)(cp:Option Nat)(R:List (List AV))(r r':Rd)(hx:L.env.ext g=false)(hfn:(L.env.fn g).isSome=true)(hRf:FlatR R)(hR:RdAt H b r)(hk:a04 H k=some (.row 1 R))(hc:a6g g m cp R r r') :
 ∃H' σ,a0j L.env false (sem L.env Mf) (.func (.func g) [.ptr b 0 0] []) [.slice k 0 m cp] H=some (.tuple [],H',σ)∧RdAt H' b r':=by
 obtain⟨H1,hsem,x',y',z',e0,eS,eT,eV⟩:=hc;obtain⟨x,y,z,hb,hS,hT,hV⟩:=hR;have lb:=a0t hb;have lk:=a0t hk;have hSf:=a0z r.S;have hTf:=a0g r.T;have hVf:=a0b r.V;have S1:=λπ=>a02 π hSf;have T1:=λπ=>a02 π hTf;have V1:=λπ=>a02 π hVf;have R1:=λπ=>a02 π hRf;have S2:=a01 hSf;have T2:=a01 hTf;have V2:=a01 hVf;have R2:=a01 hRf;have dis:∀(c d:Nat) (k1 k2:Nat) (R1 R2:List (List AV)),a04 H c=some (.row k1 R1)→a04 H d=some (.row k2 R2)→k1≠k2→c≠d:=by intro c d k1 k2 R1 R2 h1 h2 hne e;subst e;rw[h1]at h2;cases h2;exact hne rfl
 have hkb:k≠b:=dis k b 1 4 _ _ hk hb (by decide)
 -- the end,from the list of blocks
 have fin:∀(σ:List Nat),a0h H 1000000 (a0w [AV.ptr b 0 0,.slice k 0 m cp]) []=σ→a2a σ=true→(σ.all λb=>decide (b<H.length))=true→[AV.ptr b 0 0,.slice k 0 m cp].map (ren (a36 σ))=[.ptr 0 0 0,.slice (a32 r).length 0 m cp]→a0u H σ (a36 σ)=a32 r++[some (.row 1 R)]→σ[0]?=some b→
  ∃H' σ,a0j L.env false (sem L.env Mf) (.func (.func g) [.ptr b 0 0] []) [.slice k 0 m cp] H=some (.tuple [],H',σ)∧RdAt H' b r':=by
  intro σ i1 i2 i3 i4 i5 i6;obtain⟨H',h1,h2,h3,h4,h5⟩:=b00 (E:=L.env) (call:=sem L.env Mf) (g:=g) (fs:=[.ptr b 0 0]) (cs:=[]) (ar:=[.slice k 0 m cp]) (H:=H) (σ:=σ) hx hfn rfl i1 i2 i3 i4 i5 hsem rfl;refine⟨H',σ,h1,ren (a1g σ H.length) x',ren (a1g σ H.length) y',ren (a1g σ H.length) z',?_,eS.back (a0z _) h3 h5,eT.back (a0g _) h3 h5,eV.back (a0b _) h3 h5⟩;rw[h3 0 b i6,e0];simp only[Option.map_some,a0q,List.map_cons,List.map_nil,ren]
 have rw9:(1000000:Nat)=999980+1+1+1+1+1+1+1+1+1+1+1+1+1+1+1+1+1+1+1+1:=rfl;rcases hS with ⟨hS0,rfl⟩|⟨hS0,a,rfl,hSa⟩<;>rcases hT with ⟨hT0,rfl⟩|⟨hT0,t,rfl,hTt⟩<;>rcases hV with ⟨hV0,rfl⟩|⟨hV0,v,rfl,hVv⟩
 ·have nbk:b≠k:=dis b k 4 1 _ _ hb hk (by decide);have nkb:k≠b:=Ne.symm nbk;have hcan:a32 r=[some (.row 4 [[.nilslice,.nilslice,.nilslice,.int .i64 r.sum]])]:=by
   unfold a32;rw[hS0,a0a,a0c,hT0,a0a,a0c,hV0,a0a,a0c];rfl
  refine fin [b,k] ?_ ?_ ?_ ?_ ?_ rfl
  ·show a0h H 1000000 [b,k] []=_;rw[rw9,a07 rfl,hb];show a0h H _ ([]++[k]) [b]=_;simp only[List.cons_append,List.nil_append];rw[a07 (by simp[a03,a06,nbk,nkb]),hk];show a0h H _ (R.flatMap a0w++[]) _=_;rw[R2,List.nil_append];exact a13 _ _ _
  ·simp[a11,a19,a03,a06,nbk,nkb]
  ·simp[lb,lk]
  ·rw[hcan];simp[ren,a4d,a36,List.idxOf?_cons,nbk,nkb]
  ·rw[hcan];simp only[a0u,List.map_cons,List.map_nil,hb,hk,Option.map_some,a0q,S1,T1,V1,R1,List.cons_append,List.nil_append];simp[ren,a4d,a36,List.idxOf?_cons,nbk,nkb]
 ·have lv:=a0t hVv;have nbv:b≠v:=dis b v 4 3 _ _ hb hVv (by decide);have nvb:v≠b:=Ne.symm nbv;have nbk:b≠k:=dis b k 4 1 _ _ hb hk (by decide);have nkb:k≠b:=Ne.symm nbk;have nvk:v≠k:=dis v k 3 1 _ _ hVv hk (by decide);have nkv:k≠v:=Ne.symm nvk;have hcan:a32 r=[some (.row 4 [[.nilslice,.nilslice,.slice 1 0 (r.V.map Vc.enc).length none,.int .i64 r.sum]]),some (.row 3 (r.V.map Vc.enc))]:=by
   unfold a32;rw[hS0,a0a,a0c,hT0,a0a,a0c,a0k _ hV0,a0n _ hV0];rfl
  refine fin [b,v,k] ?_ ?_ ?_ ?_ ?_ rfl
  ·show a0h H 1000000 [b,k] []=_;rw[rw9,a07 rfl,hb];show a0h H _ ([v]++[k]) [b]=_;simp only[List.cons_append,List.nil_append];rw[a07 (by simp[a03,a06,nbv,nbk,nvb,nvk,nkb,nkv]),hVv];show a0h H _ ((r.V.map Vc.enc).flatMap a0w++[k]) _=_;rw[V2,List.nil_append];rw[a07 (by simp[a03,a06,nbv,nbk,nvb,nvk,nkb,nkv]),hk];show a0h H _ (R.flatMap a0w++[]) _=_;rw[R2,List.nil_append];exact a13 _ _ _
  ·simp[a11,a19,a03,a06,nbv,nbk,nvb,nvk,nkb,nkv]
  ·simp[lb,lk,lv]
  ·rw[hcan];simp[ren,a4d,a36,List.idxOf?_cons,nbv,nbk,nvb,nvk,nkb,nkv]
  ·rw[hcan];simp only[a0u,List.map_cons,List.map_nil,hb,hVv,hk,Option.map_some,a0q,S1,T1,V1,R1,List.cons_append,List.nil_append];simp[ren,a4d,a36,List.idxOf?_cons,nbv,nbk,nvb,nvk,nkb,nkv]
 ·have lt:=a0t hTt;have nbt:b≠t:=dis b t 4 6 _ _ hb hTt (by decide);have ntb:t≠b:=Ne.symm nbt;have nbk:b≠k:=dis b k 4 1 _ _ hb hk (by decide);have nkb:k≠b:=Ne.symm nbk;have ntk:t≠k:=dis t k 6 1 _ _ hTt hk (by decide);have nkt:k≠t:=Ne.symm ntk;have hcan:a32 r=[some (.row 4 [[.nilslice,.slice 1 0 (r.T.map Tm.enc).length none,.nilslice,.int .i64 r.sum]]),some (.row 6 (r.T.map Tm.enc))]:=by
   unfold a32;rw[hS0,a0a,a0c,a0k _ hT0,a0n _ hT0,hV0,a0a,a0c];rfl
  refine fin [b,t,k] ?_ ?_ ?_ ?_ ?_ rfl
  ·show a0h H 1000000 [b,k] []=_;rw[rw9,a07 rfl,hb];show a0h H _ ([t]++[k]) [b]=_;simp only[List.cons_append,List.nil_append];rw[a07 (by simp[a03,a06,nbt,nbk,ntb,ntk,nkb,nkt]),hTt];show a0h H _ ((r.T.map Tm.enc).flatMap a0w++[k]) _=_;rw[T2,List.nil_append];rw[a07 (by simp[a03,a06,nbt,nbk,ntb,ntk,nkb,nkt]),hk];show a0h H _ (R.flatMap a0w++[]) _=_;rw[R2,List.nil_append];exact a13 _ _ _
  ·simp[a11,a19,a03,a06,nbt,nbk,ntb,ntk,nkb,nkt]
  ·simp[lb,lk,lt]
  ·rw[hcan];simp[ren,a4d,a36,List.idxOf?_cons,nbt,nbk,ntb,ntk,nkb,nkt]
  ·rw[hcan];simp only[a0u,List.map_cons,List.map_nil,hb,hTt,hk,Option.map_some,a0q,S1,T1,V1,R1,List.cons_append,List.nil_append];simp[ren,a4d,a36,List.idxOf?_cons,nbt,nbk,ntb,ntk,nkb,nkt]
 ·have lt:=a0t hTt;have lv:=a0t hVv;have nbt:b≠t:=dis b t 4 6 _ _ hb hTt (by decide);have ntb:t≠b:=Ne.symm nbt;have nbv:b≠v:=dis b v 4 3 _ _ hb hVv (by decide);have nvb:v≠b:=Ne.symm nbv;have nbk:b≠k:=dis b k 4 1 _ _ hb hk (by decide);have nkb:k≠b:=Ne.symm nbk;have ntv:t≠v:=dis t v 6 3 _ _ hTt hVv (by decide);have nvt:v≠t:=Ne.symm ntv;have ntk:t≠k:=dis t k 6 1 _ _ hTt hk (by decide);have nkt:k≠t:=Ne.symm ntk;have nvk:v≠k:=dis v k 3 1 _ _ hVv hk (by decide);have nkv:k≠v:=Ne.symm nvk;have hcan:a32 r=[some (.row 4 [[.nilslice,.slice 1 0 (r.T.map Tm.enc).length none,.slice 2 0 (r.V.map Vc.enc).length none,.int .i64 r.sum]]),some (.row 6 (r.T.map Tm.enc)),some (.row 3 (r.V.map Vc.enc))]:=by
   unfold a32;rw[hS0,a0a,a0c,a0k _ hT0,a0n _ hT0,a0k _ hV0,a0n _ hV0];rfl
  refine fin [b,t,v,k] ?_ ?_ ?_ ?_ ?_ rfl
  ·show a0h H 1000000 [b,k] []=_;rw[rw9,a07 rfl,hb];show a0h H _ ([t,v]++[k]) [b]=_;simp only[List.cons_append,List.nil_append];rw[a07 (by simp[a03,a06,nbt,nbv,nbk,ntb,ntv,ntk,nvb,nvt,nvk,nkb,nkt,nkv]),hTt];show a0h H _ ((r.T.map Tm.enc).flatMap a0w++[v,k]) _=_;rw[T2,List.nil_append];rw[a07 (by simp[a03,a06,nbt,nbv,nbk,ntb,ntv,ntk,nvb,nvt,nvk,nkb,nkt,nkv]),hVv];show a0h H _ ((r.V.map Vc.enc).flatMap a0w++[k]) _=_;rw[V2,List.nil_append];rw[a07 (by simp[a03,a06,nbt,nbv,nbk,ntb,ntv,ntk,nvb,nvt,nvk,nkb,nkt,nkv]),hk];show a0h H _ (R.flatMap a0w++[]) _=_;rw[R2,List.nil_append];exact a13 _ _ _
  ·simp[a11,a19,a03,a06,nbt,nbv,nbk,ntb,ntv,ntk,nvb,nvt,nvk,nkb,nkt,nkv]
  ·simp[lb,lk,lt,lv]
  ·rw[hcan];simp[ren,a4d,a36,List.idxOf?_cons,nbt,nbv,nbk,ntb,ntv,ntk,nvb,nvt,nvk,nkb,nkt,nkv]
  ·rw[hcan];simp only[a0u,List.map_cons,List.map_nil,hb,hTt,hVv,hk,Option.map_some,a0q,S1,T1,V1,R1,List.cons_append,List.nil_append];simp[ren,a4d,a36,List.idxOf?_cons,nbt,nbv,nbk,ntb,ntv,ntk,nvb,nvt,nvk,nkb,nkt,nkv]
 ·have la:=a0t hSa;have nba:b≠a:=dis b a 4 2 _ _ hb hSa (by decide);have nab:a≠b:=Ne.symm nba;have nbk:b≠k:=dis b k 4 1 _ _ hb hk (by decide);have nkb:k≠b:=Ne.symm nbk;have nak:a≠k:=dis a k 2 1 _ _ hSa hk (by decide);have nka:k≠a:=Ne.symm nak;have hcan:a32 r=[some (.row 4 [[.slice 1 0 (r.S.map Sg.enc).length none,.nilslice,.nilslice,.int .i64 r.sum]]),some (.row 2 (r.S.map Sg.enc))]:=by
   unfold a32;rw[a0k _ hS0,a0n _ hS0,hT0,a0a,a0c,hV0,a0a,a0c];rfl
  refine fin [b,a,k] ?_ ?_ ?_ ?_ ?_ rfl
  ·show a0h H 1000000 [b,k] []=_;rw[rw9,a07 rfl,hb];show a0h H _ ([a]++[k]) [b]=_;simp only[List.cons_append,List.nil_append];rw[a07 (by simp[a03,a06,nba,nbk,nab,nak,nkb,nka]),hSa];show a0h H _ ((r.S.map Sg.enc).flatMap a0w++[k]) _=_;rw[S2,List.nil_append];rw[a07 (by simp[a03,a06,nba,nbk,nab,nak,nkb,nka]),hk];show a0h H _ (R.flatMap a0w++[]) _=_;rw[R2,List.nil_append];exact a13 _ _ _
  ·simp[a11,a19,a03,a06,nba,nbk,nab,nak,nkb,nka]
  ·simp[lb,lk,la]
  ·rw[hcan];simp[ren,a4d,a36,List.idxOf?_cons,nba,nbk,nab,nak,nkb,nka]
  ·rw[hcan];simp only[a0u,List.map_cons,List.map_nil,hb,hSa,hk,Option.map_some,a0q,S1,T1,V1,R1,List.cons_append,List.nil_append];simp[ren,a4d,a36,List.idxOf?_cons,nba,nbk,nab,nak,nkb,nka]
 ·have la:=a0t hSa;have lv:=a0t hVv;have nba:b≠a:=dis b a 4 2 _ _ hb hSa (by decide);have nab:a≠b:=Ne.symm nba;have nbv:b≠v:=dis b v 4 3 _ _ hb hVv (by decide);have nvb:v≠b:=Ne.symm nbv;have nbk:b≠k:=dis b k 4 1 _ _ hb hk (by decide);have nkb:k≠b:=Ne.symm nbk;have nav:a≠v:=dis a v 2 3 _ _ hSa hVv (by decide);have nva:v≠a:=Ne.symm nav;have nak:a≠k:=dis a k 2 1 _ _ hSa hk (by decide);have nka:k≠a:=Ne.symm nak;have nvk:v≠k:=dis v k 3 1 _ _ hVv hk (by decide);have nkv:k≠v:=Ne.symm nvk;have hcan:a32 r=[some (.row 4 [[.slice 1 0 (r.S.map Sg.enc).length none,.nilslice,.slice 2 0 (r.V.map Vc.enc).length none,.int .i64 r.sum]]),some (.row 2 (r.S.map Sg.enc)),some (.row 3 (r.V.map Vc.enc))]:=by
   unfold a32;rw[a0k _ hS0,a0n _ hS0,hT0,a0a,a0c,a0k _ hV0,a0n _ hV0];rfl
  refine fin [b,a,v,k] ?_ ?_ ?_ ?_ ?_ rfl
  ·show a0h H 1000000 [b,k] []=_;rw[rw9,a07 rfl,hb];show a0h H _ ([a,v]++[k]) [b]=_;simp only[List.cons_append,List.nil_append];rw[a07 (by simp[a03,a06,nba,nbv,nbk,nab,nav,nak,nvb,nva,nvk,nkb,nka,nkv]),hSa];show a0h H _ ((r.S.map Sg.enc).flatMap a0w++[v,k]) _=_;rw[S2,List.nil_append];rw[a07 (by simp[a03,a06,nba,nbv,nbk,nab,nav,nak,nvb,nva,nvk,nkb,nka,nkv]),hVv];show a0h H _ ((r.V.map Vc.enc).flatMap a0w++[k]) _=_;rw[V2,List.nil_append];rw[a07 (by simp[a03,a06,nba,nbv,nbk,nab,nav,nak,nvb,nva,nvk,nkb,nka,nkv]),hk];show a0h H _ (R.flatMap a0w++[]) _=_;rw[R2,List.nil_append];exact a13 _ _ _
  ·simp[a11,a19,a03,a06,nba,nbv,nbk,nab,nav,nak,nvb,nva,nvk,nkb,nka,nkv]
  ·simp[lb,lk,la,lv]
  ·rw[hcan];simp[ren,a4d,a36,List.idxOf?_cons,nba,nbv,nbk,nab,nav,nak,nvb,nva,nvk,nkb,nka,nkv]
  ·rw[hcan];simp only[a0u,List.map_cons,List.map_nil,hb,hSa,hVv,hk,Option.map_some,a0q,S1,T1,V1,R1,List.cons_append,List.nil_append];simp[ren,a4d,a36,List.idxOf?_cons,nba,nbv,nbk,nab,nav,nak,nvb,nva,nvk,nkb,nka,nkv]
 ·have la:=a0t hSa;have lt:=a0t hTt;have nba:b≠a:=dis b a 4 2 _ _ hb hSa (by decide);have nab:a≠b:=Ne.symm nba;have nbt:b≠t:=dis b t 4 6 _ _ hb hTt (by decide);have ntb:t≠b:=Ne.symm nbt;have nbk:b≠k:=dis b k 4 1 _ _ hb hk (by decide);have nkb:k≠b:=Ne.symm nbk;have nat:a≠t:=dis a t 2 6 _ _ hSa hTt (by decide);have nta:t≠a:=Ne.symm nat;have nak:a≠k:=dis a k 2 1 _ _ hSa hk (by decide);have nka:k≠a:=Ne.symm nak;have ntk:t≠k:=dis t k 6 1 _ _ hTt hk (by decide);have nkt:k≠t:=Ne.symm ntk;have hcan:a32 r=[some (.row 4 [[.slice 1 0 (r.S.map Sg.enc).length none,.slice 2 0 (r.T.map Tm.enc).length none,.nilslice,.int .i64 r.sum]]),some (.row 2 (r.S.map Sg.enc)),some (.row 6 (r.T.map Tm.enc))]:=by
   unfold a32;rw[a0k _ hS0,a0n _ hS0,a0k _ hT0,a0n _ hT0,hV0,a0a,a0c];rfl
  refine fin [b,a,t,k] ?_ ?_ ?_ ?_ ?_ rfl
  ·show a0h H 1000000 [b,k] []=_;rw[rw9,a07 rfl,hb];show a0h H _ ([a,t]++[k]) [b]=_;simp only[List.cons_append,List.nil_append];rw[a07 (by simp[a03,a06,nba,nbt,nbk,nab,nat,nak,ntb,nta,ntk,nkb,nka,nkt]),hSa];show a0h H _ ((r.S.map Sg.enc).flatMap a0w++[t,k]) _=_;rw[S2,List.nil_append];rw[a07 (by simp[a03,a06,nba,nbt,nbk,nab,nat,nak,ntb,nta,ntk,nkb,nka,nkt]),hTt];show a0h H _ ((r.T.map Tm.enc).flatMap a0w++[k]) _=_;rw[T2,List.nil_append];rw[a07 (by simp[a03,a06,nba,nbt,nbk,nab,nat,nak,ntb,nta,ntk,nkb,nka,nkt]),hk];show a0h H _ (R.flatMap a0w++[]) _=_;rw[R2,List.nil_append];exact a13 _ _ _
  ·simp[a11,a19,a03,a06,nba,nbt,nbk,nab,nat,nak,ntb,nta,ntk,nkb,nka,nkt]
  ·simp[lb,lk,la,lt]
  ·rw[hcan];simp[ren,a4d,a36,List.idxOf?_cons,nba,nbt,nbk,nab,nat,nak,ntb,nta,ntk,nkb,nka,nkt]
  ·rw[hcan];simp only[a0u,List.map_cons,List.map_nil,hb,hSa,hTt,hk,Option.map_some,a0q,S1,T1,V1,R1,List.cons_append,List.nil_append];simp[ren,a4d,a36,List.idxOf?_cons,nba,nbt,nbk,nab,nat,nak,ntb,nta,ntk,nkb,nka,nkt]
 ·have la:=a0t hSa;have lt:=a0t hTt;have lv:=a0t hVv;have nba:b≠a:=dis b a 4 2 _ _ hb hSa (by decide);have nab:a≠b:=Ne.symm nba;have nbt:b≠t:=dis b t 4 6 _ _ hb hTt (by decide);have ntb:t≠b:=Ne.symm nbt;have nbv:b≠v:=dis b v 4 3 _ _ hb hVv (by decide);have nvb:v≠b:=Ne.symm nbv;have nbk:b≠k:=dis b k 4 1 _ _ hb hk (by decide);have nkb:k≠b:=Ne.symm nbk;have nat:a≠t:=dis a t 2 6 _ _ hSa hTt (by decide);have nta:t≠a:=Ne.symm nat;have nav:a≠v:=dis a v 2 3 _ _ hSa hVv (by decide);have nva:v≠a:=Ne.symm nav;have nak:a≠k:=dis a k 2 1 _ _ hSa hk (by decide);have nka:k≠a:=Ne.symm nak;have ntv:t≠v:=dis t v 6 3 _ _ hTt hVv (by decide);have nvt:v≠t:=Ne.symm ntv;have ntk:t≠k:=dis t k 6 1 _ _ hTt hk (by decide);have nkt:k≠t:=Ne.symm ntk;have nvk:v≠k:=dis v k 3 1 _ _ hVv hk (by decide);have nkv:k≠v:=Ne.symm nvk;have hcan:a32 r=[some (.row 4 [[.slice 1 0 (r.S.map Sg.enc).length none,.slice 2 0 (r.T.map Tm.enc).length none,.slice 3 0 (r.V.map Vc.enc).length none,.int .i64 r.sum]]),some (.row 2 (r.S.map Sg.enc)),some (.row 6 (r.T.map Tm.enc)),some (.row 3 (r.V.map Vc.enc))]:=by
   unfold a32;rw[a0k _ hS0,a0n _ hS0,a0k _ hT0,a0n _ hT0,a0k _ hV0,a0n _ hV0];rfl
  refine fin [b,a,t,v,k] ?_ ?_ ?_ ?_ ?_ rfl
  ·show a0h H 1000000 [b,k] []=_;rw[rw9,a07 rfl,hb];show a0h H _ ([a,t,v]++[k]) [b]=_;simp only[List.cons_append,List.nil_append];rw[a07 (by simp[a03,a06,nba,nbt,nbv,nbk,nab,nat,nav,nak,ntb,nta,ntv,ntk,nvb,nva,nvt,nvk,nkb,nka,nkt,nkv]),hSa];show a0h H _ ((r.S.map Sg.enc).flatMap a0w++[t,v,k]) _=_;rw[S2,List.nil_append];rw[a07 (by simp[a03,a06,nba,nbt,nbv,nbk,nab,nat,nav,nak,ntb,nta,ntv,ntk,nvb,nva,nvt,nvk,nkb,nka,nkt,nkv]),hTt];show a0h H _ ((r.T.map Tm.enc).flatMap a0w++[v,k]) _=_;rw[T2,List.nil_append];rw[a07 (by simp[a03,a06,nba,nbt,nbv,nbk,nab,nat,nav,nak,ntb,nta,ntv,ntk,nvb,nva,nvt,nvk,nkb,nka,nkt,nkv]),hVv];show a0h H _ ((r.V.map Vc.enc).flatMap a0w++[k]) _=_;rw[V2,List.nil_append];rw[a07 (by simp[a03,a06,nba,nbt,nbv,nbk,nab,nat,nav,nak,ntb,nta,ntv,ntk,nvb,nva,nvt,nvk,nkb,nka,nkt,nkv]),hk];show a0h H _ (R.flatMap a0w++[]) _=_;rw[R2,List.nil_append];exact a13 _ _ _
  ·simp[a11,a19,a03,a06,nba,nbt,nbv,nbk,nab,nat,nav,nak,ntb,nta,ntv,ntk,nvb,nva,nvt,nvk,nkb,nka,nkt,nkv]
  ·simp[lb,lk,la,lt,lv]
  ·rw[hcan];simp[ren,a4d,a36,List.idxOf?_cons,nba,nbt,nbv,nbk,nab,nat,nav,nak,ntb,nta,ntv,ntk,nvb,nva,nvt,nvk,nkb,nka,nkt,nkv]
  ·rw[hcan];simp only[a0u,List.map_cons,List.map_nil,hb,hSa,hTt,hVv,hk,Option.map_some,a0q,S1,T1,V1,R1,List.cons_append,List.nil_append];simp[ren,a4d,a36,List.idxOf?_cons,nba,nbt,nbv,nbk,nab,nat,nav,nak,ntb,nta,ntv,ntk,nvb,nva,nvt,nvk,nkb,nka,nkt,nkv]
end Go.RInst
namespace Go.RInst
open Go.Proofs Go.Ax Go.Pc
variable [PR]
set_option maxRecDepth 100000
theorem a1h{α β:Type}{f:α→β}{l:List α}(h:l≠[]):l.map f≠[]:=by simpa using h
theorem a4r(H:a08)(k:Nat):GsAt H k .nilslice []:=.inl ⟨rfl,rfl⟩
theorem a1i{H:a08}{k c n:Nat}{R:List (List AV)}(hne:R≠[])(hn:n=R.length)(h:a04 H c=some (.row k R)):GsAt H k (.slice c 0 n none) R:=.inr ⟨hne,c,by rw[hn],h⟩
/- signal -/
theorem d0l(S:List Sg)(sum:Int)(n:Nat)(R:List (List AV))(nm:List UInt8)(dr:Nat)(hdr:dr≤1)(hl:S.length<256)(hno:nm∉S.map Sg.name)(hn:a43 nm=true)(hRl:R.length=n)(hn3:3≤n)(hRf:FlatR R)(hR1:R[1]?=some [.str nm])(hR2:R[2]?=some [.str (if dr=1 then c4q else inK)]) :
 a6g 65 3 (some n) R ⟨S,[],[],sum⟩ ⟨S++[⟨nm,dr⟩],[],[],sum⟩:=by
 by_cases hS:S=[]
 ·subst hS;obtain⟨r,⟨c,H1,rfl,h1,h2⟩,h3⟩:=d0n sum n R nm dr hdr hn hRl hn3 hRf hR1 hR2;exact⟨H1,h3,_,_,_,h1,a1i (by simp) (by simp) h2,a4r _ _,a4r _ _⟩
 ·obtain⟨r,⟨c,H1,rfl,h1,h2⟩,h3⟩:=d0m sum n R nm dr hdr S hS hl hno hn hRl hn3 hRf hR1 hR2;have hcan:a32 ⟨S,[],[],sum⟩=[some (.row 4 [[.slice 1 0 S.length none,.nilslice,.nilslice,.int .i64 sum]]),some (.row 2 (S.map Sg.enc))]:=by
   unfold a32;rw[a0k _ (a1h hS),a0n _ (a1h hS),List.length_map];rfl
  refine⟨H1,?_,_,_,_,h1,a1i (by simp) (by simp) h2,a4r _ _,a4r _ _⟩;rw[hcan];exact h3
/- timing -/
theorem d0b(S:List Sg)(T:List Tm)(sum:Int)(n:Nat)(R:List (List AV))(nm w0 w1 w2 w3 w4:List UInt8)(hl:T.length<16)(hno:nm∉T.map Tm.name)(hRl:R.length=n)(hn7:7≤n)(hRf:FlatR R)(hR1:R[1]?=some [.str nm])(hR2:∀j w,[w0,w1,w2,w3,w4][j]?=some w→R[2+j]?=some [.str w])(hnum:∀w∈[w0,w1,w2,w3,w4],NumOk w)(htm:a5j ⟨nm,a0d w0,a0d w1,a0d w2,a0d w3,a0d w4⟩=true) :
 a6g 66 7 (some n) R ⟨S,T,[],sum⟩ ⟨S,T++[⟨nm,a0d w0,a0d w1,a0d w2,a0d w3,a0d w4⟩],[],sum⟩:=by
 by_cases hS:S=[]<;>by_cases hT:T=[]
 ·subst hS;subst hT;skip
  obtain⟨r,⟨c,H1,rfl,h1,h2⟩,h3⟩:=c7d sum n R nm w0 w1 w2 w3 w4 hRl hn7 hRf hR1 hR2 hnum htm;have hcan:a32 ⟨[],[],[],sum⟩=[some (.row 4 [[.nilslice,.nilslice,.nilslice,.int .i64 sum]])]:=by
   unfold a32
   skip
   rfl
  refine⟨H1,?_,_,_,_,h1,a4r _ _,a1i (by simp) (by simp) h2,a4r _ _⟩;rw[hcan];exact h3
 ·subst hS;skip
  obtain⟨r,⟨c,H1,rfl,h1,h2⟩,h3⟩:=c7c sum n R nm w0 w1 w2 w3 w4 T (by omega) hT hl hno hRl hn7 hRf hR1 hR2 hnum htm;have hcan:a32 ⟨[],T,[],sum⟩=[some (.row 4 [[.nilslice,.slice 1 0 T.length none,.nilslice,.int .i64 sum]]),some (.row 6 (T.map Tm.enc))]:=by unfold a32;rw[a0k _ (a1h hT),a0n _ (a1h hT),List.length_map];rfl
  refine⟨H1,?_,_,_,_,h1,a4r _ _,a1i (by simp) (by simp) h2,a4r _ _⟩;rw[hcan];exact h3
 ·subst hT;skip
  obtain⟨r,⟨c,H1,rfl,h1,h2,h4⟩,h3⟩:=c7b sum n R nm w0 w1 w2 w3 w4 S hRl hn7 hRf hR1 hR2 hnum htm;have hcan:a32 ⟨S,[],[],sum⟩=[some (.row 4 [[.slice 1 0 S.length none,.nilslice,.nilslice,.int .i64 sum]]),some (.row 2 (S.map Sg.enc))]:=by unfold a32;rw[a0k _ (a1h hS),a0n _ (a1h hS),List.length_map];rfl
  refine⟨H1,?_,_,_,_,h1,a1i (a1h hS) (by simp) h4,a1i (by simp) (by simp) h2,a4r _ _⟩;rw[hcan];exact h3
 ·skip
  obtain⟨r,⟨c,H1,rfl,h1,h2,h4⟩,h3⟩:=c7a sum n R nm w0 w1 w2 w3 w4 S T (by omega) hT hl hno hRl hn7 hRf hR1 hR2 hnum htm;have hcan:a32 ⟨S,T,[],sum⟩=[some (.row 4 [[.slice 1 0 S.length none,.slice 2 0 T.length none,.nilslice,.int .i64 sum]]),some (.row 2 (S.map Sg.enc)),some (.row 6 (T.map Tm.enc))]:=by unfold a32;rw[a0k _ (a1h hS),a0n _ (a1h hS),List.length_map,a0k _ (a1h hT),a0n _ (a1h hT),List.length_map];rfl
  refine⟨H1,?_,_,_,_,h1,a1i (a1h hS) (by simp) h4,a1i (by simp) (by simp) h2,a4r _ _⟩;rw[hcan];exact h3
theorem c75(S:List Sg)(T:List Tm)(V:List Vc)(sum:Int)(n:Nat)(R:List (List AV))(nm cl:List UInt8)(hSl:S.length≤1000)(hTl:T.length≤1000)(hVl:V.length<65536)(hRl:R.length=n)(hnm:3≤n)(hRf:FlatR R)(hR1:R[1]?=some [.str nm])(hR2:R[2]?=some [.str cl])(hs0:0≤sum)(hsum:sum+(1:Nat)≤1000000)(hok:a55 ⟨fnd nm (T.map Tm.name),if cl=[45]then[]else cl,(1:Nat)⟩ S T.length=true) :
 a6g 67 3 (some n) R ⟨S,T,V,sum⟩ ⟨S,T,V++[⟨fnd nm (T.map Tm.name),if cl=[45]then[]else cl,(1:Nat)⟩],sum+(1:Nat)⟩:=by
 have hT:T≠[]:=by
  rintro rfl
  simp only[a55,Bool.and_eq_true,decide_eq_true_eq,List.length_nil]at hok;omega
 by_cases hS:S=[]<;>by_cases hV:V=[]
 ·subst hS;subst hV;skip
  obtain⟨r,⟨c,H1,rfl,h1,h2,h5⟩,h3⟩:=c3n sum n R nm cl T (by omega) hRl hnm hRf hR1 hR2 hs0 hsum hok;have hcan:a32 ⟨[],T,[],sum⟩=[some (.row 4 [[.nilslice,.slice 1 0 T.length none,.nilslice,.int .i64 sum]]),some (.row 6 (T.map Tm.enc))]:=by unfold a32;rw[a0k _ (a1h hT),a0n _ (a1h hT),List.length_map];rfl
  refine⟨H1,?_,_,_,_,h1,a4r _ _,a1i (a1h hT) (by simp) h5,a1i (by simp) (by simp) h2⟩;rw[hcan];exact h3
 ·subst hS;skip
  obtain⟨r,⟨c,H1,rfl,h1,h2,h5⟩,h3⟩:=c3l sum n R nm cl T (by omega) V hVl hRl hnm hRf hR1 hR2 hs0 hsum hok;have hcan:a32 ⟨[],T,V,sum⟩=[some (.row 4 [[.nilslice,.slice 1 0 T.length none,.slice 2 0 V.length none,.int .i64 sum]]),some (.row 6 (T.map Tm.enc)),some (.row 3 (V.map Vc.enc))]:=by unfold a32;rw[a0k _ (a1h hT),a0n _ (a1h hT),List.length_map,a0k _ (a1h hV),a0n _ (a1h hV),List.length_map];rfl
  refine⟨H1,?_,_,_,_,h1,a4r _ _,a1i (a1h hT) (by simp) h5,a1i (by simp) (by simp) h2⟩;rw[hcan];exact h3
 ·subst hV;skip
  obtain⟨r,⟨c,H1,rfl,h1,h2,h4,h5⟩,h3⟩:=c3j sum n R nm cl S T (by omega) (by omega) hRl hnm hRf hR1 hR2 hs0 hsum hok;have hcan:a32 ⟨S,T,[],sum⟩=[some (.row 4 [[.slice 1 0 S.length none,.slice 2 0 T.length none,.nilslice,.int .i64 sum]]),some (.row 2 (S.map Sg.enc)),some (.row 6 (T.map Tm.enc))]:=by unfold a32;rw[a0k _ (a1h hS),a0n _ (a1h hS),List.length_map,a0k _ (a1h hT),a0n _ (a1h hT),List.length_map];rfl
  refine⟨H1,?_,_,_,_,h1,a1i (a1h hS) (by simp) h4,a1i (a1h hT) (by simp) h5,a1i (by simp) (by simp) h2⟩;rw[hcan];exact h3
 ·skip
  obtain⟨r,⟨c,H1,rfl,h1,h2,h4,h5⟩,h3⟩:=c3h sum n R nm cl S T (by omega) V (by omega) hVl hRl hnm hRf hR1 hR2 hs0 hsum hok;have hcan:a32 ⟨S,T,V,sum⟩=[some (.row 4 [[.slice 1 0 S.length none,.slice 2 0 T.length none,.slice 3 0 V.length none,.int .i64 sum]]),some (.row 2 (S.map Sg.enc)),some (.row 6 (T.map Tm.enc)),some (.row 3 (V.map Vc.enc))]:=by unfold a32;rw[a0k _ (a1h hS),a0n _ (a1h hS),List.length_map,a0k _ (a1h hT),a0n _ (a1h hT),List.length_map,a0k _ (a1h hV),a0n _ (a1h hV),List.length_map];rfl
  refine⟨H1,?_,_,_,_,h1,a1i (a1h hS) (by simp) h4,a1i (a1h hT) (by simp) h5,a1i (by simp) (by simp) h2⟩;rw[hcan];exact h3
theorem c74(S:List Sg)(T:List Tm)(V:List Vc)(sum:Int)(n:Nat)(R:List (List AV))(nm cl:List UInt8)(rp:List UInt8)(hrp:NumOk rp)(hR3:R[3]?=some [.str rp])(hSl:S.length≤1000)(hTl:T.length≤1000)(hVl:V.length<65536)(hRl:R.length=n)(hnm:4≤n)(hRf:FlatR R)(hR1:R[1]?=some [.str nm])(hR2:R[2]?=some [.str cl])(hs0:0≤sum)(hsum:sum+(a0d rp:Nat)≤1000000)(hok:a55 ⟨fnd nm (T.map Tm.name),if cl=[45]then[]else cl,(a0d rp:Nat)⟩ S T.length=true) :
 a6g 67 4 (some n) R ⟨S,T,V,sum⟩ ⟨S,T,V++[⟨fnd nm (T.map Tm.name),if cl=[45]then[]else cl,(a0d rp:Nat)⟩],sum+(a0d rp:Nat)⟩:=by
 have hT:T≠[]:=by
  rintro rfl
  simp only[a55,Bool.and_eq_true,decide_eq_true_eq,List.length_nil]at hok;omega
 by_cases hS:S=[]<;>by_cases hV:V=[]
 ·subst hS;subst hV;skip
  obtain⟨r,⟨c,H1,rfl,h1,h2,h5⟩,h3⟩:=c3m sum n R nm cl rp hrp hR3 T (by omega) hRl hnm hRf hR1 hR2 hs0 hsum hok;have hcan:a32 ⟨[],T,[],sum⟩=[some (.row 4 [[.nilslice,.slice 1 0 T.length none,.nilslice,.int .i64 sum]]),some (.row 6 (T.map Tm.enc))]:=by unfold a32;rw[a0k _ (a1h hT),a0n _ (a1h hT),List.length_map];rfl
  refine⟨H1,?_,_,_,_,h1,a4r _ _,a1i (a1h hT) (by simp) h5,a1i (by simp) (by simp) h2⟩;rw[hcan];exact h3
 ·subst hS;skip
  obtain⟨r,⟨c,H1,rfl,h1,h2,h5⟩,h3⟩:=c3k sum n R nm cl rp hrp hR3 T (by omega) V hVl hRl hnm hRf hR1 hR2 hs0 hsum hok;have hcan:a32 ⟨[],T,V,sum⟩=[some (.row 4 [[.nilslice,.slice 1 0 T.length none,.slice 2 0 V.length none,.int .i64 sum]]),some (.row 6 (T.map Tm.enc)),some (.row 3 (V.map Vc.enc))]:=by unfold a32;rw[a0k _ (a1h hT),a0n _ (a1h hT),List.length_map,a0k _ (a1h hV),a0n _ (a1h hV),List.length_map];rfl
  refine⟨H1,?_,_,_,_,h1,a4r _ _,a1i (a1h hT) (by simp) h5,a1i (by simp) (by simp) h2⟩;rw[hcan];exact h3
 ·subst hV;skip
  obtain⟨r,⟨c,H1,rfl,h1,h2,h4,h5⟩,h3⟩:=c3i sum n R nm cl rp hrp hR3 S T (by omega) (by omega) hRl hnm hRf hR1 hR2 hs0 hsum hok;have hcan:a32 ⟨S,T,[],sum⟩=[some (.row 4 [[.slice 1 0 S.length none,.slice 2 0 T.length none,.nilslice,.int .i64 sum]]),some (.row 2 (S.map Sg.enc)),some (.row 6 (T.map Tm.enc))]:=by unfold a32;rw[a0k _ (a1h hS),a0n _ (a1h hS),List.length_map,a0k _ (a1h hT),a0n _ (a1h hT),List.length_map];rfl
  refine⟨H1,?_,_,_,_,h1,a1i (a1h hS) (by simp) h4,a1i (a1h hT) (by simp) h5,a1i (by simp) (by simp) h2⟩;rw[hcan];exact h3
 ·skip
  obtain⟨r,⟨c,H1,rfl,h1,h2,h4,h5⟩,h3⟩:=c3g sum n R nm cl rp hrp hR3 S T (by omega) V (by omega) hVl hRl hnm hRf hR1 hR2 hs0 hsum hok;have hcan:a32 ⟨S,T,V,sum⟩=[some (.row 4 [[.slice 1 0 S.length none,.slice 2 0 T.length none,.slice 3 0 V.length none,.int .i64 sum]]),some (.row 2 (S.map Sg.enc)),some (.row 6 (T.map Tm.enc)),some (.row 3 (V.map Vc.enc))]:=by unfold a32;rw[a0k _ (a1h hS),a0n _ (a1h hS),List.length_map,a0k _ (a1h hT),a0n _ (a1h hT),List.length_map,a0k _ (a1h hV),a0n _ (a1h hV),List.length_map];rfl
  refine⟨H1,?_,_,_,_,h1,a1i (a1h hS) (by simp) h4,a1i (a1h hT) (by simp) h5,a1i (by simp) (by simp) h2⟩;rw[hcan];exact h3
end Go.RInst
namespace Go.RInst
set_option maxHeartbeats 200000000
open Go.Proofs Go.Ax Go.Pc
variable [PR]
set_option maxRecDepth 100000
theorem GsAt.ext{H H':a08}{k:Nat}{x:AV}{R:List (List AV)}(h:GsAt H k x R)(he:∀c o,a04 H c=some o→a04 H' c=some o):GsAt H' k x R:=by
 rcases h with h|⟨hne,c,hx,hc⟩
 ·exact .inl h
 ·exact .inr ⟨hne,c,hx,he _ _ hc⟩
theorem RdAt.ext{H H':a08}{b:Nat}{r:Rd}(h:RdAt H b r)(he:∀c o,a04 H c=some o→a04 H' c=some o):RdAt H' b r:=by obtain⟨x,y,z,h0,h1,h2,h3⟩:=h;exact⟨x,y,z,he _ _ h0,h1.ext he,h2.ext he,h3.ext he⟩
theorem a27(H L:a08):∀c o,a04 H c=some o→a04 (H++L) c=some o:=λc o h=>by rw[b6y (eq_true (a0t h))];exact h
theorem d24{l:List (List UInt8)}:∀w∈a38 l,w≠[]:=λw hw=>by have:=(List.mem_filter.1 hw).2;simpa using this
theorem sR0{R:List (List AV)}{ws:List (List UInt8)}(h:R.take ws.length=sR ws){j:Nat}{w:List UInt8}(hj:ws[j]?=some w):R[j]?=some [.str w]:=by have hl:=(List.getElem?_eq_some_iff.1 hj).1;have:=congrArg (λx=>x[j]?) h;simp only[List.getElem?_take,if_pos hl]at this;rw[this];exact b2s hj
theorem c2j(o0:AObj)(r:Rd)(s:List UInt8)(hl:s.length≤4096)(hR:RdAt [some o0] 0 r)(hws:a38 (a00 32 s)=[]∨∃a tl,a38 (a00 32 s)=(35::a)::tl):∃q:AV×a08,(∃H1,q=(.tuple [],H1)∧RdAt H1 0 r)∧sem L.env Mf 41 [.ptr 0 0 0,.str s] [some o0]=some q:=by
 have hWl:(a00 32 s).length≤2000000:=by rw[a0v];have:=List.count_le_length (a:=(32:UInt8)) (l:=s);omega
 have hW0:0<(a00 32 s).length:=by rw[a0v];omega
 have hle:(s.length:Int)≤4096:=by omega
 have hmt:=λd H e=>a1b (d:=d) H e;obtain⟨rr,⟨R,hRl,hRt,hRf,rfl⟩,hd⟩:=a4z (a00 32 s).length (a00 32 s) rfl hW0 hWl;have hmle:=a2o (a00 32 s);have hsp:a0j L.env false (sem L.env Mf) (.func (.func 23) [] []) [.str s,.str [32]] [some o0]=some (.slice 1 0 (a00 32 s).length (some (a00 32 s).length),[some o0,some (.row 1 (sR (a00 32 s)))],[]):=a1u [some o0] s 32 (by omega);have hdf:a0j L.env false (sem L.env Mf) (.func (.func 63) [] []) [.slice 1 0 (a00 32 s).length (some (a00 32 s).length),.func (.func 64) [] []] [some o0,some (.row 1 (sR (a00 32 s)))]=some (.slice 1 0 (a38 (a00 32 s)).length (some (a00 32 s).length),[some o0,some (.row 1 R)],[1]):=a14 (by kernel_rfl) (by kernel_rfl) rfl (b:=1) (o:=.row 1 (sR (a00 32 s))) (o':=.row 1 R) rfl (a0r (a10 _)) (FlatO.row (a10 _)) rfl rfl hd (FlatO.row hRf) rfl;have hfin:RdAt [some o0,some (.row 1 R)] 0 r:=hR.ext (a27 [some o0] [some (.row 1 R)]);rcases hws with hws|⟨a,tl,hws⟩
 ·rw[hws]at hdf hRt hmle;simp only[List.length_nil]at hdf hmle;generalize(a00 32 s).length=nW at *;generalize sR (a00 32 s)=RW at *
  (refine svE Tryz.f41 ?_;simp only[Tryz.f41,gS])
  (repeat first|simp only[ww]|(apply xa;simp+decide only[go_sem,hmt,hle,hsp,hdf];rfl;kernel_rfl))
  (apply a2v;(·simp+decide only[go_sem]<;>rfl))
  exact⟨_,rfl,hfin⟩
 ·rw[hws]at hdf hRt hmle;have hR0:R[0]?=some [.str (35::a)]:=sR0 hRt rfl;simp only[List.length_cons]at hdf hmle;generalize hk:tl.length+1=m at *;have m0:0<m:=by omega
  have m1:¬(m:Int)=0:=by omega
  generalize(a00 32 s).length=nW at *;generalize sR (a00 32 s)=RW at *;have m2:0<nW:=by omega
  have m3:0<a.length+1:=by omega
  (refine svE Tryz.f41 ?_;simp only[Tryz.f41,gS])
  (repeat first|simp only[ww]|(apply xa;simp+decide only[go_sem,hmt,hle,hsp,hdf,m0,m1,m2,m3,hR0,hRl,List.getElem?_cons_zero,List.length_cons];rfl;kernel_rfl))
  (apply a2v;(·simp+decide only[go_sem]<;>rfl))
  exact⟨_,rfl,hfin⟩
theorem c59(o0:AObj)(r r':Rd)(s:List UInt8)(hl:s.length≤4096)(hR:RdAt [some o0] 0 r)(tl:List (List UInt8))(hws:a38 (a00 32 s)=[115,105,103,110,97,108]::tl)(hcan:∀R,R.length=(a00 32 s).length→R.take (tl.length+1)=sR ([115,105,103,110,97,108]::tl)→FlatR R→tl.length+1≤(a00 32 s).length→a6g 65 (tl.length+1) (some (a00 32 s).length) R r r'):∃q:AV×a08,(∃H1,q=(.tuple [],H1)∧RdAt H1 0 r')∧sem L.env Mf 41 [.ptr 0 0 0,.str s] [some o0]=some q:=by
 have hWl:(a00 32 s).length≤2000000:=by rw[a0v];have:=List.count_le_length (a:=(32:UInt8)) (l:=s);omega
 have hW0:0<(a00 32 s).length:=by rw[a0v];omega
 have hle:(s.length:Int)≤4096:=by omega
 have hmt:=λd H e=>a1b (d:=d) H e;obtain⟨rr,⟨R,hRl,hRt,hRf,rfl⟩,hd⟩:=a4z (a00 32 s).length (a00 32 s) rfl hW0 hWl;have hmle:=a2o (a00 32 s);have hsp:a0j L.env false (sem L.env Mf) (.func (.func 23) [] []) [.str s,.str [32]] [some o0]=some (.slice 1 0 (a00 32 s).length (some (a00 32 s).length),[some o0,some (.row 1 (sR (a00 32 s)))],[]):=a1u [some o0] s 32 (by omega);have hdf:a0j L.env false (sem L.env Mf) (.func (.func 63) [] []) [.slice 1 0 (a00 32 s).length (some (a00 32 s).length),.func (.func 64) [] []] [some o0,some (.row 1 (sR (a00 32 s)))]=some (.slice 1 0 (a38 (a00 32 s)).length (some (a00 32 s).length),[some o0,some (.row 1 R)],[1]):=a14 (by kernel_rfl) (by kernel_rfl) rfl (b:=1) (o:=.row 1 (sR (a00 32 s))) (o':=.row 1 R) rfl (a0r (a10 _)) (FlatO.row (a10 _)) rfl rfl hd (FlatO.row hRf) rfl;rw[hws]at hdf hRt hmle;have hR0:R[0]?=some [.str [115,105,103,110,97,108]]:=sR0 hRt rfl;simp only[List.length_cons]at hdf hmle hRt;have hco:=hcan R hRl hRt hRf hmle;have hfin:RdAt [some o0,some (.row 1 R),some (.map [.str a1z,.str a2j,.str a3v] [fS,fT,fV] [0,1,2] 3)] 0 r:=hR.ext (a27 [some o0] [some (.row 1 R),some (.map [.str a1z,.str a2j,.str a3v] [fS,fT,fV] [0,1,2] 3)]);obtain⟨H',σ,hcl,hR'⟩:=a4v [some o0,some (.row 1 R),some (.map [.str a1z,.str a2j,.str a3v] [fS,fT,fV] [0,1,2] 3)] 0 1 65 (tl.length+1) (some (a00 32 s).length) R r r' (by kernel_rfl) (by kernel_rfl) hRf hfin rfl hco;generalize hk:tl.length+1=m at *;have m0:0<m:=by omega
 have m1:¬(m:Int)=0:=by omega
 generalize(a00 32 s).length=nW at *;generalize sR (a00 32 s)=RW at *;have m2:0<nW:=by omega
 have t1:a0m L.env (a04 [some o0,some (.row 1 R),some (.map [] [] [] 0)]) 114 (.map 2) (.str [115,105,103,110,97,108]) (.func (.func 65) [.ptr 0 0 0] [])=some (.set 2 (.map [.str a1z] [fS] [0] 1)):=by kernel_rfl
 have t2:a0m L.env (a04 [some o0,some (.row 1 R),some (.map [.str a1z] [fS] [0] 1)]) 114 (.map 2) (.str [116,105,109,105,110,103]) (.func (.func 66) [.ptr 0 0 0] [])=some (.set 2 (.map [.str a1z,.str a2j] [fS,fT] [0,1] 2)):=by kernel_rfl
 have t3:a0m L.env (a04 [some o0,some (.row 1 R),some (.map [.str a1z,.str a2j] [fS,fT] [0,1] 2)]) 114 (.map 2) (.str [118,101,99,116,111,114]) (.func (.func 67) [.ptr 0 0 0] [])=some (.set 2 (.map [.str a1z,.str a2j,.str a3v] [fS,fT,fV] [0,1,2] 3)):=by kernel_rfl
 have t4:a2t L.env (a04 [some o0,some (.row 1 R),some (.map [.str a1z,.str a2j,.str a3v] [fS,fT,fV] [0,1,2] 3)]) 114 (.map 2) (.str [115,105,103,110,97,108]) true=some (.tuple [.func (.func 65) [.ptr 0 0 0] [],.bool true]):=by kernel_rfl
 (refine svE Tryz.f41 ?_;simp only[Tryz.f41,gS])
 (repeat first|simp only[ww]|(apply xa;simp+decide only[go_sem,hmt,hle,hsp,hdf,m0,m1,m2,hR0,hRl,List.getElem?_cons_zero,t1,t2,t3,t4,hcl];rfl;kernel_rfl))
 (apply a2v;(·simp+decide only[go_sem]<;>rfl))
 exact⟨_,rfl,hR'⟩
theorem c58(o0:AObj)(r r':Rd)(s:List UInt8)(hl:s.length≤4096)(hR:RdAt [some o0] 0 r)(tl:List (List UInt8))(hws:a38 (a00 32 s)=[116,105,109,105,110,103]::tl)(hcan:∀R,R.length=(a00 32 s).length→R.take (tl.length+1)=sR ([116,105,109,105,110,103]::tl)→FlatR R→tl.length+1≤(a00 32 s).length→a6g 66 (tl.length+1) (some (a00 32 s).length) R r r'):∃q:AV×a08,(∃H1,q=(.tuple [],H1)∧RdAt H1 0 r')∧sem L.env Mf 41 [.ptr 0 0 0,.str s] [some o0]=some q:=by
 have hWl:(a00 32 s).length≤2000000:=by rw[a0v];have:=List.count_le_length (a:=(32:UInt8)) (l:=s);omega
 have hW0:0<(a00 32 s).length:=by rw[a0v];omega
 have hle:(s.length:Int)≤4096:=by omega
 have hmt:=λd H e=>a1b (d:=d) H e;obtain⟨rr,⟨R,hRl,hRt,hRf,rfl⟩,hd⟩:=a4z (a00 32 s).length (a00 32 s) rfl hW0 hWl;have hmle:=a2o (a00 32 s);have hsp:a0j L.env false (sem L.env Mf) (.func (.func 23) [] []) [.str s,.str [32]] [some o0]=some (.slice 1 0 (a00 32 s).length (some (a00 32 s).length),[some o0,some (.row 1 (sR (a00 32 s)))],[]):=a1u [some o0] s 32 (by omega);have hdf:a0j L.env false (sem L.env Mf) (.func (.func 63) [] []) [.slice 1 0 (a00 32 s).length (some (a00 32 s).length),.func (.func 64) [] []] [some o0,some (.row 1 (sR (a00 32 s)))]=some (.slice 1 0 (a38 (a00 32 s)).length (some (a00 32 s).length),[some o0,some (.row 1 R)],[1]):=a14 (by kernel_rfl) (by kernel_rfl) rfl (b:=1) (o:=.row 1 (sR (a00 32 s))) (o':=.row 1 R) rfl (a0r (a10 _)) (FlatO.row (a10 _)) rfl rfl hd (FlatO.row hRf) rfl;rw[hws]at hdf hRt hmle;have hR0:R[0]?=some [.str [116,105,109,105,110,103]]:=sR0 hRt rfl;simp only[List.length_cons]at hdf hmle hRt;have hco:=hcan R hRl hRt hRf hmle;have hfin:RdAt [some o0,some (.row 1 R),some (.map [.str a1z,.str a2j,.str a3v] [fS,fT,fV] [0,1,2] 3)] 0 r:=hR.ext (a27 [some o0] [some (.row 1 R),some (.map [.str a1z,.str a2j,.str a3v] [fS,fT,fV] [0,1,2] 3)]);obtain⟨H',σ,hcl,hR'⟩:=a4v [some o0,some (.row 1 R),some (.map [.str a1z,.str a2j,.str a3v] [fS,fT,fV] [0,1,2] 3)] 0 1 66 (tl.length+1) (some (a00 32 s).length) R r r' (by kernel_rfl) (by kernel_rfl) hRf hfin rfl hco;generalize hk:tl.length+1=m at *;have m0:0<m:=by omega
 have m1:¬(m:Int)=0:=by omega
 generalize(a00 32 s).length=nW at *;generalize sR (a00 32 s)=RW at *;have m2:0<nW:=by omega
 have t1:a0m L.env (a04 [some o0,some (.row 1 R),some (.map [] [] [] 0)]) 114 (.map 2) (.str [115,105,103,110,97,108]) (.func (.func 65) [.ptr 0 0 0] [])=some (.set 2 (.map [.str a1z] [fS] [0] 1)):=by kernel_rfl
 have t2:a0m L.env (a04 [some o0,some (.row 1 R),some (.map [.str a1z] [fS] [0] 1)]) 114 (.map 2) (.str [116,105,109,105,110,103]) (.func (.func 66) [.ptr 0 0 0] [])=some (.set 2 (.map [.str a1z,.str a2j] [fS,fT] [0,1] 2)):=by kernel_rfl
 have t3:a0m L.env (a04 [some o0,some (.row 1 R),some (.map [.str a1z,.str a2j] [fS,fT] [0,1] 2)]) 114 (.map 2) (.str [118,101,99,116,111,114]) (.func (.func 67) [.ptr 0 0 0] [])=some (.set 2 (.map [.str a1z,.str a2j,.str a3v] [fS,fT,fV] [0,1,2] 3)):=by kernel_rfl
 have t4:a2t L.env (a04 [some o0,some (.row 1 R),some (.map [.str a1z,.str a2j,.str a3v] [fS,fT,fV] [0,1,2] 3)]) 114 (.map 2) (.str [116,105,109,105,110,103]) true=some (.tuple [.func (.func 66) [.ptr 0 0 0] [],.bool true]):=by kernel_rfl
 (refine svE Tryz.f41 ?_;simp only[Tryz.f41,gS])
 (repeat first|simp only[ww]|(apply xa;simp+decide only[go_sem,hmt,hle,hsp,hdf,m0,m1,m2,hR0,hRl,List.getElem?_cons_zero,t1,t2,t3,t4,hcl];rfl;kernel_rfl))
 (apply a2v;(·simp+decide only[go_sem]<;>rfl))
 exact⟨_,rfl,hR'⟩
theorem c57(o0:AObj)(r r':Rd)(s:List UInt8)(hl:s.length≤4096)(hR:RdAt [some o0] 0 r)(tl:List (List UInt8))(hws:a38 (a00 32 s)=[118,101,99,116,111,114]::tl)(hcan:∀R,R.length=(a00 32 s).length→R.take (tl.length+1)=sR ([118,101,99,116,111,114]::tl)→FlatR R→tl.length+1≤(a00 32 s).length→a6g 67 (tl.length+1) (some (a00 32 s).length) R r r'):∃q:AV×a08,(∃H1,q=(.tuple [],H1)∧RdAt H1 0 r')∧sem L.env Mf 41 [.ptr 0 0 0,.str s] [some o0]=some q:=by
 have hWl:(a00 32 s).length≤2000000:=by rw[a0v];have:=List.count_le_length (a:=(32:UInt8)) (l:=s);omega
 have hW0:0<(a00 32 s).length:=by rw[a0v];omega
 have hle:(s.length:Int)≤4096:=by omega
 have hmt:=λd H e=>a1b (d:=d) H e;obtain⟨rr,⟨R,hRl,hRt,hRf,rfl⟩,hd⟩:=a4z (a00 32 s).length (a00 32 s) rfl hW0 hWl;have hmle:=a2o (a00 32 s);have hsp:a0j L.env false (sem L.env Mf) (.func (.func 23) [] []) [.str s,.str [32]] [some o0]=some (.slice 1 0 (a00 32 s).length (some (a00 32 s).length),[some o0,some (.row 1 (sR (a00 32 s)))],[]):=a1u [some o0] s 32 (by omega);have hdf:a0j L.env false (sem L.env Mf) (.func (.func 63) [] []) [.slice 1 0 (a00 32 s).length (some (a00 32 s).length),.func (.func 64) [] []] [some o0,some (.row 1 (sR (a00 32 s)))]=some (.slice 1 0 (a38 (a00 32 s)).length (some (a00 32 s).length),[some o0,some (.row 1 R)],[1]):=a14 (by kernel_rfl) (by kernel_rfl) rfl (b:=1) (o:=.row 1 (sR (a00 32 s))) (o':=.row 1 R) rfl (a0r (a10 _)) (FlatO.row (a10 _)) rfl rfl hd (FlatO.row hRf) rfl;rw[hws]at hdf hRt hmle;have hR0:R[0]?=some [.str [118,101,99,116,111,114]]:=sR0 hRt rfl;simp only[List.length_cons]at hdf hmle hRt;have hco:=hcan R hRl hRt hRf hmle;have hfin:RdAt [some o0,some (.row 1 R),some (.map [.str a1z,.str a2j,.str a3v] [fS,fT,fV] [0,1,2] 3)] 0 r:=hR.ext (a27 [some o0] [some (.row 1 R),some (.map [.str a1z,.str a2j,.str a3v] [fS,fT,fV] [0,1,2] 3)]);obtain⟨H',σ,hcl,hR'⟩:=a4v [some o0,some (.row 1 R),some (.map [.str a1z,.str a2j,.str a3v] [fS,fT,fV] [0,1,2] 3)] 0 1 67 (tl.length+1) (some (a00 32 s).length) R r r' (by kernel_rfl) (by kernel_rfl) hRf hfin rfl hco;generalize hk:tl.length+1=m at *;have m0:0<m:=by omega
 have m1:¬(m:Int)=0:=by omega
 generalize(a00 32 s).length=nW at *;generalize sR (a00 32 s)=RW at *;have m2:0<nW:=by omega
 have t1:a0m L.env (a04 [some o0,some (.row 1 R),some (.map [] [] [] 0)]) 114 (.map 2) (.str [115,105,103,110,97,108]) (.func (.func 65) [.ptr 0 0 0] [])=some (.set 2 (.map [.str a1z] [fS] [0] 1)):=by kernel_rfl
 have t2:a0m L.env (a04 [some o0,some (.row 1 R),some (.map [.str a1z] [fS] [0] 1)]) 114 (.map 2) (.str [116,105,109,105,110,103]) (.func (.func 66) [.ptr 0 0 0] [])=some (.set 2 (.map [.str a1z,.str a2j] [fS,fT] [0,1] 2)):=by kernel_rfl
 have t3:a0m L.env (a04 [some o0,some (.row 1 R),some (.map [.str a1z,.str a2j] [fS,fT] [0,1] 2)]) 114 (.map 2) (.str [118,101,99,116,111,114]) (.func (.func 67) [.ptr 0 0 0] [])=some (.set 2 (.map [.str a1z,.str a2j,.str a3v] [fS,fT,fV] [0,1,2] 3)):=by kernel_rfl
 have t4:a2t L.env (a04 [some o0,some (.row 1 R),some (.map [.str a1z,.str a2j,.str a3v] [fS,fT,fV] [0,1,2] 3)]) 114 (.map 2) (.str [118,101,99,116,111,114]) true=some (.tuple [.func (.func 67) [.ptr 0 0 0] [],.bool true]):=by kernel_rfl
 (refine svE Tryz.f41 ?_;simp only[Tryz.f41,gS])
 (repeat first|simp only[ww]|(apply xa;simp+decide only[go_sem,hmt,hle,hsp,hdf,m0,m1,m2,hR0,hRl,List.getElem?_cons_zero,t1,t2,t3,t4,hcl];rfl;kernel_rfl))
 (apply a2v;(·simp+decide only[go_sem]<;>rfl))
 exact⟨_,rfl,hR'⟩
theorem c2i(o0 o1:AObj)(r:Rd)(s:List UInt8)(hl:s.length≤4096)(hR:RdAt [some o0,some o1] 0 r)(hws:a38 (a00 32 s)=[]∨∃a tl,a38 (a00 32 s)=(35::a)::tl):∃q:AV×a08,(∃H1,q=(.tuple [],H1)∧RdAt H1 0 r)∧sem L.env Mf 41 [.ptr 0 0 0,.str s] [some o0,some o1]=some q:=by
 have hWl:(a00 32 s).length≤2000000:=by rw[a0v];have:=List.count_le_length (a:=(32:UInt8)) (l:=s);omega
 have hW0:0<(a00 32 s).length:=by rw[a0v];omega
 have hle:(s.length:Int)≤4096:=by omega
 have hmt:=λd H e=>a1b (d:=d) H e;obtain⟨rr,⟨R,hRl,hRt,hRf,rfl⟩,hd⟩:=a4z (a00 32 s).length (a00 32 s) rfl hW0 hWl;have hmle:=a2o (a00 32 s);have hsp:a0j L.env false (sem L.env Mf) (.func (.func 23) [] []) [.str s,.str [32]] [some o0,some o1]=some (.slice 2 0 (a00 32 s).length (some (a00 32 s).length),[some o0,some o1,some (.row 1 (sR (a00 32 s)))],[]):=a1u [some o0,some o1] s 32 (by omega);have hdf:a0j L.env false (sem L.env Mf) (.func (.func 63) [] []) [.slice 2 0 (a00 32 s).length (some (a00 32 s).length),.func (.func 64) [] []] [some o0,some o1,some (.row 1 (sR (a00 32 s)))]=some (.slice 2 0 (a38 (a00 32 s)).length (some (a00 32 s).length),[some o0,some o1,some (.row 1 R)],[2]):=a14 (by kernel_rfl) (by kernel_rfl) rfl (b:=2) (o:=.row 1 (sR (a00 32 s))) (o':=.row 1 R) rfl (a0r (a10 _)) (FlatO.row (a10 _)) rfl rfl hd (FlatO.row hRf) rfl;have hfin:RdAt [some o0,some o1,some (.row 1 R)] 0 r:=hR.ext (a27 [some o0,some o1] [some (.row 1 R)]);rcases hws with hws|⟨a,tl,hws⟩
 ·rw[hws]at hdf hRt hmle;simp only[List.length_nil]at hdf hmle;generalize(a00 32 s).length=nW at *;generalize sR (a00 32 s)=RW at *
  (refine svE Tryz.f41 ?_;simp only[Tryz.f41,gS])
  (repeat first|simp only[ww]|(apply xa;simp+decide only[go_sem,hmt,hle,hsp,hdf];rfl;kernel_rfl))
  (apply a2v;(·simp+decide only[go_sem]<;>rfl))
  exact⟨_,rfl,hfin⟩
 ·rw[hws]at hdf hRt hmle;have hR0:R[0]?=some [.str (35::a)]:=sR0 hRt rfl;simp only[List.length_cons]at hdf hmle;generalize hk:tl.length+1=m at *;have m0:0<m:=by omega
  have m1:¬(m:Int)=0:=by omega
  generalize(a00 32 s).length=nW at *;generalize sR (a00 32 s)=RW at *;have m2:0<nW:=by omega
  have m3:0<a.length+1:=by omega
  (refine svE Tryz.f41 ?_;simp only[Tryz.f41,gS])
  (repeat first|simp only[ww]|(apply xa;simp+decide only[go_sem,hmt,hle,hsp,hdf,m0,m1,m2,m3,hR0,hRl,List.getElem?_cons_zero,List.length_cons];rfl;kernel_rfl))
  (apply a2v;(·simp+decide only[go_sem]<;>rfl))
  exact⟨_,rfl,hfin⟩
theorem c56(o0 o1:AObj)(r r':Rd)(s:List UInt8)(hl:s.length≤4096)(hR:RdAt [some o0,some o1] 0 r)(tl:List (List UInt8))(hws:a38 (a00 32 s)=[115,105,103,110,97,108]::tl)(hcan:∀R,R.length=(a00 32 s).length→R.take (tl.length+1)=sR ([115,105,103,110,97,108]::tl)→FlatR R→tl.length+1≤(a00 32 s).length→a6g 65 (tl.length+1) (some (a00 32 s).length) R r r'):∃q:AV×a08,(∃H1,q=(.tuple [],H1)∧RdAt H1 0 r')∧sem L.env Mf 41 [.ptr 0 0 0,.str s] [some o0,some o1]=some q:=by
 have hWl:(a00 32 s).length≤2000000:=by rw[a0v];have:=List.count_le_length (a:=(32:UInt8)) (l:=s);omega
 have hW0:0<(a00 32 s).length:=by rw[a0v];omega
 have hle:(s.length:Int)≤4096:=by omega
 have hmt:=λd H e=>a1b (d:=d) H e;obtain⟨rr,⟨R,hRl,hRt,hRf,rfl⟩,hd⟩:=a4z (a00 32 s).length (a00 32 s) rfl hW0 hWl;have hmle:=a2o (a00 32 s);have hsp:a0j L.env false (sem L.env Mf) (.func (.func 23) [] []) [.str s,.str [32]] [some o0,some o1]=some (.slice 2 0 (a00 32 s).length (some (a00 32 s).length),[some o0,some o1,some (.row 1 (sR (a00 32 s)))],[]):=a1u [some o0,some o1] s 32 (by omega);have hdf:a0j L.env false (sem L.env Mf) (.func (.func 63) [] []) [.slice 2 0 (a00 32 s).length (some (a00 32 s).length),.func (.func 64) [] []] [some o0,some o1,some (.row 1 (sR (a00 32 s)))]=some (.slice 2 0 (a38 (a00 32 s)).length (some (a00 32 s).length),[some o0,some o1,some (.row 1 R)],[2]):=a14 (by kernel_rfl) (by kernel_rfl) rfl (b:=2) (o:=.row 1 (sR (a00 32 s))) (o':=.row 1 R) rfl (a0r (a10 _)) (FlatO.row (a10 _)) rfl rfl hd (FlatO.row hRf) rfl;rw[hws]at hdf hRt hmle;have hR0:R[0]?=some [.str [115,105,103,110,97,108]]:=sR0 hRt rfl;simp only[List.length_cons]at hdf hmle hRt;have hco:=hcan R hRl hRt hRf hmle;have hfin:RdAt [some o0,some o1,some (.row 1 R),some (.map [.str a1z,.str a2j,.str a3v] [fS,fT,fV] [0,1,2] 3)] 0 r:=hR.ext (a27 [some o0,some o1] [some (.row 1 R),some (.map [.str a1z,.str a2j,.str a3v] [fS,fT,fV] [0,1,2] 3)]);obtain⟨H',σ,hcl,hR'⟩:=a4v [some o0,some o1,some (.row 1 R),some (.map [.str a1z,.str a2j,.str a3v] [fS,fT,fV] [0,1,2] 3)] 0 2 65 (tl.length+1) (some (a00 32 s).length) R r r' (by kernel_rfl) (by kernel_rfl) hRf hfin rfl hco;generalize hk:tl.length+1=m at *;have m0:0<m:=by omega
 have m1:¬(m:Int)=0:=by omega
 generalize(a00 32 s).length=nW at *;generalize sR (a00 32 s)=RW at *;have m2:0<nW:=by omega
 have t1:a0m L.env (a04 [some o0,some o1,some (.row 1 R),some (.map [] [] [] 0)]) 114 (.map 3) (.str [115,105,103,110,97,108]) (.func (.func 65) [.ptr 0 0 0] [])=some (.set 3 (.map [.str a1z] [fS] [0] 1)):=by kernel_rfl
 have t2:a0m L.env (a04 [some o0,some o1,some (.row 1 R),some (.map [.str a1z] [fS] [0] 1)]) 114 (.map 3) (.str [116,105,109,105,110,103]) (.func (.func 66) [.ptr 0 0 0] [])=some (.set 3 (.map [.str a1z,.str a2j] [fS,fT] [0,1] 2)):=by kernel_rfl
 have t3:a0m L.env (a04 [some o0,some o1,some (.row 1 R),some (.map [.str a1z,.str a2j] [fS,fT] [0,1] 2)]) 114 (.map 3) (.str [118,101,99,116,111,114]) (.func (.func 67) [.ptr 0 0 0] [])=some (.set 3 (.map [.str a1z,.str a2j,.str a3v] [fS,fT,fV] [0,1,2] 3)):=by kernel_rfl
 have t4:a2t L.env (a04 [some o0,some o1,some (.row 1 R),some (.map [.str a1z,.str a2j,.str a3v] [fS,fT,fV] [0,1,2] 3)]) 114 (.map 3) (.str [115,105,103,110,97,108]) true=some (.tuple [.func (.func 65) [.ptr 0 0 0] [],.bool true]):=by kernel_rfl
 (refine svE Tryz.f41 ?_;simp only[Tryz.f41,gS])
 (repeat first|simp only[ww]|(apply xa;simp+decide only[go_sem,hmt,hle,hsp,hdf,m0,m1,m2,hR0,hRl,List.getElem?_cons_zero,t1,t2,t3,t4,hcl];rfl;kernel_rfl))
 (apply a2v;(·simp+decide only[go_sem]<;>rfl))
 exact⟨_,rfl,hR'⟩
theorem c55(o0 o1:AObj)(r r':Rd)(s:List UInt8)(hl:s.length≤4096)(hR:RdAt [some o0,some o1] 0 r)(tl:List (List UInt8))(hws:a38 (a00 32 s)=[116,105,109,105,110,103]::tl)(hcan:∀R,R.length=(a00 32 s).length→R.take (tl.length+1)=sR ([116,105,109,105,110,103]::tl)→FlatR R→tl.length+1≤(a00 32 s).length→a6g 66 (tl.length+1) (some (a00 32 s).length) R r r'):∃q:AV×a08,(∃H1,q=(.tuple [],H1)∧RdAt H1 0 r')∧sem L.env Mf 41 [.ptr 0 0 0,.str s] [some o0,some o1]=some q:=by
 have hWl:(a00 32 s).length≤2000000:=by rw[a0v];have:=List.count_le_length (a:=(32:UInt8)) (l:=s);omega
 have hW0:0<(a00 32 s).length:=by rw[a0v];omega
 have hle:(s.length:Int)≤4096:=by omega
 have hmt:=λd H e=>a1b (d:=d) H e;obtain⟨rr,⟨R,hRl,hRt,hRf,rfl⟩,hd⟩:=a4z (a00 32 s).length (a00 32 s) rfl hW0 hWl;have hmle:=a2o (a00 32 s);have hsp:a0j L.env false (sem L.env Mf) (.func (.func 23) [] []) [.str s,.str [32]] [some o0,some o1]=some (.slice 2 0 (a00 32 s).length (some (a00 32 s).length),[some o0,some o1,some (.row 1 (sR (a00 32 s)))],[]):=a1u [some o0,some o1] s 32 (by omega);have hdf:a0j L.env false (sem L.env Mf) (.func (.func 63) [] []) [.slice 2 0 (a00 32 s).length (some (a00 32 s).length),.func (.func 64) [] []] [some o0,some o1,some (.row 1 (sR (a00 32 s)))]=some (.slice 2 0 (a38 (a00 32 s)).length (some (a00 32 s).length),[some o0,some o1,some (.row 1 R)],[2]):=a14 (by kernel_rfl) (by kernel_rfl) rfl (b:=2) (o:=.row 1 (sR (a00 32 s))) (o':=.row 1 R) rfl (a0r (a10 _)) (FlatO.row (a10 _)) rfl rfl hd (FlatO.row hRf) rfl;rw[hws]at hdf hRt hmle;have hR0:R[0]?=some [.str [116,105,109,105,110,103]]:=sR0 hRt rfl;simp only[List.length_cons]at hdf hmle hRt;have hco:=hcan R hRl hRt hRf hmle;have hfin:RdAt [some o0,some o1,some (.row 1 R),some (.map [.str a1z,.str a2j,.str a3v] [fS,fT,fV] [0,1,2] 3)] 0 r:=hR.ext (a27 [some o0,some o1] [some (.row 1 R),some (.map [.str a1z,.str a2j,.str a3v] [fS,fT,fV] [0,1,2] 3)]);obtain⟨H',σ,hcl,hR'⟩:=a4v [some o0,some o1,some (.row 1 R),some (.map [.str a1z,.str a2j,.str a3v] [fS,fT,fV] [0,1,2] 3)] 0 2 66 (tl.length+1) (some (a00 32 s).length) R r r' (by kernel_rfl) (by kernel_rfl) hRf hfin rfl hco;generalize hk:tl.length+1=m at *;have m0:0<m:=by omega
 have m1:¬(m:Int)=0:=by omega
 generalize(a00 32 s).length=nW at *;generalize sR (a00 32 s)=RW at *;have m2:0<nW:=by omega
 have t1:a0m L.env (a04 [some o0,some o1,some (.row 1 R),some (.map [] [] [] 0)]) 114 (.map 3) (.str [115,105,103,110,97,108]) (.func (.func 65) [.ptr 0 0 0] [])=some (.set 3 (.map [.str a1z] [fS] [0] 1)):=by kernel_rfl
 have t2:a0m L.env (a04 [some o0,some o1,some (.row 1 R),some (.map [.str a1z] [fS] [0] 1)]) 114 (.map 3) (.str [116,105,109,105,110,103]) (.func (.func 66) [.ptr 0 0 0] [])=some (.set 3 (.map [.str a1z,.str a2j] [fS,fT] [0,1] 2)):=by kernel_rfl
 have t3:a0m L.env (a04 [some o0,some o1,some (.row 1 R),some (.map [.str a1z,.str a2j] [fS,fT] [0,1] 2)]) 114 (.map 3) (.str [118,101,99,116,111,114]) (.func (.func 67) [.ptr 0 0 0] [])=some (.set 3 (.map [.str a1z,.str a2j,.str a3v] [fS,fT,fV] [0,1,2] 3)):=by kernel_rfl
 have t4:a2t L.env (a04 [some o0,some o1,some (.row 1 R),some (.map [.str a1z,.str a2j,.str a3v] [fS,fT,fV] [0,1,2] 3)]) 114 (.map 3) (.str [116,105,109,105,110,103]) true=some (.tuple [.func (.func 66) [.ptr 0 0 0] [],.bool true]):=by kernel_rfl
 (refine svE Tryz.f41 ?_;simp only[Tryz.f41,gS])
 (repeat first|simp only[ww]|(apply xa;simp+decide only[go_sem,hmt,hle,hsp,hdf,m0,m1,m2,hR0,hRl,List.getElem?_cons_zero,t1,t2,t3,t4,hcl];rfl;kernel_rfl))
 (apply a2v;(·simp+decide only[go_sem]<;>rfl))
 exact⟨_,rfl,hR'⟩
theorem c54(o0 o1:AObj)(r r':Rd)(s:List UInt8)(hl:s.length≤4096)(hR:RdAt [some o0,some o1] 0 r)(tl:List (List UInt8))(hws:a38 (a00 32 s)=[118,101,99,116,111,114]::tl)(hcan:∀R,R.length=(a00 32 s).length→R.take (tl.length+1)=sR ([118,101,99,116,111,114]::tl)→FlatR R→tl.length+1≤(a00 32 s).length→a6g 67 (tl.length+1) (some (a00 32 s).length) R r r'):∃q:AV×a08,(∃H1,q=(.tuple [],H1)∧RdAt H1 0 r')∧sem L.env Mf 41 [.ptr 0 0 0,.str s] [some o0,some o1]=some q:=by
 have hWl:(a00 32 s).length≤2000000:=by rw[a0v];have:=List.count_le_length (a:=(32:UInt8)) (l:=s);omega
 have hW0:0<(a00 32 s).length:=by rw[a0v];omega
 have hle:(s.length:Int)≤4096:=by omega
 have hmt:=λd H e=>a1b (d:=d) H e;obtain⟨rr,⟨R,hRl,hRt,hRf,rfl⟩,hd⟩:=a4z (a00 32 s).length (a00 32 s) rfl hW0 hWl;have hmle:=a2o (a00 32 s);have hsp:a0j L.env false (sem L.env Mf) (.func (.func 23) [] []) [.str s,.str [32]] [some o0,some o1]=some (.slice 2 0 (a00 32 s).length (some (a00 32 s).length),[some o0,some o1,some (.row 1 (sR (a00 32 s)))],[]):=a1u [some o0,some o1] s 32 (by omega);have hdf:a0j L.env false (sem L.env Mf) (.func (.func 63) [] []) [.slice 2 0 (a00 32 s).length (some (a00 32 s).length),.func (.func 64) [] []] [some o0,some o1,some (.row 1 (sR (a00 32 s)))]=some (.slice 2 0 (a38 (a00 32 s)).length (some (a00 32 s).length),[some o0,some o1,some (.row 1 R)],[2]):=a14 (by kernel_rfl) (by kernel_rfl) rfl (b:=2) (o:=.row 1 (sR (a00 32 s))) (o':=.row 1 R) rfl (a0r (a10 _)) (FlatO.row (a10 _)) rfl rfl hd (FlatO.row hRf) rfl;rw[hws]at hdf hRt hmle;have hR0:R[0]?=some [.str [118,101,99,116,111,114]]:=sR0 hRt rfl;simp only[List.length_cons]at hdf hmle hRt;have hco:=hcan R hRl hRt hRf hmle;have hfin:RdAt [some o0,some o1,some (.row 1 R),some (.map [.str a1z,.str a2j,.str a3v] [fS,fT,fV] [0,1,2] 3)] 0 r:=hR.ext (a27 [some o0,some o1] [some (.row 1 R),some (.map [.str a1z,.str a2j,.str a3v] [fS,fT,fV] [0,1,2] 3)]);obtain⟨H',σ,hcl,hR'⟩:=a4v [some o0,some o1,some (.row 1 R),some (.map [.str a1z,.str a2j,.str a3v] [fS,fT,fV] [0,1,2] 3)] 0 2 67 (tl.length+1) (some (a00 32 s).length) R r r' (by kernel_rfl) (by kernel_rfl) hRf hfin rfl hco;generalize hk:tl.length+1=m at *;have m0:0<m:=by omega
 have m1:¬(m:Int)=0:=by omega
 generalize(a00 32 s).length=nW at *;generalize sR (a00 32 s)=RW at *;have m2:0<nW:=by omega
 have t1:a0m L.env (a04 [some o0,some o1,some (.row 1 R),some (.map [] [] [] 0)]) 114 (.map 3) (.str [115,105,103,110,97,108]) (.func (.func 65) [.ptr 0 0 0] [])=some (.set 3 (.map [.str a1z] [fS] [0] 1)):=by kernel_rfl
 have t2:a0m L.env (a04 [some o0,some o1,some (.row 1 R),some (.map [.str a1z] [fS] [0] 1)]) 114 (.map 3) (.str [116,105,109,105,110,103]) (.func (.func 66) [.ptr 0 0 0] [])=some (.set 3 (.map [.str a1z,.str a2j] [fS,fT] [0,1] 2)):=by kernel_rfl
 have t3:a0m L.env (a04 [some o0,some o1,some (.row 1 R),some (.map [.str a1z,.str a2j] [fS,fT] [0,1] 2)]) 114 (.map 3) (.str [118,101,99,116,111,114]) (.func (.func 67) [.ptr 0 0 0] [])=some (.set 3 (.map [.str a1z,.str a2j,.str a3v] [fS,fT,fV] [0,1,2] 3)):=by kernel_rfl
 have t4:a2t L.env (a04 [some o0,some o1,some (.row 1 R),some (.map [.str a1z,.str a2j,.str a3v] [fS,fT,fV] [0,1,2] 3)]) 114 (.map 3) (.str [118,101,99,116,111,114]) true=some (.tuple [.func (.func 67) [.ptr 0 0 0] [],.bool true]):=by kernel_rfl
 (refine svE Tryz.f41 ?_;simp only[Tryz.f41,gS])
 (repeat first|simp only[ww]|(apply xa;simp+decide only[go_sem,hmt,hle,hsp,hdf,m0,m1,m2,hR0,hRl,List.getElem?_cons_zero,t1,t2,t3,t4,hcl];rfl;kernel_rfl))
 (apply a2v;(·simp+decide only[go_sem]<;>rfl))
 exact⟨_,rfl,hR'⟩
theorem c2h(o0 o1 o2:AObj)(r:Rd)(s:List UInt8)(hl:s.length≤4096)(hR:RdAt [some o0,some o1,some o2] 0 r)(hws:a38 (a00 32 s)=[]∨∃a tl,a38 (a00 32 s)=(35::a)::tl):∃q:AV×a08,(∃H1,q=(.tuple [],H1)∧RdAt H1 0 r)∧sem L.env Mf 41 [.ptr 0 0 0,.str s] [some o0,some o1,some o2]=some q:=by
 have hWl:(a00 32 s).length≤2000000:=by rw[a0v];have:=List.count_le_length (a:=(32:UInt8)) (l:=s);omega
 have hW0:0<(a00 32 s).length:=by rw[a0v];omega
 have hle:(s.length:Int)≤4096:=by omega
 have hmt:=λd H e=>a1b (d:=d) H e;obtain⟨rr,⟨R,hRl,hRt,hRf,rfl⟩,hd⟩:=a4z (a00 32 s).length (a00 32 s) rfl hW0 hWl;have hmle:=a2o (a00 32 s);have hsp:a0j L.env false (sem L.env Mf) (.func (.func 23) [] []) [.str s,.str [32]] [some o0,some o1,some o2]=some (.slice 3 0 (a00 32 s).length (some (a00 32 s).length),[some o0,some o1,some o2,some (.row 1 (sR (a00 32 s)))],[]):=a1u [some o0,some o1,some o2] s 32 (by omega);have hdf:a0j L.env false (sem L.env Mf) (.func (.func 63) [] []) [.slice 3 0 (a00 32 s).length (some (a00 32 s).length),.func (.func 64) [] []] [some o0,some o1,some o2,some (.row 1 (sR (a00 32 s)))]=some (.slice 3 0 (a38 (a00 32 s)).length (some (a00 32 s).length),[some o0,some o1,some o2,some (.row 1 R)],[3]):=a14 (by kernel_rfl) (by kernel_rfl) rfl (b:=3) (o:=.row 1 (sR (a00 32 s))) (o':=.row 1 R) rfl (a0r (a10 _)) (FlatO.row (a10 _)) rfl rfl hd (FlatO.row hRf) rfl;have hfin:RdAt [some o0,some o1,some o2,some (.row 1 R)] 0 r:=hR.ext (a27 [some o0,some o1,some o2] [some (.row 1 R)]);rcases hws with hws|⟨a,tl,hws⟩
 ·rw[hws]at hdf hRt hmle;simp only[List.length_nil]at hdf hmle;generalize(a00 32 s).length=nW at *;generalize sR (a00 32 s)=RW at *
  (refine svE Tryz.f41 ?_;simp only[Tryz.f41,gS])
  (repeat first|simp only[ww]|(apply xa;simp+decide only[go_sem,hmt,hle,hsp,hdf];rfl;kernel_rfl))
  (apply a2v;(·simp+decide only[go_sem]<;>rfl))
  exact⟨_,rfl,hfin⟩
 ·rw[hws]at hdf hRt hmle;have hR0:R[0]?=some [.str (35::a)]:=sR0 hRt rfl;simp only[List.length_cons]at hdf hmle;generalize hk:tl.length+1=m at *;have m0:0<m:=by omega
  have m1:¬(m:Int)=0:=by omega
  generalize(a00 32 s).length=nW at *;generalize sR (a00 32 s)=RW at *;have m2:0<nW:=by omega
  have m3:0<a.length+1:=by omega
  (refine svE Tryz.f41 ?_;simp only[Tryz.f41,gS])
  (repeat first|simp only[ww]|(apply xa;simp+decide only[go_sem,hmt,hle,hsp,hdf,m0,m1,m2,m3,hR0,hRl,List.getElem?_cons_zero,List.length_cons];rfl;kernel_rfl))
  (apply a2v;(·simp+decide only[go_sem]<;>rfl))
  exact⟨_,rfl,hfin⟩
theorem c53(o0 o1 o2:AObj)(r r':Rd)(s:List UInt8)(hl:s.length≤4096)(hR:RdAt [some o0,some o1,some o2] 0 r)(tl:List (List UInt8))(hws:a38 (a00 32 s)=[115,105,103,110,97,108]::tl)(hcan:∀R,R.length=(a00 32 s).length→R.take (tl.length+1)=sR ([115,105,103,110,97,108]::tl)→FlatR R→tl.length+1≤(a00 32 s).length→a6g 65 (tl.length+1) (some (a00 32 s).length) R r r'):∃q:AV×a08,(∃H1,q=(.tuple [],H1)∧RdAt H1 0 r')∧sem L.env Mf 41 [.ptr 0 0 0,.str s] [some o0,some o1,some o2]=some q:=by
 have hWl:(a00 32 s).length≤2000000:=by rw[a0v];have:=List.count_le_length (a:=(32:UInt8)) (l:=s);omega
 have hW0:0<(a00 32 s).length:=by rw[a0v];omega
 have hle:(s.length:Int)≤4096:=by omega
 have hmt:=λd H e=>a1b (d:=d) H e;obtain⟨rr,⟨R,hRl,hRt,hRf,rfl⟩,hd⟩:=a4z (a00 32 s).length (a00 32 s) rfl hW0 hWl;have hmle:=a2o (a00 32 s);have hsp:a0j L.env false (sem L.env Mf) (.func (.func 23) [] []) [.str s,.str [32]] [some o0,some o1,some o2]=some (.slice 3 0 (a00 32 s).length (some (a00 32 s).length),[some o0,some o1,some o2,some (.row 1 (sR (a00 32 s)))],[]):=a1u [some o0,some o1,some o2] s 32 (by omega);have hdf:a0j L.env false (sem L.env Mf) (.func (.func 63) [] []) [.slice 3 0 (a00 32 s).length (some (a00 32 s).length),.func (.func 64) [] []] [some o0,some o1,some o2,some (.row 1 (sR (a00 32 s)))]=some (.slice 3 0 (a38 (a00 32 s)).length (some (a00 32 s).length),[some o0,some o1,some o2,some (.row 1 R)],[3]):=a14 (by kernel_rfl) (by kernel_rfl) rfl (b:=3) (o:=.row 1 (sR (a00 32 s))) (o':=.row 1 R) rfl (a0r (a10 _)) (FlatO.row (a10 _)) rfl rfl hd (FlatO.row hRf) rfl;rw[hws]at hdf hRt hmle;have hR0:R[0]?=some [.str [115,105,103,110,97,108]]:=sR0 hRt rfl;simp only[List.length_cons]at hdf hmle hRt;have hco:=hcan R hRl hRt hRf hmle;have hfin:RdAt [some o0,some o1,some o2,some (.row 1 R),some (.map [.str a1z,.str a2j,.str a3v] [fS,fT,fV] [0,1,2] 3)] 0 r:=hR.ext (a27 [some o0,some o1,some o2] [some (.row 1 R),some (.map [.str a1z,.str a2j,.str a3v] [fS,fT,fV] [0,1,2] 3)]);obtain⟨H',σ,hcl,hR'⟩:=a4v [some o0,some o1,some o2,some (.row 1 R),some (.map [.str a1z,.str a2j,.str a3v] [fS,fT,fV] [0,1,2] 3)] 0 3 65 (tl.length+1) (some (a00 32 s).length) R r r' (by kernel_rfl) (by kernel_rfl) hRf hfin rfl hco;generalize hk:tl.length+1=m at *;have m0:0<m:=by omega
 have m1:¬(m:Int)=0:=by omega
 generalize(a00 32 s).length=nW at *;generalize sR (a00 32 s)=RW at *;have m2:0<nW:=by omega
 have t1:a0m L.env (a04 [some o0,some o1,some o2,some (.row 1 R),some (.map [] [] [] 0)]) 114 (.map 4) (.str [115,105,103,110,97,108]) (.func (.func 65) [.ptr 0 0 0] [])=some (.set 4 (.map [.str a1z] [fS] [0] 1)):=by kernel_rfl
 have t2:a0m L.env (a04 [some o0,some o1,some o2,some (.row 1 R),some (.map [.str a1z] [fS] [0] 1)]) 114 (.map 4) (.str [116,105,109,105,110,103]) (.func (.func 66) [.ptr 0 0 0] [])=some (.set 4 (.map [.str a1z,.str a2j] [fS,fT] [0,1] 2)):=by kernel_rfl
 have t3:a0m L.env (a04 [some o0,some o1,some o2,some (.row 1 R),some (.map [.str a1z,.str a2j] [fS,fT] [0,1] 2)]) 114 (.map 4) (.str [118,101,99,116,111,114]) (.func (.func 67) [.ptr 0 0 0] [])=some (.set 4 (.map [.str a1z,.str a2j,.str a3v] [fS,fT,fV] [0,1,2] 3)):=by kernel_rfl
 have t4:a2t L.env (a04 [some o0,some o1,some o2,some (.row 1 R),some (.map [.str a1z,.str a2j,.str a3v] [fS,fT,fV] [0,1,2] 3)]) 114 (.map 4) (.str [115,105,103,110,97,108]) true=some (.tuple [.func (.func 65) [.ptr 0 0 0] [],.bool true]):=by kernel_rfl
 (refine svE Tryz.f41 ?_;simp only[Tryz.f41,gS])
 (repeat first|simp only[ww]|(apply xa;simp+decide only[go_sem,hmt,hle,hsp,hdf,m0,m1,m2,hR0,hRl,List.getElem?_cons_zero,t1,t2,t3,t4,hcl];rfl;kernel_rfl))
 (apply a2v;(·simp+decide only[go_sem]<;>rfl))
 exact⟨_,rfl,hR'⟩
theorem c52(o0 o1 o2:AObj)(r r':Rd)(s:List UInt8)(hl:s.length≤4096)(hR:RdAt [some o0,some o1,some o2] 0 r)(tl:List (List UInt8))(hws:a38 (a00 32 s)=[116,105,109,105,110,103]::tl)(hcan:∀R,R.length=(a00 32 s).length→R.take (tl.length+1)=sR ([116,105,109,105,110,103]::tl)→FlatR R→tl.length+1≤(a00 32 s).length→a6g 66 (tl.length+1) (some (a00 32 s).length) R r r'):∃q:AV×a08,(∃H1,q=(.tuple [],H1)∧RdAt H1 0 r')∧sem L.env Mf 41 [.ptr 0 0 0,.str s] [some o0,some o1,some o2]=some q:=by
 have hWl:(a00 32 s).length≤2000000:=by rw[a0v];have:=List.count_le_length (a:=(32:UInt8)) (l:=s);omega
 have hW0:0<(a00 32 s).length:=by rw[a0v];omega
 have hle:(s.length:Int)≤4096:=by omega
 have hmt:=λd H e=>a1b (d:=d) H e;obtain⟨rr,⟨R,hRl,hRt,hRf,rfl⟩,hd⟩:=a4z (a00 32 s).length (a00 32 s) rfl hW0 hWl;have hmle:=a2o (a00 32 s);have hsp:a0j L.env false (sem L.env Mf) (.func (.func 23) [] []) [.str s,.str [32]] [some o0,some o1,some o2]=some (.slice 3 0 (a00 32 s).length (some (a00 32 s).length),[some o0,some o1,some o2,some (.row 1 (sR (a00 32 s)))],[]):=a1u [some o0,some o1,some o2] s 32 (by omega);have hdf:a0j L.env false (sem L.env Mf) (.func (.func 63) [] []) [.slice 3 0 (a00 32 s).length (some (a00 32 s).length),.func (.func 64) [] []] [some o0,some o1,some o2,some (.row 1 (sR (a00 32 s)))]=some (.slice 3 0 (a38 (a00 32 s)).length (some (a00 32 s).length),[some o0,some o1,some o2,some (.row 1 R)],[3]):=a14 (by kernel_rfl) (by kernel_rfl) rfl (b:=3) (o:=.row 1 (sR (a00 32 s))) (o':=.row 1 R) rfl (a0r (a10 _)) (FlatO.row (a10 _)) rfl rfl hd (FlatO.row hRf) rfl;rw[hws]at hdf hRt hmle;have hR0:R[0]?=some [.str [116,105,109,105,110,103]]:=sR0 hRt rfl;simp only[List.length_cons]at hdf hmle hRt;have hco:=hcan R hRl hRt hRf hmle;have hfin:RdAt [some o0,some o1,some o2,some (.row 1 R),some (.map [.str a1z,.str a2j,.str a3v] [fS,fT,fV] [0,1,2] 3)] 0 r:=hR.ext (a27 [some o0,some o1,some o2] [some (.row 1 R),some (.map [.str a1z,.str a2j,.str a3v] [fS,fT,fV] [0,1,2] 3)]);obtain⟨H',σ,hcl,hR'⟩:=a4v [some o0,some o1,some o2,some (.row 1 R),some (.map [.str a1z,.str a2j,.str a3v] [fS,fT,fV] [0,1,2] 3)] 0 3 66 (tl.length+1) (some (a00 32 s).length) R r r' (by kernel_rfl) (by kernel_rfl) hRf hfin rfl hco;generalize hk:tl.length+1=m at *;have m0:0<m:=by omega
 have m1:¬(m:Int)=0:=by omega
 generalize(a00 32 s).length=nW at *;generalize sR (a00 32 s)=RW at *;have m2:0<nW:=by omega
 have t1:a0m L.env (a04 [some o0,some o1,some o2,some (.row 1 R),some (.map [] [] [] 0)]) 114 (.map 4) (.str [115,105,103,110,97,108]) (.func (.func 65) [.ptr 0 0 0] [])=some (.set 4 (.map [.str a1z] [fS] [0] 1)):=by kernel_rfl
 have t2:a0m L.env (a04 [some o0,some o1,some o2,some (.row 1 R),some (.map [.str a1z] [fS] [0] 1)]) 114 (.map 4) (.str [116,105,109,105,110,103]) (.func (.func 66) [.ptr 0 0 0] [])=some (.set 4 (.map [.str a1z,.str a2j] [fS,fT] [0,1] 2)):=by kernel_rfl
 have t3:a0m L.env (a04 [some o0,some o1,some o2,some (.row 1 R),some (.map [.str a1z,.str a2j] [fS,fT] [0,1] 2)]) 114 (.map 4) (.str [118,101,99,116,111,114]) (.func (.func 67) [.ptr 0 0 0] [])=some (.set 4 (.map [.str a1z,.str a2j,.str a3v] [fS,fT,fV] [0,1,2] 3)):=by kernel_rfl
 have t4:a2t L.env (a04 [some o0,some o1,some o2,some (.row 1 R),some (.map [.str a1z,.str a2j,.str a3v] [fS,fT,fV] [0,1,2] 3)]) 114 (.map 4) (.str [116,105,109,105,110,103]) true=some (.tuple [.func (.func 66) [.ptr 0 0 0] [],.bool true]):=by kernel_rfl
 (refine svE Tryz.f41 ?_;simp only[Tryz.f41,gS])
 (repeat first|simp only[ww]|(apply xa;simp+decide only[go_sem,hmt,hle,hsp,hdf,m0,m1,m2,hR0,hRl,List.getElem?_cons_zero,t1,t2,t3,t4,hcl];rfl;kernel_rfl))
 (apply a2v;(·simp+decide only[go_sem]<;>rfl))
 exact⟨_,rfl,hR'⟩
theorem c51(o0 o1 o2:AObj)(r r':Rd)(s:List UInt8)(hl:s.length≤4096)(hR:RdAt [some o0,some o1,some o2] 0 r)(tl:List (List UInt8))(hws:a38 (a00 32 s)=[118,101,99,116,111,114]::tl)(hcan:∀R,R.length=(a00 32 s).length→R.take (tl.length+1)=sR ([118,101,99,116,111,114]::tl)→FlatR R→tl.length+1≤(a00 32 s).length→a6g 67 (tl.length+1) (some (a00 32 s).length) R r r'):∃q:AV×a08,(∃H1,q=(.tuple [],H1)∧RdAt H1 0 r')∧sem L.env Mf 41 [.ptr 0 0 0,.str s] [some o0,some o1,some o2]=some q:=by
 have hWl:(a00 32 s).length≤2000000:=by rw[a0v];have:=List.count_le_length (a:=(32:UInt8)) (l:=s);omega
 have hW0:0<(a00 32 s).length:=by rw[a0v];omega
 have hle:(s.length:Int)≤4096:=by omega
 have hmt:=λd H e=>a1b (d:=d) H e;obtain⟨rr,⟨R,hRl,hRt,hRf,rfl⟩,hd⟩:=a4z (a00 32 s).length (a00 32 s) rfl hW0 hWl;have hmle:=a2o (a00 32 s);have hsp:a0j L.env false (sem L.env Mf) (.func (.func 23) [] []) [.str s,.str [32]] [some o0,some o1,some o2]=some (.slice 3 0 (a00 32 s).length (some (a00 32 s).length),[some o0,some o1,some o2,some (.row 1 (sR (a00 32 s)))],[]):=a1u [some o0,some o1,some o2] s 32 (by omega);have hdf:a0j L.env false (sem L.env Mf) (.func (.func 63) [] []) [.slice 3 0 (a00 32 s).length (some (a00 32 s).length),.func (.func 64) [] []] [some o0,some o1,some o2,some (.row 1 (sR (a00 32 s)))]=some (.slice 3 0 (a38 (a00 32 s)).length (some (a00 32 s).length),[some o0,some o1,some o2,some (.row 1 R)],[3]):=a14 (by kernel_rfl) (by kernel_rfl) rfl (b:=3) (o:=.row 1 (sR (a00 32 s))) (o':=.row 1 R) rfl (a0r (a10 _)) (FlatO.row (a10 _)) rfl rfl hd (FlatO.row hRf) rfl;rw[hws]at hdf hRt hmle;have hR0:R[0]?=some [.str [118,101,99,116,111,114]]:=sR0 hRt rfl;simp only[List.length_cons]at hdf hmle hRt;have hco:=hcan R hRl hRt hRf hmle;have hfin:RdAt [some o0,some o1,some o2,some (.row 1 R),some (.map [.str a1z,.str a2j,.str a3v] [fS,fT,fV] [0,1,2] 3)] 0 r:=hR.ext (a27 [some o0,some o1,some o2] [some (.row 1 R),some (.map [.str a1z,.str a2j,.str a3v] [fS,fT,fV] [0,1,2] 3)]);obtain⟨H',σ,hcl,hR'⟩:=a4v [some o0,some o1,some o2,some (.row 1 R),some (.map [.str a1z,.str a2j,.str a3v] [fS,fT,fV] [0,1,2] 3)] 0 3 67 (tl.length+1) (some (a00 32 s).length) R r r' (by kernel_rfl) (by kernel_rfl) hRf hfin rfl hco;generalize hk:tl.length+1=m at *;have m0:0<m:=by omega
 have m1:¬(m:Int)=0:=by omega
 generalize(a00 32 s).length=nW at *;generalize sR (a00 32 s)=RW at *;have m2:0<nW:=by omega
 have t1:a0m L.env (a04 [some o0,some o1,some o2,some (.row 1 R),some (.map [] [] [] 0)]) 114 (.map 4) (.str [115,105,103,110,97,108]) (.func (.func 65) [.ptr 0 0 0] [])=some (.set 4 (.map [.str a1z] [fS] [0] 1)):=by kernel_rfl
 have t2:a0m L.env (a04 [some o0,some o1,some o2,some (.row 1 R),some (.map [.str a1z] [fS] [0] 1)]) 114 (.map 4) (.str [116,105,109,105,110,103]) (.func (.func 66) [.ptr 0 0 0] [])=some (.set 4 (.map [.str a1z,.str a2j] [fS,fT] [0,1] 2)):=by kernel_rfl
 have t3:a0m L.env (a04 [some o0,some o1,some o2,some (.row 1 R),some (.map [.str a1z,.str a2j] [fS,fT] [0,1] 2)]) 114 (.map 4) (.str [118,101,99,116,111,114]) (.func (.func 67) [.ptr 0 0 0] [])=some (.set 4 (.map [.str a1z,.str a2j,.str a3v] [fS,fT,fV] [0,1,2] 3)):=by kernel_rfl
 have t4:a2t L.env (a04 [some o0,some o1,some o2,some (.row 1 R),some (.map [.str a1z,.str a2j,.str a3v] [fS,fT,fV] [0,1,2] 3)]) 114 (.map 4) (.str [118,101,99,116,111,114]) true=some (.tuple [.func (.func 67) [.ptr 0 0 0] [],.bool true]):=by kernel_rfl
 (refine svE Tryz.f41 ?_;simp only[Tryz.f41,gS])
 (repeat first|simp only[ww]|(apply xa;simp+decide only[go_sem,hmt,hle,hsp,hdf,m0,m1,m2,hR0,hRl,List.getElem?_cons_zero,t1,t2,t3,t4,hcl];rfl;kernel_rfl))
 (apply a2v;(·simp+decide only[go_sem]<;>rfl))
 exact⟨_,rfl,hR'⟩
theorem c2g(o0 o1 o2 o3:AObj)(r:Rd)(s:List UInt8)(hl:s.length≤4096)(hR:RdAt [some o0,some o1,some o2,some o3] 0 r)(hws:a38 (a00 32 s)=[]∨∃a tl,a38 (a00 32 s)=(35::a)::tl):∃q:AV×a08,(∃H1,q=(.tuple [],H1)∧RdAt H1 0 r)∧sem L.env Mf 41 [.ptr 0 0 0,.str s] [some o0,some o1,some o2,some o3]=some q:=by
 have hWl:(a00 32 s).length≤2000000:=by rw[a0v];have:=List.count_le_length (a:=(32:UInt8)) (l:=s);omega
 have hW0:0<(a00 32 s).length:=by rw[a0v];omega
 have hle:(s.length:Int)≤4096:=by omega
 have hmt:=λd H e=>a1b (d:=d) H e;obtain⟨rr,⟨R,hRl,hRt,hRf,rfl⟩,hd⟩:=a4z (a00 32 s).length (a00 32 s) rfl hW0 hWl;have hmle:=a2o (a00 32 s);have hsp:a0j L.env false (sem L.env Mf) (.func (.func 23) [] []) [.str s,.str [32]] [some o0,some o1,some o2,some o3]=some (.slice 4 0 (a00 32 s).length (some (a00 32 s).length),[some o0,some o1,some o2,some o3,some (.row 1 (sR (a00 32 s)))],[]):=a1u [some o0,some o1,some o2,some o3] s 32 (by omega);have hdf:a0j L.env false (sem L.env Mf) (.func (.func 63) [] []) [.slice 4 0 (a00 32 s).length (some (a00 32 s).length),.func (.func 64) [] []] [some o0,some o1,some o2,some o3,some (.row 1 (sR (a00 32 s)))]=some (.slice 4 0 (a38 (a00 32 s)).length (some (a00 32 s).length),[some o0,some o1,some o2,some o3,some (.row 1 R)],[4]):=a14 (by kernel_rfl) (by kernel_rfl) rfl (b:=4) (o:=.row 1 (sR (a00 32 s))) (o':=.row 1 R) rfl (a0r (a10 _)) (FlatO.row (a10 _)) rfl rfl hd (FlatO.row hRf) rfl;have hfin:RdAt [some o0,some o1,some o2,some o3,some (.row 1 R)] 0 r:=hR.ext (a27 [some o0,some o1,some o2,some o3] [some (.row 1 R)]);rcases hws with hws|⟨a,tl,hws⟩
 ·rw[hws]at hdf hRt hmle;simp only[List.length_nil]at hdf hmle;generalize(a00 32 s).length=nW at *;generalize sR (a00 32 s)=RW at *
  (refine svE Tryz.f41 ?_;simp only[Tryz.f41,gS])
  (repeat first|simp only[ww]|(apply xa;simp+decide only[go_sem,hmt,hle,hsp,hdf];rfl;kernel_rfl))
  (apply a2v;(·simp+decide only[go_sem]<;>rfl))
  exact⟨_,rfl,hfin⟩
 ·rw[hws]at hdf hRt hmle;have hR0:R[0]?=some [.str (35::a)]:=sR0 hRt rfl;simp only[List.length_cons]at hdf hmle;generalize hk:tl.length+1=m at *;have m0:0<m:=by omega
  have m1:¬(m:Int)=0:=by omega
  generalize(a00 32 s).length=nW at *;generalize sR (a00 32 s)=RW at *;have m2:0<nW:=by omega
  have m3:0<a.length+1:=by omega
  (refine svE Tryz.f41 ?_;simp only[Tryz.f41,gS])
  (repeat first|simp only[ww]|(apply xa;simp+decide only[go_sem,hmt,hle,hsp,hdf,m0,m1,m2,m3,hR0,hRl,List.getElem?_cons_zero,List.length_cons];rfl;kernel_rfl))
  (apply a2v;(·simp+decide only[go_sem]<;>rfl))
  exact⟨_,rfl,hfin⟩
theorem c50(o0 o1 o2 o3:AObj)(r r':Rd)(s:List UInt8)(hl:s.length≤4096)(hR:RdAt [some o0,some o1,some o2,some o3] 0 r)(tl:List (List UInt8))(hws:a38 (a00 32 s)=[115,105,103,110,97,108]::tl)(hcan:∀R,R.length=(a00 32 s).length→R.take (tl.length+1)=sR ([115,105,103,110,97,108]::tl)→FlatR R→tl.length+1≤(a00 32 s).length→a6g 65 (tl.length+1) (some (a00 32 s).length) R r r'):∃q:AV×a08,(∃H1,q=(.tuple [],H1)∧RdAt H1 0 r')∧sem L.env Mf 41 [.ptr 0 0 0,.str s] [some o0,some o1,some o2,some o3]=some q:=by
 have hWl:(a00 32 s).length≤2000000:=by rw[a0v];have:=List.count_le_length (a:=(32:UInt8)) (l:=s);omega
 have hW0:0<(a00 32 s).length:=by rw[a0v];omega
 have hle:(s.length:Int)≤4096:=by omega
 have hmt:=λd H e=>a1b (d:=d) H e;obtain⟨rr,⟨R,hRl,hRt,hRf,rfl⟩,hd⟩:=a4z (a00 32 s).length (a00 32 s) rfl hW0 hWl;have hmle:=a2o (a00 32 s);have hsp:a0j L.env false (sem L.env Mf) (.func (.func 23) [] []) [.str s,.str [32]] [some o0,some o1,some o2,some o3]=some (.slice 4 0 (a00 32 s).length (some (a00 32 s).length),[some o0,some o1,some o2,some o3,some (.row 1 (sR (a00 32 s)))],[]):=a1u [some o0,some o1,some o2,some o3] s 32 (by omega);have hdf:a0j L.env false (sem L.env Mf) (.func (.func 63) [] []) [.slice 4 0 (a00 32 s).length (some (a00 32 s).length),.func (.func 64) [] []] [some o0,some o1,some o2,some o3,some (.row 1 (sR (a00 32 s)))]=some (.slice 4 0 (a38 (a00 32 s)).length (some (a00 32 s).length),[some o0,some o1,some o2,some o3,some (.row 1 R)],[4]):=a14 (by kernel_rfl) (by kernel_rfl) rfl (b:=4) (o:=.row 1 (sR (a00 32 s))) (o':=.row 1 R) rfl (a0r (a10 _)) (FlatO.row (a10 _)) rfl rfl hd (FlatO.row hRf) rfl;rw[hws]at hdf hRt hmle;have hR0:R[0]?=some [.str [115,105,103,110,97,108]]:=sR0 hRt rfl;simp only[List.length_cons]at hdf hmle hRt;have hco:=hcan R hRl hRt hRf hmle;have hfin:RdAt [some o0,some o1,some o2,some o3,some (.row 1 R),some (.map [.str a1z,.str a2j,.str a3v] [fS,fT,fV] [0,1,2] 3)] 0 r:=hR.ext (a27 [some o0,some o1,some o2,some o3] [some (.row 1 R),some (.map [.str a1z,.str a2j,.str a3v] [fS,fT,fV] [0,1,2] 3)]);obtain⟨H',σ,hcl,hR'⟩:=a4v [some o0,some o1,some o2,some o3,some (.row 1 R),some (.map [.str a1z,.str a2j,.str a3v] [fS,fT,fV] [0,1,2] 3)] 0 4 65 (tl.length+1) (some (a00 32 s).length) R r r' (by kernel_rfl) (by kernel_rfl) hRf hfin rfl hco;generalize hk:tl.length+1=m at *;have m0:0<m:=by omega
 have m1:¬(m:Int)=0:=by omega
 generalize(a00 32 s).length=nW at *;generalize sR (a00 32 s)=RW at *;have m2:0<nW:=by omega
 have t1:a0m L.env (a04 [some o0,some o1,some o2,some o3,some (.row 1 R),some (.map [] [] [] 0)]) 114 (.map 5) (.str [115,105,103,110,97,108]) (.func (.func 65) [.ptr 0 0 0] [])=some (.set 5 (.map [.str a1z] [fS] [0] 1)):=by kernel_rfl
 have t2:a0m L.env (a04 [some o0,some o1,some o2,some o3,some (.row 1 R),some (.map [.str a1z] [fS] [0] 1)]) 114 (.map 5) (.str [116,105,109,105,110,103]) (.func (.func 66) [.ptr 0 0 0] [])=some (.set 5 (.map [.str a1z,.str a2j] [fS,fT] [0,1] 2)):=by kernel_rfl
 have t3:a0m L.env (a04 [some o0,some o1,some o2,some o3,some (.row 1 R),some (.map [.str a1z,.str a2j] [fS,fT] [0,1] 2)]) 114 (.map 5) (.str [118,101,99,116,111,114]) (.func (.func 67) [.ptr 0 0 0] [])=some (.set 5 (.map [.str a1z,.str a2j,.str a3v] [fS,fT,fV] [0,1,2] 3)):=by kernel_rfl
 have t4:a2t L.env (a04 [some o0,some o1,some o2,some o3,some (.row 1 R),some (.map [.str a1z,.str a2j,.str a3v] [fS,fT,fV] [0,1,2] 3)]) 114 (.map 5) (.str [115,105,103,110,97,108]) true=some (.tuple [.func (.func 65) [.ptr 0 0 0] [],.bool true]):=by kernel_rfl
 (refine svE Tryz.f41 ?_;simp only[Tryz.f41,gS])
 (repeat first|simp only[ww]|(apply xa;simp+decide only[go_sem,hmt,hle,hsp,hdf,m0,m1,m2,hR0,hRl,List.getElem?_cons_zero,t1,t2,t3,t4,hcl];rfl;kernel_rfl))
 (apply a2v;(·simp+decide only[go_sem]<;>rfl))
 exact⟨_,rfl,hR'⟩
theorem c4z(o0 o1 o2 o3:AObj)(r r':Rd)(s:List UInt8)(hl:s.length≤4096)(hR:RdAt [some o0,some o1,some o2,some o3] 0 r)(tl:List (List UInt8))(hws:a38 (a00 32 s)=[116,105,109,105,110,103]::tl)(hcan:∀R,R.length=(a00 32 s).length→R.take (tl.length+1)=sR ([116,105,109,105,110,103]::tl)→FlatR R→tl.length+1≤(a00 32 s).length→a6g 66 (tl.length+1) (some (a00 32 s).length) R r r'):∃q:AV×a08,(∃H1,q=(.tuple [],H1)∧RdAt H1 0 r')∧sem L.env Mf 41 [.ptr 0 0 0,.str s] [some o0,some o1,some o2,some o3]=some q:=by
 have hWl:(a00 32 s).length≤2000000:=by rw[a0v];have:=List.count_le_length (a:=(32:UInt8)) (l:=s);omega
 have hW0:0<(a00 32 s).length:=by rw[a0v];omega
 have hle:(s.length:Int)≤4096:=by omega
 have hmt:=λd H e=>a1b (d:=d) H e;obtain⟨rr,⟨R,hRl,hRt,hRf,rfl⟩,hd⟩:=a4z (a00 32 s).length (a00 32 s) rfl hW0 hWl;have hmle:=a2o (a00 32 s);have hsp:a0j L.env false (sem L.env Mf) (.func (.func 23) [] []) [.str s,.str [32]] [some o0,some o1,some o2,some o3]=some (.slice 4 0 (a00 32 s).length (some (a00 32 s).length),[some o0,some o1,some o2,some o3,some (.row 1 (sR (a00 32 s)))],[]):=a1u [some o0,some o1,some o2,some o3] s 32 (by omega);have hdf:a0j L.env false (sem L.env Mf) (.func (.func 63) [] []) [.slice 4 0 (a00 32 s).length (some (a00 32 s).length),.func (.func 64) [] []] [some o0,some o1,some o2,some o3,some (.row 1 (sR (a00 32 s)))]=some (.slice 4 0 (a38 (a00 32 s)).length (some (a00 32 s).length),[some o0,some o1,some o2,some o3,some (.row 1 R)],[4]):=a14 (by kernel_rfl) (by kernel_rfl) rfl (b:=4) (o:=.row 1 (sR (a00 32 s))) (o':=.row 1 R) rfl (a0r (a10 _)) (FlatO.row (a10 _)) rfl rfl hd (FlatO.row hRf) rfl;rw[hws]at hdf hRt hmle;have hR0:R[0]?=some [.str [116,105,109,105,110,103]]:=sR0 hRt rfl;simp only[List.length_cons]at hdf hmle hRt;have hco:=hcan R hRl hRt hRf hmle;have hfin:RdAt [some o0,some o1,some o2,some o3,some (.row 1 R),some (.map [.str a1z,.str a2j,.str a3v] [fS,fT,fV] [0,1,2] 3)] 0 r:=hR.ext (a27 [some o0,some o1,some o2,some o3] [some (.row 1 R),some (.map [.str a1z,.str a2j,.str a3v] [fS,fT,fV] [0,1,2] 3)]);obtain⟨H',σ,hcl,hR'⟩:=a4v [some o0,some o1,some o2,some o3,some (.row 1 R),some (.map [.str a1z,.str a2j,.str a3v] [fS,fT,fV] [0,1,2] 3)] 0 4 66 (tl.length+1) (some (a00 32 s).length) R r r' (by kernel_rfl) (by kernel_rfl) hRf hfin rfl hco;generalize hk:tl.length+1=m at *;have m0:0<m:=by omega
 have m1:¬(m:Int)=0:=by omega
 generalize(a00 32 s).length=nW at *;generalize sR (a00 32 s)=RW at *;have m2:0<nW:=by omega
 have t1:a0m L.env (a04 [some o0,some o1,some o2,some o3,some (.row 1 R),some (.map [] [] [] 0)]) 114 (.map 5) (.str [115,105,103,110,97,108]) (.func (.func 65) [.ptr 0 0 0] [])=some (.set 5 (.map [.str a1z] [fS] [0] 1)):=by kernel_rfl
 have t2:a0m L.env (a04 [some o0,some o1,some o2,some o3,some (.row 1 R),some (.map [.str a1z] [fS] [0] 1)]) 114 (.map 5) (.str [116,105,109,105,110,103]) (.func (.func 66) [.ptr 0 0 0] [])=some (.set 5 (.map [.str a1z,.str a2j] [fS,fT] [0,1] 2)):=by kernel_rfl
 have t3:a0m L.env (a04 [some o0,some o1,some o2,some o3,some (.row 1 R),some (.map [.str a1z,.str a2j] [fS,fT] [0,1] 2)]) 114 (.map 5) (.str [118,101,99,116,111,114]) (.func (.func 67) [.ptr 0 0 0] [])=some (.set 5 (.map [.str a1z,.str a2j,.str a3v] [fS,fT,fV] [0,1,2] 3)):=by kernel_rfl
 have t4:a2t L.env (a04 [some o0,some o1,some o2,some o3,some (.row 1 R),some (.map [.str a1z,.str a2j,.str a3v] [fS,fT,fV] [0,1,2] 3)]) 114 (.map 5) (.str [116,105,109,105,110,103]) true=some (.tuple [.func (.func 66) [.ptr 0 0 0] [],.bool true]):=by kernel_rfl
 (refine svE Tryz.f41 ?_;simp only[Tryz.f41,gS])
 (repeat first|simp only[ww]|(apply xa;simp+decide only[go_sem,hmt,hle,hsp,hdf,m0,m1,m2,hR0,hRl,List.getElem?_cons_zero,t1,t2,t3,t4,hcl];rfl;kernel_rfl))
 (apply a2v;(·simp+decide only[go_sem]<;>rfl))
 exact⟨_,rfl,hR'⟩
theorem c4y(o0 o1 o2 o3:AObj)(r r':Rd)(s:List UInt8)(hl:s.length≤4096)(hR:RdAt [some o0,some o1,some o2,some o3] 0 r)(tl:List (List UInt8))(hws:a38 (a00 32 s)=[118,101,99,116,111,114]::tl)(hcan:∀R,R.length=(a00 32 s).length→R.take (tl.length+1)=sR ([118,101,99,116,111,114]::tl)→FlatR R→tl.length+1≤(a00 32 s).length→a6g 67 (tl.length+1) (some (a00 32 s).length) R r r'):∃q:AV×a08,(∃H1,q=(.tuple [],H1)∧RdAt H1 0 r')∧sem L.env Mf 41 [.ptr 0 0 0,.str s] [some o0,some o1,some o2,some o3]=some q:=by
 have hWl:(a00 32 s).length≤2000000:=by rw[a0v];have:=List.count_le_length (a:=(32:UInt8)) (l:=s);omega
 have hW0:0<(a00 32 s).length:=by rw[a0v];omega
 have hle:(s.length:Int)≤4096:=by omega
 have hmt:=λd H e=>a1b (d:=d) H e;obtain⟨rr,⟨R,hRl,hRt,hRf,rfl⟩,hd⟩:=a4z (a00 32 s).length (a00 32 s) rfl hW0 hWl;have hmle:=a2o (a00 32 s);have hsp:a0j L.env false (sem L.env Mf) (.func (.func 23) [] []) [.str s,.str [32]] [some o0,some o1,some o2,some o3]=some (.slice 4 0 (a00 32 s).length (some (a00 32 s).length),[some o0,some o1,some o2,some o3,some (.row 1 (sR (a00 32 s)))],[]):=a1u [some o0,some o1,some o2,some o3] s 32 (by omega);have hdf:a0j L.env false (sem L.env Mf) (.func (.func 63) [] []) [.slice 4 0 (a00 32 s).length (some (a00 32 s).length),.func (.func 64) [] []] [some o0,some o1,some o2,some o3,some (.row 1 (sR (a00 32 s)))]=some (.slice 4 0 (a38 (a00 32 s)).length (some (a00 32 s).length),[some o0,some o1,some o2,some o3,some (.row 1 R)],[4]):=a14 (by kernel_rfl) (by kernel_rfl) rfl (b:=4) (o:=.row 1 (sR (a00 32 s))) (o':=.row 1 R) rfl (a0r (a10 _)) (FlatO.row (a10 _)) rfl rfl hd (FlatO.row hRf) rfl;rw[hws]at hdf hRt hmle;have hR0:R[0]?=some [.str [118,101,99,116,111,114]]:=sR0 hRt rfl;simp only[List.length_cons]at hdf hmle hRt;have hco:=hcan R hRl hRt hRf hmle;have hfin:RdAt [some o0,some o1,some o2,some o3,some (.row 1 R),some (.map [.str a1z,.str a2j,.str a3v] [fS,fT,fV] [0,1,2] 3)] 0 r:=hR.ext (a27 [some o0,some o1,some o2,some o3] [some (.row 1 R),some (.map [.str a1z,.str a2j,.str a3v] [fS,fT,fV] [0,1,2] 3)]);obtain⟨H',σ,hcl,hR'⟩:=a4v [some o0,some o1,some o2,some o3,some (.row 1 R),some (.map [.str a1z,.str a2j,.str a3v] [fS,fT,fV] [0,1,2] 3)] 0 4 67 (tl.length+1) (some (a00 32 s).length) R r r' (by kernel_rfl) (by kernel_rfl) hRf hfin rfl hco;generalize hk:tl.length+1=m at *;have m0:0<m:=by omega
 have m1:¬(m:Int)=0:=by omega
 generalize(a00 32 s).length=nW at *;generalize sR (a00 32 s)=RW at *;have m2:0<nW:=by omega
 have t1:a0m L.env (a04 [some o0,some o1,some o2,some o3,some (.row 1 R),some (.map [] [] [] 0)]) 114 (.map 5) (.str [115,105,103,110,97,108]) (.func (.func 65) [.ptr 0 0 0] [])=some (.set 5 (.map [.str a1z] [fS] [0] 1)):=by kernel_rfl
 have t2:a0m L.env (a04 [some o0,some o1,some o2,some o3,some (.row 1 R),some (.map [.str a1z] [fS] [0] 1)]) 114 (.map 5) (.str [116,105,109,105,110,103]) (.func (.func 66) [.ptr 0 0 0] [])=some (.set 5 (.map [.str a1z,.str a2j] [fS,fT] [0,1] 2)):=by kernel_rfl
 have t3:a0m L.env (a04 [some o0,some o1,some o2,some o3,some (.row 1 R),some (.map [.str a1z,.str a2j] [fS,fT] [0,1] 2)]) 114 (.map 5) (.str [118,101,99,116,111,114]) (.func (.func 67) [.ptr 0 0 0] [])=some (.set 5 (.map [.str a1z,.str a2j,.str a3v] [fS,fT,fV] [0,1,2] 3)):=by kernel_rfl
 have t4:a2t L.env (a04 [some o0,some o1,some o2,some o3,some (.row 1 R),some (.map [.str a1z,.str a2j,.str a3v] [fS,fT,fV] [0,1,2] 3)]) 114 (.map 5) (.str [118,101,99,116,111,114]) true=some (.tuple [.func (.func 67) [.ptr 0 0 0] [],.bool true]):=by kernel_rfl
 (refine svE Tryz.f41 ?_;simp only[Tryz.f41,gS])
 (repeat first|simp only[ww]|(apply xa;simp+decide only[go_sem,hmt,hle,hsp,hdf,m0,m1,m2,hR0,hRl,List.getElem?_cons_zero,t1,t2,t3,t4,hcl];rfl;kernel_rfl))
 (apply a2v;(·simp+decide only[go_sem]<;>rfl))
 exact⟨_,rfl,hR'⟩
end Go.RInst
namespace Go.RInst
open Go.Proofs Go.Ax Go.Pc
variable [PR]
set_option maxRecDepth 100000
/- the deferred closure where nothing panics -/
theorem d2a(c0 c1 c2:Value)(cf:Frame)(cs:List Frame)(w:World)(hu:cf.mode = .returning){Q:Exit→Act→List Frame→World→Prop}
 (hQ:∀t:Array Value,t.size=15→t.getD 4 undef = .bool false→Q .normal ⟨t,[]⟩ (cf::cs) w) :
 (match(Tryz.f40.body.getD .skip)with|.seq a b=>a|c=>c).wpSIn Fence.wide 0 Tryz.prog Q { tmps:=#[c0,c1,c2]++Array.replicate 12 undef,defers:=[] } (cf::cs) w:=by
 simp only[Tryz.f40,gS];refine wpSIn_region ?_;simp[wpOpsSIn,go_sem,recoverD,hu,d4t];exact hQ _ (by simp) (by kernel_rfl)
theorem d7a(hdr:DrOk L.env){I K:Nat→Prop}{ρ:PMap}{w:World}{H:a08}(r:HRel L.env.G I K ρ (a04 H) w)(hn:NRel ρ H.length){c0 c1 c2:Value} :
 CallsDIn Fence.wide 0 Tryz.prog 40 #[c0,c1,c2] .returning w λen u' w'=>en = .returned (.tuple #[])∧u' = .returning∧
  ∃I' ρ',(∀c,I c→I' c)∧(∀b,b<H.length→ρ' b=ρ b)∧Ext I K w w'∧HRel L.env.G I' K ρ' (a04 H) w'∧NRel ρ' H.length:=by
 have hfn:L.env.fn 40=some ⟨Tryz.f40.body.getD .skip,15,[]⟩:=by kernel_rfl
 refine callsDIn_of_wpSIn (fn:=Tryz.f40) (c:=Tryz.f40.body.getD .skip) (by kernel_rfl) rfl trivial ?_;intro cf cs hu;have hreg:=λQ=>d2a (Q:=Q) c0 c1 c2 cf cs w hu;simp only[Tryz.f40,gS]at hreg⊢;refine wpSIn_seq (hreg _ ?_);intro t hsz g4;refine wpSIn_of_wpIn rfl ?_
 let ent:Entry:=⟨I,K,ρ,H.length,w,[]⟩
 have hnow:Now L.env ent 15 [(4,.bool false)] H I ρ ⟨t,[]⟩ w:=by
  refine⟨λ_ h=>h,λ_ _=>rfl,Ext.refl _ _ _,r,hn,⟨hsz,λs=>?_⟩,Nat.le_refl _,Marks.nil⟩;simp only[a2k];by_cases e4:s=4
  ·subst e4;show VRel I w ρ (.bool false) _;rw[g4];simp[VRel]
  have hj:∀k,k≠s→Nat.beq k s=false:=λk hk=>by rw[←Bool.not_eq_true,Nat.beq_eq];exact hk
  simp only[hj 4 (Ne.symm e4),cond_false];simp[VRel]
 refine wpIn_seq (b6m ok hdr noF (ro:=none) (F1:=(10,.bool false)::_) (by simp[b0o]) (by simp+decide only[go_sem];rfl) hnow ?_);intro I1 ρ1 a1 w1 hn1 hd1;show Code.wpIn _ _ _ _ _ _ _;have h10:VRel I1 w1 ρ1 (.bool false) (a1.tmps.getD 10 undef):=hn1.frm.2 10;simp only[VRel]at h10;refine wpIn_cond_false h10 (wpIn_skip ?_);refine⟨hd1,_,rfl,.tuple #[],by simp[results],rfl,hu,I1,ρ1,hn1.imm,hn1.map,hn1.ext,hn1.rel,hn1.nrel⟩
theorem c4g(hdr:DrOk L.env)(s:List UInt8)(hl:s.length≤1048576)(v:AV)
 (hrest:Wp (cx L.env Mf 3 49 19 0) b55 (rdF s) [clO,some (.row 2 [[.int .i64 0,.int .i64 0]]),clN 0] (λex F H=>ex = .ret∧a2k F 2 = .ptr 0 0 0∧a2k F 3 = .ptr 1 0 0∧∃vs,a1m L.env [(2,.ptr 0 0 0),(3,.ptr 1 0 0)] H [.cell 2 29,.cell 3 56]=some vs∧a5s false 0 (a7q vs) H=some (v,[])))
 {I K:Nat→Prop}{ρ:PMap}{w:World}{cargs:List Value}(rel:HRel L.env.G I K ρ (a04 []) w)(hn:NRel ρ 0)(ha:VRels I w ρ [.str s] cargs) :
 XOf L.env 19 cargs w λen w'=>∃c I' ρ',en = .returned c∧Ret L.env I K ρ 0 w I' ρ' [] w'∧VRel I' w' ρ' v c:=by
 have hfn:L.env.fn 19=some ⟨Tryz.f19.body.getD .skip,49,[.cell 2 29,.cell 3 56]⟩:=by kernel_rfl
 have hcd:a1r false (Tryz.f19.body.getD .skip)=true:=hdr.draws _ _ hfn;have hrf:=hdr.code hfn;rw[a3m (b4k ok hfn)];refine callsIn_wide.1 (callsIn_of_wp_marks (F:=Fence.wide) (n:=0) (fn:=Tryz.f19) (c:=Tryz.f19.body.getD .skip) (by kernel_rfl) rfl trivial ?_)
 let e0:Entry:=⟨I,K,ρ,0,w,[]⟩
 have hnow:Now L.env e0 49 (a3l 0 [.str s]) [] I ρ { tmps:=cargs.toArray++Array.replicate (49-cargs.toArray.size) undef,defers:=[] } w:=⟨λ_ h=>h,λ_ _=>rfl,Ext.refl _ _ _,rel,hn,a9v (by simp) ha,Nat.le_refl _,Marks.nil⟩
 have c1:¬(1048576:Int)<s.length:=by omega
 simp only[Tryz.f19,gS]at hcd hrf⊢;refine gos ok hdr noF (ro:=none) (e:=e0) (m:=0) rfl hcd hrf ?_ hnow
 (repeat first|simp only[ww]|(apply xa;simp+decide only[go_sem];rfl;kernel_rfl))
 refine d3v ?_;intro I1 ρ1 a1 w1 hn1;refine gos ok hdr noF (ro:=none) (e:=e0) (m:=0) rfl (ds2 hcd) hrf.seq2 ?_ hn1
 (repeat first|simp only[ww]|(apply xa;simp+decide only[go_sem,c1];rfl;kernel_rfl))
 refine d3v ?_;intro I2 ρ2 a2 w2 hn2;refine gos ok hdr noF (ro:=none) (e:=e0) (m:=0) rfl (ds2 (ds2 hcd)) hrf.seq2.seq2 ?_ hn2
 (repeat first|simp only[ww]|(apply xa;simp+decide only[go_sem];rfl;kernel_rfl))
 refine d3v ?_;intro I3 ρ3 a3 w3 hn3;refine wpIn_seq (c5t ok hdr noF rfl rfl rfl rfl rfl rfl (by rfl) hn3 ?_);intro I4 ρ4 a4 w4 cs hn4 hcs;show Code.wpIn _ _ _ _ _ _ _
 let e1:Entry:=⟨I4,K,ρ4,3,w4,⟨.fn (.func 40) cs.toArray,#[]⟩::a4.defers⟩
 have hnow1:Now L.env e1 49 (rdF s) [clO,some (.row 2 [[.int .i64 0,.int .i64 0]]),clN 0] I4 ρ4 { a4 with defers:=⟨.fn (.func 40) cs.toArray,#[]⟩::a4.defers } w4:=⟨λ_ h=>h,λ_ _=>rfl,Ext.refl _ _ _,hn4.rel,hn4.nrel,hn4.frm,Nat.le_refl _,Marks.nil⟩
 obtain⟨ex,F5,H5,⟨n0,hev⟩,rfl,f2,f3,vs,hvs,hfin⟩:=b7j _ hrest;have hr5:=hev n0 (Nat.le_refl _) (AExit×Frm×a08) (λe F H=>some (e,F,H));refine a5g ok (sem_ok ok hdr noF) _ (ds2 (ds2 (ds2 (ds2 hcd)))) hrf.seq2.seq2.seq2.seq2 ?_ hnow1 hr5;intro y F6 H6 I5 ρ5 a5 w5 hn5 hk;cases hk;obtain⟨rs,q1,q2,q3⟩:=hn5.marks;show LeavesInM _ _ _ _ _ _ a5.defers _ _;rw[q1];refine a6r (by simp[AExit.conv]) rs w5 q2 (λr hr=>(q3 r hr).2.2) ?_;obtain⟨r6,x6⟩:=b1y hn5.ext (λc hc=>hc.elim (hn4.rel.imm c) (hn4.rel.kept c)) hn5.rel q3;obtain⟨c0,c1',c2,rfl⟩:∃c0 c1 c2,cs=[c0,c1,c2]:=by have hcs:VRels I4 w4 ρ4 [.ptr 2 0 0,.ptr 0 0 0,.ptr 1 0 0] cs:=hcs;simp only[VRels]at hcs;obtain⟨d0,_,rfl,h0,d1,_,rfl,h1,d2,_,rfl,h2,rfl⟩:=hcs;exact⟨d0,d1,d2,rfl⟩
 show LeavesInM _ _ _ _ _ _ (⟨.fn (.func 40) #[c0,c1',c2],#[]⟩::a4.defers) _ _;unfold LeavesInM;refine⟨by simp,.inr ⟨λh=>(by cases h),.func 40,#[c0,c1',c2],40,#[c0,c1',c2],rfl,?_,λ_ _=>trivial,?_⟩⟩
 ·show(callFunc 40 (#[] ++ #[c0,c1',c2])).run L.env.P _=_;rw[a2b ok (by kernel_rfl)];simp
 refine CallsDIn.mono (d7a hdr r6 hn5.nrel) ?_
 rintro en u' w7 ⟨rfl,rfl,I7,ρ7,i7,m7,x7,r7',n7⟩
 show LeavesInM _ _ _ _ _ _ a4.defers .returning w7;obtain⟨rs0,p1,p2,p3⟩:=hn4.marks;rw[p1,show e0.base=[]from rfl,List.append_nil];have hk7:∀c,I4 c→w7.heap[c]?=w4.heap[c]?:=λc hc=>(x7.keep c (.inl (hn5.imm c hc))).trans (x6.keep c (.inl hc));have x8:Ext I K w w7:=hn4.ext.trans hn4.imm (x6.trans hn5.imm x7);have p4:∀r∈rs0,I7 r∧w.heap.size≤r∧w7.heap[r]?=some (.deferred (some [])):=λr hr=>⟨i7 r (hn5.imm r (p3 r hr).1),(p3 r hr).2.1,(hk7 r (p3 r hr).1).trans (p3 r hr).2.2⟩
 obtain⟨r9,x9⟩:=b1y x8 (λc hc=>hc.elim (rel.imm c) (rel.kept c)) r7' p4;refine a5r rs0 w7 p2 (λr hr=>(p4 r hr).2.2) ?_;have hpt:∀{b:Nat} {c:Value} {I' I'':Nat→Prop} {u u':World} {ρ' ρ'':PMap},VRel I' u ρ' (.ptr b 0 0) c→ρ'' b=ρ' b→VRel I'' u' ρ'' (.ptr b 0 0) c:=by intro b c I' I'' u u' ρ' ρ'' h hb;simp only[VRel]at h⊢;obtain⟨m,hm,rfl⟩:=h;exact⟨m,by rw[hb];exact hm,rfl⟩
 have t2:VRel I5 w5 ρ5 (.ptr 0 0 0) (a5.tmps.getD 2 undef):=by have:=hn5.frm.2 2;rwa [f2]at this
 have t3:VRel I5 w5 ρ5 (.ptr 1 0 0) (a5.tmps.getD 3 undef):=by have:=hn5.frm.2 3;rwa [f3]at this
 have hlo:3≤H5.length:=hn5.low;obtain⟨c,hrun,hv⟩:=b0l (fn:=Tryz.f19) (tmps:=a5.tmps) (F:=[(2,.ptr 0 0 0),(3,.ptr 1 0 0)]) ok r9 (λs=>by
  simp only[a2k];by_cases e2:s=2
  ·subst e2;exact hpt t2 (m7 0 (show 0<H5.length by omega))
  by_cases e3:s=3
  ·subst e3;exact hpt t3 (m7 1 (show 1<H5.length by omega))
  have hj:∀k,k≠s→Nat.beq k s=false:=λk hk=>by rw[←Bool.not_eq_true,Nat.beq_eq];exact hk
  simp only[hj 2 (Ne.symm e2),hj 3 (Ne.symm e3),cond_false];simp[VRel]) hvs
 obtain⟨I8,ρ8,f1,g2,g3,g4,g5,g6⟩:=b8o hfin (Nat.zero_le _) r9 n7 hv;exact⟨c,hrun,c,I8,ρ8,rfl,⟨λc hc=>f1 c (i7 c (hn5.imm c (hn4.imm c hc))),λb hb=>by omega,x9,g3,g4,Nat.le_refl _⟩,g6⟩
end Go.RInst
namespace Go.RInst
open Go.Proofs Go.Ax Go.Pc
variable [PR]
set_option maxRecDepth 100000
open Classical in
noncomputable def rdS(r:Rd):List (List UInt8)→Option Rd
 | [nm,d]=>if(d=inK∨d=c4q)∧r.T=[]∧r.V=[]∧a43 nm=true∧nm∉r.S.map Sg.name∧r.S.length<256 then some ⟨r.S++[⟨nm,if d=c4q then 1 else 0⟩],r.T,r.V,r.sum⟩else none
 |_=>none
open Classical in
noncomputable def rdT(r:Rd):List (List UInt8)→Option Rd
 | [nm,w0,w1,w2,w3,w4]=>if r.V=[]∧(∀w∈[w0,w1,w2,w3,w4],NumOk w)∧a5j ⟨nm,a0d w0,a0d w1,a0d w2,a0d w3,a0d w4⟩=true∧nm∉r.T.map Tm.name∧r.T.length<16 then some ⟨r.S,r.T++[⟨nm,a0d w0,a0d w1,a0d w2,a0d w3,a0d w4⟩],r.V,r.sum⟩else none
 |_=>none
def d8i(r:Rd)(nm cl:List UInt8)(k:Nat):Vc:=⟨fnd nm (r.T.map Tm.name),if cl=[45]then[]else cl,k⟩
open Classical in
noncomputable def c99(r:Rd)(nm cl:List UInt8)(k:Nat):Option Rd:=if a55 (d8i r nm cl k) r.S r.T.length=true∧r.V.length<65536∧r.sum+k≤1000000 then some ⟨r.S,r.T,r.V++[d8i r nm cl k],r.sum+k⟩else none
open Classical in
noncomputable def rdV(r:Rd):List (List UInt8)→Option Rd
 | [nm,cl]=>c99 r nm cl 1
 | [nm,cl,rp]=>if NumOk rp then c99 r nm cl (a0d rp)else none
 |_=>none
noncomputable def rdW(r:Rd):List (List UInt8)→Option Rd
 | []=>some r
 |w0::tl=>if w0.head?=some 35 then some r else if w0=b2o then rdS r tl else if w0=a4u then rdT r tl else if w0=a8g then rdV r tl else none
noncomputable def a3w(r:Rd)(s:List UInt8):Option Rd:=if s.length≤4096 then rdW r (a38 (a00 32 s))else none
noncomputable def a2u:Rd→List (List UInt8)→Option Rd
 |r,[]=>some r
 |r,s::l=>match a3w r s with
  |some r'=>a2u r' l
  |none=>none
structure RdWf(r:Rd):Prop where
 s0:0≤r.sum
 hS:r.S.length≤256
 hT:r.T.length≤16
theorem e0o:RdWf ⟨[],[],[],0⟩:=⟨Int.le_refl _,by simp,by simp⟩
theorem d5m{r r':Rd}{ws:List (List UInt8)}(h:rdW r ws=some r')(hw:RdWf r):RdWf r':=by
 obtain⟨h1,h2,h3⟩:=hw;have hvk:∀nm cl k,c99 r nm cl k=some r'→RdWf r':=by
  intro nm cl k h;unfold c99 at h;split at h
  ·cases h;exact⟨by simp only;omega,h2,h3⟩
  ·cases h
 unfold rdW at h;split at h
 ·cases h;exact⟨h1,h2,h3⟩
 split at h
 ·cases h;exact⟨h1,h2,h3⟩
 split at h
 ·unfold rdS at h;split at h
  ·split at h
   ·rename_i hc;cases h;exact⟨h1,by simp only[List.length_append,List.length_singleton];omega,h3⟩
   ·cases h
  ·cases h
 split at h
 ·unfold rdT at h;split at h
  ·split at h
   ·rename_i hc;cases h;exact⟨h1,h2,by simp only[List.length_append,List.length_singleton];omega⟩
   ·cases h
  ·cases h
 split at h
 ·unfold rdV at h;split at h
  ·exact hvk _ _ _ h
  ·split at h
   ·exact hvk _ _ _ h
   ·cases h
  ·cases h
 ·cases h
theorem d5l(r:Rd):RdAt (a32 r) 0 r:=by
 refine⟨_,_,_,rfl,?_,?_,?_⟩
 ·cases hS:r.S.map Sg.enc with
  |nil=>rw[a0a];exact a4r _ _
  |cons a l=>rw[a1q];exact a1i (by simp) rfl (by unfold a32;rw[hS,a1k];rfl)
 ·cases hT:r.T.map Tm.enc with
  |nil=>rw[a0a];exact a4r _ _
  |cons a l=>rw[a1q];refine a1i (by simp) rfl ?_;unfold a32;rw[hT,a1k];cases r.S.map Sg.enc<;>rfl
 ·cases hV:r.V.map Vc.enc with
  |nil=>rw[a0a];exact a4r _ _
  |cons a l=>rw[a1q];refine a1i (by simp) rfl ?_;unfold a32;rw[hV,a1k];cases r.S.map Sg.enc<;>cases r.T.map Tm.enc<;>rfl
theorem a8f(r:Rd):(∃o0,a32 r=[some o0])∨(∃o0 o1,a32 r=[some o0,some o1])∨(∃o0 o1 o2,a32 r=[some o0,some o1,some o2])∨(∃o0 o1 o2 o3,a32 r=[some o0,some o1,some o2,some o3]):=by
 unfold a32;cases r.S.map Sg.enc<;>cases r.T.map Tm.enc<;>cases r.V.map Vc.enc<;>simp only[a0c,a1k,List.nil_append,List.cons_append,List.append_nil]
 ·exact .inl ⟨_,rfl⟩
 ·exact .inr (.inl ⟨_,_,rfl⟩)
 ·exact .inr (.inl ⟨_,_,rfl⟩)
 ·exact .inr (.inr (.inl ⟨_,_,_,rfl⟩))
 ·exact .inr (.inl ⟨_,_,rfl⟩)
 ·exact .inr (.inr (.inl ⟨_,_,_,rfl⟩))
 ·exact .inr (.inr (.inl ⟨_,_,_,rfl⟩))
 ·exact .inr (.inr (.inr ⟨_,_,_,_,rfl⟩))
theorem c7u(r r':Rd)(s:List UInt8)(hw:RdWf r)(h:a3w r s=some r'):∃H1,sem L.env Mf 41 [.ptr 0 0 0,.str s] (a32 r)=some (.tuple [],H1)∧RdAt H1 0 r':=by
 unfold a3w at h;split at h
 case isFalse=>cases h
 rename_i hl;have hR:=d5l r;have skip:(a38 (a00 32 s)=[]∨∃a tl,a38 (a00 32 s)=(35::a)::tl)→∃H1,sem L.env Mf 41 [.ptr 0 0 0,.str s] (a32 r)=some (.tuple [],H1)∧RdAt H1 0 r:=by
  intro hws;rcases a8f r with ⟨o0,e⟩|⟨o0,o1,e⟩|⟨o0,o1,o2,e⟩|⟨o0,o1,o2,o3,e⟩<;>rw[e]at hR⊢
  ·obtain⟨q,⟨H1,rfl,h1⟩,h2⟩:=c2j o0 r s hl hR hws;exact⟨H1,h2,h1⟩
  ·obtain⟨q,⟨H1,rfl,h1⟩,h2⟩:=c2i o0 o1 r s hl hR hws;exact⟨H1,h2,h1⟩
  ·obtain⟨q,⟨H1,rfl,h1⟩,h2⟩:=c2h o0 o1 o2 r s hl hR hws;exact⟨H1,h2,h1⟩
  ·obtain⟨q,⟨H1,rfl,h1⟩,h2⟩:=c2g o0 o1 o2 o3 r s hl hR hws;exact⟨H1,h2,h1⟩
 have sig:∀tl,a38 (a00 32 s)=b2o::tl→(∀R,R.length=(a00 32 s).length→R.take (tl.length+1)=sR (b2o::tl)→FlatR R→tl.length+1≤(a00 32 s).length→a6g 65 (tl.length+1) (some (a00 32 s).length) R r r')→∃H1,sem L.env Mf 41 [.ptr 0 0 0,.str s] (a32 r)=some (.tuple [],H1)∧RdAt H1 0 r':=by
  intro tl hws hc;rcases a8f r with ⟨o0,e⟩|⟨o0,o1,e⟩|⟨o0,o1,o2,e⟩|⟨o0,o1,o2,o3,e⟩<;>rw[e]at hR⊢
  ·obtain⟨q,⟨H1,rfl,h1⟩,h2⟩:=c59 o0 r r' s hl hR tl hws hc;exact⟨H1,h2,h1⟩
  ·obtain⟨q,⟨H1,rfl,h1⟩,h2⟩:=c56 o0 o1 r r' s hl hR tl hws hc;exact⟨H1,h2,h1⟩
  ·obtain⟨q,⟨H1,rfl,h1⟩,h2⟩:=c53 o0 o1 o2 r r' s hl hR tl hws hc;exact⟨H1,h2,h1⟩
  ·obtain⟨q,⟨H1,rfl,h1⟩,h2⟩:=c50 o0 o1 o2 o3 r r' s hl hR tl hws hc;exact⟨H1,h2,h1⟩
 have tim:∀tl,a38 (a00 32 s)=a4u::tl→(∀R,R.length=(a00 32 s).length→R.take (tl.length+1)=sR (a4u::tl)→FlatR R→tl.length+1≤(a00 32 s).length→a6g 66 (tl.length+1) (some (a00 32 s).length) R r r')→∃H1,sem L.env Mf 41 [.ptr 0 0 0,.str s] (a32 r)=some (.tuple [],H1)∧RdAt H1 0 r':=by
  intro tl hws hc;rcases a8f r with ⟨o0,e⟩|⟨o0,o1,e⟩|⟨o0,o1,o2,e⟩|⟨o0,o1,o2,o3,e⟩<;>rw[e]at hR⊢
  ·obtain⟨q,⟨H1,rfl,h1⟩,h2⟩:=c58 o0 r r' s hl hR tl hws hc;exact⟨H1,h2,h1⟩
  ·obtain⟨q,⟨H1,rfl,h1⟩,h2⟩:=c55 o0 o1 r r' s hl hR tl hws hc;exact⟨H1,h2,h1⟩
  ·obtain⟨q,⟨H1,rfl,h1⟩,h2⟩:=c52 o0 o1 o2 r r' s hl hR tl hws hc;exact⟨H1,h2,h1⟩
  ·obtain⟨q,⟨H1,rfl,h1⟩,h2⟩:=c4z o0 o1 o2 o3 r r' s hl hR tl hws hc;exact⟨H1,h2,h1⟩
 have vec:∀tl,a38 (a00 32 s)=a8g::tl→(∀R,R.length=(a00 32 s).length→R.take (tl.length+1)=sR (a8g::tl)→FlatR R→tl.length+1≤(a00 32 s).length→a6g 67 (tl.length+1) (some (a00 32 s).length) R r r')→∃H1,sem L.env Mf 41 [.ptr 0 0 0,.str s] (a32 r)=some (.tuple [],H1)∧RdAt H1 0 r':=by
  intro tl hws hc;rcases a8f r with ⟨o0,e⟩|⟨o0,o1,e⟩|⟨o0,o1,o2,e⟩|⟨o0,o1,o2,o3,e⟩<;>rw[e]at hR⊢
  ·obtain⟨q,⟨H1,rfl,h1⟩,h2⟩:=c57 o0 r r' s hl hR tl hws hc;exact⟨H1,h2,h1⟩
  ·obtain⟨q,⟨H1,rfl,h1⟩,h2⟩:=c54 o0 o1 r r' s hl hR tl hws hc;exact⟨H1,h2,h1⟩
  ·obtain⟨q,⟨H1,rfl,h1⟩,h2⟩:=c51 o0 o1 o2 r r' s hl hR tl hws hc;exact⟨H1,h2,h1⟩
  ·obtain⟨q,⟨H1,rfl,h1⟩,h2⟩:=c4y o0 o1 o2 o3 r r' s hl hR tl hws hc;exact⟨H1,h2,h1⟩
 generalize hWW:a38 (a00 32 s)=ws at h skip sig tim vec;have hne:∀w∈ws,w≠[]:=by rw[←hWW];exact d24
 generalize(a00 32 s).length=n at sig tim vec;unfold rdW at h;split at h
 ·cases h;exact skip (.inl rfl)
 rename_i w0 tl;split at h
 ·rename_i hh;cases h;refine skip (.inr ?_);cases w0 with
  |nil=>exact absurd rfl (hne [] (by simp))
  |cons a q=>
   have:a=35:=by simpa using hh
   subst this;exact⟨q,tl,rfl⟩
 split at h
 ·rename_i hk;subst hk;unfold rdS at h;split at h
  case h_2=>cases h
  rename_i nm d;split at h
  case isFalse=>cases h
  rename_i hc;obtain⟨c1,c2,c3,c4,c5,c6⟩:=hc;cases h;refine sig _ rfl ?_;intro R hRl hRt hRf hm;obtain⟨S,T,V,sum⟩:=r;simp only at c2 c3 c5 c6;subst c2;subst c3;have h3:R.take [b2o,nm,d].length=sR [b2o,nm,d]:=hRt;refine d0l S sum n R nm (if d=c4q then 1 else 0) (by split<;>omega) c6 c5 c4 hRl hm hRf (sR0 h3 rfl) ?_;rw[sR0 h3 (show [b2o,nm,d][2]?=some d from rfl)];by_cases hd:d=c4q
  ·rw[if_pos hd,if_pos rfl,hd]
  ·rw[if_neg hd,if_neg (by decide),c1.resolve_right hd]
 split at h
 ·rename_i hk;subst hk;unfold rdT at h;split at h
  case h_2=>cases h
  rename_i nm w0 w1 w2 w3 w4;split at h
  case isFalse=>cases h
  rename_i hc;obtain⟨c1,c2,c3,c4,c5⟩:=hc;cases h;refine tim _ rfl ?_;intro R hRl hRt hRf hm;obtain⟨S,T,V,sum⟩:=r;simp only at c1 c4 c5;subst c1;have h3:R.take [a4u,nm,w0,w1,w2,w3,w4].length=sR [a4u,nm,w0,w1,w2,w3,w4]:=hRt;refine d0b S T sum n R nm w0 w1 w2 w3 w4 c5 c4 hRl hm hRf (sR0 h3 rfl) ?_ c2 c3;intro j w hj;refine sR0 h3 ?_;rw[show 2+j=(j+1)+1 by omega];simpa using hj
 split at h
 ·rename_i hk;subst hk;have hs0:=hw.s0;have hS:=hw.hS;have hT:=hw.hT;obtain⟨S,T,V,sum⟩:=r;simp only at hs0 hS hT;unfold rdV at h;split at h
  ·rename_i nm cl;unfold c99 at h;split at h
   case isFalse=>cases h
   rename_i hc;obtain⟨c1,c2,c3⟩:=hc;cases h;refine vec _ rfl ?_;intro R hRl hRt hRf hm;have h3:R.take [a8g,nm,cl].length=sR [a8g,nm,cl]:=hRt;exact c75 S T V sum n R nm cl (by omega) (by omega) c2 hRl hm hRf (sR0 h3 rfl) (sR0 h3 rfl) hs0 c3 c1
  ·rename_i nm cl rp;split at h
   case isFalse=>cases h
   rename_i hnum;unfold c99 at h;split at h
   case isFalse=>cases h
   rename_i hc;obtain⟨c1,c2,c3⟩:=hc;cases h;refine vec _ rfl ?_;intro R hRl hRt hRf hm;have h3:R.take [a8g,nm,cl,rp].length=sR [a8g,nm,cl,rp]:=hRt;exact c74 S T V sum n R nm cl rp hnum (sR0 h3 rfl) (by omega) (by omega) c2 hRl hm hRf (sR0 h3 rfl) (sR0 h3 rfl) hs0 c3 c1
  ·cases h
 ·cases h
end Go.RInst
namespace Go.RInst
open Go.Proofs Go.Ax Go.Pc
variable [PR]
set_option maxRecDepth 100000
def GsL(lo:Nat)(H:a08)(k:Nat)(x:AV)(R:List (List AV)):Prop:=(R=[]∧x = .nilslice)∨(R≠[]∧∃c,x = .slice c 0 R.length none∧a04 H c=some (.row k R)∧lo≤c)
def RdL(lo:Nat)(H:a08)(b:Nat)(r:Rd):Prop:=∃x y z,a04 H b=some (.row 4 [[x,y,z,.int .i64 r.sum]])∧GsL lo H 2 x (r.S.map Sg.enc)∧GsL lo H 6 y (r.T.map Tm.enc)∧GsL lo H 3 z (r.V.map Vc.enc)
theorem GsAt.backL{lo:Nat}{H1 H H':a08}{σ:List Nat}{k:Nat}{x:AV}{R:List (List AV)}(h:GsAt H1 k x R)(hR:FlatR R)(h1:∀j b,σ[j]?=some b→a04 H' b=(a04 H1 j).map (a0q (a1g σ H.length)))(h2:∀j,a04 H' (H.length+j)=(a04 H1 (σ.length+j)).map (a0q (a1g σ H.length)))(hlo:∀b∈σ,lo≤b)(hlH:lo≤H.length):GsL lo H' k (ren (a1g σ H.length) x) R:=by
 rcases h with ⟨rfl,rfl⟩|⟨hne,c,rfl,hc⟩
 ·exact .inl ⟨rfl,rfl⟩
 ·right;refine⟨hne,?_⟩;by_cases hlt:c<σ.length
  ·have hb:a1g σ H.length c=some σ[c]:=by unfold a1g;rw[show Nat.blt c σ.length=true from by rw[Nat.blt_eq];exact hlt];exact z9e hlt
   refine⟨σ[c],by simp only[ren,a4d,hb],?_,hlo _ (List.getElem_mem hlt)⟩;rw[h1 c _ (z9e hlt),hc];simp only[Option.map_some,a0q,a02 _ hR]
  ·have hb:a1g σ H.length c=some (H.length+(c-σ.length)):=by
    have:Nat.blt c σ.length=false:=by rw[←Bool.not_eq_true,Nat.blt_eq];exact hlt
    unfold a1g;rw[this];rfl
   refine⟨H.length+(c-σ.length),by simp only[ren,a4d,hb],?_,by omega⟩;have:=h2 (c-σ.length);rw[show σ.length+(c-σ.length)=c by omega,hc]at this;rw[this];simp only[Option.map_some,a0q,a02 _ hR]
theorem a0x{H:a08}(c d:Nat)(k1 k2:Nat)(R1 R2:List (List AV))(h1:a04 H c=some (.row k1 R1))(h2:a04 H d=some (.row k2 R2))(hne:k1≠k2):c≠d:=by intro e;subst e;rw[h1]at h2;cases h2;exact hne rfl
theorem d1f(lo:Nat)(H:a08)(b:Nat)(r r':Rd)(s:List UInt8)(hw:RdWf r)(h:a3w r s=some r')(hR:RdL lo H b r)(hlb:lo≤b) :
 ∃H' σ,a0j L.env false (sem L.env Mf) (.func (.func 41) [] []) [.ptr b 0 0,.str s] H=some (.tuple [],H',σ)∧RdL lo H' b r'∧H.length≤H'.length∧(∀c,c<H.length→c<lo→a04 H' c=a04 H c)∧(∀c R,a04 H c=some (.row 1 R)→a04 H' c=a04 H c):=by
 obtain⟨H1,hsem,x',y',z',e0,eS,eT,eV⟩:=c7u r r' s hw h;obtain⟨x,y,z,hb,hS,hT,hV⟩:=hR;have lb:=a0t hb;have S1:=λπ=>a02 π (a0z r.S);have T1:=λπ=>a02 π (a0g r.T);have V1:=λπ=>a02 π (a0b r.V);have S2:=a01 (a0z r.S);have T2:=a01 (a0g r.T);have V2:=a01 (a0b r.V);have fin:∀(σ:List Nat),a0h H 1000000 (a0w [AV.ptr b 0 0,.str s]) []=σ→a2a σ=true→(σ.all λb=>decide (b<H.length))=true→[AV.ptr b 0 0,.str s].map (ren (a36 σ))=[.ptr 0 0 0,.str s]→a0u H σ (a36 σ)=a32 r→σ[0]?=some b→(∀c∈σ,lo≤c∧∃k R,a04 H c=some (.row k R)∧k≠1)→
  ∃H' σ,a0j L.env false (sem L.env Mf) (.func (.func 41) [] []) [.ptr b 0 0,.str s] H=some (.tuple [],H',σ)∧RdL lo H' b r'∧H.length≤H'.length∧(∀c,c<H.length→c<lo→a04 H' c=a04 H c)∧(∀c R,a04 H c=some (.row 1 R)→a04 H' c=a04 H c):=by
  intro σ i1 i2 i3 i4 i5 i6 i7;obtain⟨H',h1,h2,h3,h4,h5⟩:=b00 (E:=L.env) (call:=sem L.env Mf) (g:=41) (fs:=[]) (cs:=[]) (ar:=[.ptr b 0 0,.str s]) (H:=H) (σ:=σ) (by kernel_rfl) (by kernel_rfl) rfl i1 i2 i3 i4 i5 hsem rfl;have hlo:=λc hc=>(i7 c hc).1;refine⟨H',σ,h1,⟨ren (a1g σ H.length) x',ren (a1g σ H.length) y',ren (a1g σ H.length) z',?_,eS.backL (a0z _) h3 h5 hlo (by omega),eT.backL (a0g _) h3 h5 hlo (by omega),eV.backL (a0b _) h3 h5 hlo (by omega)⟩,by omega,λc hc hcl=>h4 c hc λhm=>by have:=hlo c hm;omega,λc R hc=>h4 c (a0t hc) λhm=>?_⟩
  ·rw[h3 0 b i6,e0];simp only[Option.map_some,a0q,List.map_cons,List.map_nil,ren]
  ·obtain⟨_,k,R',hk,hk1⟩:=i7 c hm;rw[hc]at hk;cases hk;exact hk1 rfl
 have rw9:(1000000:Nat)=999980+1+1+1+1+1+1+1+1+1+1+1+1+1+1+1+1+1+1+1+1:=rfl;rcases hS with ⟨hS0,rfl⟩|⟨hS0,a,rfl,hSa,oa⟩<;>rcases hT with ⟨hT0,rfl⟩|⟨hT0,t,rfl,hTt,ot⟩<;>rcases hV with ⟨hV0,rfl⟩|⟨hV0,v,rfl,hVv,ov⟩
 ·have hcan:a32 r=[some (.row 4 [[.nilslice,.nilslice,.nilslice,.int .i64 r.sum]])]:=by
   unfold a32;rw[hS0,a0a,a0c,hT0,a0a,a0c,hV0,a0a,a0c];rfl
  refine fin [b] ?_ ?_ ?_ ?_ ?_ rfl ?_
  ·show a0h H 1000000 [b] []=_;rw[rw9,a07 rfl,hb];show a0h H _ ([]++[]) [b]=_;simp only[List.append_nil];exact a13 _ _ _
  ·simp[a11,a19,a03,a06]
  ·simp[lb]
  ·simp[ren,a4d,a36,List.idxOf?_cons]
  ·rw[hcan];simp only[a0u,List.map_cons,List.map_nil,hb,Option.map_some,a0q,S1,T1,V1,List.cons_append,List.nil_append];simp[ren,a4d,a36,List.idxOf?_cons]
  ·intro c hc;simp only[List.mem_cons,List.not_mem_nil,or_false]at hc;subst hc
   ·exact⟨hlb,_,_,hb,by decide⟩
 ·have lv:=a0t hVv;have nbv:b≠v:=a0x b v 4 3 _ _ hb hVv (by decide);have nvb:v≠b:=Ne.symm nbv;have hcan:a32 r=[some (.row 4 [[.nilslice,.nilslice,.slice 1 0 (r.V.map Vc.enc).length none,.int .i64 r.sum]]),some (.row 3 (r.V.map Vc.enc))]:=by
   unfold a32;rw[hS0,a0a,a0c,hT0,a0a,a0c,a0k _ hV0,a0n _ hV0];rfl
  refine fin [b,v] ?_ ?_ ?_ ?_ ?_ rfl ?_
  ·show a0h H 1000000 [b] []=_;rw[rw9,a07 rfl,hb];show a0h H _ ([v]++[]) [b]=_;simp only[List.append_nil];rw[a07 (by simp[a03,a06,nbv,nvb]),hVv];show a0h H _ ((r.V.map Vc.enc).flatMap a0w++[]) _=_;rw[V2,List.nil_append];exact a13 _ _ _
  ·simp[a11,a19,a03,a06,nbv,nvb]
  ·simp[lb,lv]
  ·simp[ren,a4d,a36,List.idxOf?_cons,nbv,nvb]
  ·rw[hcan];simp only[a0u,List.map_cons,List.map_nil,hb,hVv,Option.map_some,a0q,S1,T1,V1,List.cons_append,List.nil_append];simp[ren,a4d,a36,List.idxOf?_cons,nbv,nvb]
  ·intro c hc;simp only[List.mem_cons,List.not_mem_nil,or_false]at hc;rcases hc with rfl|rfl
   ·exact⟨hlb,_,_,hb,by decide⟩
   ·exact⟨ov,_,_,hVv,by decide⟩
 ·have lt:=a0t hTt;have nbt:b≠t:=a0x b t 4 6 _ _ hb hTt (by decide);have ntb:t≠b:=Ne.symm nbt;have hcan:a32 r=[some (.row 4 [[.nilslice,.slice 1 0 (r.T.map Tm.enc).length none,.nilslice,.int .i64 r.sum]]),some (.row 6 (r.T.map Tm.enc))]:=by
   unfold a32;rw[hS0,a0a,a0c,a0k _ hT0,a0n _ hT0,hV0,a0a,a0c];rfl
  refine fin [b,t] ?_ ?_ ?_ ?_ ?_ rfl ?_
  ·show a0h H 1000000 [b] []=_;rw[rw9,a07 rfl,hb];show a0h H _ ([t]++[]) [b]=_;simp only[List.append_nil];rw[a07 (by simp[a03,a06,nbt,ntb]),hTt];show a0h H _ ((r.T.map Tm.enc).flatMap a0w++[]) _=_;rw[T2,List.nil_append];exact a13 _ _ _
  ·simp[a11,a19,a03,a06,nbt,ntb]
  ·simp[lb,lt]
  ·simp[ren,a4d,a36,List.idxOf?_cons,nbt,ntb]
  ·rw[hcan];simp only[a0u,List.map_cons,List.map_nil,hb,hTt,Option.map_some,a0q,S1,T1,V1,List.cons_append,List.nil_append];simp[ren,a4d,a36,List.idxOf?_cons,nbt,ntb]
  ·intro c hc;simp only[List.mem_cons,List.not_mem_nil,or_false]at hc;rcases hc with rfl|rfl
   ·exact⟨hlb,_,_,hb,by decide⟩
   ·exact⟨ot,_,_,hTt,by decide⟩
 ·have lt:=a0t hTt;have lv:=a0t hVv;have nbt:b≠t:=a0x b t 4 6 _ _ hb hTt (by decide);have ntb:t≠b:=Ne.symm nbt;have nbv:b≠v:=a0x b v 4 3 _ _ hb hVv (by decide);have nvb:v≠b:=Ne.symm nbv;have ntv:t≠v:=a0x t v 6 3 _ _ hTt hVv (by decide);have nvt:v≠t:=Ne.symm ntv;have hcan:a32 r=[some (.row 4 [[.nilslice,.slice 1 0 (r.T.map Tm.enc).length none,.slice 2 0 (r.V.map Vc.enc).length none,.int .i64 r.sum]]),some (.row 6 (r.T.map Tm.enc)),some (.row 3 (r.V.map Vc.enc))]:=by
   unfold a32;rw[hS0,a0a,a0c,a0k _ hT0,a0n _ hT0,a0k _ hV0,a0n _ hV0];rfl
  refine fin [b,t,v] ?_ ?_ ?_ ?_ ?_ rfl ?_
  ·show a0h H 1000000 [b] []=_;rw[rw9,a07 rfl,hb];show a0h H _ ([t,v]++[]) [b]=_;simp only[List.append_nil];rw[a07 (by simp[a03,a06,nbt,nbv,ntb,ntv,nvb,nvt]),hTt];show a0h H _ ((r.T.map Tm.enc).flatMap a0w++[v]) _=_;rw[T2,List.nil_append];rw[a07 (by simp[a03,a06,nbt,nbv,ntb,ntv,nvb,nvt]),hVv];show a0h H _ ((r.V.map Vc.enc).flatMap a0w++[]) _=_;rw[V2,List.nil_append];exact a13 _ _ _
  ·simp[a11,a19,a03,a06,nbt,nbv,ntb,ntv,nvb,nvt]
  ·simp[lb,lt,lv]
  ·simp[ren,a4d,a36,List.idxOf?_cons,nbt,nbv,ntb,ntv,nvb,nvt]
  ·rw[hcan];simp only[a0u,List.map_cons,List.map_nil,hb,hTt,hVv,Option.map_some,a0q,S1,T1,V1,List.cons_append,List.nil_append];simp[ren,a4d,a36,List.idxOf?_cons,nbt,nbv,ntb,ntv,nvb,nvt]
  ·intro c hc;simp only[List.mem_cons,List.not_mem_nil,or_false]at hc;rcases hc with rfl|rfl|rfl
   ·exact⟨hlb,_,_,hb,by decide⟩
   ·exact⟨ot,_,_,hTt,by decide⟩
   ·exact⟨ov,_,_,hVv,by decide⟩
 ·have la:=a0t hSa;have nba:b≠a:=a0x b a 4 2 _ _ hb hSa (by decide);have nab:a≠b:=Ne.symm nba;have hcan:a32 r=[some (.row 4 [[.slice 1 0 (r.S.map Sg.enc).length none,.nilslice,.nilslice,.int .i64 r.sum]]),some (.row 2 (r.S.map Sg.enc))]:=by
   unfold a32;rw[a0k _ hS0,a0n _ hS0,hT0,a0a,a0c,hV0,a0a,a0c];rfl
  refine fin [b,a] ?_ ?_ ?_ ?_ ?_ rfl ?_
  ·show a0h H 1000000 [b] []=_;rw[rw9,a07 rfl,hb];show a0h H _ ([a]++[]) [b]=_;simp only[List.append_nil];rw[a07 (by simp[a03,a06,nba,nab]),hSa];show a0h H _ ((r.S.map Sg.enc).flatMap a0w++[]) _=_;rw[S2,List.nil_append];exact a13 _ _ _
  ·simp[a11,a19,a03,a06,nba,nab]
  ·simp[lb,la]
  ·simp[ren,a4d,a36,List.idxOf?_cons,nba,nab]
  ·rw[hcan];simp only[a0u,List.map_cons,List.map_nil,hb,hSa,Option.map_some,a0q,S1,T1,V1,List.cons_append,List.nil_append];simp[ren,a4d,a36,List.idxOf?_cons,nba,nab]
  ·intro c hc;simp only[List.mem_cons,List.not_mem_nil,or_false]at hc;rcases hc with rfl|rfl
   ·exact⟨hlb,_,_,hb,by decide⟩
   ·exact⟨oa,_,_,hSa,by decide⟩
 ·have la:=a0t hSa;have lv:=a0t hVv;have nba:b≠a:=a0x b a 4 2 _ _ hb hSa (by decide);have nab:a≠b:=Ne.symm nba;have nbv:b≠v:=a0x b v 4 3 _ _ hb hVv (by decide);have nvb:v≠b:=Ne.symm nbv;have nav:a≠v:=a0x a v 2 3 _ _ hSa hVv (by decide);have nva:v≠a:=Ne.symm nav;have hcan:a32 r=[some (.row 4 [[.slice 1 0 (r.S.map Sg.enc).length none,.nilslice,.slice 2 0 (r.V.map Vc.enc).length none,.int .i64 r.sum]]),some (.row 2 (r.S.map Sg.enc)),some (.row 3 (r.V.map Vc.enc))]:=by
   unfold a32;rw[a0k _ hS0,a0n _ hS0,hT0,a0a,a0c,a0k _ hV0,a0n _ hV0];rfl
  refine fin [b,a,v] ?_ ?_ ?_ ?_ ?_ rfl ?_
  ·show a0h H 1000000 [b] []=_;rw[rw9,a07 rfl,hb];show a0h H _ ([a,v]++[]) [b]=_;simp only[List.append_nil];rw[a07 (by simp[a03,a06,nba,nbv,nab,nav,nvb,nva]),hSa];show a0h H _ ((r.S.map Sg.enc).flatMap a0w++[v]) _=_;rw[S2,List.nil_append];rw[a07 (by simp[a03,a06,nba,nbv,nab,nav,nvb,nva]),hVv];show a0h H _ ((r.V.map Vc.enc).flatMap a0w++[]) _=_;rw[V2,List.nil_append];exact a13 _ _ _
  ·simp[a11,a19,a03,a06,nba,nbv,nab,nav,nvb,nva]
  ·simp[lb,la,lv]
  ·simp[ren,a4d,a36,List.idxOf?_cons,nba,nbv,nab,nav,nvb,nva]
  ·rw[hcan];simp only[a0u,List.map_cons,List.map_nil,hb,hSa,hVv,Option.map_some,a0q,S1,T1,V1,List.cons_append,List.nil_append];simp[ren,a4d,a36,List.idxOf?_cons,nba,nbv,nab,nav,nvb,nva]
  ·intro c hc;simp only[List.mem_cons,List.not_mem_nil,or_false]at hc;rcases hc with rfl|rfl|rfl
   ·exact⟨hlb,_,_,hb,by decide⟩
   ·exact⟨oa,_,_,hSa,by decide⟩
   ·exact⟨ov,_,_,hVv,by decide⟩
 ·have la:=a0t hSa;have lt:=a0t hTt;have nba:b≠a:=a0x b a 4 2 _ _ hb hSa (by decide);have nab:a≠b:=Ne.symm nba;have nbt:b≠t:=a0x b t 4 6 _ _ hb hTt (by decide);have ntb:t≠b:=Ne.symm nbt;have nat:a≠t:=a0x a t 2 6 _ _ hSa hTt (by decide);have nta:t≠a:=Ne.symm nat;have hcan:a32 r=[some (.row 4 [[.slice 1 0 (r.S.map Sg.enc).length none,.slice 2 0 (r.T.map Tm.enc).length none,.nilslice,.int .i64 r.sum]]),some (.row 2 (r.S.map Sg.enc)),some (.row 6 (r.T.map Tm.enc))]:=by
   unfold a32;rw[a0k _ hS0,a0n _ hS0,a0k _ hT0,a0n _ hT0,hV0,a0a,a0c];rfl
  refine fin [b,a,t] ?_ ?_ ?_ ?_ ?_ rfl ?_
  ·show a0h H 1000000 [b] []=_;rw[rw9,a07 rfl,hb];show a0h H _ ([a,t]++[]) [b]=_;simp only[List.append_nil];rw[a07 (by simp[a03,a06,nba,nbt,nab,nat,ntb,nta]),hSa];show a0h H _ ((r.S.map Sg.enc).flatMap a0w++[t]) _=_;rw[S2,List.nil_append];rw[a07 (by simp[a03,a06,nba,nbt,nab,nat,ntb,nta]),hTt];show a0h H _ ((r.T.map Tm.enc).flatMap a0w++[]) _=_;rw[T2,List.nil_append];exact a13 _ _ _
  ·simp[a11,a19,a03,a06,nba,nbt,nab,nat,ntb,nta]
  ·simp[lb,la,lt]
  ·simp[ren,a4d,a36,List.idxOf?_cons,nba,nbt,nab,nat,ntb,nta]
  ·rw[hcan];simp only[a0u,List.map_cons,List.map_nil,hb,hSa,hTt,Option.map_some,a0q,S1,T1,V1,List.cons_append,List.nil_append];simp[ren,a4d,a36,List.idxOf?_cons,nba,nbt,nab,nat,ntb,nta]
  ·intro c hc;simp only[List.mem_cons,List.not_mem_nil,or_false]at hc;rcases hc with rfl|rfl|rfl
   ·exact⟨hlb,_,_,hb,by decide⟩
   ·exact⟨oa,_,_,hSa,by decide⟩
   ·exact⟨ot,_,_,hTt,by decide⟩
 ·have la:=a0t hSa;have lt:=a0t hTt;have lv:=a0t hVv;have nba:b≠a:=a0x b a 4 2 _ _ hb hSa (by decide);have nab:a≠b:=Ne.symm nba;have nbt:b≠t:=a0x b t 4 6 _ _ hb hTt (by decide);have ntb:t≠b:=Ne.symm nbt;have nbv:b≠v:=a0x b v 4 3 _ _ hb hVv (by decide);have nvb:v≠b:=Ne.symm nbv;have nat:a≠t:=a0x a t 2 6 _ _ hSa hTt (by decide);have nta:t≠a:=Ne.symm nat;have nav:a≠v:=a0x a v 2 3 _ _ hSa hVv (by decide);have nva:v≠a:=Ne.symm nav;have ntv:t≠v:=a0x t v 6 3 _ _ hTt hVv (by decide);have nvt:v≠t:=Ne.symm ntv;have hcan:a32 r=[some (.row 4 [[.slice 1 0 (r.S.map Sg.enc).length none,.slice 2 0 (r.T.map Tm.enc).length none,.slice 3 0 (r.V.map Vc.enc).length none,.int .i64 r.sum]]),some (.row 2 (r.S.map Sg.enc)),some (.row 6 (r.T.map Tm.enc)),some (.row 3 (r.V.map Vc.enc))]:=by
   unfold a32;rw[a0k _ hS0,a0n _ hS0,a0k _ hT0,a0n _ hT0,a0k _ hV0,a0n _ hV0];rfl
  refine fin [b,a,t,v] ?_ ?_ ?_ ?_ ?_ rfl ?_
  ·show a0h H 1000000 [b] []=_;rw[rw9,a07 rfl,hb];show a0h H _ ([a,t,v]++[]) [b]=_;simp only[List.append_nil];rw[a07 (by simp[a03,a06,nba,nbt,nbv,nab,nat,nav,ntb,nta,ntv,nvb,nva,nvt]),hSa];show a0h H _ ((r.S.map Sg.enc).flatMap a0w++[t,v]) _=_;rw[S2,List.nil_append];rw[a07 (by simp[a03,a06,nba,nbt,nbv,nab,nat,nav,ntb,nta,ntv,nvb,nva,nvt]),hTt];show a0h H _ ((r.T.map Tm.enc).flatMap a0w++[v]) _=_;rw[T2,List.nil_append];rw[a07 (by simp[a03,a06,nba,nbt,nbv,nab,nat,nav,ntb,nta,ntv,nvb,nva,nvt]),hVv];show a0h H _ ((r.V.map Vc.enc).flatMap a0w++[]) _=_;rw[V2,List.nil_append];exact a13 _ _ _
  ·simp[a11,a19,a03,a06,nba,nbt,nbv,nab,nat,nav,ntb,nta,ntv,nvb,nva,nvt]
  ·simp[lb,la,lt,lv]
  ·simp[ren,a4d,a36,List.idxOf?_cons,nba,nbt,nbv,nab,nat,nav,ntb,nta,ntv,nvb,nva,nvt]
  ·rw[hcan];simp only[a0u,List.map_cons,List.map_nil,hb,hSa,hTt,hVv,Option.map_some,a0q,S1,T1,V1,List.cons_append,List.nil_append];simp[ren,a4d,a36,List.idxOf?_cons,nba,nbt,nbv,nab,nat,nav,ntb,nta,ntv,nvb,nva,nvt]
  ·intro c hc;simp only[List.mem_cons,List.not_mem_nil,or_false]at hc;rcases hc with rfl|rfl|rfl|rfl
   ·exact⟨hlb,_,_,hb,by decide⟩
   ·exact⟨oa,_,_,hSa,by decide⟩
   ·exact⟨ot,_,_,hTt,by decide⟩
   ·exact⟨ov,_,_,hVv,by decide⟩
def a24(r:Rd):a08:=some (.row 4 [[grV 4 (r.S.map Sg.enc),grV (4+(grH 2 (r.S.map Sg.enc)).length) (r.T.map Tm.enc),grV (4+(grH 2 (r.S.map Sg.enc)).length+(grH 6 (r.T.map Tm.enc)).length) (r.V.map Vc.enc),.int .i64 r.sum]])::(grH 2 (r.S.map Sg.enc)++grH 6 (r.T.map Tm.enc)++grH 3 (r.V.map Vc.enc))
theorem e02{H:a08}{o0 o1 o2:AObj}(h0:a04 H 0=some o0)(h1:a04 H 1=some o1)(h2:a04 H 2=some o2):H.take 3=[some o0,some o1,some o2]:=by
 match H,h0,h1,h2 with
 | [],h0,_,_=>cases h0
 | [_],_,h1,_=>cases h1
 | [_,_],_,_,h2=>cases h2
 |a::b::c::l,h0,h1,h2=>simp only[a04,List.getElem?_cons_zero,Option.join_some]at h0;have h1:b=some o1:=h1;have h2:c=some o2:=h2;rw[h0,h1,h2];rfl
theorem e12(H:a08)(r:Rd)(lb nl i:Nat)(n:Int)(LR:List (List AV))(hLR:FlatR LR)(h0:a04 H 0=clO)(h1:a04 H 1=some (.row 2 [[.int .i64 0,.int .i64 0]]))(h2:a04 H 2=clN n)(hR:RdL 3 H 3 r)(hl:a04 H lb=some (.row 1 LR))(hl3:3≤lb){F0:Frm}(hF0:F0=[(2,.ptr 0 0 0),(3,.ptr 1 0 0),(4,.ptr 2 0 0),(5,.ptr 3 0 0),(17,.slice lb 0 nl (some nl)),(18,.int .i64 nl),(19,.int .i64 (i:Nat))]) :
 (bif a2a (a7w 3 F0 H)&&(a7w 3 F0 H).all (λb=>decide (3≤b))&&decide (3≤H.length)then some (c37 (b8l 3 (a7w 3 F0 H)) F0,gcH 3 (a7w 3 F0 H) H)else none) =
  some ([(2,.ptr 0 0 0),(3,.ptr 1 0 0),(4,.ptr 2 0 0),(5,.ptr 3 0 0),(17,.slice (3+(a24 r).length) 0 nl (some nl)),(18,.int .i64 nl),(19,.int .i64 (i:Nat))],[clO,some (.row 2 [[.int .i64 0,.int .i64 0]]),clN n]++a24 r++[some (.row 1 LR)]):=by
 subst hF0;have ht:=e02 h0 h1 h2;obtain⟨x,y,z,hb,hS,hT,hV⟩:=hR;have lb3:=a0t hb;have ll:=a0t hl;have S1:=λπ=>a02 π (a0z r.S);have T1:=λπ=>a02 π (a0g r.T);have V1:=λπ=>a02 π (a0b r.V);have L1:=λπ=>a02 π hLR;have S2:=a01 (a0z r.S);have T2:=a01 (a0g r.T);have V2:=a01 (a0b r.V);have L2:=a01 hLR;have z0:a39 (a04 H 0)=[]:=by rw[h0];rfl
 have z1:a39 (a04 H 1)=[]:=by rw[h1];rfl
 have z2:a39 (a04 H 2)=[]:=by rw[h2];rfl
 have n3l:(3:Nat)≠lb:=a0x 3 lb 4 1 _ _ hb hl (by decide);have nl3:lb≠3:=Ne.symm n3l;have rw9:(1000000:Nat)=999980+1+1+1+1+1+1+1+1+1+1+1+1+1+1+1+1+1+1+1+1:=rfl;have hHl:3≤H.length:=by omega
 have hst:∀lst:List Nat,a0h H 1000000 ((H.take 3).flatMap a39++a0w [AV.ptr 0 0 0,.ptr 1 0 0,.ptr 2 0 0,.ptr 3 0 0,.slice lb 0 nl (some nl),.int .i64 nl,.int .i64 (i:Nat)]) []=lst→a7w 3 [(2,.ptr 0 0 0),(3,.ptr 1 0 0),(4,.ptr 2 0 0),(5,.ptr 3 0 0),(17,.slice lb 0 nl (some nl)),(18,.int .i64 nl),(19,.int .i64 (i:Nat))] H=lst.filter λb=>decide (3≤b):=by intro lst h;rw[a05];show(a0h H 1000000 ((H.take 3).flatMap a39++a0w [AV.ptr 0 0 0,.ptr 1 0 0,.ptr 2 0 0,.ptr 3 0 0,.slice lb 0 nl (some nl),.int .i64 nl,.int .i64 (i:Nat)]) []).filter _=_;rw[h]
 rcases hS with ⟨hS0,rfl⟩|⟨hS0,a,rfl,hSa,oa⟩<;>rcases hT with ⟨hT0,rfl⟩|⟨hT0,t,rfl,hTt,ot⟩<;>rcases hV with ⟨hV0,rfl⟩|⟨hV0,v,rfl,hVv,ov⟩
 ·have m0lb:(0:Nat)≠lb:=by omega
  have mlb0:lb≠0:=by omega
  have m1lb:(1:Nat)≠lb:=by omega
  have mlb1:lb≠1:=by omega
  have m2lb:(2:Nat)≠lb:=by omega
  have mlb2:lb≠2:=by omega
  have hcan:a24 r=[some (.row 4 [[.nilslice,.nilslice,.nilslice,.int .i64 r.sum]])]:=by unfold a24;rw[hS0,a0a,a0c,hT0,a0a,a0c,hV0,a0a,a0c];rfl
  have hrc:a0h H 1000000 ((H.take 3).flatMap a39++a0w [AV.ptr 0 0 0,.ptr 1 0 0,.ptr 2 0 0,.ptr 3 0 0,.slice lb 0 nl (some nl),.int .i64 nl,.int .i64 (i:Nat)]) []=[0,1,2,3,lb]:=by rw[ht];show a0h H 1000000 [0,1,2,3,lb] []=_;rw[rw9,a07 rfl,z0,List.nil_append,a07 rfl,z1,List.nil_append,a07 rfl,z2,List.nil_append,a07 rfl,hb];show a0h H _ ([]++[lb]) _=_;simp only[List.cons_append,List.nil_append];rw[a07 (by simp[a03,a06,n3l,nl3,m0lb,mlb0,m1lb,mlb1,m2lb,mlb2]),hl];show a0h H _ (LR.flatMap a0w++[]) _=_;rw[L2];exact a13 _ _ _
  have hids:=hst _ hrc;have hflt:([0,1,2,3,lb]:List Nat).filter (λb=>decide (3≤b))=[3,lb]:=by simp[hl3]
  rw[hflt]at hids;rw[hids,hcan];have c1:a2a [3,lb]=true:=by simp[a11,a19,a03,a06,n3l,nl3,m0lb,mlb0,m1lb,mlb1,m2lb,mlb2]
  have c2:([3,lb]:List Nat).all (λb=>decide (3≤b))=true:=by simp[hl3]
  rw[c1,c2,decide_eq_true hHl];simp only[Bool.and_self,cond_true,b1l,ht,a0u,List.map_cons,List.map_nil,hb,hl,Option.map_some,a0q,S1,T1,V1,L1,List.cons_append,List.nil_append,List.length_cons,List.length_nil];have dlb:decide (lb<3)=false:=decide_eq_false (by omega);simp only[a5o,a4q,ren,a4d,a7v,List.idxOf?_cons,List.idxOf?_nil,dlb,cond_false,cond_true];simp[n3l,nl3,m0lb,mlb0,m1lb,mlb1,m2lb,mlb2,hl3]
 ·have lv9:=a0t hVv;have n3v:(3:Nat)≠v:=a0x 3 v 4 3 _ _ hb hVv (by decide);have nv3:v≠3:=Ne.symm n3v;have nvl:v≠lb:=a0x v lb 3 1 _ _ hVv hl (by decide);have nlv:lb≠v:=Ne.symm nvl;have m0v:(0:Nat)≠v:=by omega
  have mv0:v≠0:=by omega
  have m1v:(1:Nat)≠v:=by omega
  have mv1:v≠1:=by omega
  have m2v:(2:Nat)≠v:=by omega
  have mv2:v≠2:=by omega
  have m0lb:(0:Nat)≠lb:=by omega
  have mlb0:lb≠0:=by omega
  have m1lb:(1:Nat)≠lb:=by omega
  have mlb1:lb≠1:=by omega
  have m2lb:(2:Nat)≠lb:=by omega
  have mlb2:lb≠2:=by omega
  have hcan:a24 r=[some (.row 4 [[.nilslice,.nilslice,.slice 4 0 (r.V.map Vc.enc).length none,.int .i64 r.sum]]),some (.row 3 (r.V.map Vc.enc))]:=by unfold a24;rw[hS0,a0a,a0c,hT0,a0a,a0c,a0k _ hV0,a0n _ hV0];rfl
  have hrc:a0h H 1000000 ((H.take 3).flatMap a39++a0w [AV.ptr 0 0 0,.ptr 1 0 0,.ptr 2 0 0,.ptr 3 0 0,.slice lb 0 nl (some nl),.int .i64 nl,.int .i64 (i:Nat)]) []=[0,1,2,3,v,lb]:=by rw[ht];show a0h H 1000000 [0,1,2,3,lb] []=_;rw[rw9,a07 rfl,z0,List.nil_append,a07 rfl,z1,List.nil_append,a07 rfl,z2,List.nil_append,a07 rfl,hb];show a0h H _ ([v]++[lb]) _=_;simp only[List.cons_append,List.nil_append];rw[a07 (by simp[a03,a06,n3l,nl3,n3v,nv3,nvl,nlv,m0v,mv0,m1v,mv1,m2v,mv2,m0lb,mlb0,m1lb,mlb1,m2lb,mlb2]),hVv];show a0h H _ ((r.V.map Vc.enc).flatMap a0w++[lb]) _=_;rw[V2,List.nil_append];rw[a07 (by simp[a03,a06,n3l,nl3,n3v,nv3,nvl,nlv,m0v,mv0,m1v,mv1,m2v,mv2,m0lb,mlb0,m1lb,mlb1,m2lb,mlb2]),hl];show a0h H _ (LR.flatMap a0w++[]) _=_;rw[L2];exact a13 _ _ _
  have hids:=hst _ hrc;have hflt:([0,1,2,3,v,lb]:List Nat).filter (λb=>decide (3≤b))=[3,v,lb]:=by simp[hl3,ov]
  rw[hflt]at hids;rw[hids,hcan];have c1:a2a [3,v,lb]=true:=by simp[a11,a19,a03,a06,n3l,nl3,n3v,nv3,nvl,nlv,m0v,mv0,m1v,mv1,m2v,mv2,m0lb,mlb0,m1lb,mlb1,m2lb,mlb2]
  have c2:([3,v,lb]:List Nat).all (λb=>decide (3≤b))=true:=by simp[hl3,ov]
  rw[c1,c2,decide_eq_true hHl];simp only[Bool.and_self,cond_true,b1l,ht,a0u,List.map_cons,List.map_nil,hb,hl,hVv,Option.map_some,a0q,S1,T1,V1,L1,List.cons_append,List.nil_append,List.length_cons,List.length_nil];have dv:decide (v<3)=false:=decide_eq_false (by omega);have dlb:decide (lb<3)=false:=decide_eq_false (by omega);simp only[a5o,a4q,ren,a4d,a7v,List.idxOf?_cons,List.idxOf?_nil,dv,dlb,cond_false,cond_true];simp[n3l,nl3,n3v,nv3,nvl,nlv,m0v,mv0,m1v,mv1,m2v,mv2,m0lb,mlb0,m1lb,mlb1,m2lb,mlb2,hl3,ov]
 ·have lt9:=a0t hTt;have n3t:(3:Nat)≠t:=a0x 3 t 4 6 _ _ hb hTt (by decide);have nt3:t≠3:=Ne.symm n3t;have ntl:t≠lb:=a0x t lb 6 1 _ _ hTt hl (by decide);have nlt:lb≠t:=Ne.symm ntl;have m0t:(0:Nat)≠t:=by omega
  have mt0:t≠0:=by omega
  have m1t:(1:Nat)≠t:=by omega
  have mt1:t≠1:=by omega
  have m2t:(2:Nat)≠t:=by omega
  have mt2:t≠2:=by omega
  have m0lb:(0:Nat)≠lb:=by omega
  have mlb0:lb≠0:=by omega
  have m1lb:(1:Nat)≠lb:=by omega
  have mlb1:lb≠1:=by omega
  have m2lb:(2:Nat)≠lb:=by omega
  have mlb2:lb≠2:=by omega
  have hcan:a24 r=[some (.row 4 [[.nilslice,.slice 4 0 (r.T.map Tm.enc).length none,.nilslice,.int .i64 r.sum]]),some (.row 6 (r.T.map Tm.enc))]:=by unfold a24;rw[hS0,a0a,a0c,a0k _ hT0,a0n _ hT0,hV0,a0a,a0c];rfl
  have hrc:a0h H 1000000 ((H.take 3).flatMap a39++a0w [AV.ptr 0 0 0,.ptr 1 0 0,.ptr 2 0 0,.ptr 3 0 0,.slice lb 0 nl (some nl),.int .i64 nl,.int .i64 (i:Nat)]) []=[0,1,2,3,t,lb]:=by rw[ht];show a0h H 1000000 [0,1,2,3,lb] []=_;rw[rw9,a07 rfl,z0,List.nil_append,a07 rfl,z1,List.nil_append,a07 rfl,z2,List.nil_append,a07 rfl,hb];show a0h H _ ([t]++[lb]) _=_;simp only[List.cons_append,List.nil_append];rw[a07 (by simp[a03,a06,n3l,nl3,n3t,nt3,ntl,nlt,m0t,mt0,m1t,mt1,m2t,mt2,m0lb,mlb0,m1lb,mlb1,m2lb,mlb2]),hTt];show a0h H _ ((r.T.map Tm.enc).flatMap a0w++[lb]) _=_;rw[T2,List.nil_append];rw[a07 (by simp[a03,a06,n3l,nl3,n3t,nt3,ntl,nlt,m0t,mt0,m1t,mt1,m2t,mt2,m0lb,mlb0,m1lb,mlb1,m2lb,mlb2]),hl];show a0h H _ (LR.flatMap a0w++[]) _=_;rw[L2];exact a13 _ _ _
  have hids:=hst _ hrc;have hflt:([0,1,2,3,t,lb]:List Nat).filter (λb=>decide (3≤b))=[3,t,lb]:=by simp[hl3,ot]
  rw[hflt]at hids;rw[hids,hcan];have c1:a2a [3,t,lb]=true:=by simp[a11,a19,a03,a06,n3l,nl3,n3t,nt3,ntl,nlt,m0t,mt0,m1t,mt1,m2t,mt2,m0lb,mlb0,m1lb,mlb1,m2lb,mlb2]
  have c2:([3,t,lb]:List Nat).all (λb=>decide (3≤b))=true:=by simp[hl3,ot]
  rw[c1,c2,decide_eq_true hHl];simp only[Bool.and_self,cond_true,b1l,ht,a0u,List.map_cons,List.map_nil,hb,hl,hTt,Option.map_some,a0q,S1,T1,V1,L1,List.cons_append,List.nil_append,List.length_cons,List.length_nil];have dt:decide (t<3)=false:=decide_eq_false (by omega);have dlb:decide (lb<3)=false:=decide_eq_false (by omega);simp only[a5o,a4q,ren,a4d,a7v,List.idxOf?_cons,List.idxOf?_nil,dt,dlb,cond_false,cond_true];simp[n3l,nl3,n3t,nt3,ntl,nlt,m0t,mt0,m1t,mt1,m2t,mt2,m0lb,mlb0,m1lb,mlb1,m2lb,mlb2,hl3,ot]
 ·have lt9:=a0t hTt;have n3t:(3:Nat)≠t:=a0x 3 t 4 6 _ _ hb hTt (by decide);have nt3:t≠3:=Ne.symm n3t;have ntl:t≠lb:=a0x t lb 6 1 _ _ hTt hl (by decide);have nlt:lb≠t:=Ne.symm ntl;have lv9:=a0t hVv;have n3v:(3:Nat)≠v:=a0x 3 v 4 3 _ _ hb hVv (by decide);have nv3:v≠3:=Ne.symm n3v;have nvl:v≠lb:=a0x v lb 3 1 _ _ hVv hl (by decide);have nlv:lb≠v:=Ne.symm nvl;have ntv:t≠v:=a0x t v 6 3 _ _ hTt hVv (by decide);have nvt:v≠t:=Ne.symm ntv;have m0t:(0:Nat)≠t:=by omega
  have mt0:t≠0:=by omega
  have m1t:(1:Nat)≠t:=by omega
  have mt1:t≠1:=by omega
  have m2t:(2:Nat)≠t:=by omega
  have mt2:t≠2:=by omega
  have m0v:(0:Nat)≠v:=by omega
  have mv0:v≠0:=by omega
  have m1v:(1:Nat)≠v:=by omega
  have mv1:v≠1:=by omega
  have m2v:(2:Nat)≠v:=by omega
  have mv2:v≠2:=by omega
  have m0lb:(0:Nat)≠lb:=by omega
  have mlb0:lb≠0:=by omega
  have m1lb:(1:Nat)≠lb:=by omega
  have mlb1:lb≠1:=by omega
  have m2lb:(2:Nat)≠lb:=by omega
  have mlb2:lb≠2:=by omega
  have hcan:a24 r=[some (.row 4 [[.nilslice,.slice 4 0 (r.T.map Tm.enc).length none,.slice 5 0 (r.V.map Vc.enc).length none,.int .i64 r.sum]]),some (.row 6 (r.T.map Tm.enc)),some (.row 3 (r.V.map Vc.enc))]:=by unfold a24;rw[hS0,a0a,a0c,a0k _ hT0,a0n _ hT0,a0k _ hV0,a0n _ hV0];rfl
  have hrc:a0h H 1000000 ((H.take 3).flatMap a39++a0w [AV.ptr 0 0 0,.ptr 1 0 0,.ptr 2 0 0,.ptr 3 0 0,.slice lb 0 nl (some nl),.int .i64 nl,.int .i64 (i:Nat)]) []=[0,1,2,3,t,v,lb]:=by rw[ht];show a0h H 1000000 [0,1,2,3,lb] []=_;rw[rw9,a07 rfl,z0,List.nil_append,a07 rfl,z1,List.nil_append,a07 rfl,z2,List.nil_append,a07 rfl,hb];show a0h H _ ([t,v]++[lb]) _=_;simp only[List.cons_append,List.nil_append];rw[a07 (by simp[a03,a06,n3l,nl3,n3t,nt3,ntl,nlt,n3v,nv3,nvl,nlv,ntv,nvt,m0t,mt0,m1t,mt1,m2t,mt2,m0v,mv0,m1v,mv1,m2v,mv2,m0lb,mlb0,m1lb,mlb1,m2lb,mlb2]),hTt];show a0h H _ ((r.T.map Tm.enc).flatMap a0w++[v,lb]) _=_;rw[T2,List.nil_append];rw[a07 (by simp[a03,a06,n3l,nl3,n3t,nt3,ntl,nlt,n3v,nv3,nvl,nlv,ntv,nvt,m0t,mt0,m1t,mt1,m2t,mt2,m0v,mv0,m1v,mv1,m2v,mv2,m0lb,mlb0,m1lb,mlb1,m2lb,mlb2]),hVv];show a0h H _ ((r.V.map Vc.enc).flatMap a0w++[lb]) _=_;rw[V2,List.nil_append];rw[a07 (by simp[a03,a06,n3l,nl3,n3t,nt3,ntl,nlt,n3v,nv3,nvl,nlv,ntv,nvt,m0t,mt0,m1t,mt1,m2t,mt2,m0v,mv0,m1v,mv1,m2v,mv2,m0lb,mlb0,m1lb,mlb1,m2lb,mlb2]),hl];show a0h H _ (LR.flatMap a0w++[]) _=_;rw[L2];exact a13 _ _ _
  have hids:=hst _ hrc;have hflt:([0,1,2,3,t,v,lb]:List Nat).filter (λb=>decide (3≤b))=[3,t,v,lb]:=by simp[hl3,ot,ov]
  rw[hflt]at hids;rw[hids,hcan];have c1:a2a [3,t,v,lb]=true:=by simp[a11,a19,a03,a06,n3l,nl3,n3t,nt3,ntl,nlt,n3v,nv3,nvl,nlv,ntv,nvt,m0t,mt0,m1t,mt1,m2t,mt2,m0v,mv0,m1v,mv1,m2v,mv2,m0lb,mlb0,m1lb,mlb1,m2lb,mlb2]
  have c2:([3,t,v,lb]:List Nat).all (λb=>decide (3≤b))=true:=by simp[hl3,ot,ov]
  rw[c1,c2,decide_eq_true hHl];simp only[Bool.and_self,cond_true,b1l,ht,a0u,List.map_cons,List.map_nil,hb,hl,hTt,hVv,Option.map_some,a0q,S1,T1,V1,L1,List.cons_append,List.nil_append,List.length_cons,List.length_nil];have dt:decide (t<3)=false:=decide_eq_false (by omega);have dv:decide (v<3)=false:=decide_eq_false (by omega);have dlb:decide (lb<3)=false:=decide_eq_false (by omega);simp only[a5o,a4q,ren,a4d,a7v,List.idxOf?_cons,List.idxOf?_nil,dt,dv,dlb,cond_false,cond_true];simp[n3l,nl3,n3t,nt3,ntl,nlt,n3v,nv3,nvl,nlv,ntv,nvt,m0t,mt0,m1t,mt1,m2t,mt2,m0v,mv0,m1v,mv1,m2v,mv2,m0lb,mlb0,m1lb,mlb1,m2lb,mlb2,hl3,ot,ov]
 ·have la9:=a0t hSa;have n3a:(3:Nat)≠a:=a0x 3 a 4 2 _ _ hb hSa (by decide);have na3:a≠3:=Ne.symm n3a;have nal:a≠lb:=a0x a lb 2 1 _ _ hSa hl (by decide);have nla:lb≠a:=Ne.symm nal;have m0a:(0:Nat)≠a:=by omega
  have ma0:a≠0:=by omega
  have m1a:(1:Nat)≠a:=by omega
  have ma1:a≠1:=by omega
  have m2a:(2:Nat)≠a:=by omega
  have ma2:a≠2:=by omega
  have m0lb:(0:Nat)≠lb:=by omega
  have mlb0:lb≠0:=by omega
  have m1lb:(1:Nat)≠lb:=by omega
  have mlb1:lb≠1:=by omega
  have m2lb:(2:Nat)≠lb:=by omega
  have mlb2:lb≠2:=by omega
  have hcan:a24 r=[some (.row 4 [[.slice 4 0 (r.S.map Sg.enc).length none,.nilslice,.nilslice,.int .i64 r.sum]]),some (.row 2 (r.S.map Sg.enc))]:=by unfold a24;rw[a0k _ hS0,a0n _ hS0,hT0,a0a,a0c,hV0,a0a,a0c];rfl
  have hrc:a0h H 1000000 ((H.take 3).flatMap a39++a0w [AV.ptr 0 0 0,.ptr 1 0 0,.ptr 2 0 0,.ptr 3 0 0,.slice lb 0 nl (some nl),.int .i64 nl,.int .i64 (i:Nat)]) []=[0,1,2,3,a,lb]:=by rw[ht];show a0h H 1000000 [0,1,2,3,lb] []=_;rw[rw9,a07 rfl,z0,List.nil_append,a07 rfl,z1,List.nil_append,a07 rfl,z2,List.nil_append,a07 rfl,hb];show a0h H _ ([a]++[lb]) _=_;simp only[List.cons_append,List.nil_append];rw[a07 (by simp[a03,a06,n3l,nl3,n3a,na3,nal,nla,m0a,ma0,m1a,ma1,m2a,ma2,m0lb,mlb0,m1lb,mlb1,m2lb,mlb2]),hSa];show a0h H _ ((r.S.map Sg.enc).flatMap a0w++[lb]) _=_;rw[S2,List.nil_append];rw[a07 (by simp[a03,a06,n3l,nl3,n3a,na3,nal,nla,m0a,ma0,m1a,ma1,m2a,ma2,m0lb,mlb0,m1lb,mlb1,m2lb,mlb2]),hl];show a0h H _ (LR.flatMap a0w++[]) _=_;rw[L2];exact a13 _ _ _
  have hids:=hst _ hrc;have hflt:([0,1,2,3,a,lb]:List Nat).filter (λb=>decide (3≤b))=[3,a,lb]:=by simp[hl3,oa]
  rw[hflt]at hids;rw[hids,hcan];have c1:a2a [3,a,lb]=true:=by simp[a11,a19,a03,a06,n3l,nl3,n3a,na3,nal,nla,m0a,ma0,m1a,ma1,m2a,ma2,m0lb,mlb0,m1lb,mlb1,m2lb,mlb2]
  have c2:([3,a,lb]:List Nat).all (λb=>decide (3≤b))=true:=by simp[hl3,oa]
  rw[c1,c2,decide_eq_true hHl];simp only[Bool.and_self,cond_true,b1l,ht,a0u,List.map_cons,List.map_nil,hb,hl,hSa,Option.map_some,a0q,S1,T1,V1,L1,List.cons_append,List.nil_append,List.length_cons,List.length_nil];have da:decide (a<3)=false:=decide_eq_false (by omega);have dlb:decide (lb<3)=false:=decide_eq_false (by omega);simp only[a5o,a4q,ren,a4d,a7v,List.idxOf?_cons,List.idxOf?_nil,da,dlb,cond_false,cond_true];simp[n3l,nl3,n3a,na3,nal,nla,m0a,ma0,m1a,ma1,m2a,ma2,m0lb,mlb0,m1lb,mlb1,m2lb,mlb2,hl3,oa]
 ·have la9:=a0t hSa;have n3a:(3:Nat)≠a:=a0x 3 a 4 2 _ _ hb hSa (by decide);have na3:a≠3:=Ne.symm n3a;have nal:a≠lb:=a0x a lb 2 1 _ _ hSa hl (by decide);have nla:lb≠a:=Ne.symm nal;have lv9:=a0t hVv;have n3v:(3:Nat)≠v:=a0x 3 v 4 3 _ _ hb hVv (by decide);have nv3:v≠3:=Ne.symm n3v;have nvl:v≠lb:=a0x v lb 3 1 _ _ hVv hl (by decide);have nlv:lb≠v:=Ne.symm nvl;have nav:a≠v:=a0x a v 2 3 _ _ hSa hVv (by decide);have nva:v≠a:=Ne.symm nav;have m0a:(0:Nat)≠a:=by omega
  have ma0:a≠0:=by omega
  have m1a:(1:Nat)≠a:=by omega
  have ma1:a≠1:=by omega
  have m2a:(2:Nat)≠a:=by omega
  have ma2:a≠2:=by omega
  have m0v:(0:Nat)≠v:=by omega
  have mv0:v≠0:=by omega
  have m1v:(1:Nat)≠v:=by omega
  have mv1:v≠1:=by omega
  have m2v:(2:Nat)≠v:=by omega
  have mv2:v≠2:=by omega
  have m0lb:(0:Nat)≠lb:=by omega
  have mlb0:lb≠0:=by omega
  have m1lb:(1:Nat)≠lb:=by omega
  have mlb1:lb≠1:=by omega
  have m2lb:(2:Nat)≠lb:=by omega
  have mlb2:lb≠2:=by omega
  have hcan:a24 r=[some (.row 4 [[.slice 4 0 (r.S.map Sg.enc).length none,.nilslice,.slice 5 0 (r.V.map Vc.enc).length none,.int .i64 r.sum]]),some (.row 2 (r.S.map Sg.enc)),some (.row 3 (r.V.map Vc.enc))]:=by unfold a24;rw[a0k _ hS0,a0n _ hS0,hT0,a0a,a0c,a0k _ hV0,a0n _ hV0];rfl
  have hrc:a0h H 1000000 ((H.take 3).flatMap a39++a0w [AV.ptr 0 0 0,.ptr 1 0 0,.ptr 2 0 0,.ptr 3 0 0,.slice lb 0 nl (some nl),.int .i64 nl,.int .i64 (i:Nat)]) []=[0,1,2,3,a,v,lb]:=by rw[ht];show a0h H 1000000 [0,1,2,3,lb] []=_;rw[rw9,a07 rfl,z0,List.nil_append,a07 rfl,z1,List.nil_append,a07 rfl,z2,List.nil_append,a07 rfl,hb];show a0h H _ ([a,v]++[lb]) _=_;simp only[List.cons_append,List.nil_append];rw[a07 (by simp[a03,a06,n3l,nl3,n3a,na3,nal,nla,n3v,nv3,nvl,nlv,nav,nva,m0a,ma0,m1a,ma1,m2a,ma2,m0v,mv0,m1v,mv1,m2v,mv2,m0lb,mlb0,m1lb,mlb1,m2lb,mlb2]),hSa];show a0h H _ ((r.S.map Sg.enc).flatMap a0w++[v,lb]) _=_;rw[S2,List.nil_append];rw[a07 (by simp[a03,a06,n3l,nl3,n3a,na3,nal,nla,n3v,nv3,nvl,nlv,nav,nva,m0a,ma0,m1a,ma1,m2a,ma2,m0v,mv0,m1v,mv1,m2v,mv2,m0lb,mlb0,m1lb,mlb1,m2lb,mlb2]),hVv];show a0h H _ ((r.V.map Vc.enc).flatMap a0w++[lb]) _=_;rw[V2,List.nil_append];rw[a07 (by simp[a03,a06,n3l,nl3,n3a,na3,nal,nla,n3v,nv3,nvl,nlv,nav,nva,m0a,ma0,m1a,ma1,m2a,ma2,m0v,mv0,m1v,mv1,m2v,mv2,m0lb,mlb0,m1lb,mlb1,m2lb,mlb2]),hl];show a0h H _ (LR.flatMap a0w++[]) _=_;rw[L2];exact a13 _ _ _
  have hids:=hst _ hrc;have hflt:([0,1,2,3,a,v,lb]:List Nat).filter (λb=>decide (3≤b))=[3,a,v,lb]:=by simp[hl3,oa,ov]
  rw[hflt]at hids;rw[hids,hcan];have c1:a2a [3,a,v,lb]=true:=by simp[a11,a19,a03,a06,n3l,nl3,n3a,na3,nal,nla,n3v,nv3,nvl,nlv,nav,nva,m0a,ma0,m1a,ma1,m2a,ma2,m0v,mv0,m1v,mv1,m2v,mv2,m0lb,mlb0,m1lb,mlb1,m2lb,mlb2]
  have c2:([3,a,v,lb]:List Nat).all (λb=>decide (3≤b))=true:=by simp[hl3,oa,ov]
  rw[c1,c2,decide_eq_true hHl];simp only[Bool.and_self,cond_true,b1l,ht,a0u,List.map_cons,List.map_nil,hb,hl,hSa,hVv,Option.map_some,a0q,S1,T1,V1,L1,List.cons_append,List.nil_append,List.length_cons,List.length_nil];have da:decide (a<3)=false:=decide_eq_false (by omega);have dv:decide (v<3)=false:=decide_eq_false (by omega);have dlb:decide (lb<3)=false:=decide_eq_false (by omega);simp only[a5o,a4q,ren,a4d,a7v,List.idxOf?_cons,List.idxOf?_nil,da,dv,dlb,cond_false,cond_true];simp[n3l,nl3,n3a,na3,nal,nla,n3v,nv3,nvl,nlv,nav,nva,m0a,ma0,m1a,ma1,m2a,ma2,m0v,mv0,m1v,mv1,m2v,mv2,m0lb,mlb0,m1lb,mlb1,m2lb,mlb2,hl3,oa,ov]
 ·have la9:=a0t hSa;have n3a:(3:Nat)≠a:=a0x 3 a 4 2 _ _ hb hSa (by decide);have na3:a≠3:=Ne.symm n3a;have nal:a≠lb:=a0x a lb 2 1 _ _ hSa hl (by decide);have nla:lb≠a:=Ne.symm nal;have lt9:=a0t hTt;have n3t:(3:Nat)≠t:=a0x 3 t 4 6 _ _ hb hTt (by decide);have nt3:t≠3:=Ne.symm n3t;have ntl:t≠lb:=a0x t lb 6 1 _ _ hTt hl (by decide);have nlt:lb≠t:=Ne.symm ntl;have nat:a≠t:=a0x a t 2 6 _ _ hSa hTt (by decide);have nta:t≠a:=Ne.symm nat;have m0a:(0:Nat)≠a:=by omega
  have ma0:a≠0:=by omega
  have m1a:(1:Nat)≠a:=by omega
  have ma1:a≠1:=by omega
  have m2a:(2:Nat)≠a:=by omega
  have ma2:a≠2:=by omega
  have m0t:(0:Nat)≠t:=by omega
  have mt0:t≠0:=by omega
  have m1t:(1:Nat)≠t:=by omega
  have mt1:t≠1:=by omega
  have m2t:(2:Nat)≠t:=by omega
  have mt2:t≠2:=by omega
  have m0lb:(0:Nat)≠lb:=by omega
  have mlb0:lb≠0:=by omega
  have m1lb:(1:Nat)≠lb:=by omega
  have mlb1:lb≠1:=by omega
  have m2lb:(2:Nat)≠lb:=by omega
  have mlb2:lb≠2:=by omega
  have hcan:a24 r=[some (.row 4 [[.slice 4 0 (r.S.map Sg.enc).length none,.slice 5 0 (r.T.map Tm.enc).length none,.nilslice,.int .i64 r.sum]]),some (.row 2 (r.S.map Sg.enc)),some (.row 6 (r.T.map Tm.enc))]:=by unfold a24;rw[a0k _ hS0,a0n _ hS0,a0k _ hT0,a0n _ hT0,hV0,a0a,a0c];rfl
  have hrc:a0h H 1000000 ((H.take 3).flatMap a39++a0w [AV.ptr 0 0 0,.ptr 1 0 0,.ptr 2 0 0,.ptr 3 0 0,.slice lb 0 nl (some nl),.int .i64 nl,.int .i64 (i:Nat)]) []=[0,1,2,3,a,t,lb]:=by rw[ht];show a0h H 1000000 [0,1,2,3,lb] []=_;rw[rw9,a07 rfl,z0,List.nil_append,a07 rfl,z1,List.nil_append,a07 rfl,z2,List.nil_append,a07 rfl,hb];show a0h H _ ([a,t]++[lb]) _=_;simp only[List.cons_append,List.nil_append];rw[a07 (by simp[a03,a06,n3l,nl3,n3a,na3,nal,nla,n3t,nt3,ntl,nlt,nat,nta,m0a,ma0,m1a,ma1,m2a,ma2,m0t,mt0,m1t,mt1,m2t,mt2,m0lb,mlb0,m1lb,mlb1,m2lb,mlb2]),hSa];show a0h H _ ((r.S.map Sg.enc).flatMap a0w++[t,lb]) _=_;rw[S2,List.nil_append];rw[a07 (by simp[a03,a06,n3l,nl3,n3a,na3,nal,nla,n3t,nt3,ntl,nlt,nat,nta,m0a,ma0,m1a,ma1,m2a,ma2,m0t,mt0,m1t,mt1,m2t,mt2,m0lb,mlb0,m1lb,mlb1,m2lb,mlb2]),hTt];show a0h H _ ((r.T.map Tm.enc).flatMap a0w++[lb]) _=_;rw[T2,List.nil_append];rw[a07 (by simp[a03,a06,n3l,nl3,n3a,na3,nal,nla,n3t,nt3,ntl,nlt,nat,nta,m0a,ma0,m1a,ma1,m2a,ma2,m0t,mt0,m1t,mt1,m2t,mt2,m0lb,mlb0,m1lb,mlb1,m2lb,mlb2]),hl];show a0h H _ (LR.flatMap a0w++[]) _=_;rw[L2];exact a13 _ _ _
  have hids:=hst _ hrc;have hflt:([0,1,2,3,a,t,lb]:List Nat).filter (λb=>decide (3≤b))=[3,a,t,lb]:=by simp[hl3,oa,ot]
  rw[hflt]at hids;rw[hids,hcan];have c1:a2a [3,a,t,lb]=true:=by simp[a11,a19,a03,a06,n3l,nl3,n3a,na3,nal,nla,n3t,nt3,ntl,nlt,nat,nta,m0a,ma0,m1a,ma1,m2a,ma2,m0t,mt0,m1t,mt1,m2t,mt2,m0lb,mlb0,m1lb,mlb1,m2lb,mlb2]
  have c2:([3,a,t,lb]:List Nat).all (λb=>decide (3≤b))=true:=by simp[hl3,oa,ot]
  rw[c1,c2,decide_eq_true hHl];simp only[Bool.and_self,cond_true,b1l,ht,a0u,List.map_cons,List.map_nil,hb,hl,hSa,hTt,Option.map_some,a0q,S1,T1,V1,L1,List.cons_append,List.nil_append,List.length_cons,List.length_nil];have da:decide (a<3)=false:=decide_eq_false (by omega);have dt:decide (t<3)=false:=decide_eq_false (by omega);have dlb:decide (lb<3)=false:=decide_eq_false (by omega);simp only[a5o,a4q,ren,a4d,a7v,List.idxOf?_cons,List.idxOf?_nil,da,dt,dlb,cond_false,cond_true];simp[n3l,nl3,n3a,na3,nal,nla,n3t,nt3,ntl,nlt,nat,nta,m0a,ma0,m1a,ma1,m2a,ma2,m0t,mt0,m1t,mt1,m2t,mt2,m0lb,mlb0,m1lb,mlb1,m2lb,mlb2,hl3,oa,ot]
 ·have la9:=a0t hSa;have n3a:(3:Nat)≠a:=a0x 3 a 4 2 _ _ hb hSa (by decide);have na3:a≠3:=Ne.symm n3a;have nal:a≠lb:=a0x a lb 2 1 _ _ hSa hl (by decide);have nla:lb≠a:=Ne.symm nal;have lt9:=a0t hTt;have n3t:(3:Nat)≠t:=a0x 3 t 4 6 _ _ hb hTt (by decide);have nt3:t≠3:=Ne.symm n3t;have ntl:t≠lb:=a0x t lb 6 1 _ _ hTt hl (by decide);have nlt:lb≠t:=Ne.symm ntl;have lv9:=a0t hVv;have n3v:(3:Nat)≠v:=a0x 3 v 4 3 _ _ hb hVv (by decide);have nv3:v≠3:=Ne.symm n3v;have nvl:v≠lb:=a0x v lb 3 1 _ _ hVv hl (by decide);have nlv:lb≠v:=Ne.symm nvl;have nat:a≠t:=a0x a t 2 6 _ _ hSa hTt (by decide);have nta:t≠a:=Ne.symm nat;have nav:a≠v:=a0x a v 2 3 _ _ hSa hVv (by decide);have nva:v≠a:=Ne.symm nav;have ntv:t≠v:=a0x t v 6 3 _ _ hTt hVv (by decide);have nvt:v≠t:=Ne.symm ntv;have m0a:(0:Nat)≠a:=by omega
  have ma0:a≠0:=by omega
  have m1a:(1:Nat)≠a:=by omega
  have ma1:a≠1:=by omega
  have m2a:(2:Nat)≠a:=by omega
  have ma2:a≠2:=by omega
  have m0t:(0:Nat)≠t:=by omega
  have mt0:t≠0:=by omega
  have m1t:(1:Nat)≠t:=by omega
  have mt1:t≠1:=by omega
  have m2t:(2:Nat)≠t:=by omega
  have mt2:t≠2:=by omega
  have m0v:(0:Nat)≠v:=by omega
  have mv0:v≠0:=by omega
  have m1v:(1:Nat)≠v:=by omega
  have mv1:v≠1:=by omega
  have m2v:(2:Nat)≠v:=by omega
  have mv2:v≠2:=by omega
  have m0lb:(0:Nat)≠lb:=by omega
  have mlb0:lb≠0:=by omega
  have m1lb:(1:Nat)≠lb:=by omega
  have mlb1:lb≠1:=by omega
  have m2lb:(2:Nat)≠lb:=by omega
  have mlb2:lb≠2:=by omega
  have hcan:a24 r=[some (.row 4 [[.slice 4 0 (r.S.map Sg.enc).length none,.slice 5 0 (r.T.map Tm.enc).length none,.slice 6 0 (r.V.map Vc.enc).length none,.int .i64 r.sum]]),some (.row 2 (r.S.map Sg.enc)),some (.row 6 (r.T.map Tm.enc)),some (.row 3 (r.V.map Vc.enc))]:=by unfold a24;rw[a0k _ hS0,a0n _ hS0,a0k _ hT0,a0n _ hT0,a0k _ hV0,a0n _ hV0];rfl
  have hrc:a0h H 1000000 ((H.take 3).flatMap a39++a0w [AV.ptr 0 0 0,.ptr 1 0 0,.ptr 2 0 0,.ptr 3 0 0,.slice lb 0 nl (some nl),.int .i64 nl,.int .i64 (i:Nat)]) []=[0,1,2,3,a,t,v,lb]:=by rw[ht];show a0h H 1000000 [0,1,2,3,lb] []=_;rw[rw9,a07 rfl,z0,List.nil_append,a07 rfl,z1,List.nil_append,a07 rfl,z2,List.nil_append,a07 rfl,hb];show a0h H _ ([a,t,v]++[lb]) _=_;simp only[List.cons_append,List.nil_append];rw[a07 (by simp[a03,a06,n3l,nl3,n3a,na3,nal,nla,n3t,nt3,ntl,nlt,n3v,nv3,nvl,nlv,nat,nav,nta,ntv,nva,nvt,m0a,ma0,m1a,ma1,m2a,ma2,m0t,mt0,m1t,mt1,m2t,mt2,m0v,mv0,m1v,mv1,m2v,mv2,m0lb,mlb0,m1lb,mlb1,m2lb,mlb2]),hSa];show a0h H _ ((r.S.map Sg.enc).flatMap a0w++[t,v,lb]) _=_;rw[S2,List.nil_append];rw[a07 (by simp[a03,a06,n3l,nl3,n3a,na3,nal,nla,n3t,nt3,ntl,nlt,n3v,nv3,nvl,nlv,nat,nav,nta,ntv,nva,nvt,m0a,ma0,m1a,ma1,m2a,ma2,m0t,mt0,m1t,mt1,m2t,mt2,m0v,mv0,m1v,mv1,m2v,mv2,m0lb,mlb0,m1lb,mlb1,m2lb,mlb2]),hTt];show a0h H _ ((r.T.map Tm.enc).flatMap a0w++[v,lb]) _=_;rw[T2,List.nil_append];rw[a07 (by simp[a03,a06,n3l,nl3,n3a,na3,nal,nla,n3t,nt3,ntl,nlt,n3v,nv3,nvl,nlv,nat,nav,nta,ntv,nva,nvt,m0a,ma0,m1a,ma1,m2a,ma2,m0t,mt0,m1t,mt1,m2t,mt2,m0v,mv0,m1v,mv1,m2v,mv2,m0lb,mlb0,m1lb,mlb1,m2lb,mlb2]),hVv];show a0h H _ ((r.V.map Vc.enc).flatMap a0w++[lb]) _=_;rw[V2,List.nil_append];rw[a07 (by simp[a03,a06,n3l,nl3,n3a,na3,nal,nla,n3t,nt3,ntl,nlt,n3v,nv3,nvl,nlv,nat,nav,nta,ntv,nva,nvt,m0a,ma0,m1a,ma1,m2a,ma2,m0t,mt0,m1t,mt1,m2t,mt2,m0v,mv0,m1v,mv1,m2v,mv2,m0lb,mlb0,m1lb,mlb1,m2lb,mlb2]),hl];show a0h H _ (LR.flatMap a0w++[]) _=_;rw[L2];exact a13 _ _ _
  have hids:=hst _ hrc;have hflt:([0,1,2,3,a,t,v,lb]:List Nat).filter (λb=>decide (3≤b))=[3,a,t,v,lb]:=by simp[hl3,oa,ot,ov]
  rw[hflt]at hids;rw[hids,hcan];have c1:a2a [3,a,t,v,lb]=true:=by simp[a11,a19,a03,a06,n3l,nl3,n3a,na3,nal,nla,n3t,nt3,ntl,nlt,n3v,nv3,nvl,nlv,nat,nav,nta,ntv,nva,nvt,m0a,ma0,m1a,ma1,m2a,ma2,m0t,mt0,m1t,mt1,m2t,mt2,m0v,mv0,m1v,mv1,m2v,mv2,m0lb,mlb0,m1lb,mlb1,m2lb,mlb2]
  have c2:([3,a,t,v,lb]:List Nat).all (λb=>decide (3≤b))=true:=by simp[hl3,oa,ot,ov]
  rw[c1,c2,decide_eq_true hHl];simp only[Bool.and_self,cond_true,b1l,ht,a0u,List.map_cons,List.map_nil,hb,hl,hSa,hTt,hVv,Option.map_some,a0q,S1,T1,V1,L1,List.cons_append,List.nil_append,List.length_cons,List.length_nil];have da:decide (a<3)=false:=decide_eq_false (by omega);have dt:decide (t<3)=false:=decide_eq_false (by omega);have dv:decide (v<3)=false:=decide_eq_false (by omega);have dlb:decide (lb<3)=false:=decide_eq_false (by omega);simp only[a5o,a4q,ren,a4d,a7v,List.idxOf?_cons,List.idxOf?_nil,da,dt,dv,dlb,cond_false,cond_true];simp[n3l,nl3,n3a,na3,nal,nla,n3t,nt3,ntl,nlt,n3v,nv3,nvl,nlv,nat,nav,nta,ntv,nva,nvt,m0a,ma0,m1a,ma1,m2a,ma2,m0t,mt0,m1t,mt1,m2t,mt2,m0v,mv0,m1v,mv1,m2v,mv2,m0lb,mlb0,m1lb,mlb1,m2lb,mlb2,hl3,oa,ot,ov]
end Go.RInst
