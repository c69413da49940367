/- Part of a proof. No condition. -/
import Derived.Test.YtmbmjfjagololaaGreatDoorRRd
import Derived.Test.YtmbmjfjagololaaGreatDoorPcB
import Derived.Test.YtmbmjfjagololaaGreatDoorAxE
import Derived.Test.YtmbmjfjagololaaGreatDoorAxD
set_option linter.unusedSectionVars false
set_option linter.unusedSimpArgs false
set_option linter.unusedVariables false
namespace Go.RInst
open Go.Proofs Go.Ax Go.Pc
variable [PR]
set_option maxRecDepth 100000
abbrev Sg.enc(s:Sg):List AV:=[.str s.name,.int .u8 s.dir]
abbrev Tm.enc(t:Tm):List AV:=[.str t.name,.int .i64 t.per,.int .i64 t.dr,.int .i64 t.ri,.int .i64 t.fa,.int .i64 t.st]
abbrev Vc.enc(v:Vc):List AV:=[.int .i64 v.t,.str v.cells,.int .i64 v.rep]
theorem c9w(n:List UInt8)(d:Nat):sem L.env Mf 48 [.agg [.str n,.int .u8 d]] []=some (.bool (a9n ⟨n,d⟩),[]):=by
 have h:=λd H=>b3h (d:=d) H n;by_cases h1:a3s n=true
 ·rw[h1]at h;by_cases h2:d≤1
  ·have c2:(d:Int)≤1:=by omega
   have e:a9n ⟨n,d⟩=true:=by simp[a9n,h1,h2]
   rw[e]
   (refine sv Tryz.f48 ?_;simp only[Tryz.f48,gS])
   (repeat first|simp only[ww]|(apply xa;simp+decide only[go_sem,h,c2];rfl;kernel_rfl))
   (apply fqb;simp+decide only[go_sem]<;>rfl)
  ·have c2:¬(d:Int)≤1:=by omega
   have e:a9n ⟨n,d⟩=false:=by simp[a9n,h2]
   rw[e]
   (refine sv Tryz.f48 ?_;simp only[Tryz.f48,gS])
   (repeat first|simp only[ww]|(apply xa;simp+decide only[go_sem,h,c2];rfl;kernel_rfl))
   (apply fqb;simp+decide only[go_sem]<;>rfl)
 ·have h1:a3s n=false:=by simpa using h1
  have e:a9n ⟨n,d⟩=false:=by simp[a9n,h1]
  rw[h1]at h;rw[e]
  (refine sv Tryz.f48 ?_;simp only[Tryz.f48,gS])
  (repeat first|simp only[ww]|(apply xa;simp+decide only[go_sem,h];rfl;kernel_rfl))
  (apply fqb;simp+decide only[go_sem]<;>rfl)
theorem b2r(t:Tm):sem L.env Mf 49 [.agg (Tm.enc t)] []=some (.bool (a5l t),[]):=by
 have h:=λd H=>b3h (d:=d) H t.name;by_cases h1:a3s t.name=true
 ·rw[h1]at h;by_cases k0:(1:Int)≤t.per
  ·skip
   by_cases k1:t.per≤1000000
   ·skip
    by_cases k2:(0:Int)≤t.dr
    ·skip
     by_cases k3:t.dr<t.ri
     ·skip
      by_cases k4:t.ri<t.fa
      ·skip
       by_cases k5:t.fa<t.per
       ·skip
        by_cases k6:(0:Int)≤t.st
        ·skip
         by_cases k7:t.st<t.per
         ·have e:a5l t=true:=by simp[a5l,h1,k0,k1,k2,k3,k4,k5,k6,k7]
          rw[e]
          (refine sv Tryz.f49 ?_;simp only[Tryz.f49,gS])
          (repeat first|simp only[ww]|(apply xa;simp+decide only[go_sem,h,k0,k1,k2,k3,k4,k5,k6,k7];rfl;kernel_rfl))
          (apply fqb;simp+decide only[go_sem]<;>rfl)
         ·have e:a5l t=false:=by simp[a5l,k7]
          rw[e]
          (refine sv Tryz.f49 ?_;simp only[Tryz.f49,gS])
          (repeat first|simp only[ww]|(apply xa;simp+decide only[go_sem,h,k0,k1,k2,k3,k4,k5,k6,k7];rfl;kernel_rfl))
          (apply fqb;simp+decide only[go_sem]<;>rfl)
        ·have e:a5l t=false:=by simp[a5l,k6]
         rw[e]
         (refine sv Tryz.f49 ?_;simp only[Tryz.f49,gS])
         (repeat first|simp only[ww]|(apply xa;simp+decide only[go_sem,h,k0,k1,k2,k3,k4,k5,k6];rfl;kernel_rfl))
         (apply fqb;simp+decide only[go_sem]<;>rfl)
       ·have e:a5l t=false:=by simp[a5l,k5]
        rw[e]
        (refine sv Tryz.f49 ?_;simp only[Tryz.f49,gS])
        (repeat first|simp only[ww]|(apply xa;simp+decide only[go_sem,h,k0,k1,k2,k3,k4,k5];rfl;kernel_rfl))
        (apply fqb;simp+decide only[go_sem]<;>rfl)
      ·have e:a5l t=false:=by simp[a5l,k4]
       rw[e]
       (refine sv Tryz.f49 ?_;simp only[Tryz.f49,gS])
       (repeat first|simp only[ww]|(apply xa;simp+decide only[go_sem,h,k0,k1,k2,k3,k4];rfl;kernel_rfl))
       (apply fqb;simp+decide only[go_sem]<;>rfl)
     ·have e:a5l t=false:=by simp[a5l,k3]
      rw[e]
      (refine sv Tryz.f49 ?_;simp only[Tryz.f49,gS])
      (repeat first|simp only[ww]|(apply xa;simp+decide only[go_sem,h,k0,k1,k2,k3];rfl;kernel_rfl))
      (apply fqb;simp+decide only[go_sem]<;>rfl)
    ·have e:a5l t=false:=by simp[a5l,k2]
     rw[e]
     (refine sv Tryz.f49 ?_;simp only[Tryz.f49,gS])
     (repeat first|simp only[ww]|(apply xa;simp+decide only[go_sem,h,k0,k1,k2];rfl;kernel_rfl))
     (apply fqb;simp+decide only[go_sem]<;>rfl)
   ·have e:a5l t=false:=by simp[a5l,k1]
    rw[e]
    (refine sv Tryz.f49 ?_;simp only[Tryz.f49,gS])
    (repeat first|simp only[ww]|(apply xa;simp+decide only[go_sem,h,k0,k1];rfl;kernel_rfl))
    (apply fqb;simp+decide only[go_sem]<;>rfl)
  ·have e:a5l t=false:=by simp[a5l,k0]
   rw[e]
   (refine sv Tryz.f49 ?_;simp only[Tryz.f49,gS])
   (repeat first|simp only[ww]|(apply xa;simp+decide only[go_sem,h,k0];rfl;kernel_rfl))
   (apply fqb;simp+decide only[go_sem]<;>rfl)
 ·have h1:a3s t.name=false:=by simpa using h1
  have e:a5l t=false:=by simp[a5l,h1]
  rw[h1]at h;rw[e]
  (refine sv Tryz.f49 ?_;simp only[Tryz.f49,gS])
  (repeat first|simp only[ww]|(apply xa;simp+decide only[go_sem,h];rfl;kernel_rfl))
  (apply fqb;simp+decide only[go_sem]<;>rfl)
end Go.RInst
namespace Go.RInst
open Go.Proofs Go.Ax Go.Pc
variable [PR]
set_option maxRecDepth 100000
theorem d08(s:List UInt8)(c:UInt8):sem L.env Mf 86 [.str s,.int .u8 c.toNat] []=some (.int .i64 (Lib.indexByte s c),[]):=by
 have h:∀d H,a0e L.env d (sem L.env Mf) (.func (.func 102) [] []) [.str s,.int .u8 c.toNat] H=some (.int .i64 (Lib.indexByte s c),H,[]):=λd H=>by
  have hx:L.env.ext 102=true:=by kernel_rfl
  have hn:(L.env.fn 102).isSome=false:=by kernel_rfl
  simp only[a0e,hx,hn,e3e,e3p,b43,e2h,e00,Int.toNat_natCast];simp
 (refine sv Tryz.f86 ?_;simp only[Tryz.f86,gS])
 (repeat first|simp only[ww]|(apply xa;simp+decide only[go_sem,h];rfl;kernel_rfl))
 (apply fqb;simp+decide only[go_sem]<;>rfl)
theorem e1g(s:List UInt8)(c:UInt8):sem L.env Mf 68 [.str s,.int .u8 c.toNat] []=some (.int .i64 (Lib.indexByte s c),[]):=by
 have h:=λd H=>a0l (E:=L.env) (ai:=d) (call:=sem L.env Mf) (g:=86) (fs:=[]) (cs:=[]) (ar:=[.str s,.int .u8 c.toNat]) (H:=H) (by kernel_rfl) (by kernel_rfl) rfl (by rfl) (d08 s c) rfl
 (refine sv Tryz.f68 ?_;simp only[Tryz.f68,gS])
 (repeat first|simp only[ww]|(apply xa;simp+decide only[go_sem,h];rfl;kernel_rfl))
 (apply fqb;simp+decide only[go_sem]<;>rfl)
theorem a97{d:Bool}(H:a08)(s:List UInt8)(c:UInt8):a0e L.env d (sem L.env Mf) (.func (.func 68) [] []) [.str s,.int .u8 c.toNat] H=some (.int .i64 (Lib.indexByte s c),H,[]):=a0l (by kernel_rfl) (by kernel_rfl) rfl rfl (e1g s c) rfl
theorem a0s(l:List Sg):FlatR (l.map Sg.enc):=FlatR.map λ_=>rfl
theorem a0a(l:List Tm):FlatR (l.map Tm.enc):=FlatR.map λ_=>rfl
theorem a13(l:List Vc):FlatR (l.map Vc.enc):=FlatR.map λ_=>rfl
theorem d0u(v:Vc)(rs rt:Option (Option Nat))(S:List Sg)(T:List Tm)(V:AV)(hV:a6g V=[])(np:V.storable=true)(hS:S.length<1000000):sem L.env Mf 50 [.agg (Vc.enc v),.agg [sl rs (S.map Sg.enc),sl rt (T.map Tm.enc),V]] []=some (.bool (a22 v S T.length),[]):=by
 by_cases k0:v.t<0
 ·have e:a22 v S T.length=false:=by simp[a22];omega
  rw[e]
  (refine sv Tryz.f50 ?_;simp only[Tryz.f50,gS])
  (repeat first|simp only[ww]|(apply xa;simp+decide only[go_sem,k0,hV,np,b41];rfl;kernel_rfl))
  (apply fqb;simp+decide only[go_sem]<;>rfl)
 by_cases k1:(T.length:Int)≤v.t
 ·have e:a22 v S T.length=false:=by simp[a22];omega
  rw[e]
  (refine sv Tryz.f50 ?_;simp only[Tryz.f50,gS])
  (repeat first|simp only[ww]|(apply xa;simp+decide only[go_sem,k0,k1,hV,np,b41];rfl;kernel_rfl))
  (apply fqb;simp+decide only[go_sem]<;>rfl)
 by_cases k2:v.rep<1
 ·have e:a22 v S T.length=false:=by simp[a22];omega
  rw[e]
  (refine sv Tryz.f50 ?_;simp only[Tryz.f50,gS])
  (repeat first|simp only[ww]|(apply xa;simp+decide only[go_sem,k0,k1,k2,hV,np,b41];rfl;kernel_rfl))
  (apply fqb;simp+decide only[go_sem]<;>rfl)
 by_cases k3:(1000000:Int)<v.rep
 ·have e:a22 v S T.length=false:=by simp[a22];omega
  rw[e]
  (refine sv Tryz.f50 ?_;simp only[Tryz.f50,gS])
  (repeat first|simp only[ww]|(apply xa;simp+decide only[go_sem,k0,k1,k2,k3,hV,np,b41];rfl;kernel_rfl))
  (apply fqb;simp+decide only[go_sem]<;>rfl)
 by_cases k4:(v.cells.length:Int)=S.length
 case neg=>
  have e:a22 v S T.length=false:=by
   cases hc:a1w S v.cells with
   |false=>simp[a22,hc]
   |true=>exact absurd (by rw[a4s S v.cells hc]) k4
  rw[e]
  (refine sv Tryz.f50 ?_;simp only[Tryz.f50,gS])
  (repeat first|simp only[ww]|(apply xa;simp+decide only[go_sem,k0,k1,k2,k3,k4,hV,np,b41];rfl;kernel_rfl))
  (apply fqb;simp+decide only[go_sem]<;>rfl)
 have k5:S.length=v.cells.length:=by omega
 have eV:a22 v S T.length=a1w S v.cells:=by unfold a22;rw[e3d (by omega:0≤v.t),e3d (by omega:v.t<T.length),e3d (by omega:1≤v.rep),e3d (by omega:v.rep≤1000000)];rfl
 rw[eV]
 suffices hs:∃r:AV×a08,(r=(.bool (a1w S v.cells),[]))∧sem L.env Mf 50 [.agg (Vc.enc v),.agg [sl rs (S.map Sg.enc),sl rt (T.map Tm.enc),V]] []=some r by obtain⟨r,rfl,h3⟩:=hs;exact h3
 have fh:=λd H s c=>a97 (d:=d) H s c
 (refine svE Tryz.f50 ?_;simp only[Tryz.f50,gS])
 (repeat first|simp only[ww]|(apply xa;simp+decide only[go_sem,k0,k1,k2,k3,k4,hV,np,b41];rfl;kernel_rfl))
 refine a15 (σ:=Nat) kp50_0 (λi=>[(2,.ptr 0 0 0),(39,sl rs (S.map Sg.enc)),(40,.int .i64 S.length),(41,.int .i64 (i:Nat))]) (λ_=>[some (.row 3 [Vc.enc v])]) (λi=>S.length-i) (λi=>i≤S.length∧∀(j:Nat) (s:Sg) (c:UInt8),j<i→S[j]?=some s→v.cells[j]?=some c→(a1d s.dir).contains c=true) 0 ?_ ⟨e3h _,λj _ _ h=>by omega⟩ ?_
 ·(simp+decide only[go_sem,a0d,a07]<;>rfl)
 ·rintro i ⟨hi,aH⟩
  by_cases aq:i<S.length
  ·have l1:(i:Int)<S.length:=by omega
   obtain⟨s,hs⟩:∃s,S[i]?=some s:=⟨_,z9e aq⟩
   obtain⟨c,hc⟩:∃c,v.cells[i]?=some c:=⟨_,z9e (by omega)⟩
   have hw:IntKind.i64.wrap ((i:Int)+1)=((i+1:Nat):Int):=by rw[w64 (by omega) (by omega)];omega
   have b7:(S.map Sg.enc)[i]?=some (Sg.enc s):=by rw[e2e,hs];rfl
   have er:(a1d s.dir).contains c=true→∀(j:Nat) (s:Sg) (c:UInt8),j<i+1→S[j]?=some s→v.cells[j]?=some c→(a1d s.dir).contains c=true:=by
    intro h j s' c' hj h1 h2;by_cases e:j=i
    ·subst e;rw[hs]at h1;rw[hc]at h2;cases h1;cases h2;exact h
    ·exact aH j s' c' (by omega) h1 h2
   have eE:i<v.cells.length:=by omega
   by_cases hd:s.dir=1
   ·have d1:(s.dir:Int)=1:=by omega
    have hL:a1d s.dir=[76,72,88]:=by rw[hd];rfl
    by_cases hk:(a1d s.dir).contains c=true
    ·have c1:¬Lib.indexByte [76,72,88] c<0:=by have:=a8v _ _ hk;rw[hL]at this;omega
     (repeat first|simp only[ww]|(apply xa;simp+decide only[go_sem,l1,hw,b7,hs,hc,eE,d1,fh,c1,b41];rfl;kernel_rfl))
     refine a2p (i+1) ?_ (by omega) ⟨by omega,er hk⟩
     (simp+decide only[go_sem,a0d,a07]<;>rfl)
    ·have hk:(a1d s.dir).contains c=false:=by cases h:(a1d s.dir).contains c with|true=>exact absurd h hk|false=>rfl
     have c1:Lib.indexByte [76,72,88] c<0:=by have:=c2x _ _ hk;rw[hL]at this;omega
     have hr:a1w S v.cells=false:=a9b S v.cells i s c hs hc hk
     (repeat first|simp only[ww]|(apply xa;simp+decide only[go_sem,l1,hw,b7,hs,hc,eE,d1,fh,c1,b41];rfl;kernel_rfl))
     (apply a4x;(·simp+decide only[go_sem]<;>rfl))
     rw[hr]
   ·have d1:¬(s.dir:Int)=1:=by omega
    have hL:a1d s.dir=[48,49,88,80]:=e2i hd;by_cases hk:(a1d s.dir).contains c=true
    ·have c1:¬Lib.indexByte [48,49,88,80] c<0:=by have:=a8v _ _ hk;rw[hL]at this;omega
     (repeat first|simp only[ww]|(apply xa;simp+decide only[go_sem,l1,hw,b7,hs,hc,eE,d1,fh,c1,b41];rfl;kernel_rfl))
     refine a2p (i+1) ?_ (by omega) ⟨by omega,er hk⟩
     (simp+decide only[go_sem,a0d,a07]<;>rfl)
    ·have hk:(a1d s.dir).contains c=false:=by cases h:(a1d s.dir).contains c with|true=>exact absurd h hk|false=>rfl
     have c1:Lib.indexByte [48,49,88,80] c<0:=by have:=c2x _ _ hk;rw[hL]at this;omega
     have hr:a1w S v.cells=false:=a9b S v.cells i s c hs hc hk
     (repeat first|simp only[ww]|(apply xa;simp+decide only[go_sem,l1,hw,b7,hs,hc,eE,d1,fh,c1,b41];rfl;kernel_rfl))
     (apply a4x;(·simp+decide only[go_sem]<;>rfl))
     rw[hr]
  ·have l1:¬(i:Int)<S.length:=by omega
   have hr:a1w S v.cells=true:=a8p S v.cells k5 λj s c h1 h2=>aH j s c (by have:=(e26.1 h1).1;omega) h1 h2
   (repeat first|simp only[ww]|(apply xa;simp+decide only[go_sem,l1];rfl;kernel_rfl))
   (apply a4x;(·simp+decide only[go_sem]<;>rfl))
   rw[hr]
end Go.RInst
namespace Go.RInst
open Go.Proofs Go.Ax Go.Pc
variable [PR]
set_option maxRecDepth 100000
theorem c43:sem L.env Mf 51 [.nilslice] []=some (.bool false,[]):=c4f (E:=L.env) a9o 60 (by kernel_rfl)
def stR(s:List UInt8):List AV:=[.str s]
theorem a2o(l:List (List UInt8)):FlatR (l.map stR):=FlatR.map λ_=>rfl
theorem c8r(n:Nat)(R:List (List AV))(hn:R.length=n)(h0:0<n)(h1:n≤1000)(aH:R.all (λr=>decide (r.length=1))=true):sem L.env Mf 69 [.slice 0 0 n none] [some (.row 1 R)]=some (.slice 2 0 n none,[some (.row 1 R),some (.row 1 []),some (.row 1 R)]):=by
 have hb:L.env.bytes 9=16:=by kernel_rfl
 have cU:a2j L.env 9 n=true:=a91 (by omega) (by rw[hb];decide);have d1:¬n≤0:=by omega
 have ht:R.take n=R:=e3c (by omega)
 (refine sv Tryz.f69 ?_;simp only[Tryz.f69,gS])
 (repeat first|simp only[ww]|(apply xa;simp+decide only[go_sem,aH,hn,d1,cU,ht,e55];rfl;kernel_rfl))
 (apply fqb;simp+decide only[go_sem]<;>rfl)
theorem c33(n:Nat)(l:List (List UInt8))(hn:l.length=n)(h0:0<n)(h1:n≤1000):a0e L.env false (sem L.env Mf) (.func (.func 69) [] []) [.slice 0 0 n none] [some (.row 1 (l.map stR))]=some (.slice 2 0 n none,[some (.row 1 (l.map stR)),some (.row 1 []),some (.row 1 (l.map stR))],[0]):=by
 have hr:=λπ=>a02 π (a2o l);have aH:(l.map stR).all (λr=>decide (r.length=1))=true:=by rw[e3n];intro r hr;obtain⟨x,_,rfl⟩:=e6q.1 hr;rfl
 have hc:=a0b (sem L.env Mf 69) [.slice 0 0 n none] [some (.row 1 (l.map stR))] (σ:=[0]) (a7q (a0o (a2o l))) rfl rfl (an:=[.slice 0 0 n none]) rfl (H0:=[some (.row 1 (l.map stR))]) (by simp only[a0q,e2b,e3a,a03,e29,e63,e2a,a0t,hr]) (c8r n (l.map stR) (by simp[hn]) h0 h1 aH);refine a2g (by kernel_rfl) (by kernel_rfl) rfl (hc.trans ?_);have e1:a0n [0] 1 [some (.row 1 (l.map stR)),some (.row 1 []),some (.row 1 (l.map stR))] 0 [some (.row 1 (l.map stR))]=[some (.row 1 (l.map stR))]:=by rw[b8c,b8b];show [Option.map (a0t _) (some (AObj.row 1 (l.map stR)))]=_;simp only[e2a,a0t,hr]
 show some (_,a0n [0] 1 _ 0 _++_,_)=_;rw[e1];simp only[b94,e27,List.drop_succ_cons,e5b,e2b,e3a,e2a,a0t,hr];rfl
theorem c7p(n:Nat)(l:List (List UInt8))(hn:l.length=n)(h0:0<n)(h1:n≤1000):sem L.env Mf 70 [.slice 0 0 n none] [some (.row 1 (l.map stR))]=some (.tuple [],[some (.row 1 ((a45 l).map stR))]):=by
 refine a90 (by intro y hy;cases hy) 0 ?_;have hp:primH L.env 70 [.slice 0 0 n none] [some (.row 1 (l.map stR))]=some (.tuple [],[some (.row 1 ((a45 l).map stR))]):=by
  show c4a [.slice 0 0 n none] [some (.row 1 (l.map stR))]=_;have b1:Nat.beq n (l.map stR).length=true:=by rw[e5a,b41];exact hn.symm
  have b2:Nat.blt 0 n=true:=by rw[e3f];exact h0
  have b3:Nat.ble n b7g=true:=by rw[e5e];exact e5w h1 (by decide)
  have b4:unS (l.map stR)=some l:=b22 l;simp only[c4a,b1,b2,b3,b4];rfl
 unfold a6c;rw[hp]
theorem c32(n:Nat)(m:List (List UInt8))(hn:m.length=n)(h1:n≤1000)(hd:∀k a b,m[k]?=some a→m[k+1]?=some b→¬b=a):sem L.env Mf 71 [.slice 0 0 n none] [some (.row 1 (m.map stR))]=some (.slice 0 0 n none,[some (.row 1 (m.map stR))]):=by
 have hr:=λπ=>a02 π (a2o m);have bv:=a01 (a2o m);have om:=λq d=>a2n q d (a2o m);by_cases h2:(n:Int)<2
 ·(refine sv Tryz.f71 ?_;simp only[Tryz.f71,gS])
  (repeat first|simp only[ww]|(apply xa;simp+decide only[go_sem,h2];rfl;kernel_rfl))
  (apply fqb;simp+decide only[go_sem,hr,om,bv]<;>rfl)
 ·(refine sv Tryz.f71 ?_;simp only[Tryz.f71,gS])
  (repeat first|simp only[ww]|(apply xa;simp+decide only[go_sem,h2];rfl;kernel_rfl))
  refine a15 (σ:=Nat) kp71_0 (λi=>[(0,.slice 0 0 n none),(3,.int .i64 (i:Nat))]) (λ_=>[some (.row 1 (m.map stR))]) (λi=>n-i) (λi=>1≤i∧i≤n) 1 ?_ ⟨e2c _,by omega⟩ ?_
  ·(simp+decide only[go_sem,a0d,a07,hr,bv]<;>rfl)
  ·rintro i ⟨tu,hi⟩
   by_cases aq:i<n
   ·have l1:(i:Int)<n:=by omega
    obtain⟨b,hb⟩:∃b,m[i]?=some b:=⟨_,z9e (by omega)⟩
    obtain⟨a,ha⟩:∃a,m[i-1]?=some a:=⟨_,z9e (by omega)⟩
    have tZ:¬b=a:=hd (i-1) a b ha (by rw[show i-1+1=i by omega];exact hb);have hw:IntKind.i64.wrap ((i:Int)+1)=((i+1:Nat):Int):=by rw[w64 (by omega) (by omega)];omega
    have dA:IntKind.i64.wrap ((i:Int)-1)=((i-1:Nat):Int):=by rw[w64 (by omega) (by omega)];omega
    have g1:(m.map stR)[i]?=some [.str b]:=by rw[e2e,hb];rfl
    have g2:(m.map stR)[i-1]?=some [.str a]:=by rw[e2e,ha];rfl
    have l2:i-1<n:=by omega
    (repeat first|simp only[ww]|(apply xa;simp+decide only[go_sem,l1,aq,l2,tZ,hw,dA,g1,g2];rfl;kernel_rfl))
    refine a2p (i+1) ?_ (by omega) ⟨by omega,by omega⟩
    (simp+decide only[go_sem,a0d,a07,hr,bv]<;>rfl)
   ·have l1:¬(i:Int)<n:=by omega
    (repeat first|simp only[ww]|(apply xa;simp+decide only[go_sem,l1];rfl;kernel_rfl))
    (apply fqb;simp+decide only[go_sem,hr,om,bv]<;>rfl)
theorem c7q{l:List (List UInt8)}(h:l.Nodup):∀k a b,(a45 l)[k]?=some a→(a45 l)[k+1]?=some b→¬b=a:=by intro k a b h1 h2 e;have hn:(a45 l).Nodup:=(a6a l).symm.nodup h;obtain⟨l1,e1⟩:=e26.1 h1;obtain⟨l2,e2⟩:=e26.1 h2;exact List.pairwise_iff_getElem.1 hn k (k+1) l1 l2 (by omega) (by rw[e1,e2,e])
theorem c7g(n:Nat)(l:List (List UInt8))(hn:l.length=n)(h0:0<n)(h1:n≤1000)(hd:l.Nodup):sem L.env Mf 51 [.slice 0 0 n none] [some (.row 1 (l.map stR))]=some (.bool false,[some (.row 1 (l.map stR))]):=by
 have hr:=λπ=>a02 π (a2o l);have bv:=a01 (a2o l);have om:=λq d=>a2n q d (a2o l);have nd:(a45 l).length=n:=by rw[(a6a l).length_eq,hn]
 have k1:=c33 n l hn h0 h1;have k2:a0e L.env false (sem L.env Mf) (.func (.func 70) [] []) [.slice 2 0 n none] [some (.row 1 (l.map stR)),some (.row 1 []),some (.row 1 (l.map stR))]=some (.tuple [],[some (.row 1 (l.map stR)),some (.row 1 []),some (.row 1 ((a45 l).map stR))],[2]):=a0z (by kernel_rfl) (by kernel_rfl) rfl (b:=2) (o:=.row 1 (l.map stR)) (o':=.row 1 ((a45 l).map stR)) rfl (a0o (a2o l)) (FlatO.row (a2o l)) rfl rfl (c7p n l hn h0 h1) (FlatO.row (a2o _)) rfl;have k3:a0e L.env false (sem L.env Mf) (.func (.func 71) [] []) [.slice 2 0 n none] [some (.row 1 (l.map stR)),some (.row 1 []),some (.row 1 ((a45 l).map stR))]=some (.slice 2 0 n none,[some (.row 1 (l.map stR)),some (.row 1 []),some (.row 1 ((a45 l).map stR))],[2]):=a0z (by kernel_rfl) (by kernel_rfl) rfl (b:=2) (o:=.row 1 ((a45 l).map stR)) (o':=.row 1 ((a45 l).map stR)) rfl (a0o (a2o _)) (FlatO.row (a2o _)) rfl rfl (c32 n _ nd h1 (c7q hd)) (FlatO.row (a2o _)) rfl;have l1:¬(n:Int)<n:=by omega
 (refine sv Tryz.f51 ?_;simp only[Tryz.f51,gS])
 (repeat first|simp only[ww]|(apply xa;simp+decide only[go_sem,k1,k2,k3,l1];rfl;kernel_rfl))
 (apply fqb;simp+decide only[go_sem,hr,om,bv]<;>rfl)
end Go.RInst
namespace Go.RInst
open Go.Proofs Go.Ax Go.Pc
variable [PR]
set_option maxRecDepth 100000
end Go.RInst
namespace Go.RInst
open Go.Proofs Go.Ax Go.Pc
variable [PR]
set_option maxRecDepth 100000
def snR(s:Sg):List AV:=[.str s.name]
def tnR(t:Tm):List AV:=[.str t.name]
theorem b25(l:List Sg):FlatR (l.map snR):=FlatR.map λ_=>rfl
theorem a5m(l:List Tm):FlatR (l.map tnR):=FlatR.map λ_=>rfl
theorem b0n(l:List Sg):l.map snR=(l.map Sg.name).map stR:=by simp[snR,stR]
theorem b0k(l:List Tm):l.map tnR=(l.map Tm.name).map stR:=by simp[tnR,stR]
theorem a48{α:Type}{l:List α}{i:Nat}{x:α}(h:l[i]?=some x):l.take (i+1)=l.take i++[x]:=by rw[e70,h];rfl
theorem a7l{d:Bool}(H:a08)(b:Nat)(ns:List (List UInt8))(hH:ns≠[]→a03 H b=some (.row 1 (ns.map stR)))(hn:ns.length≤1000)(hd:ns.Nodup):∃σ,a0e L.env d (sem L.env Mf) (.func (.func 51) [] []) [grV b (ns.map stR)] H=some (.bool false,H,σ):=by
 cases ns with
 |nil=>exact⟨[],a0l (by kernel_rfl) (by kernel_rfl) rfl rfl c43 rfl⟩
 |cons a r=>refine⟨[b],?_⟩;rw[a0h b (by simp),b41];exact a2f (by kernel_rfl) (by kernel_rfl) rfl (hH (by simp)) (a0o (a2o _)) (FlatO.row (a2o _)) rfl (c2f b 0 _ _▸rfl) (c7g (a::r).length (a::r) rfl (by simp) hn hd) rfl
def a1g(V:List Vc):Int:=(V.map Vc.rep).sum
theorem a9r(V:List Vc){i:Nat}{v:Vc}(h:V[i]?=some v):a1g (V.take (i+1))=a1g (V.take i)+v.rep:=by rw[a48 h];simp[a1g]
theorem a6e:∀(V:List Vc),(∀v∈V,0≤v.rep)→0≤a1g V
 | [],_=>by simp[a1g]
 |v::V,h=>by have:=a6e V λx hx=>h x (by simp[hx]);have:=h v (by simp);simp[a1g]at *;omega
theorem a7p(V:List Vc)(h:∀v∈V,0≤v.rep)(i:Nat):a1g (V.take i)≤a1g V:=by
 have e:a1g V=a1g (V.take i)+a1g (V.drop i):=by unfold a1g;rw[←List.sum_append,←e3j,e6s]
 have:=a6e (V.drop i) λv hv=>h v (List.mem_of_mem_drop hv);omega
structure Valid(S:List Sg)(T:List Tm)(V:List Vc):Prop where
 hS:S.length≤200
 hT:T.length≤16
 hV:V.length≤200
 sg:∀s∈S,a9n s=true
 tm:∀t∈T,a5l t=true
 vc:∀v∈V,a22 v S T.length=true
 sn:(S.map Sg.name).Nodup
 tn:(T.map Tm.name).Nodup
 sum:a1g V≤1000000
theorem Valid.rep{S:List Sg}{T:List Tm}{V:List Vc}(h:Valid S T V):∀v∈V,1≤v.rep∧v.rep≤1000000:=by intro v hv;have:=h.vc v hv;simp only[a22,b46,e2d]at this;exact⟨this.2.2.1,this.2.2.2.1⟩
theorem c8s(rs rt rv:Option (Option Nat))(S:List Sg)(T:List Tm)(V:List Vc)(h:Valid S T V):sem L.env Mf 21 [.agg [sl rs (S.map Sg.enc),sl rt (T.map Tm.enc),sl rv (V.map Vc.enc)]] []=some (.int .i64 0,[]):=by
 have hS:=h.hS;have hT:=h.hT;have hV:=h.hV;have c1:¬(256:Int)<S.length:=by omega
 have c2:¬(16:Int)<T.length:=by omega
 have c3:¬(65536:Int)<V.length:=by omega
 have sY:=λd H n k=>a0l (E:=L.env) (ai:=d) (call:=sem L.env Mf) (g:=48) (fs:=[]) (cs:=[]) (ar:=[.agg [.str n,.int .u8 (k:Nat)]]) (H:=H) (by kernel_rfl) (by kernel_rfl) rfl (by rfl) (c9w n k) rfl;have dM:=λd H t=>a0l (E:=L.env) (ai:=d) (call:=sem L.env Mf) (g:=49) (fs:=[]) (cs:=[]) (ar:=[.agg (Tm.enc t)]) (H:=H) (by kernel_rfl) (by kernel_rfl) rfl (by rfl) (b2r t) rfl;have gG:=λd H v=>a0l (E:=L.env) (ai:=d) (call:=sem L.env Mf) (g:=50) (fs:=[]) (cs:=[]) (ar:=[.agg (Vc.enc v),.agg [sl rs (S.map Sg.enc),sl rt (T.map Tm.enc),sl rv (V.map Vc.enc)]]) (H:=H) (by kernel_rfl) (by kernel_rfl) rfl (by simp+decide only[go_sem]<;>rfl) (d0u v rs rt S T (sl rv (V.map Vc.enc)) (by simp+decide only[go_sem]) (by simp+decide only[go_sem]) (by omega)) rfl
 (refine sv Tryz.f21 ?_;simp only[Tryz.f21,gS])
 (repeat first|simp only[ww]|(apply xa;simp+decide only[go_sem,c1,c2,c3,b41];rfl;kernel_rfl))
 refine a15 (σ:=Nat) kp21_0 (λi=>[(1,.ptr 0 0 0),(3,grV 1 ((S.take i).map snR)),(4,.nilslice),(29,sl rs (S.map Sg.enc)),(30,.int .i64 S.length),(31,.int .i64 (i:Nat))]) (λi=>some (.row 3 [[sl rs (S.map Sg.enc),sl rt (T.map Tm.enc),sl rv (V.map Vc.enc)]])::grH 1 ((S.take i).map snR)) (λi=>S.length-i) (λi=>i≤S.length) 0 ?_ (e3h _) ?_
 ·(simp+decide only[go_sem,a0d,a07,e28,e3a,a0p,a0u]<;>rfl)
 ·intro i hi;by_cases aq:i<S.length
  ·have l1:(i:Int)<S.length:=by omega
   obtain⟨s,hs⟩:∃s,S[i]?=some s:=⟨_,z9e aq⟩
   have gr:a9n ⟨s.name,s.dir⟩=true:=h.sg s (e25 hs);have dB:=sY;have b7:(S.map Sg.enc)[i]?=some (Sg.enc s):=by rw[e2e,hs];rfl
   have hw:IntKind.i64.wrap ((i:Int)+1)=((i+1:Nat):Int):=by rw[w64 (by omega) (by omega)];omega
   have bW:(S.take (i+1)).map snR=(S.take i).map snR++[[.str s.name]]:=by rw[a48 hs,e3j];rfl
   have h5:=a01 (b25 (S.take (i+1)));have h6:=λπ=>a02 π (b25 (S.take (i+1)));have ak:((S.take i).map snR).length=i:=by rw[b41,e4z];omega
   have cU:i+1≤1000000000:=by omega
   by_cases hk:i=0
   ·subst hk;have e0:(S.take 0).map snR=[]:=rfl;rw[e0]at bW⊢;simp only[b43]at bW
    (repeat first|simp only[ww]|(apply xa;simp+decide only[go_sem,l1,aq,b7,dB,gr,hw,b41,a0p,a0u];rfl;kernel_rfl))
    refine a2p (0+1) ?_ (by omega) (by omega)
    (simp+decide only[go_sem,a0d,a07,bW,a1t,a1q,e27]<;>rfl)
   ·have aK:(S.take i).map snR≠[]:=by intro e;rw[e]at ak;simp at ak;omega
    rw[a0h 1 aK,a0y 1 aK,ak];rw[bW]at h5 h6;generalize(S.take i).map snR=R at bW ak h5 h6
    (repeat first|simp only[ww]|(apply xa;simp+decide only[go_sem,l1,aq,b7,dB,gr,hw,ak,cU,b41];rfl;kernel_rfl))
    refine a2p (i+1) ?_ (by omega) (by omega)
    (simp+decide only[go_sem,a0d,a07,bW,a42,a43,h5,h6,ak]<;>rfl)
  ·obtain rfl:i=S.length:=by omega
   have l1:¬(S.length:Int)<S.length:=by omega
   have bY:=a01 (b25 S);have cL:=λπ=>a02 π (b25 S);rw[e3z];by_cases hk:S=[]
   ·have e1:S.map snR=[]:=by rw[hk];rfl
    rw[e1];simp only[a0p,a0u]
    (repeat first|simp only[ww]|(apply xa;simp+decide only[go_sem,l1,b41];rfl;kernel_rfl))
    refine a15 (σ:=Nat) kp21_2 (λi=>[(1,.ptr 0 0 0),(3,.nilslice),(4,grV 1 ((T.take i).map tnR)),(45,sl rt (T.map Tm.enc)),(46,.int .i64 T.length),(47,.int .i64 (i:Nat))]) (λi=>some (.row 3 [[sl rs (S.map Sg.enc),sl rt (T.map Tm.enc),sl rv (V.map Vc.enc)]])::grH 1 ((T.take i).map tnR)) (λi=>T.length-i) (λi=>i≤T.length) 0 ?_ (e3h _) ?_
    ·(simp+decide only[go_sem,a0d,a07,e28,e3a,a0p,a0u]<;>rfl)
    ·intro i hi;by_cases aq:i<T.length
     ·have l1:(i:Int)<T.length:=by omega
      obtain⟨t,hs⟩:∃t,T[i]?=some t:=⟨_,z9e aq⟩
      have gr:a5l t=true:=h.tm t (e25 hs);have dB:=dM;have b7:(T.map Tm.enc)[i]?=some (Tm.enc t):=by rw[e2e,hs];rfl
      have hw:IntKind.i64.wrap ((i:Int)+1)=((i+1:Nat):Int):=by rw[w64 (by omega) (by omega)];omega
      have bW:(T.take (i+1)).map tnR=(T.take i).map tnR++[[.str t.name]]:=by rw[a48 hs,e3j];rfl
      have h5:=a01 (a5m (T.take (i+1)));have h6:=λπ=>a02 π (a5m (T.take (i+1)));have ak:((T.take i).map tnR).length=i:=by rw[b41,e4z];omega
      have cU:i+1≤1000000000:=by omega
      by_cases hk:i=0
      ·subst hk;have e0:(T.take 0).map tnR=[]:=rfl;rw[e0]at bW⊢;simp only[b43]at bW
       (repeat first|simp only[ww]|(apply xa;simp+decide only[go_sem,l1,aq,b7,dB,gr,hw,b41,a0p,a0u];rfl;kernel_rfl))
       refine a2p (0+1) ?_ (by omega) (by omega)
       (simp+decide only[go_sem,a0d,a07,bW,a1t,a1q,e27]<;>rfl)
      ·have aK:(T.take i).map tnR≠[]:=by intro e;rw[e]at ak;simp at ak;omega
       rw[a0h 1 aK,a0y 1 aK,ak];rw[bW]at h5 h6;generalize(T.take i).map tnR=R at bW ak h5 h6
       (repeat first|simp only[ww]|(apply xa;simp+decide only[go_sem,l1,aq,b7,dB,gr,hw,ak,cU,b41];rfl;kernel_rfl))
       refine a2p (i+1) ?_ (by omega) (by omega)
       (simp+decide only[go_sem,a0d,a07,bW,a42,a43,h5,h6,ak]<;>rfl)
     ·obtain rfl:i=T.length:=by omega
      have l2:¬(T.length:Int)<T.length:=by omega
      have jB:=a01 (a5m T);have jA:=λπ=>a02 π (a5m T);rw[e3z];by_cases mN:T=[]
      ·have e2:T.map tnR=[]:=by rw[mN];rfl
       rw[e2];simp only[a0p,a0u]
       (repeat first|simp only[ww]|(apply xa;simp+decide only[go_sem,l2,b41];rfl;kernel_rfl))
       refine a15 (σ:=Nat) kp21_4 (λi=>[(1,.ptr 0 0 0),(3,.nilslice),(4,.nilslice),(9,.int .i64 (a1g (V.take i))),(61,sl rv (V.map Vc.enc)),(62,.int .i64 V.length),(63,.int .i64 (i:Nat))]) (λ_=>[some (.row 3 [[sl rs (S.map Sg.enc),sl rt (T.map Tm.enc),sl rv (V.map Vc.enc)]])]) (λi=>V.length-i) (λi=>i≤V.length) 0 ?_ (e3h _) ?_
       ·have e0:a1g (V.take 0)=0:=rfl
        (simp+decide only[go_sem,a0d,a07,e0]<;>rfl)
       ·intro i hi;by_cases aq:i<V.length
        ·have l3:(i:Int)<V.length:=by omega
         obtain⟨v,hs⟩:∃v,V[i]?=some v:=⟨_,z9e aq⟩
         have gr:a22 v S T.length=true:=h.vc v (e25 hs);have b7:(V.map Vc.enc)[i]?=some (Vc.enc v):=by rw[e2e,hs];rfl
         have hw:IntKind.i64.wrap ((i:Int)+1)=((i+1:Nat):Int):=by rw[w64 (by omega) (by omega)];omega
         have m9:=a9r V hs;have jy:∀v∈V,0≤v.rep:=λv hv=>by have:=(h.rep v hv).1;omega
         have aN:=a7p V jy (i+1);have ni:=a6e (V.take i) λv hv=>jy v (e6f hv);have bB:=h.rep v (e25 hs);have bR:=h.sum;have dA:IntKind.i64.wrap (a1g (V.take i)+v.rep)=a1g (V.take (i+1)):=by rw[w64 (by omega) (by omega)];omega
         have fH:a1g (V.take (i+1))<1000001:=by omega
         have iW:¬(1000001:Int)<a1g (V.take (i+1)):=by omega
         have iV:a1g (V.take (i+1))≤1000001:=by omega
         (repeat first|simp only[ww]|(apply xa;simp+decide only[go_sem,l3,aq,b7,gG,gr,hw,dA,fH,iW,iV,b41];rfl;kernel_rfl))
         refine a2p (i+1) ?_ (by omega) (by omega)
         (simp+decide only[go_sem,a0d,a07]<;>rfl)
        ·obtain rfl:i=V.length:=by omega
         have l3:¬(V.length:Int)<V.length:=by omega
         have bR:=h.sum;have l4:¬(1000000:Int)<a1g V:=by omega
         rw[e3z];obtain⟨σ1,w1⟩:=a7l (d:=false) [some (.row 3 [[sl rs (S.map Sg.enc),sl rt (T.map Tm.enc),sl rv (V.map Vc.enc)]])] 1 (S.map Sg.name) (λhh=>absurd (by rw[hk];rfl) hh) (by rw[b41];omega) h.sn;obtain⟨σ2,w2⟩:=a7l (d:=false) [some (.row 3 [[sl rs (S.map Sg.enc),sl rt (T.map Tm.enc),sl rv (V.map Vc.enc)]])] 1 (T.map Tm.name) (λhh=>absurd (by rw[mN];rfl) hh) (by rw[b41];omega) h.tn;rw[←b0n]at w1;rw[←b0k]at w2;rw[e1,a0p]at w1;rw[e2,a0p]at w2
         (repeat first|simp only[ww]|(apply xa;simp+decide only[go_sem,l3,l4,w1,w2,b41];rfl;kernel_rfl))
         (apply fqb;simp+decide only[go_sem]<;>rfl)
      ·have iR:T.map tnR≠[]:=by simpa using mN
       rw[a0h 1 iR,a0y 1 iR,b41]
       (repeat first|simp only[ww]|(apply xa;simp+decide only[go_sem,l2,b41];rfl;kernel_rfl))
       refine a15 (σ:=Nat) kp21_4 (λi=>[(1,.ptr 0 0 0),(3,.nilslice),(4,.slice 1 0 T.length none),(9,.int .i64 (a1g (V.take i))),(61,sl rv (V.map Vc.enc)),(62,.int .i64 V.length),(63,.int .i64 (i:Nat))]) (λ_=>[some (.row 3 [[sl rs (S.map Sg.enc),sl rt (T.map Tm.enc),sl rv (V.map Vc.enc)]]),some (.row 1 (T.map tnR))]) (λi=>V.length-i) (λi=>i≤V.length) 0 ?_ (e3h _) ?_
       ·have e0:a1g (V.take 0)=0:=rfl
        (simp+decide only[go_sem,a0d,a07,e0,jB,jA]<;>rfl)
       ·intro i hi;by_cases aq:i<V.length
        ·have l3:(i:Int)<V.length:=by omega
         obtain⟨v,hs⟩:∃v,V[i]?=some v:=⟨_,z9e aq⟩
         have gr:a22 v S T.length=true:=h.vc v (e25 hs);have b7:(V.map Vc.enc)[i]?=some (Vc.enc v):=by rw[e2e,hs];rfl
         have hw:IntKind.i64.wrap ((i:Int)+1)=((i+1:Nat):Int):=by rw[w64 (by omega) (by omega)];omega
         have m9:=a9r V hs;have jy:∀v∈V,0≤v.rep:=λv hv=>by have:=(h.rep v hv).1;omega
         have aN:=a7p V jy (i+1);have ni:=a6e (V.take i) λv hv=>jy v (e6f hv);have bB:=h.rep v (e25 hs);have bR:=h.sum;have dA:IntKind.i64.wrap (a1g (V.take i)+v.rep)=a1g (V.take (i+1)):=by rw[w64 (by omega) (by omega)];omega
         have fH:a1g (V.take (i+1))<1000001:=by omega
         have iW:¬(1000001:Int)<a1g (V.take (i+1)):=by omega
         have iV:a1g (V.take (i+1))≤1000001:=by omega
         (repeat first|simp only[ww]|(apply xa;simp+decide only[go_sem,l3,aq,b7,gG,gr,hw,dA,fH,iW,iV,b41,jB,jA];rfl;kernel_rfl))
         refine a2p (i+1) ?_ (by omega) (by omega)
         (simp+decide only[go_sem,a0d,a07,jB,jA]<;>rfl)
        ·obtain rfl:i=V.length:=by omega
         have l3:¬(V.length:Int)<V.length:=by omega
         have bR:=h.sum;have l4:¬(1000000:Int)<a1g V:=by omega
         rw[e3z];obtain⟨σ1,w1⟩:=a7l (d:=false) [some (.row 3 [[sl rs (S.map Sg.enc),sl rt (T.map Tm.enc),sl rv (V.map Vc.enc)]]),some (.row 1 (T.map tnR))] 1 (S.map Sg.name) (λhh=>absurd (by rw[hk];rfl) hh) (by rw[b41];omega) h.sn;obtain⟨σ2,w2⟩:=a7l (d:=false) [some (.row 3 [[sl rs (S.map Sg.enc),sl rt (T.map Tm.enc),sl rv (V.map Vc.enc)]]),some (.row 1 (T.map tnR))] 1 (T.map Tm.name) (λhh=>by rw[←b0k];rfl) (by rw[b41];omega) h.tn;rw[←b0n]at w1;rw[←b0k]at w2;rw[e1,a0p]at w1;rw[a0h 1 iR,b41]at w2
         (repeat first|simp only[ww]|(apply xa;simp+decide only[go_sem,l3,l4,w1,w2,b41,jB,jA];rfl;kernel_rfl))
         (apply fqb;simp+decide only[go_sem,jB,jA]<;>rfl)
   ·have aK:S.map snR≠[]:=by simpa using hk
    rw[a0h 1 aK,a0y 1 aK,b41]
    (repeat first|simp only[ww]|(apply xa;simp+decide only[go_sem,l1,b41];rfl;kernel_rfl))
    refine a15 (σ:=Nat) kp21_2 (λi=>[(1,.ptr 0 0 0),(3,.slice 1 0 S.length none),(4,grV 2 ((T.take i).map tnR)),(45,sl rt (T.map Tm.enc)),(46,.int .i64 T.length),(47,.int .i64 (i:Nat))]) (λi=>some (.row 3 [[sl rs (S.map Sg.enc),sl rt (T.map Tm.enc),sl rv (V.map Vc.enc)]])::some (.row 1 (S.map snR))::grH 1 ((T.take i).map tnR)) (λi=>T.length-i) (λi=>i≤T.length) 0 ?_ (e3h _) ?_
    ·(simp+decide only[go_sem,a0d,a07,e28,e3a,a0p,a0u,bY,cL]<;>rfl)
    ·intro i hi;by_cases aq:i<T.length
     ·have l1:(i:Int)<T.length:=by omega
      obtain⟨t,hs⟩:∃t,T[i]?=some t:=⟨_,z9e aq⟩
      have gr:a5l t=true:=h.tm t (e25 hs);have dB:=dM;have b7:(T.map Tm.enc)[i]?=some (Tm.enc t):=by rw[e2e,hs];rfl
      have hw:IntKind.i64.wrap ((i:Int)+1)=((i+1:Nat):Int):=by rw[w64 (by omega) (by omega)];omega
      have bW:(T.take (i+1)).map tnR=(T.take i).map tnR++[[.str t.name]]:=by rw[a48 hs,e3j];rfl
      have h5:=a01 (a5m (T.take (i+1)));have h6:=λπ=>a02 π (a5m (T.take (i+1)));have ak:((T.take i).map tnR).length=i:=by rw[b41,e4z];omega
      have cU:i+1≤1000000000:=by omega
      by_cases hk:i=0
      ·subst hk;have e0:(T.take 0).map tnR=[]:=rfl;rw[e0]at bW⊢;simp only[b43]at bW
       (repeat first|simp only[ww]|(apply xa;simp+decide only[go_sem,l1,aq,b7,dB,gr,hw,b41,a0p,a0u,bY,cL];rfl;kernel_rfl))
       refine a2p (0+1) ?_ (by omega) (by omega)
       (simp+decide only[go_sem,a0d,a07,bW,a1t,a1q,e27,bY,cL]<;>rfl)
      ·have aK:(T.take i).map tnR≠[]:=by intro e;rw[e]at ak;simp at ak;omega
       rw[a0h 2 aK,a0y 1 aK,ak];rw[bW]at h5 h6;generalize(T.take i).map tnR=R at bW ak h5 h6
       (repeat first|simp only[ww]|(apply xa;simp+decide only[go_sem,l1,aq,b7,dB,gr,hw,ak,cU,b41,bY,cL];rfl;kernel_rfl))
       refine a2p (i+1) ?_ (by omega) (by omega)
       (simp+decide only[go_sem,a0d,a07,bW,a42,a43,h5,h6,ak,bY,cL]<;>rfl)
     ·obtain rfl:i=T.length:=by omega
      have l2:¬(T.length:Int)<T.length:=by omega
      have jB:=a01 (a5m T);have jA:=λπ=>a02 π (a5m T);rw[e3z];by_cases mN:T=[]
      ·have e2:T.map tnR=[]:=by rw[mN];rfl
       rw[e2];simp only[a0p,a0u]
       (repeat first|simp only[ww]|(apply xa;simp+decide only[go_sem,l2,b41,bY,cL];rfl;kernel_rfl))
       refine a15 (σ:=Nat) kp21_4 (λi=>[(1,.ptr 0 0 0),(3,.slice 1 0 S.length none),(4,.nilslice),(9,.int .i64 (a1g (V.take i))),(61,sl rv (V.map Vc.enc)),(62,.int .i64 V.length),(63,.int .i64 (i:Nat))]) (λ_=>[some (.row 3 [[sl rs (S.map Sg.enc),sl rt (T.map Tm.enc),sl rv (V.map Vc.enc)]]),some (.row 1 (S.map snR))]) (λi=>V.length-i) (λi=>i≤V.length) 0 ?_ (e3h _) ?_
       ·have e0:a1g (V.take 0)=0:=rfl
        (simp+decide only[go_sem,a0d,a07,e0,bY,cL]<;>rfl)
       ·intro i hi;by_cases aq:i<V.length
        ·have l3:(i:Int)<V.length:=by omega
         obtain⟨v,hs⟩:∃v,V[i]?=some v:=⟨_,z9e aq⟩
         have gr:a22 v S T.length=true:=h.vc v (e25 hs);have b7:(V.map Vc.enc)[i]?=some (Vc.enc v):=by rw[e2e,hs];rfl
         have hw:IntKind.i64.wrap ((i:Int)+1)=((i+1:Nat):Int):=by rw[w64 (by omega) (by omega)];omega
         have m9:=a9r V hs;have jy:∀v∈V,0≤v.rep:=λv hv=>by have:=(h.rep v hv).1;omega
         have aN:=a7p V jy (i+1);have ni:=a6e (V.take i) λv hv=>jy v (e6f hv);have bB:=h.rep v (e25 hs);have bR:=h.sum;have dA:IntKind.i64.wrap (a1g (V.take i)+v.rep)=a1g (V.take (i+1)):=by rw[w64 (by omega) (by omega)];omega
         have fH:a1g (V.take (i+1))<1000001:=by omega
         have iW:¬(1000001:Int)<a1g (V.take (i+1)):=by omega
         have iV:a1g (V.take (i+1))≤1000001:=by omega
         (repeat first|simp only[ww]|(apply xa;simp+decide only[go_sem,l3,aq,b7,gG,gr,hw,dA,fH,iW,iV,b41,bY,cL];rfl;kernel_rfl))
         refine a2p (i+1) ?_ (by omega) (by omega)
         (simp+decide only[go_sem,a0d,a07,bY,cL]<;>rfl)
        ·obtain rfl:i=V.length:=by omega
         have l3:¬(V.length:Int)<V.length:=by omega
         have bR:=h.sum;have l4:¬(1000000:Int)<a1g V:=by omega
         rw[e3z];obtain⟨σ1,w1⟩:=a7l (d:=false) [some (.row 3 [[sl rs (S.map Sg.enc),sl rt (T.map Tm.enc),sl rv (V.map Vc.enc)]]),some (.row 1 (S.map snR))] 1 (S.map Sg.name) (λhh=>by rw[←b0n];rfl) (by rw[b41];omega) h.sn;obtain⟨σ2,w2⟩:=a7l (d:=false) [some (.row 3 [[sl rs (S.map Sg.enc),sl rt (T.map Tm.enc),sl rv (V.map Vc.enc)]]),some (.row 1 (S.map snR))] 2 (T.map Tm.name) (λhh=>absurd (by rw[mN];rfl) hh) (by rw[b41];omega) h.tn;rw[←b0n]at w1;rw[←b0k]at w2;rw[a0h 1 aK,b41]at w1;rw[e2,a0p]at w2
         (repeat first|simp only[ww]|(apply xa;simp+decide only[go_sem,l3,l4,w1,w2,b41,bY,cL];rfl;kernel_rfl))
         (apply fqb;simp+decide only[go_sem,bY,cL]<;>rfl)
      ·have iR:T.map tnR≠[]:=by simpa using mN
       rw[a0h 2 iR,a0y 1 iR,b41]
       (repeat first|simp only[ww]|(apply xa;simp+decide only[go_sem,l2,b41,bY,cL];rfl;kernel_rfl))
       refine a15 (σ:=Nat) kp21_4 (λi=>[(1,.ptr 0 0 0),(3,.slice 1 0 S.length none),(4,.slice 2 0 T.length none),(9,.int .i64 (a1g (V.take i))),(61,sl rv (V.map Vc.enc)),(62,.int .i64 V.length),(63,.int .i64 (i:Nat))]) (λ_=>[some (.row 3 [[sl rs (S.map Sg.enc),sl rt (T.map Tm.enc),sl rv (V.map Vc.enc)]]),some (.row 1 (S.map snR)),some (.row 1 (T.map tnR))]) (λi=>V.length-i) (λi=>i≤V.length) 0 ?_ (e3h _) ?_
       ·have e0:a1g (V.take 0)=0:=rfl
        (simp+decide only[go_sem,a0d,a07,e0,bY,cL,jB,jA]<;>rfl)
       ·intro i hi;by_cases aq:i<V.length
        ·have l3:(i:Int)<V.length:=by omega
         obtain⟨v,hs⟩:∃v,V[i]?=some v:=⟨_,z9e aq⟩
         have gr:a22 v S T.length=true:=h.vc v (e25 hs);have b7:(V.map Vc.enc)[i]?=some (Vc.enc v):=by rw[e2e,hs];rfl
         have hw:IntKind.i64.wrap ((i:Int)+1)=((i+1:Nat):Int):=by rw[w64 (by omega) (by omega)];omega
         have m9:=a9r V hs;have jy:∀v∈V,0≤v.rep:=λv hv=>by have:=(h.rep v hv).1;omega
         have aN:=a7p V jy (i+1);have ni:=a6e (V.take i) λv hv=>jy v (e6f hv);have bB:=h.rep v (e25 hs);have bR:=h.sum;have dA:IntKind.i64.wrap (a1g (V.take i)+v.rep)=a1g (V.take (i+1)):=by rw[w64 (by omega) (by omega)];omega
         have fH:a1g (V.take (i+1))<1000001:=by omega
         have iW:¬(1000001:Int)<a1g (V.take (i+1)):=by omega
         have iV:a1g (V.take (i+1))≤1000001:=by omega
         (repeat first|simp only[ww]|(apply xa;simp+decide only[go_sem,l3,aq,b7,gG,gr,hw,dA,fH,iW,iV,b41,bY,cL,jB,jA];rfl;kernel_rfl))
         refine a2p (i+1) ?_ (by omega) (by omega)
         (simp+decide only[go_sem,a0d,a07,bY,cL,jB,jA]<;>rfl)
        ·obtain rfl:i=V.length:=by omega
         have l3:¬(V.length:Int)<V.length:=by omega
         have bR:=h.sum;have l4:¬(1000000:Int)<a1g V:=by omega
         rw[e3z];obtain⟨σ1,w1⟩:=a7l (d:=false) [some (.row 3 [[sl rs (S.map Sg.enc),sl rt (T.map Tm.enc),sl rv (V.map Vc.enc)]]),some (.row 1 (S.map snR)),some (.row 1 (T.map tnR))] 1 (S.map Sg.name) (λhh=>by rw[←b0n];rfl) (by rw[b41];omega) h.sn;obtain⟨σ2,w2⟩:=a7l (d:=false) [some (.row 3 [[sl rs (S.map Sg.enc),sl rt (T.map Tm.enc),sl rv (V.map Vc.enc)]]),some (.row 1 (S.map snR)),some (.row 1 (T.map tnR))] 2 (T.map Tm.name) (λhh=>by rw[←b0k];rfl) (by rw[b41];omega) h.tn;rw[←b0n]at w1;rw[←b0k]at w2;rw[a0h 1 aK,b41]at w1;rw[a0h 2 iR,b41]at w2
         (repeat first|simp only[ww]|(apply xa;simp+decide only[go_sem,l3,l4,w1,w2,b41,bY,cL,jB,jA];rfl;kernel_rfl))
         (apply fqb;simp+decide only[go_sem,bY,cL,jB,jA]<;>rfl)
end Go.RInst
namespace Go.RInst
open Go.Proofs Go.Ax Go.Pc
variable [PR]
set_option maxRecDepth 100000
theorem c34{d:Bool}(H:a08)(rs rt rv:Option (Option Nat))(S:List Sg)(T:List Tm)(V:List Vc)(h:Valid S T V):a0e L.env d (sem L.env Mf) (.func (.func 21) [] []) [.agg [sl rs (S.map Sg.enc),sl rt (T.map Tm.enc),sl rv (V.map Vc.enc)]] H=some (.int .i64 0,H,[]):=a0l (by kernel_rfl) (by kernel_rfl) rfl (by simp+decide only[go_sem]<;>rfl) (c8s rs rt rv S T V h) rfl
end Go.RInst
namespace Go.RInst
open Go.Proofs Go.Ax Go.Pc
variable [PR]
set_option maxRecDepth 100000
/- the closure of Wave: an event is set; the list is L, then (t, c) -/
end Go.RInst
namespace Go.RInst
open Go.Proofs Go.Ax Go.Pc
variable [PR]
set_option maxRecDepth 100000
end Go.RInst
namespace Go.RInst
open Go.Proofs Go.Ax Go.Pc
variable [PR]
set_option maxRecDepth 100000
end Go.RInst
namespace Go.RInst
open Go.Proofs Go.Ax Go.Pc
variable [PR]
set_option maxRecDepth 100000
end Go.RInst
namespace Go.RInst
open Go.Proofs Go.Ax Go.Pc
variable [PR]
set_option maxRecDepth 100000
theorem d5l(a b:Option (Option Nat))(l:List Sg)(hl:l.length<1000000000):sem L.env Mf 45 [sl a (l.map Sg.enc),sl b (l.map Sg.enc)] []=some (.bool true,[]):=by
 have c0:(l.length:Int)=l.length:=rfl
 (refine sv Tryz.f45 ?_;simp only[Tryz.f45,gS])
 (repeat first|simp only[ww]|(apply xa;simp+decide only[go_sem,b41];rfl;kernel_rfl))
 refine a15 (σ:=Nat) kp45_0 (λi=>[(0,sl a (l.map Sg.enc)),(1,sl b (l.map Sg.enc)),(12,.int .i64 l.length),(13,.int .i64 (i:Nat))]) (λ_=>[]) (λi=>l.length-i) (λi=>i≤l.length) 0 ?_ (e3h _) ?_
 ·(simp+decide only[go_sem,a0d,a07]<;>rfl)
 ·intro i hi;by_cases aq:i<l.length
  ·have l1:(i:Int)<l.length:=by omega
   obtain⟨x,hx⟩:∃x,l[i]?=some x:=⟨_,z9e aq⟩
   have b7:(l.map Sg.enc)[i]?=some (Sg.enc x):=by rw[e2e,hx];rfl
   have hw:IntKind.i64.wrap ((i:Int)+1)=((i+1:Nat):Int):=by rw[w64 (by omega) (by omega)];omega
   (repeat first|simp only[ww]|(apply xa;simp+decide only[go_sem,l1,aq,b7,hw,e7d,e57,e6i,b41];rfl;kernel_rfl))
   refine a2p (i+1) ?_ (by omega) (by omega)
   (simp+decide only[go_sem,a0d,a07]<;>rfl)
  ·obtain rfl:i=l.length:=by omega
   have l1:¬(l.length:Int)<l.length:=by omega
   (repeat first|simp only[ww]|(apply xa;simp+decide only[go_sem,l1];rfl;kernel_rfl))
   (apply fqb;simp+decide only[go_sem]<;>rfl)
theorem d5c(a b:Option (Option Nat))(l:List Tm)(hl:l.length<1000000000):sem L.env Mf 46 [sl a (l.map Tm.enc),sl b (l.map Tm.enc)] []=some (.bool true,[]):=by
 have c0:(l.length:Int)=l.length:=rfl
 (refine sv Tryz.f46 ?_;simp only[Tryz.f46,gS])
 (repeat first|simp only[ww]|(apply xa;simp+decide only[go_sem,b41];rfl;kernel_rfl))
 refine a15 (σ:=Nat) kp46_0 (λi=>[(0,sl a (l.map Tm.enc)),(1,sl b (l.map Tm.enc)),(12,.int .i64 l.length),(13,.int .i64 (i:Nat))]) (λ_=>[]) (λi=>l.length-i) (λi=>i≤l.length) 0 ?_ (e3h _) ?_
 ·(simp+decide only[go_sem,a0d,a07]<;>rfl)
 ·intro i hi;by_cases aq:i<l.length
  ·have l1:(i:Int)<l.length:=by omega
   obtain⟨x,hx⟩:∃x,l[i]?=some x:=⟨_,z9e aq⟩
   have b7:(l.map Tm.enc)[i]?=some (Tm.enc x):=by rw[e2e,hx];rfl
   have hw:IntKind.i64.wrap ((i:Int)+1)=((i+1:Nat):Int):=by rw[w64 (by omega) (by omega)];omega
   (repeat first|simp only[ww]|(apply xa;simp+decide only[go_sem,l1,aq,b7,hw,e7d,e57,e6i,b41];rfl;kernel_rfl))
   refine a2p (i+1) ?_ (by omega) (by omega)
   (simp+decide only[go_sem,a0d,a07]<;>rfl)
  ·obtain rfl:i=l.length:=by omega
   have l1:¬(l.length:Int)<l.length:=by omega
   (repeat first|simp only[ww]|(apply xa;simp+decide only[go_sem,l1];rfl;kernel_rfl))
   (apply fqb;simp+decide only[go_sem]<;>rfl)
theorem d58(a b:Option (Option Nat))(l:List Vc)(hl:l.length<1000000000):sem L.env Mf 47 [sl a (l.map Vc.enc),sl b (l.map Vc.enc)] []=some (.bool true,[]):=by
 have c0:(l.length:Int)=l.length:=rfl
 (refine sv Tryz.f47 ?_;simp only[Tryz.f47,gS])
 (repeat first|simp only[ww]|(apply xa;simp+decide only[go_sem,b41];rfl;kernel_rfl))
 refine a15 (σ:=Nat) kp47_0 (λi=>[(0,sl a (l.map Vc.enc)),(1,sl b (l.map Vc.enc)),(12,.int .i64 l.length),(13,.int .i64 (i:Nat))]) (λ_=>[]) (λi=>l.length-i) (λi=>i≤l.length) 0 ?_ (e3h _) ?_
 ·(simp+decide only[go_sem,a0d,a07]<;>rfl)
 ·intro i hi;by_cases aq:i<l.length
  ·have l1:(i:Int)<l.length:=by omega
   obtain⟨x,hx⟩:∃x,l[i]?=some x:=⟨_,z9e aq⟩
   have b7:(l.map Vc.enc)[i]?=some (Vc.enc x):=by rw[e2e,hx];rfl
   have hw:IntKind.i64.wrap ((i:Int)+1)=((i+1:Nat):Int):=by rw[w64 (by omega) (by omega)];omega
   (repeat first|simp only[ww]|(apply xa;simp+decide only[go_sem,l1,aq,b7,hw,e7d,e57,e6i,b41];rfl;kernel_rfl))
   refine a2p (i+1) ?_ (by omega) (by omega)
   (simp+decide only[go_sem,a0d,a07]<;>rfl)
  ·obtain rfl:i=l.length:=by omega
   have l1:¬(l.length:Int)<l.length:=by omega
   (repeat first|simp only[ww]|(apply xa;simp+decide only[go_sem,l1];rfl;kernel_rfl))
   (apply fqb;simp+decide only[go_sem]<;>rfl)
theorem d1g(a a' b b' c c':Option (Option Nat))(S:List Sg)(T:List Tm)(V:List Vc)(hS:S.length<1000000000)(hT:T.length<1000000000)(hV:V.length<1000000000):sem L.env Mf 20 [.agg [sl a (S.map Sg.enc),sl b (T.map Tm.enc),sl c (V.map Vc.enc)],.agg [sl a' (S.map Sg.enc),sl b' (T.map Tm.enc),sl c' (V.map Vc.enc)]] []=some (.bool true,[]):=by
 have h1:=λd H=>a0l (E:=L.env) (ai:=d) (call:=sem L.env Mf) (g:=45) (fs:=[]) (cs:=[]) (ar:=[sl a (S.map Sg.enc),sl a' (S.map Sg.enc)]) (H:=H) (by kernel_rfl) (by kernel_rfl) rfl (by simp+decide only[go_sem]<;>rfl) (d5l a a' S hS) rfl;have h2:=λd H=>a0l (E:=L.env) (ai:=d) (call:=sem L.env Mf) (g:=46) (fs:=[]) (cs:=[]) (ar:=[sl b (T.map Tm.enc),sl b' (T.map Tm.enc)]) (H:=H) (by kernel_rfl) (by kernel_rfl) rfl (by simp+decide only[go_sem]<;>rfl) (d5c b b' T hT) rfl;have h3:=λd H=>a0l (E:=L.env) (ai:=d) (call:=sem L.env Mf) (g:=47) (fs:=[]) (cs:=[]) (ar:=[sl c (V.map Vc.enc),sl c' (V.map Vc.enc)]) (H:=H) (by kernel_rfl) (by kernel_rfl) rfl (by simp+decide only[go_sem]<;>rfl) (d58 c c' V hV) rfl
 (refine sv Tryz.f20 ?_;simp only[Tryz.f20,gS])
 (repeat first|simp only[ww]|(apply xa;simp+decide only[go_sem,h1,h2,h3];rfl;kernel_rfl))
 (apply fqb;simp+decide only[go_sem]<;>rfl)
end Go.RInst
namespace Go.RInst
open Go.Proofs Go.Ax Go.Pc
variable [PR]
set_option maxRecDepth 100000
end Go.RInst
namespace Go.RInst
open Go.Proofs Go.Ax Go.Pc
variable [PR]
set_option maxRecDepth 100000
end Go.RInst
namespace Go.RInst
open Go.Proofs Go.Ax Go.Pc
variable [PR]
set_option maxRecDepth 100000
end Go.RInst
namespace Go.RInst
open Go.Proofs Go.Ax Go.Pc
variable [PR]
set_option maxRecDepth 100000
end Go.RInst
namespace Go.RInst
open Go.Proofs Go.Ax Go.Pc
variable [PR]
set_option maxRecDepth 100000
theorem c2o(mw:PR.pr [.str soT]=some (soV,[])){d:Bool}(H:a08):a0e L.env d (sem L.env Mf) (.func (.func 14) [] []) [] H=some (.bool true,H,[]):=a0l (by kernel_rfl) (by kernel_rfl) rfl rfl (c88 mw) rfl
section
variable (mw:PR.pr [.str soT]=some (soV,[]))(xs:List AV)(sG:a0x xs=[])(cP:xs.all AV.storable=true)(lH:xs.length=3)(S:List Sg)(T:List Tm)(V:List Vc)(h:Valid S T V)
 (oh:∀d H,a0e L.env d (sem L.env Mf) (.func (.func 9) [] []) [.agg xs] H=some (.agg [sl none (S.map Sg.enc),sl none (T.map Tm.enc),sl none (V.map Vc.enc)],H,[]))
include mw sG cP lH h oh
end
end Go.RInst
