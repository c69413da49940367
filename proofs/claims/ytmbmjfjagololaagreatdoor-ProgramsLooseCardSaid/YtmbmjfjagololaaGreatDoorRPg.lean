/- Part of a proof. No condition. -/
import Derived.Test.YtmbmjfjagololaaGreatDoorRRd
import Derived.Test.YtmbmjfjagololaaGreatDoorPcB
import Derived.Test.YtmbmjfjagololaaGreatDoorAxE
import Derived.Test.YtmbmjfjagololaaGreatDoorAxD
set_option linter.unusedSectionVars false
set_option linter.unusedSimpArgs false
set_option linter.unusedVariables false
namespace Go.RInst
open Go.Proofs Go.Ax Go.Pc
variable [PR]
set_option maxRecDepth 100000
abbrev Sg.enc(s:Sg):List AV:=[.str s.name,.int .u8 s.dir]
abbrev Tm.enc(t:Tm):List AV:=[.str t.name,.int .i64 t.per,.int .i64 t.dr,.int .i64 t.ri,.int .i64 t.fa,.int .i64 t.st]
abbrev Vc.enc(v:Vc):List AV:=[.int .i64 v.t,.str v.cells,.int .i64 v.rep]
theorem c96(n:List UInt8)(d:Nat):sem L.env Mf 48 [.agg [.str n,.int .u8 d]] []=some (.bool (b1r ⟨n,d⟩),[]):=by
 have h:=λd H=>b38 (d:=d) H n;by_cases h1:a43 n=true
 ·rw[h1]at h;by_cases h2:d≤1
  ·have c2:(d:Int)≤1:=by omega
   have e:b1r ⟨n,d⟩=true:=by simp[b1r,h1,h2]
   rw[e]
   (refine sv Tryz.f48 ?_;simp only[Tryz.f48,gS])
   (repeat first|simp only[ww]|(apply xa;simp+decide only[go_sem,h,c2];rfl;kernel_rfl))
   (apply fqb;simp+decide only[go_sem]<;>rfl)
  ·have c2:¬(d:Int)≤1:=by omega
   have e:b1r ⟨n,d⟩=false:=by simp[b1r,h2]
   rw[e]
   (refine sv Tryz.f48 ?_;simp only[Tryz.f48,gS])
   (repeat first|simp only[ww]|(apply xa;simp+decide only[go_sem,h,c2];rfl;kernel_rfl))
   (apply fqb;simp+decide only[go_sem]<;>rfl)
 ·have h1:a43 n=false:=by simpa using h1
  have e:b1r ⟨n,d⟩=false:=by simp[b1r,h1]
  rw[h1]at h;rw[e]
  (refine sv Tryz.f48 ?_;simp only[Tryz.f48,gS])
  (repeat first|simp only[ww]|(apply xa;simp+decide only[go_sem,h];rfl;kernel_rfl))
  (apply fqb;simp+decide only[go_sem]<;>rfl)
theorem b7l(t:Tm):sem L.env Mf 49 [.agg (Tm.enc t)] []=some (.bool (a5j t),[]):=by
 have h:=λd H=>b38 (d:=d) H t.name;by_cases h1:a43 t.name=true
 ·rw[h1]at h;by_cases k0:(1:Int)≤t.per
  ·skip
   by_cases k1:t.per≤1000000
   ·skip
    by_cases k2:(0:Int)≤t.dr
    ·skip
     by_cases k3:t.dr<t.ri
     ·skip
      by_cases k4:t.ri<t.fa
      ·skip
       by_cases k5:t.fa<t.per
       ·skip
        by_cases k6:(0:Int)≤t.st
        ·skip
         by_cases k7:t.st<t.per
         ·have e:a5j t=true:=by simp[a5j,h1,k0,k1,k2,k3,k4,k5,k6,k7]
          rw[e]
          (refine sv Tryz.f49 ?_;simp only[Tryz.f49,gS])
          (repeat first|simp only[ww]|(apply xa;simp+decide only[go_sem,h,k0,k1,k2,k3,k4,k5,k6,k7];rfl;kernel_rfl))
          (apply fqb;simp+decide only[go_sem]<;>rfl)
         ·have e:a5j t=false:=by simp[a5j,k7]
          rw[e]
          (refine sv Tryz.f49 ?_;simp only[Tryz.f49,gS])
          (repeat first|simp only[ww]|(apply xa;simp+decide only[go_sem,h,k0,k1,k2,k3,k4,k5,k6,k7];rfl;kernel_rfl))
          (apply fqb;simp+decide only[go_sem]<;>rfl)
        ·have e:a5j t=false:=by simp[a5j,k6]
         rw[e]
         (refine sv Tryz.f49 ?_;simp only[Tryz.f49,gS])
         (repeat first|simp only[ww]|(apply xa;simp+decide only[go_sem,h,k0,k1,k2,k3,k4,k5,k6];rfl;kernel_rfl))
         (apply fqb;simp+decide only[go_sem]<;>rfl)
       ·have e:a5j t=false:=by simp[a5j,k5]
        rw[e]
        (refine sv Tryz.f49 ?_;simp only[Tryz.f49,gS])
        (repeat first|simp only[ww]|(apply xa;simp+decide only[go_sem,h,k0,k1,k2,k3,k4,k5];rfl;kernel_rfl))
        (apply fqb;simp+decide only[go_sem]<;>rfl)
      ·have e:a5j t=false:=by simp[a5j,k4]
       rw[e]
       (refine sv Tryz.f49 ?_;simp only[Tryz.f49,gS])
       (repeat first|simp only[ww]|(apply xa;simp+decide only[go_sem,h,k0,k1,k2,k3,k4];rfl;kernel_rfl))
       (apply fqb;simp+decide only[go_sem]<;>rfl)
     ·have e:a5j t=false:=by simp[a5j,k3]
      rw[e]
      (refine sv Tryz.f49 ?_;simp only[Tryz.f49,gS])
      (repeat first|simp only[ww]|(apply xa;simp+decide only[go_sem,h,k0,k1,k2,k3];rfl;kernel_rfl))
      (apply fqb;simp+decide only[go_sem]<;>rfl)
    ·have e:a5j t=false:=by simp[a5j,k2]
     rw[e]
     (refine sv Tryz.f49 ?_;simp only[Tryz.f49,gS])
     (repeat first|simp only[ww]|(apply xa;simp+decide only[go_sem,h,k0,k1,k2];rfl;kernel_rfl))
     (apply fqb;simp+decide only[go_sem]<;>rfl)
   ·have e:a5j t=false:=by simp[a5j,k1]
    rw[e]
    (refine sv Tryz.f49 ?_;simp only[Tryz.f49,gS])
    (repeat first|simp only[ww]|(apply xa;simp+decide only[go_sem,h,k0,k1];rfl;kernel_rfl))
    (apply fqb;simp+decide only[go_sem]<;>rfl)
  ·have e:a5j t=false:=by simp[a5j,k0]
   rw[e]
   (refine sv Tryz.f49 ?_;simp only[Tryz.f49,gS])
   (repeat first|simp only[ww]|(apply xa;simp+decide only[go_sem,h,k0];rfl;kernel_rfl))
   (apply fqb;simp+decide only[go_sem]<;>rfl)
 ·have h1:a43 t.name=false:=by simpa using h1
  have e:a5j t=false:=by simp[a5j,h1]
  rw[h1]at h;rw[e]
  (refine sv Tryz.f49 ?_;simp only[Tryz.f49,gS])
  (repeat first|simp only[ww]|(apply xa;simp+decide only[go_sem,h];rfl;kernel_rfl))
  (apply fqb;simp+decide only[go_sem]<;>rfl)
end Go.RInst
namespace Go.RInst
open Go.Proofs Go.Ax Go.Pc
variable [PR]
set_option maxRecDepth 100000
theorem c9j(s:List UInt8)(c:UInt8):sem L.env Mf 86 [.str s,.int .u8 c.toNat] []=some (.int .i64 (Lib.indexByte s c),[]):=by
 have h:∀d H,a0j L.env d (sem L.env Mf) (.func (.func 102) [] []) [.str s,.int .u8 c.toNat] H=some (.int .i64 (Lib.indexByte s c),H,[]):=λd H=>by
  have hx:L.env.ext 102=true:=by kernel_rfl
  have hn:(L.env.fn 102).isSome=false:=by kernel_rfl
  simp only[a0j,hx,hn,cond_true,cond_false,List.nil_append,List.append_nil,d9g,Int.toNat_natCast];simp
 (refine sv Tryz.f86 ?_;simp only[Tryz.f86,gS])
 (repeat first|simp only[ww]|(apply xa;simp+decide only[go_sem,h];rfl;kernel_rfl))
 (apply fqb;simp+decide only[go_sem]<;>rfl)
theorem e11(s:List UInt8)(c:UInt8):sem L.env Mf 68 [.str s,.int .u8 c.toNat] []=some (.int .i64 (Lib.indexByte s c),[]):=by
 have h:=λd H=>a0l (E:=L.env) (draw:=d) (call:=sem L.env Mf) (g:=86) (fs:=[]) (cs:=[]) (ar:=[.str s,.int .u8 c.toNat]) (H:=H) (by kernel_rfl) (by kernel_rfl) rfl (by rfl) (c9j s c) rfl
 (refine sv Tryz.f68 ?_;simp only[Tryz.f68,gS])
 (repeat first|simp only[ww]|(apply xa;simp+decide only[go_sem,h];rfl;kernel_rfl))
 (apply fqb;simp+decide only[go_sem]<;>rfl)
theorem b3f{d:Bool}(H:a08)(s:List UInt8)(c:UInt8):a0j L.env d (sem L.env Mf) (.func (.func 68) [] []) [.str s,.int .u8 c.toNat] H=some (.int .i64 (Lib.indexByte s c),H,[]):=a0l (by kernel_rfl) (by kernel_rfl) rfl rfl (e11 s c) rfl
theorem a0z(l:List Sg):FlatR (l.map Sg.enc):=FlatR.map λ_=>rfl
theorem a0g(l:List Tm):FlatR (l.map Tm.enc):=FlatR.map λ_=>rfl
theorem a0b(l:List Vc):FlatR (l.map Vc.enc):=FlatR.map λ_=>rfl
theorem d07(v:Vc)(rs rt:Option (Option Nat))(S:List Sg)(T:List Tm)(V:AV)(hV:a6k V=[])(hVs:V.storable=true)(hS:S.length<1000000):sem L.env Mf 50 [.agg (Vc.enc v),.agg [sl rs (S.map Sg.enc),sl rt (T.map Tm.enc),V]] []=some (.bool (a55 v S T.length),[]):=by
 by_cases k0:v.t<0
 ·have e:a55 v S T.length=false:=by simp[a55];omega
  rw[e]
  (refine sv Tryz.f50 ?_;simp only[Tryz.f50,gS])
  (repeat first|simp only[ww]|(apply xa;simp+decide only[go_sem,k0,hV,hVs,List.length_map];rfl;kernel_rfl))
  (apply fqb;simp+decide only[go_sem]<;>rfl)
 by_cases k1:(T.length:Int)≤v.t
 ·have e:a55 v S T.length=false:=by simp[a55];omega
  rw[e]
  (refine sv Tryz.f50 ?_;simp only[Tryz.f50,gS])
  (repeat first|simp only[ww]|(apply xa;simp+decide only[go_sem,k0,k1,hV,hVs,List.length_map];rfl;kernel_rfl))
  (apply fqb;simp+decide only[go_sem]<;>rfl)
 by_cases k2:v.rep<1
 ·have e:a55 v S T.length=false:=by simp[a55];omega
  rw[e]
  (refine sv Tryz.f50 ?_;simp only[Tryz.f50,gS])
  (repeat first|simp only[ww]|(apply xa;simp+decide only[go_sem,k0,k1,k2,hV,hVs,List.length_map];rfl;kernel_rfl))
  (apply fqb;simp+decide only[go_sem]<;>rfl)
 by_cases k3:(1000000:Int)<v.rep
 ·have e:a55 v S T.length=false:=by simp[a55];omega
  rw[e]
  (refine sv Tryz.f50 ?_;simp only[Tryz.f50,gS])
  (repeat first|simp only[ww]|(apply xa;simp+decide only[go_sem,k0,k1,k2,k3,hV,hVs,List.length_map];rfl;kernel_rfl))
  (apply fqb;simp+decide only[go_sem]<;>rfl)
 by_cases k4:(v.cells.length:Int)=S.length
 case neg=>
  have e:a55 v S T.length=false:=by
   cases hc:a29 S v.cells with
   |false=>simp[a55,hc]
   |true=>exact absurd (by rw[a4t S v.cells hc]) k4
  rw[e]
  (refine sv Tryz.f50 ?_;simp only[Tryz.f50,gS])
  (repeat first|simp only[ww]|(apply xa;simp+decide only[go_sem,k0,k1,k2,k3,k4,hV,hVs,List.length_map];rfl;kernel_rfl))
  (apply fqb;simp+decide only[go_sem]<;>rfl)
 have k5:S.length=v.cells.length:=by omega
 have eV:a55 v S T.length=a29 S v.cells:=by unfold a55;rw[decide_eq_true (by omega:0≤v.t),decide_eq_true (by omega:v.t<T.length),decide_eq_true (by omega:1≤v.rep),decide_eq_true (by omega:v.rep≤1000000)];rfl
 rw[eV]
 suffices hs:∃r:AV×a08,(r=(.bool (a29 S v.cells),[]))∧sem L.env Mf 50 [.agg (Vc.enc v),.agg [sl rs (S.map Sg.enc),sl rt (T.map Tm.enc),V]] []=some r by obtain⟨r,rfl,h3⟩:=hs;exact h3
 have hib:=λd H s c=>b3f (d:=d) H s c
 (refine svE Tryz.f50 ?_;simp only[Tryz.f50,gS])
 (repeat first|simp only[ww]|(apply xa;simp+decide only[go_sem,k0,k1,k2,k3,k4,hV,hVs,List.length_map];rfl;kernel_rfl))
 refine a0p (σ:=Nat) kp50_0 (λi=>[(2,.ptr 0 0 0),(39,sl rs (S.map Sg.enc)),(40,.int .i64 S.length),(41,.int .i64 (i:Nat))]) (λ_=>[some (.row 3 [Vc.enc v])]) (λi=>S.length-i) (λi=>i≤S.length∧∀(j:Nat) (s:Sg) (c:UInt8),j<i→S[j]?=some s→v.cells[j]?=some c→(a23 s.dir).contains c=true) 0 ?_ ⟨Nat.zero_le _,λj _ _ h=>by omega⟩ ?_
 ·(simp+decide only[go_sem,a09,a05]<;>rfl)
 ·rintro i ⟨hi,hall⟩
  by_cases hlt:i<S.length
  ·have l1:(i:Int)<S.length:=by omega
   obtain⟨s,hs⟩:∃s,S[i]?=some s:=⟨_,z9e hlt⟩
   obtain⟨c,hc⟩:∃c,v.cells[i]?=some c:=⟨_,z9e (by omega)⟩
   have hw:IntKind.i64.wrap ((i:Int)+1)=((i+1:Nat):Int):=by rw[w64 (by omega) (by omega)];omega
   have hsm:(S.map Sg.enc)[i]?=some (Sg.enc s):=by rw[List.getElem?_map,hs];rfl
   have hnext:(a23 s.dir).contains c=true→∀(j:Nat) (s:Sg) (c:UInt8),j<i+1→S[j]?=some s→v.cells[j]?=some c→(a23 s.dir).contains c=true:=by
    intro h j s' c' hj h1 h2;by_cases e:j=i
    ·subst e;rw[hs]at h1;rw[hc]at h2;cases h1;cases h2;exact h
    ·exact hall j s' c' (by omega) h1 h2
   have hlc:i<v.cells.length:=by omega
   by_cases hd:s.dir=1
   ·have d1:(s.dir:Int)=1:=by omega
    have hL:a23 s.dir=[76,72,88]:=by rw[hd];rfl
    by_cases hk:(a23 s.dir).contains c=true
    ·have c1:¬Lib.indexByte [76,72,88] c<0:=by have:=b5i _ _ hk;rw[hL]at this;omega
     (repeat first|simp only[ww]|(apply xa;simp+decide only[go_sem,l1,hw,hsm,hs,hc,hlc,d1,hib,c1,List.length_map];rfl;kernel_rfl))
     refine a22 (i+1) ?_ (by omega) ⟨by omega,hnext hk⟩
     (simp+decide only[go_sem,a09,a05]<;>rfl)
    ·have hk:(a23 s.dir).contains c=false:=by cases h:(a23 s.dir).contains c with|true=>exact absurd h hk|false=>rfl
     have c1:Lib.indexByte [76,72,88] c<0:=by have:=d6b _ _ hk;rw[hL]at this;omega
     have hr:a29 S v.cells=false:=a8x S v.cells i s c hs hc hk
     (repeat first|simp only[ww]|(apply xa;simp+decide only[go_sem,l1,hw,hsm,hs,hc,hlc,d1,hib,c1,List.length_map];rfl;kernel_rfl))
     (apply a2v;(·simp+decide only[go_sem]<;>rfl))
     rw[hr]
   ·have d1:¬(s.dir:Int)=1:=by omega
    have hL:a23 s.dir=[48,49,88,80]:=if_neg hd;by_cases hk:(a23 s.dir).contains c=true
    ·have c1:¬Lib.indexByte [48,49,88,80] c<0:=by have:=b5i _ _ hk;rw[hL]at this;omega
     (repeat first|simp only[ww]|(apply xa;simp+decide only[go_sem,l1,hw,hsm,hs,hc,hlc,d1,hib,c1,List.length_map];rfl;kernel_rfl))
     refine a22 (i+1) ?_ (by omega) ⟨by omega,hnext hk⟩
     (simp+decide only[go_sem,a09,a05]<;>rfl)
    ·have hk:(a23 s.dir).contains c=false:=by cases h:(a23 s.dir).contains c with|true=>exact absurd h hk|false=>rfl
     have c1:Lib.indexByte [48,49,88,80] c<0:=by have:=d6b _ _ hk;rw[hL]at this;omega
     have hr:a29 S v.cells=false:=a8x S v.cells i s c hs hc hk
     (repeat first|simp only[ww]|(apply xa;simp+decide only[go_sem,l1,hw,hsm,hs,hc,hlc,d1,hib,c1,List.length_map];rfl;kernel_rfl))
     (apply a2v;(·simp+decide only[go_sem]<;>rfl))
     rw[hr]
  ·have l1:¬(i:Int)<S.length:=by omega
   have hr:a29 S v.cells=true:=b15 S v.cells k5 λj s c h1 h2=>hall j s c (by have:=(List.getElem?_eq_some_iff.1 h1).1;omega) h1 h2
   (repeat first|simp only[ww]|(apply xa;simp+decide only[go_sem,l1];rfl;kernel_rfl))
   (apply a2v;(·simp+decide only[go_sem]<;>rfl))
   rw[hr]
end Go.RInst
namespace Go.RInst
open Go.Proofs Go.Ax Go.Pc
variable [PR]
set_option maxRecDepth 100000
theorem c3s:sem L.env Mf 51 [.nilslice] []=some (.bool false,[]):=c46 (E:=L.env) a86 60 (by kernel_rfl)
def stR(s:List UInt8):List AV:=[.str s]
theorem a2n(l:List (List UInt8)):FlatR (l.map stR):=FlatR.map λ_=>rfl
theorem c8a(n:Nat)(R:List (List AV))(hn:R.length=n)(h0:0<n)(h1:n≤1000)(hall:R.all (λr=>decide (r.length=1))=true):sem L.env Mf 69 [.slice 0 0 n none] [some (.row 1 R)]=some (.slice 2 0 n none,[some (.row 1 R),some (.row 1 []),some (.row 1 R)]):=by
 have hb:L.env.bytes 9=16:=by kernel_rfl
 have hrm:a2g L.env 9 n=true:=b0k (by omega) (by rw[hb];decide);have d1:¬n≤0:=by omega
 have ht:R.take n=R:=List.take_of_length_le (by omega)
 (refine sv Tryz.f69 ?_;simp only[Tryz.f69,gS])
 (repeat first|simp only[ww]|(apply xa;simp+decide only[go_sem,hall,hn,d1,hrm,ht,Nat.zero_add];rfl;kernel_rfl))
 (apply fqb;simp+decide only[go_sem]<;>rfl)
theorem c2t(n:Nat)(l:List (List UInt8))(hn:l.length=n)(h0:0<n)(h1:n≤1000):a0j L.env false (sem L.env Mf) (.func (.func 69) [] []) [.slice 0 0 n none] [some (.row 1 (l.map stR))]=some (.slice 2 0 n none,[some (.row 1 (l.map stR)),some (.row 1 []),some (.row 1 (l.map stR))],[0]):=by
 have hr:=λπ=>a02 π (a2n l);have hall:(l.map stR).all (λr=>decide (r.length=1))=true:=by rw[List.all_eq_true];intro r hr;obtain⟨x,_,rfl⟩:=List.mem_map.1 hr;rfl
 have hc:=a0o (sem L.env Mf 69) [.slice 0 0 n none] [some (.row 1 (l.map stR))] (σ:=[0]) (a7n (a0r (a2n l))) rfl rfl (args':=[.slice 0 0 n none]) rfl (H0:=[some (.row 1 (l.map stR))]) (by simp only[a0u,List.map_cons,List.map_nil,a04,List.getElem?_cons_zero,Option.join_some,Option.map_some,a0q,hr]) (c8a n (l.map stR) (by simp[hn]) h0 h1 hall);refine a1x (by kernel_rfl) (by kernel_rfl) rfl (hc.trans ?_);have e1:a0s [0] 1 [some (.row 1 (l.map stR)),some (.row 1 []),some (.row 1 (l.map stR))] 0 [some (.row 1 (l.map stR))]=[some (.row 1 (l.map stR))]:=by rw[b7y,b7x];show [Option.map (a0q _) (some (AObj.row 1 (l.map stR)))]=_;simp only[Option.map_some,a0q,hr]
 show some (_,a0s [0] 1 _ 0 _++_,_)=_;rw[e1];simp only[List.length_cons,List.length_nil,List.drop_succ_cons,List.drop_zero,List.map_cons,List.map_nil,Option.map_some,a0q,hr];rfl
theorem c7g(n:Nat)(l:List (List UInt8))(hn:l.length=n)(h0:0<n)(h1:n≤1000):sem L.env Mf 70 [.slice 0 0 n none] [some (.row 1 (l.map stR))]=some (.tuple [],[some (.row 1 ((a49 l).map stR))]):=by
 refine a7i (by intro y hy;cases hy) 0 ?_;have hp:primH L.env 70 [.slice 0 0 n none] [some (.row 1 (l.map stR))]=some (.tuple [],[some (.row 1 ((a49 l).map stR))]):=by
  show c44 [.slice 0 0 n none] [some (.row 1 (l.map stR))]=_;have b1:Nat.beq n (l.map stR).length=true:=by rw[Nat.beq_eq,List.length_map];exact hn.symm
  have b2:Nat.blt 0 n=true:=by rw[Nat.blt_eq];exact h0
  have b3:Nat.ble n b44=true:=by rw[Nat.ble_eq];exact Nat.le_trans h1 (by decide)
  have b4:unS (l.map stR)=some l:=b1w l;simp only[c44,b1,b2,b3,b4];rfl
 unfold a5v;rw[hp]
theorem c2s(n:Nat)(m:List (List UInt8))(hn:m.length=n)(h1:n≤1000)(hd:∀k a b,m[k]?=some a→m[k+1]?=some b→¬b=a):sem L.env Mf 71 [.slice 0 0 n none] [some (.row 1 (m.map stR))]=some (.slice 0 0 n none,[some (.row 1 (m.map stR))]):=by
 have hr:=λπ=>a02 π (a2n m);have hrf:=a01 (a2n m);have hfz:=λq d=>a15 q d (a2n m);by_cases h2:(n:Int)<2
 ·(refine sv Tryz.f71 ?_;simp only[Tryz.f71,gS])
  (repeat first|simp only[ww]|(apply xa;simp+decide only[go_sem,h2];rfl;kernel_rfl))
  (apply fqb;simp+decide only[go_sem,hr,hfz,hrf]<;>rfl)
 ·(refine sv Tryz.f71 ?_;simp only[Tryz.f71,gS])
  (repeat first|simp only[ww]|(apply xa;simp+decide only[go_sem,h2];rfl;kernel_rfl))
  refine a0p (σ:=Nat) kp71_0 (λi=>[(0,.slice 0 0 n none),(3,.int .i64 (i:Nat))]) (λ_=>[some (.row 1 (m.map stR))]) (λi=>n-i) (λi=>1≤i∧i≤n) 1 ?_ ⟨Nat.le_refl _,by omega⟩ ?_
  ·(simp+decide only[go_sem,a09,a05,hr,hrf]<;>rfl)
  ·rintro i ⟨hi1,hi⟩
   by_cases hlt:i<n
   ·have l1:(i:Int)<n:=by omega
    obtain⟨b,hb⟩:∃b,m[i]?=some b:=⟨_,z9e (by omega)⟩
    obtain⟨a,ha⟩:∃a,m[i-1]?=some a:=⟨_,z9e (by omega)⟩
    have hba:¬b=a:=hd (i-1) a b ha (by rw[show i-1+1=i by omega];exact hb);have hw:IntKind.i64.wrap ((i:Int)+1)=((i+1:Nat):Int):=by rw[w64 (by omega) (by omega)];omega
    have hw2:IntKind.i64.wrap ((i:Int)-1)=((i-1:Nat):Int):=by rw[w64 (by omega) (by omega)];omega
    have g1:(m.map stR)[i]?=some [.str b]:=by rw[List.getElem?_map,hb];rfl
    have g2:(m.map stR)[i-1]?=some [.str a]:=by rw[List.getElem?_map,ha];rfl
    have l2:i-1<n:=by omega
    (repeat first|simp only[ww]|(apply xa;simp+decide only[go_sem,l1,hlt,l2,hba,hw,hw2,g1,g2];rfl;kernel_rfl))
    refine a22 (i+1) ?_ (by omega) ⟨by omega,by omega⟩
    (simp+decide only[go_sem,a09,a05,hr,hrf]<;>rfl)
   ·have l1:¬(i:Int)<n:=by omega
    (repeat first|simp only[ww]|(apply xa;simp+decide only[go_sem,l1];rfl;kernel_rfl))
    (apply fqb;simp+decide only[go_sem,hr,hfz,hrf]<;>rfl)
theorem c7h{l:List (List UInt8)}(h:l.Nodup):∀k a b,(a49 l)[k]?=some a→(a49 l)[k+1]?=some b→¬b=a:=by intro k a b h1 h2 e;have hn:(a49 l).Nodup:=(a66 l).symm.nodup h;obtain⟨l1,e1⟩:=List.getElem?_eq_some_iff.1 h1;obtain⟨l2,e2⟩:=List.getElem?_eq_some_iff.1 h2;exact List.pairwise_iff_getElem.1 hn k (k+1) l1 l2 (by omega) (by rw[e1,e2,e])
theorem c77(n:Nat)(l:List (List UInt8))(hn:l.length=n)(h0:0<n)(h1:n≤1000)(hd:l.Nodup):sem L.env Mf 51 [.slice 0 0 n none] [some (.row 1 (l.map stR))]=some (.bool false,[some (.row 1 (l.map stR))]):=by
 have hr:=λπ=>a02 π (a2n l);have hrf:=a01 (a2n l);have hfz:=λq d=>a15 q d (a2n l);have hl':(a49 l).length=n:=by rw[(a66 l).length_eq,hn]
 have k1:=c2t n l hn h0 h1;have k2:a0j L.env false (sem L.env Mf) (.func (.func 70) [] []) [.slice 2 0 n none] [some (.row 1 (l.map stR)),some (.row 1 []),some (.row 1 (l.map stR))]=some (.tuple [],[some (.row 1 (l.map stR)),some (.row 1 []),some (.row 1 ((a49 l).map stR))],[2]):=a14 (by kernel_rfl) (by kernel_rfl) rfl (b:=2) (o:=.row 1 (l.map stR)) (o':=.row 1 ((a49 l).map stR)) rfl (a0r (a2n l)) (FlatO.row (a2n l)) rfl rfl (c7g n l hn h0 h1) (FlatO.row (a2n _)) rfl;have k3:a0j L.env false (sem L.env Mf) (.func (.func 71) [] []) [.slice 2 0 n none] [some (.row 1 (l.map stR)),some (.row 1 []),some (.row 1 ((a49 l).map stR))]=some (.slice 2 0 n none,[some (.row 1 (l.map stR)),some (.row 1 []),some (.row 1 ((a49 l).map stR))],[2]):=a14 (by kernel_rfl) (by kernel_rfl) rfl (b:=2) (o:=.row 1 ((a49 l).map stR)) (o':=.row 1 ((a49 l).map stR)) rfl (a0r (a2n _)) (FlatO.row (a2n _)) rfl rfl (c2s n _ hl' h1 (c7h hd)) (FlatO.row (a2n _)) rfl;have l1:¬(n:Int)<n:=by omega
 (refine sv Tryz.f51 ?_;simp only[Tryz.f51,gS])
 (repeat first|simp only[ww]|(apply xa;simp+decide only[go_sem,k1,k2,k3,l1];rfl;kernel_rfl))
 (apply fqb;simp+decide only[go_sem,hr,hfz,hrf]<;>rfl)
end Go.RInst
namespace Go.RInst
open Go.Proofs Go.Ax Go.Pc
variable [PR]
set_option maxRecDepth 100000
def snR(s:Sg):List AV:=[.str s.name]
def tnR(t:Tm):List AV:=[.str t.name]
theorem b1x(l:List Sg):FlatR (l.map snR):=FlatR.map λ_=>rfl
theorem a5i(l:List Tm):FlatR (l.map tnR):=FlatR.map λ_=>rfl
theorem b0e(l:List Sg):l.map snR=(l.map Sg.name).map stR:=by simp[snR,stR]
theorem b0b(l:List Tm):l.map tnR=(l.map Tm.name).map stR:=by simp[tnR,stR]
theorem a59{α:Type}{l:List α}{i:Nat}{x:α}(h:l[i]?=some x):l.take (i+1)=l.take i++[x]:=by rw[List.take_add_one,h];rfl
theorem a7g{d:Bool}(H:a08)(b:Nat)(ns:List (List UInt8))(hH:ns≠[]→a04 H b=some (.row 1 (ns.map stR)))(hn:ns.length≤1000)(hd:ns.Nodup):∃σ,a0j L.env d (sem L.env Mf) (.func (.func 51) [] []) [grV b (ns.map stR)] H=some (.bool false,H,σ):=by
 cases ns with
 |nil=>exact⟨[],a0l (by kernel_rfl) (by kernel_rfl) rfl rfl c3s rfl⟩
 |cons a r=>refine⟨[b],?_⟩;rw[a0k b (by simp),List.length_map];exact a3c (by kernel_rfl) (by kernel_rfl) rfl (hH (by simp)) (a0r (a2n _)) (FlatO.row (a2n _)) rfl (c24 b 0 _ _▸rfl) (c77 (a::r).length (a::r) rfl (by simp) hn hd) rfl
def a1d(V:List Vc):Int:=(V.map Vc.rep).sum
theorem a9h(V:List Vc){i:Nat}{v:Vc}(h:V[i]?=some v):a1d (V.take (i+1))=a1d (V.take i)+v.rep:=by rw[a59 h];simp[a1d]
theorem a69:∀(V:List Vc),(∀v∈V,0≤v.rep)→0≤a1d V
 | [],_=>by simp[a1d]
 |v::V,h=>by have:=a69 V λx hx=>h x (by simp[hx]);have:=h v (by simp);simp[a1d]at *;omega
theorem a7l(V:List Vc)(h:∀v∈V,0≤v.rep)(i:Nat):a1d (V.take i)≤a1d V:=by
 have e:a1d V=a1d (V.take i)+a1d (V.drop i):=by unfold a1d;rw[←List.sum_append,←List.map_append,List.take_append_drop]
 have:=a69 (V.drop i) λv hv=>h v (List.mem_of_mem_drop hv);omega
structure Valid(S:List Sg)(T:List Tm)(V:List Vc):Prop where
 hS:S.length≤100
 hT:T.length≤16
 hV:V.length≤100
 sg:∀s∈S,b1r s=true
 tm:∀t∈T,a5j t=true
 vc:∀v∈V,a55 v S T.length=true
 sn:(S.map Sg.name).Nodup
 tn:(T.map Tm.name).Nodup
 sum:a1d V≤1000000
theorem Valid.rep{S:List Sg}{T:List Tm}{V:List Vc}(h:Valid S T V):∀v∈V,1≤v.rep∧v.rep≤1000000:=by intro v hv;have:=h.vc v hv;simp only[a55,Bool.and_eq_true,decide_eq_true_eq]at this;exact⟨this.2.2.1,this.2.2.2.1⟩
theorem c8b(rs rt rv:Option (Option Nat))(S:List Sg)(T:List Tm)(V:List Vc)(h:Valid S T V):sem L.env Mf 21 [.agg [sl rs (S.map Sg.enc),sl rt (T.map Tm.enc),sl rv (V.map Vc.enc)]] []=some (.int .i64 0,[]):=by
 have hS:=h.hS;have hT:=h.hT;have hV:=h.hV;have c1:¬(256:Int)<S.length:=by omega
 have c2:¬(16:Int)<T.length:=by omega
 have c3:¬(65536:Int)<V.length:=by omega
 have hsg:=λd H n k=>a0l (E:=L.env) (draw:=d) (call:=sem L.env Mf) (g:=48) (fs:=[]) (cs:=[]) (ar:=[.agg [.str n,.int .u8 (k:Nat)]]) (H:=H) (by kernel_rfl) (by kernel_rfl) rfl (by rfl) (c96 n k) rfl;have htm:=λd H t=>a0l (E:=L.env) (draw:=d) (call:=sem L.env Mf) (g:=49) (fs:=[]) (cs:=[]) (ar:=[.agg (Tm.enc t)]) (H:=H) (by kernel_rfl) (by kernel_rfl) rfl (by rfl) (b7l t) rfl;have hvc:=λd H v=>a0l (E:=L.env) (draw:=d) (call:=sem L.env Mf) (g:=50) (fs:=[]) (cs:=[]) (ar:=[.agg (Vc.enc v),.agg [sl rs (S.map Sg.enc),sl rt (T.map Tm.enc),sl rv (V.map Vc.enc)]]) (H:=H) (by kernel_rfl) (by kernel_rfl) rfl (by simp+decide only[go_sem]<;>rfl) (d07 v rs rt S T (sl rv (V.map Vc.enc)) (by simp+decide only[go_sem]) (by simp+decide only[go_sem]) (by omega)) rfl
 (refine sv Tryz.f21 ?_;simp only[Tryz.f21,gS])
 (repeat first|simp only[ww]|(apply xa;simp+decide only[go_sem,c1,c2,c3,List.length_map];rfl;kernel_rfl))
 refine a0p (σ:=Nat) kp21_0 (λi=>[(1,.ptr 0 0 0),(3,grV 1 ((S.take i).map snR)),(4,.nilslice),(29,sl rs (S.map Sg.enc)),(30,.int .i64 S.length),(31,.int .i64 (i:Nat))]) (λi=>some (.row 3 [[sl rs (S.map Sg.enc),sl rt (T.map Tm.enc),sl rv (V.map Vc.enc)]])::grH 1 ((S.take i).map snR)) (λi=>S.length-i) (λi=>i≤S.length) 0 ?_ (Nat.zero_le _) ?_
 ·(simp+decide only[go_sem,a09,a05,List.take_zero,List.map_nil,a0a,a0c]<;>rfl)
 ·intro i hi;by_cases hlt:i<S.length
  ·have l1:(i:Int)<S.length:=by omega
   obtain⟨s,hs⟩:∃s,S[i]?=some s:=⟨_,z9e hlt⟩
   have hv1:b1r ⟨s.name,s.dir⟩=true:=h.sg s (List.mem_of_getElem? hs);have hval:=hsg;have hsm:(S.map Sg.enc)[i]?=some (Sg.enc s):=by rw[List.getElem?_map,hs];rfl
   have hw:IntKind.i64.wrap ((i:Int)+1)=((i+1:Nat):Int):=by rw[w64 (by omega) (by omega)];omega
   have hsr:(S.take (i+1)).map snR=(S.take i).map snR++[[.str s.name]]:=by rw[a59 hs,List.map_append];rfl
   have h5:=a01 (b1x (S.take (i+1)));have h6:=λπ=>a02 π (b1x (S.take (i+1)));have hlen:((S.take i).map snR).length=i:=by rw[List.length_map,List.length_take];omega
   have hrm:i+1≤1000000000:=by omega
   by_cases hk:i=0
   ·subst hk;have e0:(S.take 0).map snR=[]:=rfl;rw[e0]at hsr⊢;simp only[List.nil_append]at hsr
    (repeat first|simp only[ww]|(apply xa;simp+decide only[go_sem,l1,hlt,hsm,hval,hv1,hw,List.length_map,a0a,a0c];rfl;kernel_rfl))
    refine a22 (0+1) ?_ (by omega) (by omega)
    (simp+decide only[go_sem,a09,a05,hsr,a1q,a1k,List.length_nil]<;>rfl)
   ·have hne:(S.take i).map snR≠[]:=by intro e;rw[e]at hlen;simp at hlen;omega
    rw[a0k 1 hne,a0n 1 hne,hlen];rw[hsr]at h5 h6;generalize(S.take i).map snR=R at hsr hlen h5 h6
    (repeat first|simp only[ww]|(apply xa;simp+decide only[go_sem,l1,hlt,hsm,hval,hv1,hw,hlen,hrm,List.length_map];rfl;kernel_rfl))
    refine a22 (i+1) ?_ (by omega) (by omega)
    (simp+decide only[go_sem,a09,a05,hsr,a2h,a2i,h5,h6,hlen]<;>rfl)
  ·obtain rfl:i=S.length:=by omega
   have l1:¬(S.length:Int)<S.length:=by omega
   have hf1:=a01 (b1x S);have hf2:=λπ=>a02 π (b1x S);rw[List.take_length];by_cases hk:S=[]
   ·have e1:S.map snR=[]:=by rw[hk];rfl
    rw[e1];simp only[a0a,a0c]
    (repeat first|simp only[ww]|(apply xa;simp+decide only[go_sem,l1,List.length_map];rfl;kernel_rfl))
    refine a0p (σ:=Nat) kp21_2 (λi=>[(1,.ptr 0 0 0),(3,.nilslice),(4,grV 1 ((T.take i).map tnR)),(45,sl rt (T.map Tm.enc)),(46,.int .i64 T.length),(47,.int .i64 (i:Nat))]) (λi=>some (.row 3 [[sl rs (S.map Sg.enc),sl rt (T.map Tm.enc),sl rv (V.map Vc.enc)]])::grH 1 ((T.take i).map tnR)) (λi=>T.length-i) (λi=>i≤T.length) 0 ?_ (Nat.zero_le _) ?_
    ·(simp+decide only[go_sem,a09,a05,List.take_zero,List.map_nil,a0a,a0c]<;>rfl)
    ·intro i hi;by_cases hlt:i<T.length
     ·have l1:(i:Int)<T.length:=by omega
      obtain⟨t,hs⟩:∃t,T[i]?=some t:=⟨_,z9e hlt⟩
      have hv1:a5j t=true:=h.tm t (List.mem_of_getElem? hs);have hval:=htm;have hsm:(T.map Tm.enc)[i]?=some (Tm.enc t):=by rw[List.getElem?_map,hs];rfl
      have hw:IntKind.i64.wrap ((i:Int)+1)=((i+1:Nat):Int):=by rw[w64 (by omega) (by omega)];omega
      have hsr:(T.take (i+1)).map tnR=(T.take i).map tnR++[[.str t.name]]:=by rw[a59 hs,List.map_append];rfl
      have h5:=a01 (a5i (T.take (i+1)));have h6:=λπ=>a02 π (a5i (T.take (i+1)));have hlen:((T.take i).map tnR).length=i:=by rw[List.length_map,List.length_take];omega
      have hrm:i+1≤1000000000:=by omega
      by_cases hk:i=0
      ·subst hk;have e0:(T.take 0).map tnR=[]:=rfl;rw[e0]at hsr⊢;simp only[List.nil_append]at hsr
       (repeat first|simp only[ww]|(apply xa;simp+decide only[go_sem,l1,hlt,hsm,hval,hv1,hw,List.length_map,a0a,a0c];rfl;kernel_rfl))
       refine a22 (0+1) ?_ (by omega) (by omega)
       (simp+decide only[go_sem,a09,a05,hsr,a1q,a1k,List.length_nil]<;>rfl)
      ·have hne:(T.take i).map tnR≠[]:=by intro e;rw[e]at hlen;simp at hlen;omega
       rw[a0k 1 hne,a0n 1 hne,hlen];rw[hsr]at h5 h6;generalize(T.take i).map tnR=R at hsr hlen h5 h6
       (repeat first|simp only[ww]|(apply xa;simp+decide only[go_sem,l1,hlt,hsm,hval,hv1,hw,hlen,hrm,List.length_map];rfl;kernel_rfl))
       refine a22 (i+1) ?_ (by omega) (by omega)
       (simp+decide only[go_sem,a09,a05,hsr,a2h,a2i,h5,h6,hlen]<;>rfl)
     ·obtain rfl:i=T.length:=by omega
      have l2:¬(T.length:Int)<T.length:=by omega
      have hg1:=a01 (a5i T);have hg2:=λπ=>a02 π (a5i T);rw[List.take_length];by_cases hkT:T=[]
      ·have e2:T.map tnR=[]:=by rw[hkT];rfl
       rw[e2];simp only[a0a,a0c]
       (repeat first|simp only[ww]|(apply xa;simp+decide only[go_sem,l2,List.length_map];rfl;kernel_rfl))
       refine a0p (σ:=Nat) kp21_4 (λi=>[(1,.ptr 0 0 0),(3,.nilslice),(4,.nilslice),(9,.int .i64 (a1d (V.take i))),(61,sl rv (V.map Vc.enc)),(62,.int .i64 V.length),(63,.int .i64 (i:Nat))]) (λ_=>[some (.row 3 [[sl rs (S.map Sg.enc),sl rt (T.map Tm.enc),sl rv (V.map Vc.enc)]])]) (λi=>V.length-i) (λi=>i≤V.length) 0 ?_ (Nat.zero_le _) ?_
       ·have e0:a1d (V.take 0)=0:=rfl
        (simp+decide only[go_sem,a09,a05,e0]<;>rfl)
       ·intro i hi;by_cases hlt:i<V.length
        ·have l3:(i:Int)<V.length:=by omega
         obtain⟨v,hs⟩:∃v,V[i]?=some v:=⟨_,z9e hlt⟩
         have hv1:a55 v S T.length=true:=h.vc v (List.mem_of_getElem? hs);have hsm:(V.map Vc.enc)[i]?=some (Vc.enc v):=by rw[List.getElem?_map,hs];rfl
         have hw:IntKind.i64.wrap ((i:Int)+1)=((i+1:Nat):Int):=by rw[w64 (by omega) (by omega)];omega
         have hrs:=a9h V hs;have hnn:∀v∈V,0≤v.rep:=λv hv=>by have:=(h.rep v hv).1;omega
         have hle:=a7l V hnn (i+1);have hge:=a69 (V.take i) λv hv=>hnn v (List.mem_of_mem_take hv);have hrp:=h.rep v (List.mem_of_getElem? hs);have hsum:=h.sum;have hw2:IntKind.i64.wrap (a1d (V.take i)+v.rep)=a1d (V.take (i+1)):=by rw[w64 (by omega) (by omega)];omega
         have hmn:a1d (V.take (i+1))<1000001:=by omega
         have hmn2:¬(1000001:Int)<a1d (V.take (i+1)):=by omega
         have hmn3:a1d (V.take (i+1))≤1000001:=by omega
         (repeat first|simp only[ww]|(apply xa;simp+decide only[go_sem,l3,hlt,hsm,hvc,hv1,hw,hw2,hmn,hmn2,hmn3,List.length_map];rfl;kernel_rfl))
         refine a22 (i+1) ?_ (by omega) (by omega)
         (simp+decide only[go_sem,a09,a05]<;>rfl)
        ·obtain rfl:i=V.length:=by omega
         have l3:¬(V.length:Int)<V.length:=by omega
         have hsum:=h.sum;have l4:¬(1000000:Int)<a1d V:=by omega
         rw[List.take_length];obtain⟨σ1,w1⟩:=a7g (d:=false) [some (.row 3 [[sl rs (S.map Sg.enc),sl rt (T.map Tm.enc),sl rv (V.map Vc.enc)]])] 1 (S.map Sg.name) (λhh=>absurd (by rw[hk];rfl) hh) (by rw[List.length_map];omega) h.sn;obtain⟨σ2,w2⟩:=a7g (d:=false) [some (.row 3 [[sl rs (S.map Sg.enc),sl rt (T.map Tm.enc),sl rv (V.map Vc.enc)]])] 1 (T.map Tm.name) (λhh=>absurd (by rw[hkT];rfl) hh) (by rw[List.length_map];omega) h.tn;rw[←b0e]at w1;rw[←b0b]at w2;rw[e1,a0a]at w1;rw[e2,a0a]at w2
         (repeat first|simp only[ww]|(apply xa;simp+decide only[go_sem,l3,l4,w1,w2,List.length_map];rfl;kernel_rfl))
         (apply fqb;simp+decide only[go_sem]<;>rfl)
      ·have hneT:T.map tnR≠[]:=by simpa using hkT
       rw[a0k 1 hneT,a0n 1 hneT,List.length_map]
       (repeat first|simp only[ww]|(apply xa;simp+decide only[go_sem,l2,List.length_map];rfl;kernel_rfl))
       refine a0p (σ:=Nat) kp21_4 (λi=>[(1,.ptr 0 0 0),(3,.nilslice),(4,.slice 1 0 T.length none),(9,.int .i64 (a1d (V.take i))),(61,sl rv (V.map Vc.enc)),(62,.int .i64 V.length),(63,.int .i64 (i:Nat))]) (λ_=>[some (.row 3 [[sl rs (S.map Sg.enc),sl rt (T.map Tm.enc),sl rv (V.map Vc.enc)]]),some (.row 1 (T.map tnR))]) (λi=>V.length-i) (λi=>i≤V.length) 0 ?_ (Nat.zero_le _) ?_
       ·have e0:a1d (V.take 0)=0:=rfl
        (simp+decide only[go_sem,a09,a05,e0,hg1,hg2]<;>rfl)
       ·intro i hi;by_cases hlt:i<V.length
        ·have l3:(i:Int)<V.length:=by omega
         obtain⟨v,hs⟩:∃v,V[i]?=some v:=⟨_,z9e hlt⟩
         have hv1:a55 v S T.length=true:=h.vc v (List.mem_of_getElem? hs);have hsm:(V.map Vc.enc)[i]?=some (Vc.enc v):=by rw[List.getElem?_map,hs];rfl
         have hw:IntKind.i64.wrap ((i:Int)+1)=((i+1:Nat):Int):=by rw[w64 (by omega) (by omega)];omega
         have hrs:=a9h V hs;have hnn:∀v∈V,0≤v.rep:=λv hv=>by have:=(h.rep v hv).1;omega
         have hle:=a7l V hnn (i+1);have hge:=a69 (V.take i) λv hv=>hnn v (List.mem_of_mem_take hv);have hrp:=h.rep v (List.mem_of_getElem? hs);have hsum:=h.sum;have hw2:IntKind.i64.wrap (a1d (V.take i)+v.rep)=a1d (V.take (i+1)):=by rw[w64 (by omega) (by omega)];omega
         have hmn:a1d (V.take (i+1))<1000001:=by omega
         have hmn2:¬(1000001:Int)<a1d (V.take (i+1)):=by omega
         have hmn3:a1d (V.take (i+1))≤1000001:=by omega
         (repeat first|simp only[ww]|(apply xa;simp+decide only[go_sem,l3,hlt,hsm,hvc,hv1,hw,hw2,hmn,hmn2,hmn3,List.length_map,hg1,hg2];rfl;kernel_rfl))
         refine a22 (i+1) ?_ (by omega) (by omega)
         (simp+decide only[go_sem,a09,a05,hg1,hg2]<;>rfl)
        ·obtain rfl:i=V.length:=by omega
         have l3:¬(V.length:Int)<V.length:=by omega
         have hsum:=h.sum;have l4:¬(1000000:Int)<a1d V:=by omega
         rw[List.take_length];obtain⟨σ1,w1⟩:=a7g (d:=false) [some (.row 3 [[sl rs (S.map Sg.enc),sl rt (T.map Tm.enc),sl rv (V.map Vc.enc)]]),some (.row 1 (T.map tnR))] 1 (S.map Sg.name) (λhh=>absurd (by rw[hk];rfl) hh) (by rw[List.length_map];omega) h.sn;obtain⟨σ2,w2⟩:=a7g (d:=false) [some (.row 3 [[sl rs (S.map Sg.enc),sl rt (T.map Tm.enc),sl rv (V.map Vc.enc)]]),some (.row 1 (T.map tnR))] 1 (T.map Tm.name) (λhh=>by rw[←b0b];rfl) (by rw[List.length_map];omega) h.tn;rw[←b0e]at w1;rw[←b0b]at w2;rw[e1,a0a]at w1;rw[a0k 1 hneT,List.length_map]at w2
         (repeat first|simp only[ww]|(apply xa;simp+decide only[go_sem,l3,l4,w1,w2,List.length_map,hg1,hg2];rfl;kernel_rfl))
         (apply fqb;simp+decide only[go_sem,hg1,hg2]<;>rfl)
   ·have hne:S.map snR≠[]:=by simpa using hk
    rw[a0k 1 hne,a0n 1 hne,List.length_map]
    (repeat first|simp only[ww]|(apply xa;simp+decide only[go_sem,l1,List.length_map];rfl;kernel_rfl))
    refine a0p (σ:=Nat) kp21_2 (λi=>[(1,.ptr 0 0 0),(3,.slice 1 0 S.length none),(4,grV 2 ((T.take i).map tnR)),(45,sl rt (T.map Tm.enc)),(46,.int .i64 T.length),(47,.int .i64 (i:Nat))]) (λi=>some (.row 3 [[sl rs (S.map Sg.enc),sl rt (T.map Tm.enc),sl rv (V.map Vc.enc)]])::some (.row 1 (S.map snR))::grH 1 ((T.take i).map tnR)) (λi=>T.length-i) (λi=>i≤T.length) 0 ?_ (Nat.zero_le _) ?_
    ·(simp+decide only[go_sem,a09,a05,List.take_zero,List.map_nil,a0a,a0c,hf1,hf2]<;>rfl)
    ·intro i hi;by_cases hlt:i<T.length
     ·have l1:(i:Int)<T.length:=by omega
      obtain⟨t,hs⟩:∃t,T[i]?=some t:=⟨_,z9e hlt⟩
      have hv1:a5j t=true:=h.tm t (List.mem_of_getElem? hs);have hval:=htm;have hsm:(T.map Tm.enc)[i]?=some (Tm.enc t):=by rw[List.getElem?_map,hs];rfl
      have hw:IntKind.i64.wrap ((i:Int)+1)=((i+1:Nat):Int):=by rw[w64 (by omega) (by omega)];omega
      have hsr:(T.take (i+1)).map tnR=(T.take i).map tnR++[[.str t.name]]:=by rw[a59 hs,List.map_append];rfl
      have h5:=a01 (a5i (T.take (i+1)));have h6:=λπ=>a02 π (a5i (T.take (i+1)));have hlen:((T.take i).map tnR).length=i:=by rw[List.length_map,List.length_take];omega
      have hrm:i+1≤1000000000:=by omega
      by_cases hk:i=0
      ·subst hk;have e0:(T.take 0).map tnR=[]:=rfl;rw[e0]at hsr⊢;simp only[List.nil_append]at hsr
       (repeat first|simp only[ww]|(apply xa;simp+decide only[go_sem,l1,hlt,hsm,hval,hv1,hw,List.length_map,a0a,a0c,hf1,hf2];rfl;kernel_rfl))
       refine a22 (0+1) ?_ (by omega) (by omega)
       (simp+decide only[go_sem,a09,a05,hsr,a1q,a1k,List.length_nil,hf1,hf2]<;>rfl)
      ·have hne:(T.take i).map tnR≠[]:=by intro e;rw[e]at hlen;simp at hlen;omega
       rw[a0k 2 hne,a0n 1 hne,hlen];rw[hsr]at h5 h6;generalize(T.take i).map tnR=R at hsr hlen h5 h6
       (repeat first|simp only[ww]|(apply xa;simp+decide only[go_sem,l1,hlt,hsm,hval,hv1,hw,hlen,hrm,List.length_map,hf1,hf2];rfl;kernel_rfl))
       refine a22 (i+1) ?_ (by omega) (by omega)
       (simp+decide only[go_sem,a09,a05,hsr,a2h,a2i,h5,h6,hlen,hf1,hf2]<;>rfl)
     ·obtain rfl:i=T.length:=by omega
      have l2:¬(T.length:Int)<T.length:=by omega
      have hg1:=a01 (a5i T);have hg2:=λπ=>a02 π (a5i T);rw[List.take_length];by_cases hkT:T=[]
      ·have e2:T.map tnR=[]:=by rw[hkT];rfl
       rw[e2];simp only[a0a,a0c]
       (repeat first|simp only[ww]|(apply xa;simp+decide only[go_sem,l2,List.length_map,hf1,hf2];rfl;kernel_rfl))
       refine a0p (σ:=Nat) kp21_4 (λi=>[(1,.ptr 0 0 0),(3,.slice 1 0 S.length none),(4,.nilslice),(9,.int .i64 (a1d (V.take i))),(61,sl rv (V.map Vc.enc)),(62,.int .i64 V.length),(63,.int .i64 (i:Nat))]) (λ_=>[some (.row 3 [[sl rs (S.map Sg.enc),sl rt (T.map Tm.enc),sl rv (V.map Vc.enc)]]),some (.row 1 (S.map snR))]) (λi=>V.length-i) (λi=>i≤V.length) 0 ?_ (Nat.zero_le _) ?_
       ·have e0:a1d (V.take 0)=0:=rfl
        (simp+decide only[go_sem,a09,a05,e0,hf1,hf2]<;>rfl)
       ·intro i hi;by_cases hlt:i<V.length
        ·have l3:(i:Int)<V.length:=by omega
         obtain⟨v,hs⟩:∃v,V[i]?=some v:=⟨_,z9e hlt⟩
         have hv1:a55 v S T.length=true:=h.vc v (List.mem_of_getElem? hs);have hsm:(V.map Vc.enc)[i]?=some (Vc.enc v):=by rw[List.getElem?_map,hs];rfl
         have hw:IntKind.i64.wrap ((i:Int)+1)=((i+1:Nat):Int):=by rw[w64 (by omega) (by omega)];omega
         have hrs:=a9h V hs;have hnn:∀v∈V,0≤v.rep:=λv hv=>by have:=(h.rep v hv).1;omega
         have hle:=a7l V hnn (i+1);have hge:=a69 (V.take i) λv hv=>hnn v (List.mem_of_mem_take hv);have hrp:=h.rep v (List.mem_of_getElem? hs);have hsum:=h.sum;have hw2:IntKind.i64.wrap (a1d (V.take i)+v.rep)=a1d (V.take (i+1)):=by rw[w64 (by omega) (by omega)];omega
         have hmn:a1d (V.take (i+1))<1000001:=by omega
         have hmn2:¬(1000001:Int)<a1d (V.take (i+1)):=by omega
         have hmn3:a1d (V.take (i+1))≤1000001:=by omega
         (repeat first|simp only[ww]|(apply xa;simp+decide only[go_sem,l3,hlt,hsm,hvc,hv1,hw,hw2,hmn,hmn2,hmn3,List.length_map,hf1,hf2];rfl;kernel_rfl))
         refine a22 (i+1) ?_ (by omega) (by omega)
         (simp+decide only[go_sem,a09,a05,hf1,hf2]<;>rfl)
        ·obtain rfl:i=V.length:=by omega
         have l3:¬(V.length:Int)<V.length:=by omega
         have hsum:=h.sum;have l4:¬(1000000:Int)<a1d V:=by omega
         rw[List.take_length];obtain⟨σ1,w1⟩:=a7g (d:=false) [some (.row 3 [[sl rs (S.map Sg.enc),sl rt (T.map Tm.enc),sl rv (V.map Vc.enc)]]),some (.row 1 (S.map snR))] 1 (S.map Sg.name) (λhh=>by rw[←b0e];rfl) (by rw[List.length_map];omega) h.sn;obtain⟨σ2,w2⟩:=a7g (d:=false) [some (.row 3 [[sl rs (S.map Sg.enc),sl rt (T.map Tm.enc),sl rv (V.map Vc.enc)]]),some (.row 1 (S.map snR))] 2 (T.map Tm.name) (λhh=>absurd (by rw[hkT];rfl) hh) (by rw[List.length_map];omega) h.tn;rw[←b0e]at w1;rw[←b0b]at w2;rw[a0k 1 hne,List.length_map]at w1;rw[e2,a0a]at w2
         (repeat first|simp only[ww]|(apply xa;simp+decide only[go_sem,l3,l4,w1,w2,List.length_map,hf1,hf2];rfl;kernel_rfl))
         (apply fqb;simp+decide only[go_sem,hf1,hf2]<;>rfl)
      ·have hneT:T.map tnR≠[]:=by simpa using hkT
       rw[a0k 2 hneT,a0n 1 hneT,List.length_map]
       (repeat first|simp only[ww]|(apply xa;simp+decide only[go_sem,l2,List.length_map,hf1,hf2];rfl;kernel_rfl))
       refine a0p (σ:=Nat) kp21_4 (λi=>[(1,.ptr 0 0 0),(3,.slice 1 0 S.length none),(4,.slice 2 0 T.length none),(9,.int .i64 (a1d (V.take i))),(61,sl rv (V.map Vc.enc)),(62,.int .i64 V.length),(63,.int .i64 (i:Nat))]) (λ_=>[some (.row 3 [[sl rs (S.map Sg.enc),sl rt (T.map Tm.enc),sl rv (V.map Vc.enc)]]),some (.row 1 (S.map snR)),some (.row 1 (T.map tnR))]) (λi=>V.length-i) (λi=>i≤V.length) 0 ?_ (Nat.zero_le _) ?_
       ·have e0:a1d (V.take 0)=0:=rfl
        (simp+decide only[go_sem,a09,a05,e0,hf1,hf2,hg1,hg2]<;>rfl)
       ·intro i hi;by_cases hlt:i<V.length
        ·have l3:(i:Int)<V.length:=by omega
         obtain⟨v,hs⟩:∃v,V[i]?=some v:=⟨_,z9e hlt⟩
         have hv1:a55 v S T.length=true:=h.vc v (List.mem_of_getElem? hs);have hsm:(V.map Vc.enc)[i]?=some (Vc.enc v):=by rw[List.getElem?_map,hs];rfl
         have hw:IntKind.i64.wrap ((i:Int)+1)=((i+1:Nat):Int):=by rw[w64 (by omega) (by omega)];omega
         have hrs:=a9h V hs;have hnn:∀v∈V,0≤v.rep:=λv hv=>by have:=(h.rep v hv).1;omega
         have hle:=a7l V hnn (i+1);have hge:=a69 (V.take i) λv hv=>hnn v (List.mem_of_mem_take hv);have hrp:=h.rep v (List.mem_of_getElem? hs);have hsum:=h.sum;have hw2:IntKind.i64.wrap (a1d (V.take i)+v.rep)=a1d (V.take (i+1)):=by rw[w64 (by omega) (by omega)];omega
         have hmn:a1d (V.take (i+1))<1000001:=by omega
         have hmn2:¬(1000001:Int)<a1d (V.take (i+1)):=by omega
         have hmn3:a1d (V.take (i+1))≤1000001:=by omega
         (repeat first|simp only[ww]|(apply xa;simp+decide only[go_sem,l3,hlt,hsm,hvc,hv1,hw,hw2,hmn,hmn2,hmn3,List.length_map,hf1,hf2,hg1,hg2];rfl;kernel_rfl))
         refine a22 (i+1) ?_ (by omega) (by omega)
         (simp+decide only[go_sem,a09,a05,hf1,hf2,hg1,hg2]<;>rfl)
        ·obtain rfl:i=V.length:=by omega
         have l3:¬(V.length:Int)<V.length:=by omega
         have hsum:=h.sum;have l4:¬(1000000:Int)<a1d V:=by omega
         rw[List.take_length];obtain⟨σ1,w1⟩:=a7g (d:=false) [some (.row 3 [[sl rs (S.map Sg.enc),sl rt (T.map Tm.enc),sl rv (V.map Vc.enc)]]),some (.row 1 (S.map snR)),some (.row 1 (T.map tnR))] 1 (S.map Sg.name) (λhh=>by rw[←b0e];rfl) (by rw[List.length_map];omega) h.sn;obtain⟨σ2,w2⟩:=a7g (d:=false) [some (.row 3 [[sl rs (S.map Sg.enc),sl rt (T.map Tm.enc),sl rv (V.map Vc.enc)]]),some (.row 1 (S.map snR)),some (.row 1 (T.map tnR))] 2 (T.map Tm.name) (λhh=>by rw[←b0b];rfl) (by rw[List.length_map];omega) h.tn;rw[←b0e]at w1;rw[←b0b]at w2;rw[a0k 1 hne,List.length_map]at w1;rw[a0k 2 hneT,List.length_map]at w2
         (repeat first|simp only[ww]|(apply xa;simp+decide only[go_sem,l3,l4,w1,w2,List.length_map,hf1,hf2,hg1,hg2];rfl;kernel_rfl))
         (apply fqb;simp+decide only[go_sem,hf1,hf2,hg1,hg2]<;>rfl)
end Go.RInst
namespace Go.RInst
open Go.Proofs Go.Ax Go.Pc
variable [PR]
set_option maxRecDepth 100000
theorem c2u{d:Bool}(H:a08)(rs rt rv:Option (Option Nat))(S:List Sg)(T:List Tm)(V:List Vc)(h:Valid S T V):a0j L.env d (sem L.env Mf) (.func (.func 21) [] []) [.agg [sl rs (S.map Sg.enc),sl rt (T.map Tm.enc),sl rv (V.map Vc.enc)]] H=some (.int .i64 0,H,[]):=a0l (by kernel_rfl) (by kernel_rfl) rfl (by simp+decide only[go_sem]<;>rfl) (c8b rs rt rv S T V h) rfl
end Go.RInst
namespace Go.RInst
open Go.Proofs Go.Ax Go.Pc
variable [PR]
set_option maxRecDepth 100000
/- the closure of Wave: an event is set; the list is L, then (t, c) -/
end Go.RInst
namespace Go.RInst
open Go.Proofs Go.Ax Go.Pc
variable [PR]
set_option maxRecDepth 100000
end Go.RInst
namespace Go.RInst
open Go.Proofs Go.Ax Go.Pc
variable [PR]
set_option maxRecDepth 100000
end Go.RInst
namespace Go.RInst
open Go.Proofs Go.Ax Go.Pc
variable [PR]
set_option maxRecDepth 100000
end Go.RInst
namespace Go.RInst
open Go.Proofs Go.Ax Go.Pc
variable [PR]
set_option maxRecDepth 100000
theorem d50(a b:Option (Option Nat))(l:List Sg)(hl:l.length<1000000000):sem L.env Mf 45 [sl a (l.map Sg.enc),sl b (l.map Sg.enc)] []=some (.bool true,[]):=by
 have c0:(l.length:Int)=l.length:=rfl
 (refine sv Tryz.f45 ?_;simp only[Tryz.f45,gS])
 (repeat first|simp only[ww]|(apply xa;simp+decide only[go_sem,List.length_map];rfl;kernel_rfl))
 refine a0p (σ:=Nat) kp45_0 (λi=>[(0,sl a (l.map Sg.enc)),(1,sl b (l.map Sg.enc)),(12,.int .i64 l.length),(13,.int .i64 (i:Nat))]) (λ_=>[]) (λi=>l.length-i) (λi=>i≤l.length) 0 ?_ (Nat.zero_le _) ?_
 ·(simp+decide only[go_sem,a09,a05]<;>rfl)
 ·intro i hi;by_cases hlt:i<l.length
  ·have l1:(i:Int)<l.length:=by omega
   obtain⟨x,hx⟩:∃x,l[i]?=some x:=⟨_,z9e hlt⟩
   have hsm:(l.map Sg.enc)[i]?=some (Sg.enc x):=by rw[List.getElem?_map,hx];rfl
   have hw:IntKind.i64.wrap ((i:Int)+1)=((i+1:Nat):Int):=by rw[w64 (by omega) (by omega)];omega
   (repeat first|simp only[ww]|(apply xa;simp+decide only[go_sem,l1,hlt,hsm,hw,beq_self_eq_true,Bool.and_self,Bool.not_true,List.length_map];rfl;kernel_rfl))
   refine a22 (i+1) ?_ (by omega) (by omega)
   (simp+decide only[go_sem,a09,a05]<;>rfl)
  ·obtain rfl:i=l.length:=by omega
   have l1:¬(l.length:Int)<l.length:=by omega
   (repeat first|simp only[ww]|(apply xa;simp+decide only[go_sem,l1];rfl;kernel_rfl))
   (apply fqb;simp+decide only[go_sem]<;>rfl)
theorem d4s(a b:Option (Option Nat))(l:List Tm)(hl:l.length<1000000000):sem L.env Mf 46 [sl a (l.map Tm.enc),sl b (l.map Tm.enc)] []=some (.bool true,[]):=by
 have c0:(l.length:Int)=l.length:=rfl
 (refine sv Tryz.f46 ?_;simp only[Tryz.f46,gS])
 (repeat first|simp only[ww]|(apply xa;simp+decide only[go_sem,List.length_map];rfl;kernel_rfl))
 refine a0p (σ:=Nat) kp46_0 (λi=>[(0,sl a (l.map Tm.enc)),(1,sl b (l.map Tm.enc)),(12,.int .i64 l.length),(13,.int .i64 (i:Nat))]) (λ_=>[]) (λi=>l.length-i) (λi=>i≤l.length) 0 ?_ (Nat.zero_le _) ?_
 ·(simp+decide only[go_sem,a09,a05]<;>rfl)
 ·intro i hi;by_cases hlt:i<l.length
  ·have l1:(i:Int)<l.length:=by omega
   obtain⟨x,hx⟩:∃x,l[i]?=some x:=⟨_,z9e hlt⟩
   have hsm:(l.map Tm.enc)[i]?=some (Tm.enc x):=by rw[List.getElem?_map,hx];rfl
   have hw:IntKind.i64.wrap ((i:Int)+1)=((i+1:Nat):Int):=by rw[w64 (by omega) (by omega)];omega
   (repeat first|simp only[ww]|(apply xa;simp+decide only[go_sem,l1,hlt,hsm,hw,beq_self_eq_true,Bool.and_self,Bool.not_true,List.length_map];rfl;kernel_rfl))
   refine a22 (i+1) ?_ (by omega) (by omega)
   (simp+decide only[go_sem,a09,a05]<;>rfl)
  ·obtain rfl:i=l.length:=by omega
   have l1:¬(l.length:Int)<l.length:=by omega
   (repeat first|simp only[ww]|(apply xa;simp+decide only[go_sem,l1];rfl;kernel_rfl))
   (apply fqb;simp+decide only[go_sem]<;>rfl)
theorem d4m(a b:Option (Option Nat))(l:List Vc)(hl:l.length<1000000000):sem L.env Mf 47 [sl a (l.map Vc.enc),sl b (l.map Vc.enc)] []=some (.bool true,[]):=by
 have c0:(l.length:Int)=l.length:=rfl
 (refine sv Tryz.f47 ?_;simp only[Tryz.f47,gS])
 (repeat first|simp only[ww]|(apply xa;simp+decide only[go_sem,List.length_map];rfl;kernel_rfl))
 refine a0p (σ:=Nat) kp47_0 (λi=>[(0,sl a (l.map Vc.enc)),(1,sl b (l.map Vc.enc)),(12,.int .i64 l.length),(13,.int .i64 (i:Nat))]) (λ_=>[]) (λi=>l.length-i) (λi=>i≤l.length) 0 ?_ (Nat.zero_le _) ?_
 ·(simp+decide only[go_sem,a09,a05]<;>rfl)
 ·intro i hi;by_cases hlt:i<l.length
  ·have l1:(i:Int)<l.length:=by omega
   obtain⟨x,hx⟩:∃x,l[i]?=some x:=⟨_,z9e hlt⟩
   have hsm:(l.map Vc.enc)[i]?=some (Vc.enc x):=by rw[List.getElem?_map,hx];rfl
   have hw:IntKind.i64.wrap ((i:Int)+1)=((i+1:Nat):Int):=by rw[w64 (by omega) (by omega)];omega
   (repeat first|simp only[ww]|(apply xa;simp+decide only[go_sem,l1,hlt,hsm,hw,beq_self_eq_true,Bool.and_self,Bool.not_true,List.length_map];rfl;kernel_rfl))
   refine a22 (i+1) ?_ (by omega) (by omega)
   (simp+decide only[go_sem,a09,a05]<;>rfl)
  ·obtain rfl:i=l.length:=by omega
   have l1:¬(l.length:Int)<l.length:=by omega
   (repeat first|simp only[ww]|(apply xa;simp+decide only[go_sem,l1];rfl;kernel_rfl))
   (apply fqb;simp+decide only[go_sem]<;>rfl)
theorem d0p(a a' b b' c c':Option (Option Nat))(S:List Sg)(T:List Tm)(V:List Vc)(hS:S.length<1000000000)(hT:T.length<1000000000)(hV:V.length<1000000000):sem L.env Mf 20 [.agg [sl a (S.map Sg.enc),sl b (T.map Tm.enc),sl c (V.map Vc.enc)],.agg [sl a' (S.map Sg.enc),sl b' (T.map Tm.enc),sl c' (V.map Vc.enc)]] []=some (.bool true,[]):=by
 have h1:=λd H=>a0l (E:=L.env) (draw:=d) (call:=sem L.env Mf) (g:=45) (fs:=[]) (cs:=[]) (ar:=[sl a (S.map Sg.enc),sl a' (S.map Sg.enc)]) (H:=H) (by kernel_rfl) (by kernel_rfl) rfl (by simp+decide only[go_sem]<;>rfl) (d50 a a' S hS) rfl;have h2:=λd H=>a0l (E:=L.env) (draw:=d) (call:=sem L.env Mf) (g:=46) (fs:=[]) (cs:=[]) (ar:=[sl b (T.map Tm.enc),sl b' (T.map Tm.enc)]) (H:=H) (by kernel_rfl) (by kernel_rfl) rfl (by simp+decide only[go_sem]<;>rfl) (d4s b b' T hT) rfl;have h3:=λd H=>a0l (E:=L.env) (draw:=d) (call:=sem L.env Mf) (g:=47) (fs:=[]) (cs:=[]) (ar:=[sl c (V.map Vc.enc),sl c' (V.map Vc.enc)]) (H:=H) (by kernel_rfl) (by kernel_rfl) rfl (by simp+decide only[go_sem]<;>rfl) (d4m c c' V hV) rfl
 (refine sv Tryz.f20 ?_;simp only[Tryz.f20,gS])
 (repeat first|simp only[ww]|(apply xa;simp+decide only[go_sem,h1,h2,h3];rfl;kernel_rfl))
 (apply fqb;simp+decide only[go_sem]<;>rfl)
end Go.RInst
namespace Go.RInst
open Go.Proofs Go.Ax Go.Pc
variable [PR]
set_option maxRecDepth 100000
end Go.RInst
namespace Go.RInst
open Go.Proofs Go.Ax Go.Pc
variable [PR]
set_option maxRecDepth 100000
end Go.RInst
namespace Go.RInst
open Go.Proofs Go.Ax Go.Pc
variable [PR]
set_option maxRecDepth 100000
end Go.RInst
namespace Go.RInst
open Go.Proofs Go.Ax Go.Pc
variable [PR]
set_option maxRecDepth 100000
end Go.RInst
namespace Go.RInst
open Go.Proofs Go.Ax Go.Pc
variable [PR]
set_option maxRecDepth 100000
end Go.RInst
namespace Go.RInst
open Go.Proofs Go.Ax Go.Pc
variable [PR]
set_option maxRecDepth 100000
theorem c2d(hso:PR.pr [.str soT]=some (soV,[])){d:Bool}(H:a08):a0j L.env d (sem L.env Mf) (.func (.func 14) [] []) [] H=some (.bool true,H,[]):=a0l (by kernel_rfl) (by kernel_rfl) rfl rfl (c7t hso) rfl
section
variable (hso:PR.pr [.str soT]=some (soV,[]))(xs:List AV)(hxr:a0w xs=[])(hxs:xs.all AV.storable=true)(hxl:xs.length=3)(S:List Sg)(T:List Tm)(V:List Vc)(h:Valid S T V)
 (hgood:∀d H,a0j L.env d (sem L.env Mf) (.func (.func 9) [] []) [.agg xs] H=some (.agg [sl none (S.map Sg.enc),sl none (T.map Tm.enc),sl none (V.map Vc.enc)],H,[]))
include hso hxr hxs hxl h hgood
end
end Go.RInst
