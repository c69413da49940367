/- Part of a proof. No condition. -/
import Derived.Test.YtmbmjfjagololaaGreatDoorRRd
import Derived.Test.YtmbmjfjagololaaGreatDoorPcB
import Derived.Test.YtmbmjfjagololaaGreatDoorAxE
import Derived.Test.YtmbmjfjagololaaGreatDoorAxD
set_option linter.unusedSectionVars false
set_option linter.unusedSimpArgs false
set_option linter.unusedVariables false
namespace Go.RInst
open Go.Proofs Go.Ax Go.Pc
variable [PR]
set_option maxRecDepth 100000
abbrev Sg.enc(s:Sg):List AV:=[.str s.name,.int .u8 s.dir]
abbrev Tm.enc(t:Tm):List AV:=[.str t.name,.int .i64 t.per,.int .i64 t.dr,.int .i64 t.ri,.int .i64 t.fa,.int .i64 t.st]
abbrev Vc.enc(v:Vc):List AV:=[.int .i64 v.t,.str v.cells,.int .i64 v.rep]
theorem c3a(n:List UInt8)(d:Nat):sem L.env Mf 48 [.agg [.str n,.int .u8 d]] []=some (.bool (a8k ⟨n,d⟩),[]):=by
 have h:=λd H=>b2u (d:=d) H n;by_cases h1:a4d n=true
 ·rw[h1]at h;by_cases h2:d≤1
  ·have c2:(d:Int)≤1:=by omega
   have e:a8k ⟨n,d⟩=true:=by simp[a8k,h1,h2]
   rw[e]
   (refine sv Tryz.f48 ?_;simp only[Tryz.f48,gS])
   (repeat first|simp only[ww]|(apply xa;simp+decide only[go_sem,h,c2];rfl;kernel_rfl))
   (apply fqb;simp+decide only[go_sem]<;>rfl)
  ·have c2:¬(d:Int)≤1:=by omega
   have e:a8k ⟨n,d⟩=false:=by simp[a8k,h2]
   rw[e]
   (refine sv Tryz.f48 ?_;simp only[Tryz.f48,gS])
   (repeat first|simp only[ww]|(apply xa;simp+decide only[go_sem,h,c2];rfl;kernel_rfl))
   (apply fqb;simp+decide only[go_sem]<;>rfl)
 ·have h1:a4d n=false:=by simpa using h1
  have e:a8k ⟨n,d⟩=false:=by simp[a8k,h1]
  rw[h1]at h;rw[e]
  (refine sv Tryz.f48 ?_;simp only[Tryz.f48,gS])
  (repeat first|simp only[ww]|(apply xa;simp+decide only[go_sem,h];rfl;kernel_rfl))
  (apply fqb;simp+decide only[go_sem]<;>rfl)
theorem b4k(t:Tm):sem L.env Mf 49 [.agg (Tm.enc t)] []=some (.bool (a4r t),[]):=by
 have h:=λd H=>b2u (d:=d) H t.name;by_cases h1:a4d t.name=true
 ·rw[h1]at h;by_cases k0:(1:Int)≤t.per
  ·skip
   by_cases k1:t.per≤1000000
   ·skip
    by_cases k2:(0:Int)≤t.dr
    ·skip
     by_cases k3:t.dr<t.ri
     ·skip
      by_cases k4:t.ri<t.fa
      ·skip
       by_cases k5:t.fa<t.per
       ·skip
        by_cases k6:(0:Int)≤t.st
        ·skip
         by_cases k7:t.st<t.per
         ·have e:a4r t=true:=by simp[a4r,h1,k0,k1,k2,k3,k4,k5,k6,k7]
          rw[e]
          (refine sv Tryz.f49 ?_;simp only[Tryz.f49,gS])
          (repeat first|simp only[ww]|(apply xa;simp+decide only[go_sem,h,k0,k1,k2,k3,k4,k5,k6,k7];rfl;kernel_rfl))
          (apply fqb;simp+decide only[go_sem]<;>rfl)
         ·have e:a4r t=false:=by simp[a4r,k7]
          rw[e]
          (refine sv Tryz.f49 ?_;simp only[Tryz.f49,gS])
          (repeat first|simp only[ww]|(apply xa;simp+decide only[go_sem,h,k0,k1,k2,k3,k4,k5,k6,k7];rfl;kernel_rfl))
          (apply fqb;simp+decide only[go_sem]<;>rfl)
        ·have e:a4r t=false:=by simp[a4r,k6]
         rw[e]
         (refine sv Tryz.f49 ?_;simp only[Tryz.f49,gS])
         (repeat first|simp only[ww]|(apply xa;simp+decide only[go_sem,h,k0,k1,k2,k3,k4,k5,k6];rfl;kernel_rfl))
         (apply fqb;simp+decide only[go_sem]<;>rfl)
       ·have e:a4r t=false:=by simp[a4r,k5]
        rw[e]
        (refine sv Tryz.f49 ?_;simp only[Tryz.f49,gS])
        (repeat first|simp only[ww]|(apply xa;simp+decide only[go_sem,h,k0,k1,k2,k3,k4,k5];rfl;kernel_rfl))
        (apply fqb;simp+decide only[go_sem]<;>rfl)
      ·have e:a4r t=false:=by simp[a4r,k4]
       rw[e]
       (refine sv Tryz.f49 ?_;simp only[Tryz.f49,gS])
       (repeat first|simp only[ww]|(apply xa;simp+decide only[go_sem,h,k0,k1,k2,k3,k4];rfl;kernel_rfl))
       (apply fqb;simp+decide only[go_sem]<;>rfl)
     ·have e:a4r t=false:=by simp[a4r,k3]
      rw[e]
      (refine sv Tryz.f49 ?_;simp only[Tryz.f49,gS])
      (repeat first|simp only[ww]|(apply xa;simp+decide only[go_sem,h,k0,k1,k2,k3];rfl;kernel_rfl))
      (apply fqb;simp+decide only[go_sem]<;>rfl)
    ·have e:a4r t=false:=by simp[a4r,k2]
     rw[e]
     (refine sv Tryz.f49 ?_;simp only[Tryz.f49,gS])
     (repeat first|simp only[ww]|(apply xa;simp+decide only[go_sem,h,k0,k1,k2];rfl;kernel_rfl))
     (apply fqb;simp+decide only[go_sem]<;>rfl)
   ·have e:a4r t=false:=by simp[a4r,k1]
    rw[e]
    (refine sv Tryz.f49 ?_;simp only[Tryz.f49,gS])
    (repeat first|simp only[ww]|(apply xa;simp+decide only[go_sem,h,k0,k1];rfl;kernel_rfl))
    (apply fqb;simp+decide only[go_sem]<;>rfl)
  ·have e:a4r t=false:=by simp[a4r,k0]
   rw[e]
   (refine sv Tryz.f49 ?_;simp only[Tryz.f49,gS])
   (repeat first|simp only[ww]|(apply xa;simp+decide only[go_sem,h,k0];rfl;kernel_rfl))
   (apply fqb;simp+decide only[go_sem]<;>rfl)
 ·have h1:a4d t.name=false:=by simpa using h1
  have e:a4r t=false:=by simp[a4r,h1]
  rw[h1]at h;rw[e]
  (refine sv Tryz.f49 ?_;simp only[Tryz.f49,gS])
  (repeat first|simp only[ww]|(apply xa;simp+decide only[go_sem,h];rfl;kernel_rfl))
  (apply fqb;simp+decide only[go_sem]<;>rfl)
end Go.RInst
namespace Go.RInst
open Go.Proofs Go.Ax Go.Pc
variable [PR]
set_option maxRecDepth 100000
theorem c8m(s:List UInt8)(c:UInt8):sem L.env Mf 86 [.str s,.int .u8 c.toNat] []=some (.int .i64 (Lib.indexByte s c),[]):=by
 have h:∀d H,a0n L.env d (sem L.env Mf) (.func (.func 102) [] []) [.str s,.int .u8 c.toNat] H=some (.int .i64 (Lib.indexByte s c),H,[]):=λd H=>by
  have hx:L.env.ext 102=true:=by kernel_rfl
  have hn:(L.env.fn 102).isSome=false:=by kernel_rfl
  simp only[a0n,hx,hn,cond_true,cond_false,List.nil_append,List.append_nil,d8d,Int.toNat_natCast];simp
 (refine sv Tryz.f86 ?_;simp only[Tryz.f86,gS])
 (repeat first|simp only[ww]|(apply xa;simp+decide only[go_sem,h];rfl;kernel_rfl))
 (apply fqb;simp+decide only[go_sem]<;>rfl)
theorem d9v(s:List UInt8)(c:UInt8):sem L.env Mf 68 [.str s,.int .u8 c.toNat] []=some (.int .i64 (Lib.indexByte s c),[]):=by
 have h:=λd H=>a0h (E:=L.env) (draw:=d) (call:=sem L.env Mf) (g:=86) (fs:=[]) (cs:=[]) (ar:=[.str s,.int .u8 c.toNat]) (H:=H) (by kernel_rfl) (by kernel_rfl) rfl (by rfl) (c8m s c) rfl
 (refine sv Tryz.f68 ?_;simp only[Tryz.f68,gS])
 (repeat first|simp only[ww]|(apply xa;simp+decide only[go_sem,h];rfl;kernel_rfl))
 (apply fqb;simp+decide only[go_sem]<;>rfl)
theorem b31{d:Bool}(H:a09)(s:List UInt8)(c:UInt8):a0n L.env d (sem L.env Mf) (.func (.func 68) [] []) [.str s,.int .u8 c.toNat] H=some (.int .i64 (Lib.indexByte s c),H,[]):=a0h (by kernel_rfl) (by kernel_rfl) rfl rfl (d9v s c) rfl
theorem a0t(l:List Sg):FlatR (l.map Sg.enc):=FlatR.map λ_=>rfl
theorem a0g(l:List Tm):FlatR (l.map Tm.enc):=FlatR.map λ_=>rfl
theorem a0c(l:List Vc):FlatR (l.map Vc.enc):=FlatR.map λ_=>rfl
theorem c2o(v:Vc)(rs rt:Option (Option Nat))(S:List Sg)(T:List Tm)(V:AV)(hV:a6b V=[])(hVs:V.storable=true)(hS:S.length<1000000):sem L.env Mf 50 [.agg (Vc.enc v),.agg [sl rs (S.map Sg.enc),sl rt (T.map Tm.enc),V]] []=some (.bool (a39 v S T.length),[]):=by
 by_cases k0:v.t<0
 ·have e:a39 v S T.length=false:=by simp[a39];omega
  rw[e]
  (refine sv Tryz.f50 ?_;simp only[Tryz.f50,gS])
  (repeat first|simp only[ww]|(apply xa;simp+decide only[go_sem,k0,hV,hVs,List.length_map];rfl;kernel_rfl))
  (apply fqb;simp+decide only[go_sem]<;>rfl)
 by_cases k1:(T.length:Int)≤v.t
 ·have e:a39 v S T.length=false:=by simp[a39];omega
  rw[e]
  (refine sv Tryz.f50 ?_;simp only[Tryz.f50,gS])
  (repeat first|simp only[ww]|(apply xa;simp+decide only[go_sem,k0,k1,hV,hVs,List.length_map];rfl;kernel_rfl))
  (apply fqb;simp+decide only[go_sem]<;>rfl)
 by_cases k2:v.rep<1
 ·have e:a39 v S T.length=false:=by simp[a39];omega
  rw[e]
  (refine sv Tryz.f50 ?_;simp only[Tryz.f50,gS])
  (repeat first|simp only[ww]|(apply xa;simp+decide only[go_sem,k0,k1,k2,hV,hVs,List.length_map];rfl;kernel_rfl))
  (apply fqb;simp+decide only[go_sem]<;>rfl)
 by_cases k3:(1000000:Int)<v.rep
 ·have e:a39 v S T.length=false:=by simp[a39];omega
  rw[e]
  (refine sv Tryz.f50 ?_;simp only[Tryz.f50,gS])
  (repeat first|simp only[ww]|(apply xa;simp+decide only[go_sem,k0,k1,k2,k3,hV,hVs,List.length_map];rfl;kernel_rfl))
  (apply fqb;simp+decide only[go_sem]<;>rfl)
 by_cases k4:(v.cells.length:Int)=S.length
 case neg=>
  have e:a39 v S T.length=false:=by
   cases hc:a2b S v.cells with
   |false=>simp[a39,hc]
   |true=>exact absurd (by rw[a4p S v.cells hc]) k4
  rw[e]
  (refine sv Tryz.f50 ?_;simp only[Tryz.f50,gS])
  (repeat first|simp only[ww]|(apply xa;simp+decide only[go_sem,k0,k1,k2,k3,k4,hV,hVs,List.length_map];rfl;kernel_rfl))
  (apply fqb;simp+decide only[go_sem]<;>rfl)
 have k5:S.length=v.cells.length:=by omega
 have eV:a39 v S T.length=a2b S v.cells:=by unfold a39;rw[decide_eq_true (by omega:0≤v.t),decide_eq_true (by omega:v.t<T.length),decide_eq_true (by omega:1≤v.rep),decide_eq_true (by omega:v.rep≤1000000)];rfl
 rw[eV]
 suffices hs:∃r:AV×a09,(r=(.bool (a2b S v.cells),[]))∧sem L.env Mf 50 [.agg (Vc.enc v),.agg [sl rs (S.map Sg.enc),sl rt (T.map Tm.enc),V]] []=some r by obtain⟨r,rfl,h3⟩:=hs;exact h3
 have hib:=λd H s c=>b31 (d:=d) H s c
 (refine svE Tryz.f50 ?_;simp only[Tryz.f50,gS])
 (repeat first|simp only[ww]|(apply xa;simp+decide only[go_sem,k0,k1,k2,k3,k4,hV,hVs,List.length_map];rfl;kernel_rfl))
 refine a0i (σ:=Nat) kp50_0 (λi=>[(2,.ptr 0 0 0),(39,sl rs (S.map Sg.enc)),(40,.int .i64 S.length),(41,.int .i64 (i:Nat))]) (λ_=>[some (.row 3 [Vc.enc v])]) (λi=>S.length-i) (λi=>i≤S.length∧∀(j:Nat) (s:Sg) (c:UInt8),j<i→S[j]?=some s→v.cells[j]?=some c→(a25 s.dir).contains c=true) 0 ?_ ⟨Nat.zero_le _,λj _ _ h=>by omega⟩ ?_
 ·(simp+decide only[go_sem,a08,a03]<;>rfl)
 ·rintro i ⟨hi,hall⟩
  by_cases hlt:i<S.length
  ·have l1:(i:Int)<S.length:=by omega
   obtain⟨s,hs⟩:∃s,S[i]?=some s:=⟨_,z9e hlt⟩
   obtain⟨c,hc⟩:∃c,v.cells[i]?=some c:=⟨_,z9e (by omega)⟩
   have hw:IntKind.i64.wrap ((i:Int)+1)=((i+1:Nat):Int):=by rw[w64 (by omega) (by omega)];omega
   have hsm:(S.map Sg.enc)[i]?=some (Sg.enc s):=by rw[List.getElem?_map,hs];rfl
   have hnext:(a25 s.dir).contains c=true→∀(j:Nat) (s:Sg) (c:UInt8),j<i+1→S[j]?=some s→v.cells[j]?=some c→(a25 s.dir).contains c=true:=by
    intro h j s' c' hj h1 h2;by_cases e:j=i
    ·subst e;rw[hs]at h1;rw[hc]at h2;cases h1;cases h2;exact h
    ·exact hall j s' c' (by omega) h1 h2
   have hlc:i<v.cells.length:=by omega
   by_cases hd:s.dir=1
   ·have d1:(s.dir:Int)=1:=by omega
    have hL:a25 s.dir=[76,72,88]:=by rw[hd];rfl
    by_cases hk:(a25 s.dir).contains c=true
    ·have c1:¬Lib.indexByte [76,72,88] c<0:=by have:=b55 _ _ hk;rw[hL]at this;omega
     (repeat first|simp only[ww]|(apply xa;simp+decide only[go_sem,l1,hw,hsm,hs,hc,hlc,d1,hib,c1,List.length_map];rfl;kernel_rfl))
     refine a1s (i+1) ?_ (by omega) ⟨by omega,hnext hk⟩
     (simp+decide only[go_sem,a08,a03]<;>rfl)
    ·have hk:(a25 s.dir).contains c=false:=by cases h:(a25 s.dir).contains c with|true=>exact absurd h hk|false=>rfl
     have c1:Lib.indexByte [76,72,88] c<0:=by have:=d5b _ _ hk;rw[hL]at this;omega
     have hr:a2b S v.cells=false:=a8u S v.cells i s c hs hc hk
     (repeat first|simp only[ww]|(apply xa;simp+decide only[go_sem,l1,hw,hsm,hs,hc,hlc,d1,hib,c1,List.length_map];rfl;kernel_rfl))
     (apply a2w;(·simp+decide only[go_sem]<;>rfl))
     rw[hr]
   ·have d1:¬(s.dir:Int)=1:=by omega
    have hL:a25 s.dir=[48,49,88,80]:=if_neg hd;by_cases hk:(a25 s.dir).contains c=true
    ·have c1:¬Lib.indexByte [48,49,88,80] c<0:=by have:=b55 _ _ hk;rw[hL]at this;omega
     (repeat first|simp only[ww]|(apply xa;simp+decide only[go_sem,l1,hw,hsm,hs,hc,hlc,d1,hib,c1,List.length_map];rfl;kernel_rfl))
     refine a1s (i+1) ?_ (by omega) ⟨by omega,hnext hk⟩
     (simp+decide only[go_sem,a08,a03]<;>rfl)
    ·have hk:(a25 s.dir).contains c=false:=by cases h:(a25 s.dir).contains c with|true=>exact absurd h hk|false=>rfl
     have c1:Lib.indexByte [48,49,88,80] c<0:=by have:=d5b _ _ hk;rw[hL]at this;omega
     have hr:a2b S v.cells=false:=a8u S v.cells i s c hs hc hk
     (repeat first|simp only[ww]|(apply xa;simp+decide only[go_sem,l1,hw,hsm,hs,hc,hlc,d1,hib,c1,List.length_map];rfl;kernel_rfl))
     (apply a2w;(·simp+decide only[go_sem]<;>rfl))
     rw[hr]
  ·have l1:¬(i:Int)<S.length:=by omega
   have hr:a2b S v.cells=true:=b0w S v.cells k5 λj s c h1 h2=>hall j s c (by have:=(List.getElem?_eq_some_iff.1 h1).1;omega) h1 h2
   (repeat first|simp only[ww]|(apply xa;simp+decide only[go_sem,l1];rfl;kernel_rfl))
   (apply a2w;(·simp+decide only[go_sem]<;>rfl))
   rw[hr]
end Go.RInst
namespace Go.RInst
open Go.Proofs Go.Ax Go.Pc
variable [PR]
set_option maxRecDepth 100000
theorem c2z:sem L.env Mf 51 [.nilslice] []=some (.bool false,[]):=c3c (E:=L.env) a7y 60 (by kernel_rfl)
def stR(s:List UInt8):List AV:=[.str s]
theorem a1g(l:List (List UInt8)):FlatR (l.map stR):=FlatR.map λ_=>rfl
theorem c7c(n:Nat)(R:List (List AV))(hn:R.length=n)(h0:0<n)(h1:n≤1000)(hall:R.all (λr=>decide (r.length=1))=true):sem L.env Mf 69 [.slice 0 0 n none] [some (.row 1 R)]=some (.slice 2 0 n none,[some (.row 1 R),some (.row 1 []),some (.row 1 R)]):=by
 have hb:L.env.bytes 9=16:=by kernel_rfl
 have hrm:a2j L.env 9 n=true:=b0c (by omega) (by rw[hb];decide);have d1:¬n≤0:=by omega
 have ht:R.take n=R:=List.take_of_length_le (by omega)
 (refine sv Tryz.f69 ?_;simp only[Tryz.f69,gS])
 (repeat first|simp only[ww]|(apply xa;simp+decide only[go_sem,hall,hn,d1,hrm,ht,Nat.zero_add];rfl;kernel_rfl))
 (apply fqb;simp+decide only[go_sem]<;>rfl)
theorem b5i(n:Nat)(l:List (List UInt8))(hn:l.length=n)(h0:0<n)(h1:n≤1000):a0n L.env false (sem L.env Mf) (.func (.func 69) [] []) [.slice 0 0 n none] [some (.row 1 (l.map stR))]=some (.slice 2 0 n none,[some (.row 1 (l.map stR)),some (.row 1 []),some (.row 1 (l.map stR))],[0]):=by
 have hr:=λπ=>a02 π (a1g l);have hall:(l.map stR).all (λr=>decide (r.length=1))=true:=by rw[List.all_eq_true];intro r hr;obtain⟨x,_,rfl⟩:=List.mem_map.1 hr;rfl
 have hc:=a0q (sem L.env Mf 69) [.slice 0 0 n none] [some (.row 1 (l.map stR))] (σ:=[0]) (a7f (a0p (a1g l))) rfl rfl (args':=[.slice 0 0 n none]) rfl (H0:=[some (.row 1 (l.map stR))]) (by simp only[a0x,List.map_cons,List.map_nil,a05,List.getElem?_cons_zero,Option.join_some,Option.map_some,a0o,hr]) (c7c n (l.map stR) (by simp[hn]) h0 h1 hall);refine a2t (by kernel_rfl) (by kernel_rfl) rfl (hc.trans ?_);have e1:a0u [0] 1 [some (.row 1 (l.map stR)),some (.row 1 []),some (.row 1 (l.map stR))] 0 [some (.row 1 (l.map stR))]=[some (.row 1 (l.map stR))]:=by rw[b7m,b7l];show [Option.map (a0o _) (some (AObj.row 1 (l.map stR)))]=_;simp only[Option.map_some,a0o,hr]
 show some (_,a0u [0] 1 _ 0 _++_,_)=_;rw[e1];simp only[List.length_cons,List.length_nil,List.drop_succ_cons,List.drop_zero,List.map_cons,List.map_nil,Option.map_some,a0o,hr];rfl
theorem c02(n:Nat)(l:List (List UInt8))(hn:l.length=n)(h0:0<n)(h1:n≤1000):sem L.env Mf 70 [.slice 0 0 n none] [some (.row 1 (l.map stR))]=some (.tuple [],[some (.row 1 ((a2i l).map stR))]):=by
 refine a8l (by intro y hy;cases hy) 0 ?_;have hp:primH L.env 70 [.slice 0 0 n none] [some (.row 1 (l.map stR))]=some (.tuple [],[some (.row 1 ((a2i l).map stR))]):=by
  show c39 [.slice 0 0 n none] [some (.row 1 (l.map stR))]=_;have b1:Nat.beq n (l.map stR).length=true:=by rw[Nat.beq_eq,List.length_map];exact hn.symm
  have b2:Nat.blt 0 n=true:=by rw[Nat.blt_eq];exact h0
  have b3:Nat.ble n b77=true:=by rw[Nat.ble_eq];exact Nat.le_trans h1 (by decide)
  have b4:unS (l.map stR)=some l:=b5w l;simp only[c39,b1,b2,b3,b4];rfl
 unfold a62;rw[hp]
theorem c21(n:Nat)(m:List (List UInt8))(hn:m.length=n)(h1:n≤1000)(hd:∀k a b,m[k]?=some a→m[k+1]?=some b→¬b=a):sem L.env Mf 71 [.slice 0 0 n none] [some (.row 1 (m.map stR))]=some (.slice 0 0 n none,[some (.row 1 (m.map stR))]):=by
 have hr:=λπ=>a02 π (a1g m);have hrf:=a01 (a1g m);have hfz:=λq d=>a13 q d (a1g m);by_cases h2:(n:Int)<2
 ·(refine sv Tryz.f71 ?_;simp only[Tryz.f71,gS])
  (repeat first|simp only[ww]|(apply xa;simp+decide only[go_sem,h2];rfl;kernel_rfl))
  (apply fqb;simp+decide only[go_sem,hr,hfz,hrf]<;>rfl)
 ·(refine sv Tryz.f71 ?_;simp only[Tryz.f71,gS])
  (repeat first|simp only[ww]|(apply xa;simp+decide only[go_sem,h2];rfl;kernel_rfl))
  refine a0i (σ:=Nat) kp71_0 (λi=>[(0,.slice 0 0 n none),(3,.int .i64 (i:Nat))]) (λ_=>[some (.row 1 (m.map stR))]) (λi=>n-i) (λi=>1≤i∧i≤n) 1 ?_ ⟨Nat.le_refl _,by omega⟩ ?_
  ·(simp+decide only[go_sem,a08,a03,hr,hrf]<;>rfl)
  ·rintro i ⟨hi1,hi⟩
   by_cases hlt:i<n
   ·have l1:(i:Int)<n:=by omega
    obtain⟨b,hb⟩:∃b,m[i]?=some b:=⟨_,z9e (by omega)⟩
    obtain⟨a,ha⟩:∃a,m[i-1]?=some a:=⟨_,z9e (by omega)⟩
    have hba:¬b=a:=hd (i-1) a b ha (by rw[show i-1+1=i by omega];exact hb);have hw:IntKind.i64.wrap ((i:Int)+1)=((i+1:Nat):Int):=by rw[w64 (by omega) (by omega)];omega
    have hw2:IntKind.i64.wrap ((i:Int)-1)=((i-1:Nat):Int):=by rw[w64 (by omega) (by omega)];omega
    have g1:(m.map stR)[i]?=some [.str b]:=by rw[List.getElem?_map,hb];rfl
    have g2:(m.map stR)[i-1]?=some [.str a]:=by rw[List.getElem?_map,ha];rfl
    have l2:i-1<n:=by omega
    (repeat first|simp only[ww]|(apply xa;simp+decide only[go_sem,l1,hlt,l2,hba,hw,hw2,g1,g2];rfl;kernel_rfl))
    refine a1s (i+1) ?_ (by omega) ⟨by omega,by omega⟩
    (simp+decide only[go_sem,a08,a03,hr,hrf]<;>rfl)
   ·have l1:¬(i:Int)<n:=by omega
    (repeat first|simp only[ww]|(apply xa;simp+decide only[go_sem,l1];rfl;kernel_rfl))
    (apply fqb;simp+decide only[go_sem,hr,hfz,hrf]<;>rfl)
theorem c6j{l:List (List UInt8)}(h:l.Nodup):∀k a b,(a2i l)[k]?=some a→(a2i l)[k+1]?=some b→¬b=a:=by intro k a b h1 h2 e;have hn:(a2i l).Nodup:=(a49 l).symm.nodup h;obtain⟨l1,e1⟩:=List.getElem?_eq_some_iff.1 h1;obtain⟨l2,e2⟩:=List.getElem?_eq_some_iff.1 h2;exact List.pairwise_iff_getElem.1 hn k (k+1) l1 l2 (by omega) (by rw[e1,e2,e])
theorem c6a(n:Nat)(l:List (List UInt8))(hn:l.length=n)(h0:0<n)(h1:n≤1000)(hd:l.Nodup):sem L.env Mf 51 [.slice 0 0 n none] [some (.row 1 (l.map stR))]=some (.bool false,[some (.row 1 (l.map stR))]):=by
 have hr:=λπ=>a02 π (a1g l);have hrf:=a01 (a1g l);have hfz:=λq d=>a13 q d (a1g l);have hl':(a2i l).length=n:=by rw[(a49 l).length_eq,hn]
 have k1:=b5i n l hn h0 h1;have k2:a0n L.env false (sem L.env Mf) (.func (.func 70) [] []) [.slice 2 0 n none] [some (.row 1 (l.map stR)),some (.row 1 []),some (.row 1 (l.map stR))]=some (.tuple [],[some (.row 1 (l.map stR)),some (.row 1 []),some (.row 1 ((a2i l).map stR))],[2]):=a10 (by kernel_rfl) (by kernel_rfl) rfl (b:=2) (o:=.row 1 (l.map stR)) (o':=.row 1 ((a2i l).map stR)) rfl (a0p (a1g l)) (FlatO.row (a1g l)) rfl rfl (c02 n l hn h0 h1) (FlatO.row (a1g _)) rfl;have k3:a0n L.env false (sem L.env Mf) (.func (.func 71) [] []) [.slice 2 0 n none] [some (.row 1 (l.map stR)),some (.row 1 []),some (.row 1 ((a2i l).map stR))]=some (.slice 2 0 n none,[some (.row 1 (l.map stR)),some (.row 1 []),some (.row 1 ((a2i l).map stR))],[2]):=a10 (by kernel_rfl) (by kernel_rfl) rfl (b:=2) (o:=.row 1 ((a2i l).map stR)) (o':=.row 1 ((a2i l).map stR)) rfl (a0p (a1g _)) (FlatO.row (a1g _)) rfl rfl (c21 n _ hl' h1 (c6j hd)) (FlatO.row (a1g _)) rfl;have l1:¬(n:Int)<n:=by omega
 (refine sv Tryz.f51 ?_;simp only[Tryz.f51,gS])
 (repeat first|simp only[ww]|(apply xa;simp+decide only[go_sem,k1,k2,k3,l1];rfl;kernel_rfl))
 (apply fqb;simp+decide only[go_sem,hr,hfz,hrf]<;>rfl)
end Go.RInst
namespace Go.RInst
open Go.Proofs Go.Ax Go.Pc
variable [PR]
set_option maxRecDepth 100000
theorem b9q(n:Nat)(m:List (List UInt8))(hn:m.length=n)(h1:n≤1000)(j:Nat)(hj:1≤j)(hjn:j<n)(hd:∀k a b,k+1<j→m[k]?=some a→m[k+1]?=some b→¬b=a)(x:List UInt8)(hx1:m[j-1]?=some x)(hx2:m[j]?=some x) :
 ∃r:AV×a09,(∃i R,i<n∧R.length=n∧FlatR R∧r=(.slice 0 0 i none,[some (.row 1 R)]))∧sem L.env Mf 71 [.slice 0 0 n none] [some (.row 1 (m.map stR))]=some r:=by
 have hr:=λπ=>a02 π (a1g m);have hrf:=a01 (a1g m);have h2:¬(n:Int)<2:=by omega
 (refine svE Tryz.f71 ?_;simp only[Tryz.f71,gS])
 (repeat first|simp only[ww]|(apply xa;simp+decide only[go_sem,h2];rfl;kernel_rfl))
 refine a0i (σ:=Nat) kp71_0 (λi=>[(0,.slice 0 0 n none),(3,.int .i64 (i:Nat))]) (λ_=>[some (.row 1 (m.map stR))]) (λi=>n-i) (λi=>1≤i∧i≤j) 1 ?_ ⟨Nat.le_refl _,hj⟩ ?_
 ·(simp+decide only[go_sem,a08,a03,hr,hrf]<;>rfl)
 ·rintro i ⟨hi1,hi⟩
  have hlt:i<n:=by omega
  have l1:(i:Int)<n:=by omega
  have hw:IntKind.i64.wrap ((i:Int)+1)=((i+1:Nat):Int):=by rw[w64 (by omega) (by omega)];omega
  have hw2:IntKind.i64.wrap ((i:Int)-1)=((i-1:Nat):Int):=by rw[w64 (by omega) (by omega)];omega
  have l2:i-1<n:=by omega
  by_cases hij:i=j
  ·subst hij;have g1:(m.map stR)[i]?=some [.str x]:=by rw[List.getElem?_map,hx2];rfl
   have g2:(m.map stR)[i-1]?=some [.str x]:=by rw[List.getElem?_map,hx1];rfl
   have l3:i≤n:=by omega
   (repeat first|simp only[ww]|(apply xa;simp+decide only[go_sem,l1,hlt,l2,l3,hw,hw2,g1,g2,Nat.zero_add];rfl;kernel_rfl))
   refine a0i (σ:=Nat×Nat×List (List UInt8)) kp71_2 (λs=>[(0,.slice 0 0 n none),(3,.int .i64 (s.1:Nat)),(4,.slice 0 i (n-i) none),(5,.int .i64 (s.2.1:Nat))]) (λs=>[some (.row 1 (s.2.2.map stR))]) (λs=>n-i-s.2.1) (λs=>s.2.2.length=n∧1≤s.2.1∧s.2.1≤n-i∧i≤s.1∧s.1+1≤i+s.2.1) (i,1,m) ?_ ⟨hn,Nat.le_refl _,by simp only;omega,Nat.le_refl _,Nat.le_refl _⟩ ?_
   ·(simp+decide only[go_sem,a08,a03,hr,hrf]<;>rfl)
   ·rintro⟨p,k,M⟩ ⟨hM,hk1,hk2,hp1,hp2⟩
    simp only at hM hk1 hk2 hp1 hp2⊢;have hMr:=λπ=>a02 π (a1g M);have hMf:=a01 (a1g M);have hMl:(M.map stR).length=n:=by rw[List.length_map,hM]
    by_cases hkl:k<n-i
    ·have c1:(k:Int)<((n-i:Nat):Int):=by omega
     obtain⟨a,ha⟩:∃a,M[i+k]?=some a:=⟨_,z9e (by omega)⟩
     obtain⟨b,hb⟩:∃b,M[i+(k-1)]?=some b:=⟨_,z9e (by omega)⟩
     have g3:(M.map stR)[i+k]?=some [.str a]:=by rw[List.getElem?_map,ha];rfl
     have g4:(M.map stR)[i+(k-1)]?=some [.str b]:=by rw[List.getElem?_map,hb];rfl
     have hwk:IntKind.i64.wrap ((k:Int)+1)=((k+1:Nat):Int):=by rw[w64 (by omega) (by omega)];omega
     have hwk2:IntKind.i64.wrap ((k:Int)-1)=((k-1:Nat):Int):=by rw[w64 (by omega) (by omega)];omega
     have hwp:IntKind.i64.wrap ((p:Int)+1)=((p+1:Nat):Int):=by rw[w64 (by omega) (by omega)];omega
     have l4:k-1<n-i:=by omega
     by_cases hab:a=b
     ·(repeat first|simp only[ww]|(apply xa;simp+decide only[go_sem,c1,hkl,l4,hwk,hwk2,g3,g4,hab];rfl;kernel_rfl))
      refine a1s (p,k+1,M) ?_ (by simp only;omega) ⟨hM,by simp only;omega,by simp only;omega,by simp only;omega,by simp only;omega⟩
      (simp+decide only[go_sem,a08,a03,hMr,hMf]<;>rfl)
     ·have hpn:p<n:=by omega
      have hset:(M.set p a).map stR=(M.map stR).set p [.str a]:=by rw[List.map_set];rfl
      have hSr:=λπ=>a02 π (a1g (M.set p a));have hSf:=a01 (a1g (M.set p a));rw[hset]at hSr hSf;obtain⟨c,hc⟩:∃c,M[p]?=some c:=⟨_,z9e (by omega)⟩
      have g5:(M.map stR)[p]?=some [.str c]:=by rw[List.getElem?_map,hc];rfl
      (repeat first|simp only[ww]|(apply xa;simp+decide only[go_sem,c1,hkl,l4,hwk,hwk2,hwp,g3,g4,g5,hab,hpn];rfl;kernel_rfl))
      refine a1s (p+1,k+1,M.set p a) ?_ (by simp only;omega) ⟨by simp only[List.length_set];exact hM,by simp only;omega,by simp only;omega,by simp only;omega,by simp only;omega⟩;simp only[hset]
      (simp+decide only[go_sem,a08,a03,hSr,hSf]<;>rfl)
    ·have c1:¬(k:Int)<((n-i:Nat):Int):=by omega
     have l5:p≤n:=by omega
     have l6:¬n-p=0:=by omega
     have l7:0+p+(n-p)≤n:=by omega
     have l8:p+(n-p)≤n:=by omega
     have hR:FlatR ((M.map stR).take p++List.replicate (n-p) [.str []]++(M.map stR).drop (p+(n-p))):=FlatR.append (FlatR.append (a1g M).take (FlatR.replicate rfl)) (a1g M).drop;have hRl:((M.map stR).take p++List.replicate (n-p) [AV.str []]++(M.map stR).drop (p+(n-p))).length=n:=by simp[hM];omega
     have hRr:=λπ=>a02 π hR;have hRf:=a01 hR;have hRz:=λq d=>a13 q d hR;have hZ:a33 (Value.string { data:=#[] })=AV.str []:=rfl
     (repeat first|simp only[ww]|(apply xa;simp+decide only[go_sem,c1,l5,l6,l7,l8,Nat.zero_add,hMl,hZ];rfl;kernel_rfl))
     generalize(M.map stR).take p++List.replicate (n-p) [AV.str []]++(M.map stR).drop (p+(n-p))=R at *
     (apply a2w;(·simp+decide only[go_sem,hRr,hRf,hRz]<;>rfl))
     exact⟨p,_,by omega,hRl,hR,rfl⟩
  ·obtain⟨b,hb⟩:∃b,m[i]?=some b:=⟨_,z9e (by omega)⟩
   obtain⟨a,ha⟩:∃a,m[i-1]?=some a:=⟨_,z9e (by omega)⟩
   have hba:¬b=a:=hd (i-1) a b (by omega) ha (by rw[show i-1+1=i by omega];exact hb);have g1:(m.map stR)[i]?=some [.str b]:=by rw[List.getElem?_map,hb];rfl
   have g2:(m.map stR)[i-1]?=some [.str a]:=by rw[List.getElem?_map,ha];rfl
   (repeat first|simp only[ww]|(apply xa;simp+decide only[go_sem,l1,hlt,l2,hba,hw,hw2,g1,g2];rfl;kernel_rfl))
   refine a1s (i+1) ?_ (by omega) ⟨by omega,by omega⟩
   (simp+decide only[go_sem,a08,a03,hr,hrf]<;>rfl)
end Go.RInst
namespace Go.RInst
open Go.Proofs Go.Ax Go.Pc
variable [PR]
set_option maxRecDepth 100000
def snR(s:Sg):List AV:=[.str s.name]
def tnR(t:Tm):List AV:=[.str t.name]
theorem a5i(l:List Sg):FlatR (l.map snR):=FlatR.map λ_=>rfl
theorem a2o(l:List Tm):FlatR (l.map tnR):=FlatR.map λ_=>rfl
theorem a4v(l:List Sg):l.map snR=(l.map Sg.name).map stR:=by simp[snR,stR]
theorem a4t(l:List Tm):l.map tnR=(l.map Tm.name).map stR:=by simp[tnR,stR]
theorem a3y{α:Type}{l:List α}{i:Nat}{x:α}(h:l[i]?=some x):l.take (i+1)=l.take i++[x]:=by rw[List.take_add_one,h];rfl
theorem a6d{d:Bool}(H:a09)(b:Nat)(ns:List (List UInt8))(hH:ns≠[]→a05 H b=some (.row 1 (ns.map stR)))(hn:ns.length≤1000)(hd:ns.Nodup):∃σ,a0n L.env d (sem L.env Mf) (.func (.func 51) [] []) [grV b (ns.map stR)] H=some (.bool false,H,σ):=by
 cases ns with
 |nil=>exact⟨[],a0h (by kernel_rfl) (by kernel_rfl) rfl rfl c2z rfl⟩
 |cons a r=>refine⟨[b],?_⟩;rw[a0e b (by simp),List.length_map];exact a44 (by kernel_rfl) (by kernel_rfl) rfl (hH (by simp)) (a0p (a1g _)) (FlatO.row (a1g _)) rfl (b4r b 0 _ _▸rfl) (c6a (a::r).length (a::r) rfl (by simp) hn hd) rfl
def a19(V:List Vc):Int:=(V.map Vc.rep).sum
theorem a81(V:List Vc){i:Nat}{v:Vc}(h:V[i]?=some v):a19 (V.take (i+1))=a19 (V.take i)+v.rep:=by rw[a3y h];simp[a19]
theorem a64:∀(V:List Vc),(∀v∈V,0≤v.rep)→0≤a19 V
 | [],_=>by simp[a19]
 |v::V,h=>by have:=a64 V λx hx=>h x (by simp[hx]);have:=h v (by simp);simp[a19]at *;omega
theorem a7d(V:List Vc)(h:∀v∈V,0≤v.rep)(i:Nat):a19 (V.take i)≤a19 V:=by
 have e:a19 V=a19 (V.take i)+a19 (V.drop i):=by unfold a19;rw[←List.sum_append,←List.map_append,List.take_append_drop]
 have:=a64 (V.drop i) λv hv=>h v (List.mem_of_mem_drop hv);omega
structure Valid(S:List Sg)(T:List Tm)(V:List Vc):Prop where
 hS:S.length≤100
 hT:T.length≤16
 hV:V.length≤100
 sg:∀s∈S,a8k s=true
 tm:∀t∈T,a4r t=true
 vc:∀v∈V,a39 v S T.length=true
 sn:(S.map Sg.name).Nodup
 tn:(T.map Tm.name).Nodup
 sum:a19 V≤1000000
theorem Valid.rep{S:List Sg}{T:List Tm}{V:List Vc}(h:Valid S T V):∀v∈V,1≤v.rep∧v.rep≤1000000:=by intro v hv;have:=h.vc v hv;simp only[a39,Bool.and_eq_true,decide_eq_true_eq]at this;exact⟨this.2.2.1,this.2.2.2.1⟩
theorem c7f(rs rt rv:Option (Option Nat))(S:List Sg)(T:List Tm)(V:List Vc)(h:Valid S T V):sem L.env Mf 21 [.agg [sl rs (S.map Sg.enc),sl rt (T.map Tm.enc),sl rv (V.map Vc.enc)]] []=some (.int .i64 0,[]):=by
 have hS:=h.hS;have hT:=h.hT;have hV:=h.hV;have c1:¬(256:Int)<S.length:=by omega
 have c2:¬(16:Int)<T.length:=by omega
 have c3:¬(65536:Int)<V.length:=by omega
 have hsg:=λd H n k=>a0h (E:=L.env) (draw:=d) (call:=sem L.env Mf) (g:=48) (fs:=[]) (cs:=[]) (ar:=[.agg [.str n,.int .u8 (k:Nat)]]) (H:=H) (by kernel_rfl) (by kernel_rfl) rfl (by rfl) (c3a n k) rfl;have htm:=λd H t=>a0h (E:=L.env) (draw:=d) (call:=sem L.env Mf) (g:=49) (fs:=[]) (cs:=[]) (ar:=[.agg (Tm.enc t)]) (H:=H) (by kernel_rfl) (by kernel_rfl) rfl (by rfl) (b4k t) rfl;have hvc:=λd H v=>a0h (E:=L.env) (draw:=d) (call:=sem L.env Mf) (g:=50) (fs:=[]) (cs:=[]) (ar:=[.agg (Vc.enc v),.agg [sl rs (S.map Sg.enc),sl rt (T.map Tm.enc),sl rv (V.map Vc.enc)]]) (H:=H) (by kernel_rfl) (by kernel_rfl) rfl (by simp+decide only[go_sem]<;>rfl) (c2o v rs rt S T (sl rv (V.map Vc.enc)) (by simp+decide only[go_sem]) (by simp+decide only[go_sem]) (by omega)) rfl
 (refine sv Tryz.f21 ?_;simp only[Tryz.f21,gS])
 (repeat first|simp only[ww]|(apply xa;simp+decide only[go_sem,c1,c2,c3,List.length_map];rfl;kernel_rfl))
 refine a0i (σ:=Nat) kp21_0 (λi=>[(1,.ptr 0 0 0),(3,grV 1 ((S.take i).map snR)),(4,.nilslice),(29,sl rs (S.map Sg.enc)),(30,.int .i64 S.length),(31,.int .i64 (i:Nat))]) (λi=>some (.row 3 [[sl rs (S.map Sg.enc),sl rt (T.map Tm.enc),sl rv (V.map Vc.enc)]])::grH 1 ((S.take i).map snR)) (λi=>S.length-i) (λi=>i≤S.length) 0 ?_ (Nat.zero_le _) ?_
 ·(simp+decide only[go_sem,a08,a03,List.take_zero,List.map_nil,a0a,a0b]<;>rfl)
 ·intro i hi;by_cases hlt:i<S.length
  ·have l1:(i:Int)<S.length:=by omega
   obtain⟨s,hs⟩:∃s,S[i]?=some s:=⟨_,z9e hlt⟩
   have hv1:a8k ⟨s.name,s.dir⟩=true:=h.sg s (List.mem_of_getElem? hs);have hval:=hsg;have hsm:(S.map Sg.enc)[i]?=some (Sg.enc s):=by rw[List.getElem?_map,hs];rfl
   have hw:IntKind.i64.wrap ((i:Int)+1)=((i+1:Nat):Int):=by rw[w64 (by omega) (by omega)];omega
   have hsr:(S.take (i+1)).map snR=(S.take i).map snR++[[.str s.name]]:=by rw[a3y hs,List.map_append];rfl
   have h5:=a01 (a5i (S.take (i+1)));have h6:=λπ=>a02 π (a5i (S.take (i+1)));have hlen:((S.take i).map snR).length=i:=by rw[List.length_map,List.length_take];omega
   have hrm:i+1≤1000000000:=by omega
   by_cases hk:i=0
   ·subst hk;have e0:(S.take 0).map snR=[]:=rfl;rw[e0]at hsr⊢;simp only[List.nil_append]at hsr
    (repeat first|simp only[ww]|(apply xa;simp+decide only[go_sem,l1,hlt,hsm,hval,hv1,hw,List.length_map,a0a,a0b];rfl;kernel_rfl))
    refine a1s (0+1) ?_ (by omega) (by omega)
    (simp+decide only[go_sem,a08,a03,hsr,a1l,a1i,List.length_nil]<;>rfl)
   ·have hne:(S.take i).map snR≠[]:=by intro e;rw[e]at hlen;simp at hlen;omega
    rw[a0e 1 hne,a0j 1 hne,hlen];rw[hsr]at h5 h6;generalize(S.take i).map snR=R at hsr hlen h5 h6
    (repeat first|simp only[ww]|(apply xa;simp+decide only[go_sem,l1,hlt,hsm,hval,hv1,hw,hlen,hrm,List.length_map];rfl;kernel_rfl))
    refine a1s (i+1) ?_ (by omega) (by omega)
    (simp+decide only[go_sem,a08,a03,hsr,a23,a24,h5,h6,hlen]<;>rfl)
  ·obtain rfl:i=S.length:=by omega
   have l1:¬(S.length:Int)<S.length:=by omega
   have hf1:=a01 (a5i S);have hf2:=λπ=>a02 π (a5i S);rw[List.take_length];by_cases hk:S=[]
   ·have e1:S.map snR=[]:=by rw[hk];rfl
    rw[e1];simp only[a0a,a0b]
    (repeat first|simp only[ww]|(apply xa;simp+decide only[go_sem,l1,List.length_map];rfl;kernel_rfl))
    refine a0i (σ:=Nat) kp21_2 (λi=>[(1,.ptr 0 0 0),(3,.nilslice),(4,grV 1 ((T.take i).map tnR)),(45,sl rt (T.map Tm.enc)),(46,.int .i64 T.length),(47,.int .i64 (i:Nat))]) (λi=>some (.row 3 [[sl rs (S.map Sg.enc),sl rt (T.map Tm.enc),sl rv (V.map Vc.enc)]])::grH 1 ((T.take i).map tnR)) (λi=>T.length-i) (λi=>i≤T.length) 0 ?_ (Nat.zero_le _) ?_
    ·(simp+decide only[go_sem,a08,a03,List.take_zero,List.map_nil,a0a,a0b]<;>rfl)
    ·intro i hi;by_cases hlt:i<T.length
     ·have l1:(i:Int)<T.length:=by omega
      obtain⟨t,hs⟩:∃t,T[i]?=some t:=⟨_,z9e hlt⟩
      have hv1:a4r t=true:=h.tm t (List.mem_of_getElem? hs);have hval:=htm;have hsm:(T.map Tm.enc)[i]?=some (Tm.enc t):=by rw[List.getElem?_map,hs];rfl
      have hw:IntKind.i64.wrap ((i:Int)+1)=((i+1:Nat):Int):=by rw[w64 (by omega) (by omega)];omega
      have hsr:(T.take (i+1)).map tnR=(T.take i).map tnR++[[.str t.name]]:=by rw[a3y hs,List.map_append];rfl
      have h5:=a01 (a2o (T.take (i+1)));have h6:=λπ=>a02 π (a2o (T.take (i+1)));have hlen:((T.take i).map tnR).length=i:=by rw[List.length_map,List.length_take];omega
      have hrm:i+1≤1000000000:=by omega
      by_cases hk:i=0
      ·subst hk;have e0:(T.take 0).map tnR=[]:=rfl;rw[e0]at hsr⊢;simp only[List.nil_append]at hsr
       (repeat first|simp only[ww]|(apply xa;simp+decide only[go_sem,l1,hlt,hsm,hval,hv1,hw,List.length_map,a0a,a0b];rfl;kernel_rfl))
       refine a1s (0+1) ?_ (by omega) (by omega)
       (simp+decide only[go_sem,a08,a03,hsr,a1l,a1i,List.length_nil]<;>rfl)
      ·have hne:(T.take i).map tnR≠[]:=by intro e;rw[e]at hlen;simp at hlen;omega
       rw[a0e 1 hne,a0j 1 hne,hlen];rw[hsr]at h5 h6;generalize(T.take i).map tnR=R at hsr hlen h5 h6
       (repeat first|simp only[ww]|(apply xa;simp+decide only[go_sem,l1,hlt,hsm,hval,hv1,hw,hlen,hrm,List.length_map];rfl;kernel_rfl))
       refine a1s (i+1) ?_ (by omega) (by omega)
       (simp+decide only[go_sem,a08,a03,hsr,a23,a24,h5,h6,hlen]<;>rfl)
     ·obtain rfl:i=T.length:=by omega
      have l2:¬(T.length:Int)<T.length:=by omega
      have hg1:=a01 (a2o T);have hg2:=λπ=>a02 π (a2o T);rw[List.take_length];by_cases hkT:T=[]
      ·have e2:T.map tnR=[]:=by rw[hkT];rfl
       rw[e2];simp only[a0a,a0b]
       (repeat first|simp only[ww]|(apply xa;simp+decide only[go_sem,l2,List.length_map];rfl;kernel_rfl))
       refine a0i (σ:=Nat) kp21_4 (λi=>[(1,.ptr 0 0 0),(3,.nilslice),(4,.nilslice),(9,.int .i64 (a19 (V.take i))),(61,sl rv (V.map Vc.enc)),(62,.int .i64 V.length),(63,.int .i64 (i:Nat))]) (λ_=>[some (.row 3 [[sl rs (S.map Sg.enc),sl rt (T.map Tm.enc),sl rv (V.map Vc.enc)]])]) (λi=>V.length-i) (λi=>i≤V.length) 0 ?_ (Nat.zero_le _) ?_
       ·have e0:a19 (V.take 0)=0:=rfl
        (simp+decide only[go_sem,a08,a03,e0]<;>rfl)
       ·intro i hi;by_cases hlt:i<V.length
        ·have l3:(i:Int)<V.length:=by omega
         obtain⟨v,hs⟩:∃v,V[i]?=some v:=⟨_,z9e hlt⟩
         have hv1:a39 v S T.length=true:=h.vc v (List.mem_of_getElem? hs);have hsm:(V.map Vc.enc)[i]?=some (Vc.enc v):=by rw[List.getElem?_map,hs];rfl
         have hw:IntKind.i64.wrap ((i:Int)+1)=((i+1:Nat):Int):=by rw[w64 (by omega) (by omega)];omega
         have hrs:=a81 V hs;have hnn:∀v∈V,0≤v.rep:=λv hv=>by have:=(h.rep v hv).1;omega
         have hle:=a7d V hnn (i+1);have hge:=a64 (V.take i) λv hv=>hnn v (List.mem_of_mem_take hv);have hrp:=h.rep v (List.mem_of_getElem? hs);have hsum:=h.sum;have hw2:IntKind.i64.wrap (a19 (V.take i)+v.rep)=a19 (V.take (i+1)):=by rw[w64 (by omega) (by omega)];omega
         have hmn:a19 (V.take (i+1))<1000001:=by omega
         have hmn2:¬(1000001:Int)<a19 (V.take (i+1)):=by omega
         have hmn3:a19 (V.take (i+1))≤1000001:=by omega
         (repeat first|simp only[ww]|(apply xa;simp+decide only[go_sem,l3,hlt,hsm,hvc,hv1,hw,hw2,hmn,hmn2,hmn3,List.length_map];rfl;kernel_rfl))
         refine a1s (i+1) ?_ (by omega) (by omega)
         (simp+decide only[go_sem,a08,a03]<;>rfl)
        ·obtain rfl:i=V.length:=by omega
         have l3:¬(V.length:Int)<V.length:=by omega
         have hsum:=h.sum;have l4:¬(1000000:Int)<a19 V:=by omega
         rw[List.take_length];obtain⟨σ1,w1⟩:=a6d (d:=false) [some (.row 3 [[sl rs (S.map Sg.enc),sl rt (T.map Tm.enc),sl rv (V.map Vc.enc)]])] 1 (S.map Sg.name) (λhh=>absurd (by rw[hk];rfl) hh) (by rw[List.length_map];omega) h.sn;obtain⟨σ2,w2⟩:=a6d (d:=false) [some (.row 3 [[sl rs (S.map Sg.enc),sl rt (T.map Tm.enc),sl rv (V.map Vc.enc)]])] 1 (T.map Tm.name) (λhh=>absurd (by rw[hkT];rfl) hh) (by rw[List.length_map];omega) h.tn;rw[←a4v]at w1;rw[←a4t]at w2;rw[e1,a0a]at w1;rw[e2,a0a]at w2
         (repeat first|simp only[ww]|(apply xa;simp+decide only[go_sem,l3,l4,w1,w2,List.length_map];rfl;kernel_rfl))
         (apply fqb;simp+decide only[go_sem]<;>rfl)
      ·have hneT:T.map tnR≠[]:=by simpa using hkT
       rw[a0e 1 hneT,a0j 1 hneT,List.length_map]
       (repeat first|simp only[ww]|(apply xa;simp+decide only[go_sem,l2,List.length_map];rfl;kernel_rfl))
       refine a0i (σ:=Nat) kp21_4 (λi=>[(1,.ptr 0 0 0),(3,.nilslice),(4,.slice 1 0 T.length none),(9,.int .i64 (a19 (V.take i))),(61,sl rv (V.map Vc.enc)),(62,.int .i64 V.length),(63,.int .i64 (i:Nat))]) (λ_=>[some (.row 3 [[sl rs (S.map Sg.enc),sl rt (T.map Tm.enc),sl rv (V.map Vc.enc)]]),some (.row 1 (T.map tnR))]) (λi=>V.length-i) (λi=>i≤V.length) 0 ?_ (Nat.zero_le _) ?_
       ·have e0:a19 (V.take 0)=0:=rfl
        (simp+decide only[go_sem,a08,a03,e0,hg1,hg2]<;>rfl)
       ·intro i hi;by_cases hlt:i<V.length
        ·have l3:(i:Int)<V.length:=by omega
         obtain⟨v,hs⟩:∃v,V[i]?=some v:=⟨_,z9e hlt⟩
         have hv1:a39 v S T.length=true:=h.vc v (List.mem_of_getElem? hs);have hsm:(V.map Vc.enc)[i]?=some (Vc.enc v):=by rw[List.getElem?_map,hs];rfl
         have hw:IntKind.i64.wrap ((i:Int)+1)=((i+1:Nat):Int):=by rw[w64 (by omega) (by omega)];omega
         have hrs:=a81 V hs;have hnn:∀v∈V,0≤v.rep:=λv hv=>by have:=(h.rep v hv).1;omega
         have hle:=a7d V hnn (i+1);have hge:=a64 (V.take i) λv hv=>hnn v (List.mem_of_mem_take hv);have hrp:=h.rep v (List.mem_of_getElem? hs);have hsum:=h.sum;have hw2:IntKind.i64.wrap (a19 (V.take i)+v.rep)=a19 (V.take (i+1)):=by rw[w64 (by omega) (by omega)];omega
         have hmn:a19 (V.take (i+1))<1000001:=by omega
         have hmn2:¬(1000001:Int)<a19 (V.take (i+1)):=by omega
         have hmn3:a19 (V.take (i+1))≤1000001:=by omega
         (repeat first|simp only[ww]|(apply xa;simp+decide only[go_sem,l3,hlt,hsm,hvc,hv1,hw,hw2,hmn,hmn2,hmn3,List.length_map,hg1,hg2];rfl;kernel_rfl))
         refine a1s (i+1) ?_ (by omega) (by omega)
         (simp+decide only[go_sem,a08,a03,hg1,hg2]<;>rfl)
        ·obtain rfl:i=V.length:=by omega
         have l3:¬(V.length:Int)<V.length:=by omega
         have hsum:=h.sum;have l4:¬(1000000:Int)<a19 V:=by omega
         rw[List.take_length];obtain⟨σ1,w1⟩:=a6d (d:=false) [some (.row 3 [[sl rs (S.map Sg.enc),sl rt (T.map Tm.enc),sl rv (V.map Vc.enc)]]),some (.row 1 (T.map tnR))] 1 (S.map Sg.name) (λhh=>absurd (by rw[hk];rfl) hh) (by rw[List.length_map];omega) h.sn;obtain⟨σ2,w2⟩:=a6d (d:=false) [some (.row 3 [[sl rs (S.map Sg.enc),sl rt (T.map Tm.enc),sl rv (V.map Vc.enc)]]),some (.row 1 (T.map tnR))] 1 (T.map Tm.name) (λhh=>by rw[←a4t];rfl) (by rw[List.length_map];omega) h.tn;rw[←a4v]at w1;rw[←a4t]at w2;rw[e1,a0a]at w1;rw[a0e 1 hneT,List.length_map]at w2
         (repeat first|simp only[ww]|(apply xa;simp+decide only[go_sem,l3,l4,w1,w2,List.length_map,hg1,hg2];rfl;kernel_rfl))
         (apply fqb;simp+decide only[go_sem,hg1,hg2]<;>rfl)
   ·have hne:S.map snR≠[]:=by simpa using hk
    rw[a0e 1 hne,a0j 1 hne,List.length_map]
    (repeat first|simp only[ww]|(apply xa;simp+decide only[go_sem,l1,List.length_map];rfl;kernel_rfl))
    refine a0i (σ:=Nat) kp21_2 (λi=>[(1,.ptr 0 0 0),(3,.slice 1 0 S.length none),(4,grV 2 ((T.take i).map tnR)),(45,sl rt (T.map Tm.enc)),(46,.int .i64 T.length),(47,.int .i64 (i:Nat))]) (λi=>some (.row 3 [[sl rs (S.map Sg.enc),sl rt (T.map Tm.enc),sl rv (V.map Vc.enc)]])::some (.row 1 (S.map snR))::grH 1 ((T.take i).map tnR)) (λi=>T.length-i) (λi=>i≤T.length) 0 ?_ (Nat.zero_le _) ?_
    ·(simp+decide only[go_sem,a08,a03,List.take_zero,List.map_nil,a0a,a0b,hf1,hf2]<;>rfl)
    ·intro i hi;by_cases hlt:i<T.length
     ·have l1:(i:Int)<T.length:=by omega
      obtain⟨t,hs⟩:∃t,T[i]?=some t:=⟨_,z9e hlt⟩
      have hv1:a4r t=true:=h.tm t (List.mem_of_getElem? hs);have hval:=htm;have hsm:(T.map Tm.enc)[i]?=some (Tm.enc t):=by rw[List.getElem?_map,hs];rfl
      have hw:IntKind.i64.wrap ((i:Int)+1)=((i+1:Nat):Int):=by rw[w64 (by omega) (by omega)];omega
      have hsr:(T.take (i+1)).map tnR=(T.take i).map tnR++[[.str t.name]]:=by rw[a3y hs,List.map_append];rfl
      have h5:=a01 (a2o (T.take (i+1)));have h6:=λπ=>a02 π (a2o (T.take (i+1)));have hlen:((T.take i).map tnR).length=i:=by rw[List.length_map,List.length_take];omega
      have hrm:i+1≤1000000000:=by omega
      by_cases hk:i=0
      ·subst hk;have e0:(T.take 0).map tnR=[]:=rfl;rw[e0]at hsr⊢;simp only[List.nil_append]at hsr
       (repeat first|simp only[ww]|(apply xa;simp+decide only[go_sem,l1,hlt,hsm,hval,hv1,hw,List.length_map,a0a,a0b,hf1,hf2];rfl;kernel_rfl))
       refine a1s (0+1) ?_ (by omega) (by omega)
       (simp+decide only[go_sem,a08,a03,hsr,a1l,a1i,List.length_nil,hf1,hf2]<;>rfl)
      ·have hne:(T.take i).map tnR≠[]:=by intro e;rw[e]at hlen;simp at hlen;omega
       rw[a0e 2 hne,a0j 1 hne,hlen];rw[hsr]at h5 h6;generalize(T.take i).map tnR=R at hsr hlen h5 h6
       (repeat first|simp only[ww]|(apply xa;simp+decide only[go_sem,l1,hlt,hsm,hval,hv1,hw,hlen,hrm,List.length_map,hf1,hf2];rfl;kernel_rfl))
       refine a1s (i+1) ?_ (by omega) (by omega)
       (simp+decide only[go_sem,a08,a03,hsr,a23,a24,h5,h6,hlen,hf1,hf2]<;>rfl)
     ·obtain rfl:i=T.length:=by omega
      have l2:¬(T.length:Int)<T.length:=by omega
      have hg1:=a01 (a2o T);have hg2:=λπ=>a02 π (a2o T);rw[List.take_length];by_cases hkT:T=[]
      ·have e2:T.map tnR=[]:=by rw[hkT];rfl
       rw[e2];simp only[a0a,a0b]
       (repeat first|simp only[ww]|(apply xa;simp+decide only[go_sem,l2,List.length_map,hf1,hf2];rfl;kernel_rfl))
       refine a0i (σ:=Nat) kp21_4 (λi=>[(1,.ptr 0 0 0),(3,.slice 1 0 S.length none),(4,.nilslice),(9,.int .i64 (a19 (V.take i))),(61,sl rv (V.map Vc.enc)),(62,.int .i64 V.length),(63,.int .i64 (i:Nat))]) (λ_=>[some (.row 3 [[sl rs (S.map Sg.enc),sl rt (T.map Tm.enc),sl rv (V.map Vc.enc)]]),some (.row 1 (S.map snR))]) (λi=>V.length-i) (λi=>i≤V.length) 0 ?_ (Nat.zero_le _) ?_
       ·have e0:a19 (V.take 0)=0:=rfl
        (simp+decide only[go_sem,a08,a03,e0,hf1,hf2]<;>rfl)
       ·intro i hi;by_cases hlt:i<V.length
        ·have l3:(i:Int)<V.length:=by omega
         obtain⟨v,hs⟩:∃v,V[i]?=some v:=⟨_,z9e hlt⟩
         have hv1:a39 v S T.length=true:=h.vc v (List.mem_of_getElem? hs);have hsm:(V.map Vc.enc)[i]?=some (Vc.enc v):=by rw[List.getElem?_map,hs];rfl
         have hw:IntKind.i64.wrap ((i:Int)+1)=((i+1:Nat):Int):=by rw[w64 (by omega) (by omega)];omega
         have hrs:=a81 V hs;have hnn:∀v∈V,0≤v.rep:=λv hv=>by have:=(h.rep v hv).1;omega
         have hle:=a7d V hnn (i+1);have hge:=a64 (V.take i) λv hv=>hnn v (List.mem_of_mem_take hv);have hrp:=h.rep v (List.mem_of_getElem? hs);have hsum:=h.sum;have hw2:IntKind.i64.wrap (a19 (V.take i)+v.rep)=a19 (V.take (i+1)):=by rw[w64 (by omega) (by omega)];omega
         have hmn:a19 (V.take (i+1))<1000001:=by omega
         have hmn2:¬(1000001:Int)<a19 (V.take (i+1)):=by omega
         have hmn3:a19 (V.take (i+1))≤1000001:=by omega
         (repeat first|simp only[ww]|(apply xa;simp+decide only[go_sem,l3,hlt,hsm,hvc,hv1,hw,hw2,hmn,hmn2,hmn3,List.length_map,hf1,hf2];rfl;kernel_rfl))
         refine a1s (i+1) ?_ (by omega) (by omega)
         (simp+decide only[go_sem,a08,a03,hf1,hf2]<;>rfl)
        ·obtain rfl:i=V.length:=by omega
         have l3:¬(V.length:Int)<V.length:=by omega
         have hsum:=h.sum;have l4:¬(1000000:Int)<a19 V:=by omega
         rw[List.take_length];obtain⟨σ1,w1⟩:=a6d (d:=false) [some (.row 3 [[sl rs (S.map Sg.enc),sl rt (T.map Tm.enc),sl rv (V.map Vc.enc)]]),some (.row 1 (S.map snR))] 1 (S.map Sg.name) (λhh=>by rw[←a4v];rfl) (by rw[List.length_map];omega) h.sn;obtain⟨σ2,w2⟩:=a6d (d:=false) [some (.row 3 [[sl rs (S.map Sg.enc),sl rt (T.map Tm.enc),sl rv (V.map Vc.enc)]]),some (.row 1 (S.map snR))] 2 (T.map Tm.name) (λhh=>absurd (by rw[hkT];rfl) hh) (by rw[List.length_map];omega) h.tn;rw[←a4v]at w1;rw[←a4t]at w2;rw[a0e 1 hne,List.length_map]at w1;rw[e2,a0a]at w2
         (repeat first|simp only[ww]|(apply xa;simp+decide only[go_sem,l3,l4,w1,w2,List.length_map,hf1,hf2];rfl;kernel_rfl))
         (apply fqb;simp+decide only[go_sem,hf1,hf2]<;>rfl)
      ·have hneT:T.map tnR≠[]:=by simpa using hkT
       rw[a0e 2 hneT,a0j 1 hneT,List.length_map]
       (repeat first|simp only[ww]|(apply xa;simp+decide only[go_sem,l2,List.length_map,hf1,hf2];rfl;kernel_rfl))
       refine a0i (σ:=Nat) kp21_4 (λi=>[(1,.ptr 0 0 0),(3,.slice 1 0 S.length none),(4,.slice 2 0 T.length none),(9,.int .i64 (a19 (V.take i))),(61,sl rv (V.map Vc.enc)),(62,.int .i64 V.length),(63,.int .i64 (i:Nat))]) (λ_=>[some (.row 3 [[sl rs (S.map Sg.enc),sl rt (T.map Tm.enc),sl rv (V.map Vc.enc)]]),some (.row 1 (S.map snR)),some (.row 1 (T.map tnR))]) (λi=>V.length-i) (λi=>i≤V.length) 0 ?_ (Nat.zero_le _) ?_
       ·have e0:a19 (V.take 0)=0:=rfl
        (simp+decide only[go_sem,a08,a03,e0,hf1,hf2,hg1,hg2]<;>rfl)
       ·intro i hi;by_cases hlt:i<V.length
        ·have l3:(i:Int)<V.length:=by omega
         obtain⟨v,hs⟩:∃v,V[i]?=some v:=⟨_,z9e hlt⟩
         have hv1:a39 v S T.length=true:=h.vc v (List.mem_of_getElem? hs);have hsm:(V.map Vc.enc)[i]?=some (Vc.enc v):=by rw[List.getElem?_map,hs];rfl
         have hw:IntKind.i64.wrap ((i:Int)+1)=((i+1:Nat):Int):=by rw[w64 (by omega) (by omega)];omega
         have hrs:=a81 V hs;have hnn:∀v∈V,0≤v.rep:=λv hv=>by have:=(h.rep v hv).1;omega
         have hle:=a7d V hnn (i+1);have hge:=a64 (V.take i) λv hv=>hnn v (List.mem_of_mem_take hv);have hrp:=h.rep v (List.mem_of_getElem? hs);have hsum:=h.sum;have hw2:IntKind.i64.wrap (a19 (V.take i)+v.rep)=a19 (V.take (i+1)):=by rw[w64 (by omega) (by omega)];omega
         have hmn:a19 (V.take (i+1))<1000001:=by omega
         have hmn2:¬(1000001:Int)<a19 (V.take (i+1)):=by omega
         have hmn3:a19 (V.take (i+1))≤1000001:=by omega
         (repeat first|simp only[ww]|(apply xa;simp+decide only[go_sem,l3,hlt,hsm,hvc,hv1,hw,hw2,hmn,hmn2,hmn3,List.length_map,hf1,hf2,hg1,hg2];rfl;kernel_rfl))
         refine a1s (i+1) ?_ (by omega) (by omega)
         (simp+decide only[go_sem,a08,a03,hf1,hf2,hg1,hg2]<;>rfl)
        ·obtain rfl:i=V.length:=by omega
         have l3:¬(V.length:Int)<V.length:=by omega
         have hsum:=h.sum;have l4:¬(1000000:Int)<a19 V:=by omega
         rw[List.take_length];obtain⟨σ1,w1⟩:=a6d (d:=false) [some (.row 3 [[sl rs (S.map Sg.enc),sl rt (T.map Tm.enc),sl rv (V.map Vc.enc)]]),some (.row 1 (S.map snR)),some (.row 1 (T.map tnR))] 1 (S.map Sg.name) (λhh=>by rw[←a4v];rfl) (by rw[List.length_map];omega) h.sn;obtain⟨σ2,w2⟩:=a6d (d:=false) [some (.row 3 [[sl rs (S.map Sg.enc),sl rt (T.map Tm.enc),sl rv (V.map Vc.enc)]]),some (.row 1 (S.map snR)),some (.row 1 (T.map tnR))] 2 (T.map Tm.name) (λhh=>by rw[←a4t];rfl) (by rw[List.length_map];omega) h.tn;rw[←a4v]at w1;rw[←a4t]at w2;rw[a0e 1 hne,List.length_map]at w1;rw[a0e 2 hneT,List.length_map]at w2
         (repeat first|simp only[ww]|(apply xa;simp+decide only[go_sem,l3,l4,w1,w2,List.length_map,hf1,hf2,hg1,hg2];rfl;kernel_rfl))
         (apply fqb;simp+decide only[go_sem,hf1,hf2,hg1,hg2]<;>rfl)
end Go.RInst
namespace Go.RInst
open Go.Proofs Go.Ax Go.Pc
variable [PR]
set_option maxRecDepth 100000
theorem b5j{d:Bool}(H:a09)(rs rt rv:Option (Option Nat))(S:List Sg)(T:List Tm)(V:List Vc)(h:Valid S T V):a0n L.env d (sem L.env Mf) (.func (.func 21) [] []) [.agg [sl rs (S.map Sg.enc),sl rt (T.map Tm.enc),sl rv (V.map Vc.enc)]] H=some (.int .i64 0,H,[]):=a0h (by kernel_rfl) (by kernel_rfl) rfl (by simp+decide only[go_sem]<;>rfl) (c7f rs rt rv S T V h) rfl
end Go.RInst
namespace Go.RInst
open Go.Proofs Go.Ax Go.Pc
variable [PR]
set_option maxRecDepth 100000
/- the closure of Wave: an event is set; the list is L, then (t, c) -/
end Go.RInst
namespace Go.RInst
open Go.Proofs Go.Ax Go.Pc
variable [PR]
set_option maxRecDepth 100000
end Go.RInst
namespace Go.RInst
open Go.Proofs Go.Ax Go.Pc
variable [PR]
set_option maxRecDepth 100000
end Go.RInst
namespace Go.RInst
open Go.Proofs Go.Ax Go.Pc
variable [PR]
set_option maxRecDepth 100000
end Go.RInst
namespace Go.RInst
open Go.Proofs Go.Ax Go.Pc
variable [PR]
set_option maxRecDepth 100000
theorem d3z(a b:Option (Option Nat))(l:List Sg)(hl:l.length<1000000000):sem L.env Mf 45 [sl a (l.map Sg.enc),sl b (l.map Sg.enc)] []=some (.bool true,[]):=by
 have c0:(l.length:Int)=l.length:=rfl
 (refine sv Tryz.f45 ?_;simp only[Tryz.f45,gS])
 (repeat first|simp only[ww]|(apply xa;simp+decide only[go_sem,List.length_map];rfl;kernel_rfl))
 refine a0i (σ:=Nat) kp45_0 (λi=>[(0,sl a (l.map Sg.enc)),(1,sl b (l.map Sg.enc)),(12,.int .i64 l.length),(13,.int .i64 (i:Nat))]) (λ_=>[]) (λi=>l.length-i) (λi=>i≤l.length) 0 ?_ (Nat.zero_le _) ?_
 ·(simp+decide only[go_sem,a08,a03]<;>rfl)
 ·intro i hi;by_cases hlt:i<l.length
  ·have l1:(i:Int)<l.length:=by omega
   obtain⟨x,hx⟩:∃x,l[i]?=some x:=⟨_,z9e hlt⟩
   have hsm:(l.map Sg.enc)[i]?=some (Sg.enc x):=by rw[List.getElem?_map,hx];rfl
   have hw:IntKind.i64.wrap ((i:Int)+1)=((i+1:Nat):Int):=by rw[w64 (by omega) (by omega)];omega
   (repeat first|simp only[ww]|(apply xa;simp+decide only[go_sem,l1,hlt,hsm,hw,beq_self_eq_true,Bool.and_self,Bool.not_true,List.length_map];rfl;kernel_rfl))
   refine a1s (i+1) ?_ (by omega) (by omega)
   (simp+decide only[go_sem,a08,a03]<;>rfl)
  ·obtain rfl:i=l.length:=by omega
   have l1:¬(l.length:Int)<l.length:=by omega
   (repeat first|simp only[ww]|(apply xa;simp+decide only[go_sem,l1];rfl;kernel_rfl))
   (apply fqb;simp+decide only[go_sem]<;>rfl)
theorem d3q(a b:Option (Option Nat))(l:List Tm)(hl:l.length<1000000000):sem L.env Mf 46 [sl a (l.map Tm.enc),sl b (l.map Tm.enc)] []=some (.bool true,[]):=by
 have c0:(l.length:Int)=l.length:=rfl
 (refine sv Tryz.f46 ?_;simp only[Tryz.f46,gS])
 (repeat first|simp only[ww]|(apply xa;simp+decide only[go_sem,List.length_map];rfl;kernel_rfl))
 refine a0i (σ:=Nat) kp46_0 (λi=>[(0,sl a (l.map Tm.enc)),(1,sl b (l.map Tm.enc)),(12,.int .i64 l.length),(13,.int .i64 (i:Nat))]) (λ_=>[]) (λi=>l.length-i) (λi=>i≤l.length) 0 ?_ (Nat.zero_le _) ?_
 ·(simp+decide only[go_sem,a08,a03]<;>rfl)
 ·intro i hi;by_cases hlt:i<l.length
  ·have l1:(i:Int)<l.length:=by omega
   obtain⟨x,hx⟩:∃x,l[i]?=some x:=⟨_,z9e hlt⟩
   have hsm:(l.map Tm.enc)[i]?=some (Tm.enc x):=by rw[List.getElem?_map,hx];rfl
   have hw:IntKind.i64.wrap ((i:Int)+1)=((i+1:Nat):Int):=by rw[w64 (by omega) (by omega)];omega
   (repeat first|simp only[ww]|(apply xa;simp+decide only[go_sem,l1,hlt,hsm,hw,beq_self_eq_true,Bool.and_self,Bool.not_true,List.length_map];rfl;kernel_rfl))
   refine a1s (i+1) ?_ (by omega) (by omega)
   (simp+decide only[go_sem,a08,a03]<;>rfl)
  ·obtain rfl:i=l.length:=by omega
   have l1:¬(l.length:Int)<l.length:=by omega
   (repeat first|simp only[ww]|(apply xa;simp+decide only[go_sem,l1];rfl;kernel_rfl))
   (apply fqb;simp+decide only[go_sem]<;>rfl)
theorem d3k(a b:Option (Option Nat))(l:List Vc)(hl:l.length<1000000000):sem L.env Mf 47 [sl a (l.map Vc.enc),sl b (l.map Vc.enc)] []=some (.bool true,[]):=by
 have c0:(l.length:Int)=l.length:=rfl
 (refine sv Tryz.f47 ?_;simp only[Tryz.f47,gS])
 (repeat first|simp only[ww]|(apply xa;simp+decide only[go_sem,List.length_map];rfl;kernel_rfl))
 refine a0i (σ:=Nat) kp47_0 (λi=>[(0,sl a (l.map Vc.enc)),(1,sl b (l.map Vc.enc)),(12,.int .i64 l.length),(13,.int .i64 (i:Nat))]) (λ_=>[]) (λi=>l.length-i) (λi=>i≤l.length) 0 ?_ (Nat.zero_le _) ?_
 ·(simp+decide only[go_sem,a08,a03]<;>rfl)
 ·intro i hi;by_cases hlt:i<l.length
  ·have l1:(i:Int)<l.length:=by omega
   obtain⟨x,hx⟩:∃x,l[i]?=some x:=⟨_,z9e hlt⟩
   have hsm:(l.map Vc.enc)[i]?=some (Vc.enc x):=by rw[List.getElem?_map,hx];rfl
   have hw:IntKind.i64.wrap ((i:Int)+1)=((i+1:Nat):Int):=by rw[w64 (by omega) (by omega)];omega
   (repeat first|simp only[ww]|(apply xa;simp+decide only[go_sem,l1,hlt,hsm,hw,beq_self_eq_true,Bool.and_self,Bool.not_true,List.length_map];rfl;kernel_rfl))
   refine a1s (i+1) ?_ (by omega) (by omega)
   (simp+decide only[go_sem,a08,a03]<;>rfl)
  ·obtain rfl:i=l.length:=by omega
   have l1:¬(l.length:Int)<l.length:=by omega
   (repeat first|simp only[ww]|(apply xa;simp+decide only[go_sem,l1];rfl;kernel_rfl))
   (apply fqb;simp+decide only[go_sem]<;>rfl)
theorem c9t(a a' b b' c c':Option (Option Nat))(S:List Sg)(T:List Tm)(V:List Vc)(hS:S.length<1000000000)(hT:T.length<1000000000)(hV:V.length<1000000000):sem L.env Mf 20 [.agg [sl a (S.map Sg.enc),sl b (T.map Tm.enc),sl c (V.map Vc.enc)],.agg [sl a' (S.map Sg.enc),sl b' (T.map Tm.enc),sl c' (V.map Vc.enc)]] []=some (.bool true,[]):=by
 have h1:=λd H=>a0h (E:=L.env) (draw:=d) (call:=sem L.env Mf) (g:=45) (fs:=[]) (cs:=[]) (ar:=[sl a (S.map Sg.enc),sl a' (S.map Sg.enc)]) (H:=H) (by kernel_rfl) (by kernel_rfl) rfl (by simp+decide only[go_sem]<;>rfl) (d3z a a' S hS) rfl;have h2:=λd H=>a0h (E:=L.env) (draw:=d) (call:=sem L.env Mf) (g:=46) (fs:=[]) (cs:=[]) (ar:=[sl b (T.map Tm.enc),sl b' (T.map Tm.enc)]) (H:=H) (by kernel_rfl) (by kernel_rfl) rfl (by simp+decide only[go_sem]<;>rfl) (d3q b b' T hT) rfl;have h3:=λd H=>a0h (E:=L.env) (draw:=d) (call:=sem L.env Mf) (g:=47) (fs:=[]) (cs:=[]) (ar:=[sl c (V.map Vc.enc),sl c' (V.map Vc.enc)]) (H:=H) (by kernel_rfl) (by kernel_rfl) rfl (by simp+decide only[go_sem]<;>rfl) (d3k c c' V hV) rfl
 (refine sv Tryz.f20 ?_;simp only[Tryz.f20,gS])
 (repeat first|simp only[ww]|(apply xa;simp+decide only[go_sem,h1,h2,h3];rfl;kernel_rfl))
 (apply fqb;simp+decide only[go_sem]<;>rfl)
end Go.RInst
namespace Go.RInst
open Go.Proofs Go.Ax Go.Pc
variable [PR]
set_option maxRecDepth 100000
end Go.RInst
namespace Go.RInst
open Go.Proofs Go.Ax Go.Pc
variable [PR]
set_option maxRecDepth 100000
end Go.RInst
namespace Go.RInst
open Go.Proofs Go.Ax Go.Pc
variable [PR]
set_option maxRecDepth 100000
end Go.RInst
namespace Go.RInst
open Go.Proofs Go.Ax Go.Pc
variable [PR]
set_option maxRecDepth 100000
end Go.RInst
namespace Go.RInst
open Go.Proofs Go.Ax Go.Pc
variable [PR]
set_option maxRecDepth 100000
theorem c1m(hso:PR.pr [.str soT]=some (soV,[])){d:Bool}(H:a09):a0n L.env d (sem L.env Mf) (.func (.func 14) [] []) [] H=some (.bool true,H,[]):=a0h (by kernel_rfl) (by kernel_rfl) rfl rfl (c6w hso) rfl
section
variable (hso:PR.pr [.str soT]=some (soV,[]))(xs:List AV)(hxr:a0z xs=[])(hxs:xs.all AV.storable=true)(hxl:xs.length=3)(S:List Sg)(T:List Tm)(V:List Vc)(h:Valid S T V)
 (hgood:∀d H,a0n L.env d (sem L.env Mf) (.func (.func 9) [] []) [.agg xs] H=some (.agg [sl none (S.map Sg.enc),sl none (T.map Tm.enc),sl none (V.map Vc.enc)],H,[]))
include hso hxr hxs hxl h hgood
end
end Go.RInst
