/- Part of a proof. No condition. -/
import Derived.Test.YtmbmjfjagololaaGreatDoorRRd
import Derived.Test.YtmbmjfjagololaaGreatDoorPcB
import Derived.Test.YtmbmjfjagololaaGreatDoorAxE
import Derived.Test.YtmbmjfjagololaaGreatDoorAxD
set_option linter.unusedSectionVars false
set_option linter.unusedSimpArgs false
set_option linter.unusedVariables false
namespace Go.RInst
open Go.Proofs Go.Ax Go.Pc
variable [PR]
set_option maxRecDepth 100000
abbrev Sg.enc(s:Sg):List AV:=[.str s.name,.int .u8 s.dir]
abbrev Tm.enc(t:Tm):List AV:=[.str t.name,.int .i64 t.per,.int .i64 t.dr,.int .i64 t.ri,.int .i64 t.fa,.int .i64 t.st]
abbrev Vc.enc(v:Vc):List AV:=[.int .i64 v.t,.str v.cells,.int .i64 v.rep]
theorem sgv_ok(n:List UInt8)(d:Nat):sem L.env Mf 48 [.agg [.str n,.int .u8 d]] []=some (.bool (sgOk ⟨n,d⟩),[]):=by
 have h:=λd H=>isname_call (d:=d) H n;by_cases h1:nameB n=true
 ·rw[h1]at h;by_cases h2:d≤1
  ·have c2:(d:Int)≤1:=by omega
   have e:sgOk ⟨n,d⟩=true:=by simp[sgOk,h1,h2]
   rw[e]
   (refine sv Tryz.f48 ?_;simp only[Tryz.f48,gS])
   (repeat first|simp only[ww]|(apply xa;simp+decide only[go_sem,h,c2];rfl;kernel_rfl))
   (apply fqb;simp+decide only[go_sem]<;>rfl)
  ·have c2:¬(d:Int)≤1:=by omega
   have e:sgOk ⟨n,d⟩=false:=by simp[sgOk,h2]
   rw[e]
   (refine sv Tryz.f48 ?_;simp only[Tryz.f48,gS])
   (repeat first|simp only[ww]|(apply xa;simp+decide only[go_sem,h,c2];rfl;kernel_rfl))
   (apply fqb;simp+decide only[go_sem]<;>rfl)
 ·have h1:nameB n=false:=by simpa using h1
  have e:sgOk ⟨n,d⟩=false:=by simp[sgOk,h1]
  rw[h1]at h;rw[e]
  (refine sv Tryz.f48 ?_;simp only[Tryz.f48,gS])
  (repeat first|simp only[ww]|(apply xa;simp+decide only[go_sem,h];rfl;kernel_rfl))
  (apply fqb;simp+decide only[go_sem]<;>rfl)
theorem tmv_ok(t:Tm):sem L.env Mf 49 [.agg (Tm.enc t)] []=some (.bool (tmOk t),[]):=by
 have h:=λd H=>isname_call (d:=d) H t.name;by_cases h1:nameB t.name=true
 ·rw[h1]at h;by_cases k0:(1:Int)≤t.per
  ·skip
   by_cases k1:t.per≤1000000
   ·skip
    by_cases k2:(0:Int)≤t.dr
    ·skip
     by_cases k3:t.dr<t.ri
     ·skip
      by_cases k4:t.ri<t.fa
      ·skip
       by_cases k5:t.fa<t.per
       ·skip
        by_cases k6:(0:Int)≤t.st
        ·skip
         by_cases k7:t.st<t.per
         ·have e:tmOk t=true:=by simp[tmOk,h1,k0,k1,k2,k3,k4,k5,k6,k7]
          rw[e]
          (refine sv Tryz.f49 ?_;simp only[Tryz.f49,gS])
          (repeat first|simp only[ww]|(apply xa;simp+decide only[go_sem,h,k0,k1,k2,k3,k4,k5,k6,k7];rfl;kernel_rfl))
          (apply fqb;simp+decide only[go_sem]<;>rfl)
         ·have e:tmOk t=false:=by simp[tmOk,k7]
          rw[e]
          (refine sv Tryz.f49 ?_;simp only[Tryz.f49,gS])
          (repeat first|simp only[ww]|(apply xa;simp+decide only[go_sem,h,k0,k1,k2,k3,k4,k5,k6,k7];rfl;kernel_rfl))
          (apply fqb;simp+decide only[go_sem]<;>rfl)
        ·have e:tmOk t=false:=by simp[tmOk,k6]
         rw[e]
         (refine sv Tryz.f49 ?_;simp only[Tryz.f49,gS])
         (repeat first|simp only[ww]|(apply xa;simp+decide only[go_sem,h,k0,k1,k2,k3,k4,k5,k6];rfl;kernel_rfl))
         (apply fqb;simp+decide only[go_sem]<;>rfl)
       ·have e:tmOk t=false:=by simp[tmOk,k5]
        rw[e]
        (refine sv Tryz.f49 ?_;simp only[Tryz.f49,gS])
        (repeat first|simp only[ww]|(apply xa;simp+decide only[go_sem,h,k0,k1,k2,k3,k4,k5];rfl;kernel_rfl))
        (apply fqb;simp+decide only[go_sem]<;>rfl)
      ·have e:tmOk t=false:=by simp[tmOk,k4]
       rw[e]
       (refine sv Tryz.f49 ?_;simp only[Tryz.f49,gS])
       (repeat first|simp only[ww]|(apply xa;simp+decide only[go_sem,h,k0,k1,k2,k3,k4];rfl;kernel_rfl))
       (apply fqb;simp+decide only[go_sem]<;>rfl)
     ·have e:tmOk t=false:=by simp[tmOk,k3]
      rw[e]
      (refine sv Tryz.f49 ?_;simp only[Tryz.f49,gS])
      (repeat first|simp only[ww]|(apply xa;simp+decide only[go_sem,h,k0,k1,k2,k3];rfl;kernel_rfl))
      (apply fqb;simp+decide only[go_sem]<;>rfl)
    ·have e:tmOk t=false:=by simp[tmOk,k2]
     rw[e]
     (refine sv Tryz.f49 ?_;simp only[Tryz.f49,gS])
     (repeat first|simp only[ww]|(apply xa;simp+decide only[go_sem,h,k0,k1,k2];rfl;kernel_rfl))
     (apply fqb;simp+decide only[go_sem]<;>rfl)
   ·have e:tmOk t=false:=by simp[tmOk,k1]
    rw[e]
    (refine sv Tryz.f49 ?_;simp only[Tryz.f49,gS])
    (repeat first|simp only[ww]|(apply xa;simp+decide only[go_sem,h,k0,k1];rfl;kernel_rfl))
    (apply fqb;simp+decide only[go_sem]<;>rfl)
  ·have e:tmOk t=false:=by simp[tmOk,k0]
   rw[e]
   (refine sv Tryz.f49 ?_;simp only[Tryz.f49,gS])
   (repeat first|simp only[ww]|(apply xa;simp+decide only[go_sem,h,k0];rfl;kernel_rfl))
   (apply fqb;simp+decide only[go_sem]<;>rfl)
 ·have h1:nameB t.name=false:=by simpa using h1
  have e:tmOk t=false:=by simp[tmOk,h1]
  rw[h1]at h;rw[e]
  (refine sv Tryz.f49 ?_;simp only[Tryz.f49,gS])
  (repeat first|simp only[ww]|(apply xa;simp+decide only[go_sem,h];rfl;kernel_rfl))
  (apply fqb;simp+decide only[go_sem]<;>rfl)
end Go.RInst
namespace Go.RInst
open Go.Proofs Go.Ax Go.Pc
variable [PR]
set_option maxRecDepth 100000
theorem ib0_ok(s:List UInt8)(c:UInt8):sem L.env Mf 86 [.str s,.int .u8 c.toNat] []=some (.int .i64 (Lib.indexByte s c),[]):=by
 have h:∀d H,callV L.env d (sem L.env Mf) (.func (.func 102) [] []) [.str s,.int .u8 c.toNat] H=some (.int .i64 (Lib.indexByte s c),H,[]):=λd H=>by
  have hx:L.env.ext 102=true:=by kernel_rfl
  have hn:(L.env.fn 102).isSome=false:=by kernel_rfl
  simp only[callV,hx,hn,cond_true,cond_false,List.nil_append,List.append_nil,aext,Int.toNat_natCast];simp
 (refine sv Tryz.f86 ?_;simp only[Tryz.f86,gS])
 (repeat first|simp only[ww]|(apply xa;simp+decide only[go_sem,h];rfl;kernel_rfl))
 (apply fqb;simp+decide only[go_sem]<;>rfl)
theorem ib_ok(s:List UInt8)(c:UInt8):sem L.env Mf 68 [.str s,.int .u8 c.toNat] []=some (.int .i64 (Lib.indexByte s c),[]):=by
 have h:=λd H=>callV_flat (E:=L.env) (draw:=d) (call:=sem L.env Mf) (g:=86) (fs:=[]) (cs:=[]) (ar:=[.str s,.int .u8 c.toNat]) (H:=H) (by kernel_rfl) (by kernel_rfl) rfl (by rfl) (ib0_ok s c) rfl
 (refine sv Tryz.f68 ?_;simp only[Tryz.f68,gS])
 (repeat first|simp only[ww]|(apply xa;simp+decide only[go_sem,h];rfl;kernel_rfl))
 (apply fqb;simp+decide only[go_sem]<;>rfl)
theorem ib_call{d:Bool}(H:Heap)(s:List UInt8)(c:UInt8):callV L.env d (sem L.env Mf) (.func (.func 68) [] []) [.str s,.int .u8 c.toNat] H=some (.int .i64 (Lib.indexByte s c),H,[]):=callV_flat (by kernel_rfl) (by kernel_rfl) rfl rfl (ib_ok s c) rfl
theorem sgE_flat(l:List Sg):FlatR (l.map Sg.enc):=FlatR.map λ_=>rfl
theorem tmE_flat(l:List Tm):FlatR (l.map Tm.enc):=FlatR.map λ_=>rfl
theorem vcE_flat(l:List Vc):FlatR (l.map Vc.enc):=FlatR.map λ_=>rfl
theorem vecv_ok(v:Vc)(rs rt:Option (Option Nat))(S:List Sg)(T:List Tm)(V:AV)(hV:refs V=[])(hVs:V.storable=true)(hS:S.length<1000000):sem L.env Mf 50 [.agg (Vc.enc v),.agg [sl rs (S.map Sg.enc),sl rt (T.map Tm.enc),V]] []=some (.bool (vcOk v S T.length),[]):=by
 by_cases k0:v.t<0
 ·have e:vcOk v S T.length=false:=by simp[vcOk];omega
  rw[e]
  (refine sv Tryz.f50 ?_;simp only[Tryz.f50,gS])
  (repeat first|simp only[ww]|(apply xa;simp+decide only[go_sem,k0,hV,hVs,List.length_map];rfl;kernel_rfl))
  (apply fqb;simp+decide only[go_sem]<;>rfl)
 by_cases k1:(T.length:Int)≤v.t
 ·have e:vcOk v S T.length=false:=by simp[vcOk];omega
  rw[e]
  (refine sv Tryz.f50 ?_;simp only[Tryz.f50,gS])
  (repeat first|simp only[ww]|(apply xa;simp+decide only[go_sem,k0,k1,hV,hVs,List.length_map];rfl;kernel_rfl))
  (apply fqb;simp+decide only[go_sem]<;>rfl)
 by_cases k2:v.rep<1
 ·have e:vcOk v S T.length=false:=by simp[vcOk];omega
  rw[e]
  (refine sv Tryz.f50 ?_;simp only[Tryz.f50,gS])
  (repeat first|simp only[ww]|(apply xa;simp+decide only[go_sem,k0,k1,k2,hV,hVs,List.length_map];rfl;kernel_rfl))
  (apply fqb;simp+decide only[go_sem]<;>rfl)
 by_cases k3:(1000000:Int)<v.rep
 ·have e:vcOk v S T.length=false:=by simp[vcOk];omega
  rw[e]
  (refine sv Tryz.f50 ?_;simp only[Tryz.f50,gS])
  (repeat first|simp only[ww]|(apply xa;simp+decide only[go_sem,k0,k1,k2,k3,hV,hVs,List.length_map];rfl;kernel_rfl))
  (apply fqb;simp+decide only[go_sem]<;>rfl)
 by_cases k4:(v.cells.length:Int)=S.length
 case neg=>
  have e:vcOk v S T.length=false:=by
   cases hc:cellsOk S v.cells with
   |false=>simp[vcOk,hc]
   |true=>exact absurd (by rw[cells_len S v.cells hc]) k4
  rw[e]
  (refine sv Tryz.f50 ?_;simp only[Tryz.f50,gS])
  (repeat first|simp only[ww]|(apply xa;simp+decide only[go_sem,k0,k1,k2,k3,k4,hV,hVs,List.length_map];rfl;kernel_rfl))
  (apply fqb;simp+decide only[go_sem]<;>rfl)
 have k5:S.length=v.cells.length:=by omega
 have eV:vcOk v S T.length=cellsOk S v.cells:=by unfold vcOk;rw[decide_eq_true (by omega:0≤v.t),decide_eq_true (by omega:v.t<T.length),decide_eq_true (by omega:1≤v.rep),decide_eq_true (by omega:v.rep≤1000000)];rfl
 rw[eV]
 suffices hs:∃r:AV×Heap,(r=(.bool (cellsOk S v.cells),[]))∧sem L.env Mf 50 [.agg (Vc.enc v),.agg [sl rs (S.map Sg.enc),sl rt (T.map Tm.enc),V]] []=some r by obtain⟨r,rfl,h3⟩:=hs;exact h3
 have hib:=λd H s c=>ib_call (d:=d) H s c
 (refine svE Tryz.f50 ?_;simp only[Tryz.f50,gS])
 (repeat first|simp only[ww]|(apply xa;simp+decide only[go_sem,k0,k1,k2,k3,k4,hV,hVs,List.length_map];rfl;kernel_rfl))
 refine xp_loop3 (σ:=Nat) kp50_0 (λi=>[(2,.ptr 0 0 0),(39,sl rs (S.map Sg.enc)),(40,.int .i64 S.length),(41,.int .i64 (i:Nat))]) (λ_=>[some (.row 3 [Vc.enc v])]) (λi=>S.length-i) (λi=>i≤S.length∧∀(j:Nat) (s:Sg) (c:UInt8),j<i→S[j]?=some s→v.cells[j]?=some c→(letters s.dir).contains c=true) 0 ?_ ⟨Nat.zero_le _,λj _ _ h=>by omega⟩ ?_
 ·(simp+decide only[go_sem,gcD_eq,gcIds_eq]<;>rfl)
 ·rintro i ⟨hi,hall⟩
  by_cases hlt:i<S.length
  ·have l1:(i:Int)<S.length:=by omega
   obtain⟨s,hs⟩:∃s,S[i]?=some s:=⟨_,List.getElem?_eq_getElem hlt⟩
   obtain⟨c,hc⟩:∃c,v.cells[i]?=some c:=⟨_,List.getElem?_eq_getElem (by omega)⟩
   have hw:IntKind.i64.wrap ((i:Int)+1)=((i+1:Nat):Int):=by rw[w64 (by omega) (by omega)];omega
   have hsm:(S.map Sg.enc)[i]?=some (Sg.enc s):=by rw[List.getElem?_map,hs];rfl
   have hnext:(letters s.dir).contains c=true→∀(j:Nat) (s:Sg) (c:UInt8),j<i+1→S[j]?=some s→v.cells[j]?=some c→(letters s.dir).contains c=true:=by
    intro h j s' c' hj h1 h2;by_cases e:j=i
    ·subst e;rw[hs]at h1;rw[hc]at h2;cases h1;cases h2;exact h
    ·exact hall j s' c' (by omega) h1 h2
   have hlc:i<v.cells.length:=by omega
   by_cases hd:s.dir=1
   ·have d1:(s.dir:Int)=1:=by omega
    have hL:letters s.dir=[76,72,88]:=by rw[hd];rfl
    by_cases hk:(letters s.dir).contains c=true
    ·have c1:¬Lib.indexByte [76,72,88] c<0:=by have:=ib_yes _ _ hk;rw[hL]at this;omega
     (repeat first|simp only[ww]|(apply xa;simp+decide only[go_sem,l1,hw,hsm,hs,hc,hlc,d1,hib,c1,List.length_map];rfl;kernel_rfl))
     refine lp_n (i+1) ?_ (by omega) ⟨by omega,hnext hk⟩
     (simp+decide only[go_sem,gcD_eq,gcIds_eq]<;>rfl)
    ·have hk:(letters s.dir).contains c=false:=by cases h:(letters s.dir).contains c with|true=>exact absurd h hk|false=>rfl
     have c1:Lib.indexByte [76,72,88] c<0:=by have:=ib_no _ _ hk;rw[hL]at this;omega
     have hr:cellsOk S v.cells=false:=cells_false S v.cells i s c hs hc hk
     (repeat first|simp only[ww]|(apply xa;simp+decide only[go_sem,l1,hw,hsm,hs,hc,hlc,d1,hib,c1,List.length_map];rfl;kernel_rfl))
     (apply fqEb;(·simp+decide only[go_sem]<;>rfl))
     rw[hr]
   ·have d1:¬(s.dir:Int)=1:=by omega
    have hL:letters s.dir=[48,49,88,80]:=if_neg hd;by_cases hk:(letters s.dir).contains c=true
    ·have c1:¬Lib.indexByte [48,49,88,80] c<0:=by have:=ib_yes _ _ hk;rw[hL]at this;omega
     (repeat first|simp only[ww]|(apply xa;simp+decide only[go_sem,l1,hw,hsm,hs,hc,hlc,d1,hib,c1,List.length_map];rfl;kernel_rfl))
     refine lp_n (i+1) ?_ (by omega) ⟨by omega,hnext hk⟩
     (simp+decide only[go_sem,gcD_eq,gcIds_eq]<;>rfl)
    ·have hk:(letters s.dir).contains c=false:=by cases h:(letters s.dir).contains c with|true=>exact absurd h hk|false=>rfl
     have c1:Lib.indexByte [48,49,88,80] c<0:=by have:=ib_no _ _ hk;rw[hL]at this;omega
     have hr:cellsOk S v.cells=false:=cells_false S v.cells i s c hs hc hk
     (repeat first|simp only[ww]|(apply xa;simp+decide only[go_sem,l1,hw,hsm,hs,hc,hlc,d1,hib,c1,List.length_map];rfl;kernel_rfl))
     (apply fqEb;(·simp+decide only[go_sem]<;>rfl))
     rw[hr]
  ·have l1:¬(i:Int)<S.length:=by omega
   have hr:cellsOk S v.cells=true:=cells_true S v.cells k5 λj s c h1 h2=>hall j s c (by have:=(List.getElem?_eq_some_iff.1 h1).1;omega) h1 h2
   (repeat first|simp only[ww]|(apply xa;simp+decide only[go_sem,l1];rfl;kernel_rfl))
   (apply fqEb;(·simp+decide only[go_sem]<;>rfl))
   rw[hr]
end Go.RInst
namespace Go.RInst
open Go.Proofs Go.Ax Go.Pc
variable [PR]
set_option maxRecDepth 100000
theorem twice_nil:sem L.env Mf 51 [.nilslice] []=some (.bool false,[]):=sem_of (E:=L.env) sems_nil 60 (by kernel_rfl)
def stR(s:List UInt8):List AV:=[.str s]
theorem stR_flat(l:List (List UInt8)):FlatR (l.map stR):=FlatR.map λ_=>rfl
theorem clone_ok(n:Nat)(R:List (List AV))(hn:R.length=n)(h0:0<n)(h1:n≤1000)(hall:R.all (λr=>decide (r.length=1))=true):sem L.env Mf 69 [.slice 0 0 n none] [some (.row 1 R)]=some (.slice 2 0 n none,[some (.row 1 R),some (.row 1 []),some (.row 1 R)]):=by
 have hb:L.env.bytes 9=16:=by kernel_rfl
 have hrm:roomOk L.env 9 n=true:=room_ok (by omega) (by rw[hb];decide);have d1:¬n≤0:=by omega
 have ht:R.take n=R:=List.take_of_length_le (by omega)
 (refine sv Tryz.f69 ?_;simp only[Tryz.f69,gS])
 (repeat first|simp only[ww]|(apply xa;simp+decide only[go_sem,hall,hn,d1,hrm,ht,Nat.zero_add];rfl;kernel_rfl))
 (apply fqb;simp+decide only[go_sem]<;>rfl)
theorem clone_call(n:Nat)(l:List (List UInt8))(hn:l.length=n)(h0:0<n)(h1:n≤1000):callV L.env false (sem L.env Mf) (.func (.func 69) [] []) [.slice 0 0 n none] [some (.row 1 (l.map stR))]=some (.slice 2 0 n none,[some (.row 1 (l.map stR)),some (.row 1 []),some (.row 1 (l.map stR))],[0]):=by
 have hr:=λπ=>renR_flat π (stR_flat l);have hall:(l.map stR).all (λr=>decide (r.length=1))=true:=by rw[List.all_eq_true];intro r hr;obtain⟨x,_,rfl⟩:=List.mem_map.1 hr;rfl
 have hc:=callLoc_eq (sem L.env Mf 69) [.slice 0 0 n none] [some (.row 1 (l.map stR))] (σ:=[0]) (reach_one (refsO_flat (stR_flat l))) rfl rfl (args':=[.slice 0 0 n none]) rfl (H0:=[some (.row 1 (l.map stR))]) (by simp only[smallH,List.map_cons,List.map_nil,HeapF,List.getElem?_cons_zero,Option.join_some,Option.map_some,renObj,hr]) (clone_ok n (l.map stR) (by simp[hn]) h0 h1 hall);refine callV_eqn (by kernel_rfl) (by kernel_rfl) rfl (hc.trans ?_);have e1:putBack [0] 1 [some (.row 1 (l.map stR)),some (.row 1 []),some (.row 1 (l.map stR))] 0 [some (.row 1 (l.map stR))]=[some (.row 1 (l.map stR))]:=by rw[putBack_cons,putBack_nil'];show [Option.map (renObj _) (some (AObj.row 1 (l.map stR)))]=_;simp only[Option.map_some,renObj,hr]
 show some (_,putBack [0] 1 _ 0 _++_,_)=_;rw[e1];simp only[List.length_cons,List.length_nil,List.drop_succ_cons,List.drop_zero,List.map_cons,List.map_nil,Option.map_some,renObj,hr];rfl
theorem sorts_ok(n:Nat)(l:List (List UInt8))(hn:l.length=n)(h0:0<n)(h1:n≤1000):sem L.env Mf 70 [.slice 0 0 n none] [some (.row 1 (l.map stR))]=some (.tuple [],[some (.row 1 ((sortS l).map stR))]):=by
 refine sem_run (by intro y hy;cases hy) 0 ?_;have hp:primH L.env 70 [.slice 0 0 n none] [some (.row 1 (l.map stR))]=some (.tuple [],[some (.row 1 ((sortS l).map stR))]):=by
  show sortP [.slice 0 0 n none] [some (.row 1 (l.map stR))]=_;have b1:Nat.beq n (l.map stR).length=true:=by rw[Nat.beq_eq,List.length_map];exact hn.symm
  have b2:Nat.blt 0 n=true:=by rw[Nat.blt_eq];exact h0
  have b3:Nat.ble n bigB=true:=by rw[Nat.ble_eq];exact Nat.le_trans h1 (by decide)
  have b4:unS (l.map stR)=some l:=unS_strs l;simp only[sortP,b1,b2,b3,b4];rfl
 unfold runFn;rw[hp]
theorem compact_ok(n:Nat)(m:List (List UInt8))(hn:m.length=n)(h1:n≤1000)(hd:∀k a b,m[k]?=some a→m[k+1]?=some b→¬b=a):sem L.env Mf 71 [.slice 0 0 n none] [some (.row 1 (m.map stR))]=some (.slice 0 0 n none,[some (.row 1 (m.map stR))]):=by
 have hr:=λπ=>renR_flat π (stR_flat m);have hrf:=refs_flatR (stR_flat m);have hfz:=λq d=>frzR_flat q d (stR_flat m);by_cases h2:(n:Int)<2
 ·(refine sv Tryz.f71 ?_;simp only[Tryz.f71,gS])
  (repeat first|simp only[ww]|(apply xa;simp+decide only[go_sem,h2];rfl;kernel_rfl))
  (apply fqb;simp+decide only[go_sem,hr,hfz,hrf]<;>rfl)
 ·(refine sv Tryz.f71 ?_;simp only[Tryz.f71,gS])
  (repeat first|simp only[ww]|(apply xa;simp+decide only[go_sem,h2];rfl;kernel_rfl))
  refine xp_loop3 (σ:=Nat) kp71_0 (λi=>[(0,.slice 0 0 n none),(3,.int .i64 (i:Nat))]) (λ_=>[some (.row 1 (m.map stR))]) (λi=>n-i) (λi=>1≤i∧i≤n) 1 ?_ ⟨Nat.le_refl _,by omega⟩ ?_
  ·(simp+decide only[go_sem,gcD_eq,gcIds_eq,hr,hrf]<;>rfl)
  ·rintro i ⟨hi1,hi⟩
   by_cases hlt:i<n
   ·have l1:(i:Int)<n:=by omega
    obtain⟨b,hb⟩:∃b,m[i]?=some b:=⟨_,List.getElem?_eq_getElem (by omega)⟩
    obtain⟨a,ha⟩:∃a,m[i-1]?=some a:=⟨_,List.getElem?_eq_getElem (by omega)⟩
    have hba:¬b=a:=hd (i-1) a b ha (by rw[show i-1+1=i by omega];exact hb);have hw:IntKind.i64.wrap ((i:Int)+1)=((i+1:Nat):Int):=by rw[w64 (by omega) (by omega)];omega
    have hw2:IntKind.i64.wrap ((i:Int)-1)=((i-1:Nat):Int):=by rw[w64 (by omega) (by omega)];omega
    have g1:(m.map stR)[i]?=some [.str b]:=by rw[List.getElem?_map,hb];rfl
    have g2:(m.map stR)[i-1]?=some [.str a]:=by rw[List.getElem?_map,ha];rfl
    have l2:i-1<n:=by omega
    (repeat first|simp only[ww]|(apply xa;simp+decide only[go_sem,l1,hlt,l2,hba,hw,hw2,g1,g2];rfl;kernel_rfl))
    refine lp_n (i+1) ?_ (by omega) ⟨by omega,by omega⟩
    (simp+decide only[go_sem,gcD_eq,gcIds_eq,hr,hrf]<;>rfl)
   ·have l1:¬(i:Int)<n:=by omega
    (repeat first|simp only[ww]|(apply xa;simp+decide only[go_sem,l1];rfl;kernel_rfl))
    (apply fqb;simp+decide only[go_sem,hr,hfz,hrf]<;>rfl)
theorem sort_adj{l:List (List UInt8)}(h:l.Nodup):∀k a b,(sortS l)[k]?=some a→(sortS l)[k+1]?=some b→¬b=a:=by intro k a b h1 h2 e;have hn:(sortS l).Nodup:=(sortS_perm l).symm.nodup h;obtain⟨l1,e1⟩:=List.getElem?_eq_some_iff.1 h1;obtain⟨l2,e2⟩:=List.getElem?_eq_some_iff.1 h2;exact List.pairwise_iff_getElem.1 hn k (k+1) l1 l2 (by omega) (by rw[e1,e2,e])
theorem twice_nd(n:Nat)(l:List (List UInt8))(hn:l.length=n)(h0:0<n)(h1:n≤1000)(hd:l.Nodup):sem L.env Mf 51 [.slice 0 0 n none] [some (.row 1 (l.map stR))]=some (.bool false,[some (.row 1 (l.map stR))]):=by
 have hr:=λπ=>renR_flat π (stR_flat l);have hrf:=refs_flatR (stR_flat l);have hfz:=λq d=>frzR_flat q d (stR_flat l);have hl':(sortS l).length=n:=by rw[(sortS_perm l).length_eq,hn]
 have k1:=clone_call n l hn h0 h1;have k2:callV L.env false (sem L.env Mf) (.func (.func 70) [] []) [.slice 2 0 n none] [some (.row 1 (l.map stR)),some (.row 1 []),some (.row 1 (l.map stR))]=some (.tuple [],[some (.row 1 (l.map stR)),some (.row 1 []),some (.row 1 ((sortS l).map stR))],[2]):=callV_one' (by kernel_rfl) (by kernel_rfl) rfl (b:=2) (o:=.row 1 (l.map stR)) (o':=.row 1 ((sortS l).map stR)) rfl (refsO_flat (stR_flat l)) (FlatO.row (stR_flat l)) rfl rfl (sorts_ok n l hn h0 h1) (FlatO.row (stR_flat _)) rfl;have k3:callV L.env false (sem L.env Mf) (.func (.func 71) [] []) [.slice 2 0 n none] [some (.row 1 (l.map stR)),some (.row 1 []),some (.row 1 ((sortS l).map stR))]=some (.slice 2 0 n none,[some (.row 1 (l.map stR)),some (.row 1 []),some (.row 1 ((sortS l).map stR))],[2]):=callV_one' (by kernel_rfl) (by kernel_rfl) rfl (b:=2) (o:=.row 1 ((sortS l).map stR)) (o':=.row 1 ((sortS l).map stR)) rfl (refsO_flat (stR_flat _)) (FlatO.row (stR_flat _)) rfl rfl (compact_ok n _ hl' h1 (sort_adj hd)) (FlatO.row (stR_flat _)) rfl;have l1:¬(n:Int)<n:=by omega
 (refine sv Tryz.f51 ?_;simp only[Tryz.f51,gS])
 (repeat first|simp only[ww]|(apply xa;simp+decide only[go_sem,k1,k2,k3,l1];rfl;kernel_rfl))
 (apply fqb;simp+decide only[go_sem,hr,hfz,hrf]<;>rfl)
end Go.RInst
namespace Go.RInst
open Go.Proofs Go.Ax Go.Pc
variable [PR]
set_option maxRecDepth 100000
/-- Where two neighbours are equal the result is shorter. -/
theorem compact_dup(n:Nat)(m:List (List UInt8))(hn:m.length=n)(h1:n≤1000)(j:Nat)(hj:1≤j)(hjn:j<n)(hd:∀k a b,k+1<j→m[k]?=some a→m[k+1]?=some b→¬b=a)(x:List UInt8)(hx1:m[j-1]?=some x)(hx2:m[j]?=some x) :
 ∃r:AV×Heap,(∃i R,i<n∧R.length=n∧FlatR R∧r=(.slice 0 0 i none,[some (.row 1 R)]))∧sem L.env Mf 71 [.slice 0 0 n none] [some (.row 1 (m.map stR))]=some r:=by
 have hr:=λπ=>renR_flat π (stR_flat m);have hrf:=refs_flatR (stR_flat m);have h2:¬(n:Int)<2:=by omega
 (refine svE Tryz.f71 ?_;simp only[Tryz.f71,gS])
 (repeat first|simp only[ww]|(apply xa;simp+decide only[go_sem,h2];rfl;kernel_rfl))
 refine xp_loop3 (σ:=Nat) kp71_0 (λi=>[(0,.slice 0 0 n none),(3,.int .i64 (i:Nat))]) (λ_=>[some (.row 1 (m.map stR))]) (λi=>n-i) (λi=>1≤i∧i≤j) 1 ?_ ⟨Nat.le_refl _,hj⟩ ?_
 ·(simp+decide only[go_sem,gcD_eq,gcIds_eq,hr,hrf]<;>rfl)
 ·rintro i ⟨hi1,hi⟩
  have hlt:i<n:=by omega
  have l1:(i:Int)<n:=by omega
  have hw:IntKind.i64.wrap ((i:Int)+1)=((i+1:Nat):Int):=by rw[w64 (by omega) (by omega)];omega
  have hw2:IntKind.i64.wrap ((i:Int)-1)=((i-1:Nat):Int):=by rw[w64 (by omega) (by omega)];omega
  have l2:i-1<n:=by omega
  by_cases hij:i=j
  ·subst hij;have g1:(m.map stR)[i]?=some [.str x]:=by rw[List.getElem?_map,hx2];rfl
   have g2:(m.map stR)[i-1]?=some [.str x]:=by rw[List.getElem?_map,hx1];rfl
   have l3:i≤n:=by omega
   (repeat first|simp only[ww]|(apply xa;simp+decide only[go_sem,l1,hlt,l2,l3,hw,hw2,g1,g2,Nat.zero_add];rfl;kernel_rfl))
   refine xp_loop3 (σ:=Nat×Nat×List (List UInt8)) kp71_2 (λs=>[(0,.slice 0 0 n none),(3,.int .i64 (s.1:Nat)),(4,.slice 0 i (n-i) none),(5,.int .i64 (s.2.1:Nat))]) (λs=>[some (.row 1 (s.2.2.map stR))]) (λs=>n-i-s.2.1) (λs=>s.2.2.length=n∧1≤s.2.1∧s.2.1≤n-i∧i≤s.1∧s.1+1≤i+s.2.1) (i,1,m) ?_ ⟨hn,Nat.le_refl _,by simp only;omega,Nat.le_refl _,Nat.le_refl _⟩ ?_
   ·(simp+decide only[go_sem,gcD_eq,gcIds_eq,hr,hrf]<;>rfl)
   ·rintro⟨p,k,M⟩ ⟨hM,hk1,hk2,hp1,hp2⟩
    simp only at hM hk1 hk2 hp1 hp2⊢;have hMr:=λπ=>renR_flat π (stR_flat M);have hMf:=refs_flatR (stR_flat M);have hMl:(M.map stR).length=n:=by rw[List.length_map,hM]
    by_cases hkl:k<n-i
    ·have c1:(k:Int)<((n-i:Nat):Int):=by omega
     obtain⟨a,ha⟩:∃a,M[i+k]?=some a:=⟨_,List.getElem?_eq_getElem (by omega)⟩
     obtain⟨b,hb⟩:∃b,M[i+(k-1)]?=some b:=⟨_,List.getElem?_eq_getElem (by omega)⟩
     have g3:(M.map stR)[i+k]?=some [.str a]:=by rw[List.getElem?_map,ha];rfl
     have g4:(M.map stR)[i+(k-1)]?=some [.str b]:=by rw[List.getElem?_map,hb];rfl
     have hwk:IntKind.i64.wrap ((k:Int)+1)=((k+1:Nat):Int):=by rw[w64 (by omega) (by omega)];omega
     have hwk2:IntKind.i64.wrap ((k:Int)-1)=((k-1:Nat):Int):=by rw[w64 (by omega) (by omega)];omega
     have hwp:IntKind.i64.wrap ((p:Int)+1)=((p+1:Nat):Int):=by rw[w64 (by omega) (by omega)];omega
     have l4:k-1<n-i:=by omega
     by_cases hab:a=b
     ·(repeat first|simp only[ww]|(apply xa;simp+decide only[go_sem,c1,hkl,l4,hwk,hwk2,g3,g4,hab];rfl;kernel_rfl))
      refine lp_n (p,k+1,M) ?_ (by simp only;omega) ⟨hM,by simp only;omega,by simp only;omega,by simp only;omega,by simp only;omega⟩
      (simp+decide only[go_sem,gcD_eq,gcIds_eq,hMr,hMf]<;>rfl)
     ·have hpn:p<n:=by omega
      have hset:(M.set p a).map stR=(M.map stR).set p [.str a]:=by rw[List.map_set];rfl
      have hSr:=λπ=>renR_flat π (stR_flat (M.set p a));have hSf:=refs_flatR (stR_flat (M.set p a));rw[hset]at hSr hSf;obtain⟨c,hc⟩:∃c,M[p]?=some c:=⟨_,List.getElem?_eq_getElem (by omega)⟩
      have g5:(M.map stR)[p]?=some [.str c]:=by rw[List.getElem?_map,hc];rfl
      (repeat first|simp only[ww]|(apply xa;simp+decide only[go_sem,c1,hkl,l4,hwk,hwk2,hwp,g3,g4,g5,hab,hpn];rfl;kernel_rfl))
      refine lp_n (p+1,k+1,M.set p a) ?_ (by simp only;omega) ⟨by simp only[List.length_set];exact hM,by simp only;omega,by simp only;omega,by simp only;omega,by simp only;omega⟩;simp only[hset]
      (simp+decide only[go_sem,gcD_eq,gcIds_eq,hSr,hSf]<;>rfl)
    ·have c1:¬(k:Int)<((n-i:Nat):Int):=by omega
     have l5:p≤n:=by omega
     have l6:¬n-p=0:=by omega
     have l7:0+p+(n-p)≤n:=by omega
     have l8:p+(n-p)≤n:=by omega
     have hR:FlatR ((M.map stR).take p++List.replicate (n-p) [.str []]++(M.map stR).drop (p+(n-p))):=FlatR.append (FlatR.append (stR_flat M).take (FlatR.replicate rfl)) (stR_flat M).drop;have hRl:((M.map stR).take p++List.replicate (n-p) [AV.str []]++(M.map stR).drop (p+(n-p))).length=n:=by simp[hM];omega
     have hRr:=λπ=>renR_flat π hR;have hRf:=refs_flatR hR;have hRz:=λq d=>frzR_flat q d hR;have hZ:constCell (Value.string { data:=#[] })=AV.str []:=rfl
     (repeat first|simp only[ww]|(apply xa;simp+decide only[go_sem,c1,l5,l6,l7,l8,Nat.zero_add,hMl,hZ];rfl;kernel_rfl))
     generalize(M.map stR).take p++List.replicate (n-p) [AV.str []]++(M.map stR).drop (p+(n-p))=R at *
     (apply fqEb;(·simp+decide only[go_sem,hRr,hRf,hRz]<;>rfl))
     exact⟨p,_,by omega,hRl,hR,rfl⟩
  ·obtain⟨b,hb⟩:∃b,m[i]?=some b:=⟨_,List.getElem?_eq_getElem (by omega)⟩
   obtain⟨a,ha⟩:∃a,m[i-1]?=some a:=⟨_,List.getElem?_eq_getElem (by omega)⟩
   have hba:¬b=a:=hd (i-1) a b (by omega) ha (by rw[show i-1+1=i by omega];exact hb);have g1:(m.map stR)[i]?=some [.str b]:=by rw[List.getElem?_map,hb];rfl
   have g2:(m.map stR)[i-1]?=some [.str a]:=by rw[List.getElem?_map,ha];rfl
   (repeat first|simp only[ww]|(apply xa;simp+decide only[go_sem,l1,hlt,l2,hba,hw,hw2,g1,g2];rfl;kernel_rfl))
   refine lp_n (i+1) ?_ (by omega) ⟨by omega,by omega⟩
   (simp+decide only[go_sem,gcD_eq,gcIds_eq,hr,hrf]<;>rfl)
end Go.RInst
namespace Go.RInst
open Go.Proofs Go.Ax Go.Pc
variable [PR]
set_option maxRecDepth 100000
def snR(s:Sg):List AV:=[.str s.name]
def tnR(t:Tm):List AV:=[.str t.name]
theorem snR_flat(l:List Sg):FlatR (l.map snR):=FlatR.map λ_=>rfl
theorem tnR_flat(l:List Tm):FlatR (l.map tnR):=FlatR.map λ_=>rfl
theorem snR_str(l:List Sg):l.map snR=(l.map Sg.name).map stR:=by simp[snR,stR]
theorem tnR_str(l:List Tm):l.map tnR=(l.map Tm.name).map stR:=by simp[tnR,stR]
theorem take_s{α:Type}{l:List α}{i:Nat}{x:α}(h:l[i]?=some x):l.take (i+1)=l.take i++[x]:=by rw[List.take_add_one,h];rfl
theorem tw_call{d:Bool}(H:Heap)(b:Nat)(ns:List (List UInt8))(hH:ns≠[]→HeapF H b=some (.row 1 (ns.map stR)))(hn:ns.length≤1000)(hd:ns.Nodup):∃σ,callV L.env d (sem L.env Mf) (.func (.func 51) [] []) [grV b (ns.map stR)] H=some (.bool false,H,σ):=by
 cases ns with
 |nil=>exact⟨[],callV_flat (by kernel_rfl) (by kernel_rfl) rfl rfl twice_nil rfl⟩
 |cons a r=>refine⟨[b],?_⟩;rw[grV_ne b (by simp),List.length_map];exact callV_one (by kernel_rfl) (by kernel_rfl) rfl (hH (by simp)) (refsO_flat (stR_flat _)) (FlatO.row (stR_flat _)) rfl (ren_slice1 b 0 _ _▸rfl) (twice_nd (a::r).length (a::r) rfl (by simp) hn hd) rfl
def repSum(V:List Vc):Int:=(V.map Vc.rep).sum
theorem repSum_s(V:List Vc){i:Nat}{v:Vc}(h:V[i]?=some v):repSum (V.take (i+1))=repSum (V.take i)+v.rep:=by rw[take_s h];simp[repSum]
theorem repSum_nn:∀(V:List Vc),(∀v∈V,0≤v.rep)→0≤repSum V
 | [],_=>by simp[repSum]
 |v::V,h=>by have:=repSum_nn V λx hx=>h x (by simp[hx]);have:=h v (by simp);simp[repSum]at *;omega
theorem repSum_le(V:List Vc)(h:∀v∈V,0≤v.rep)(i:Nat):repSum (V.take i)≤repSum V:=by
 have e:repSum V=repSum (V.take i)+repSum (V.drop i):=by unfold repSum;rw[←List.sum_append,←List.map_append,List.take_append_drop]
 have:=repSum_nn (V.drop i) λv hv=>h v (List.mem_of_mem_drop hv);omega
/-- A valid program of few parts. -/
structure Valid(S:List Sg)(T:List Tm)(V:List Vc):Prop where
 hS:S.length≤100
 hT:T.length≤16
 hV:V.length≤100
 sg:∀s∈S,sgOk s=true
 tm:∀t∈T,tmOk t=true
 vc:∀v∈V,vcOk v S T.length=true
 sn:(S.map Sg.name).Nodup
 tn:(T.map Tm.name).Nodup
 sum:repSum V≤1000000
theorem Valid.rep{S:List Sg}{T:List Tm}{V:List Vc}(h:Valid S T V):∀v∈V,1≤v.rep∧v.rep≤1000000:=by intro v hv;have:=h.vc v hv;simp only[vcOk,Bool.and_eq_true,decide_eq_true_eq]at this;exact⟨this.2.2.1,this.2.2.2.1⟩
theorem check_ok(rs rt rv:Option (Option Nat))(S:List Sg)(T:List Tm)(V:List Vc)(h:Valid S T V):sem L.env Mf 21 [.agg [sl rs (S.map Sg.enc),sl rt (T.map Tm.enc),sl rv (V.map Vc.enc)]] []=some (.int .i64 0,[]):=by
 have hS:=h.hS;have hT:=h.hT;have hV:=h.hV;have c1:¬(256:Int)<S.length:=by omega
 have c2:¬(16:Int)<T.length:=by omega
 have c3:¬(65536:Int)<V.length:=by omega
 have hsg:=λd H n k=>callV_flat (E:=L.env) (draw:=d) (call:=sem L.env Mf) (g:=48) (fs:=[]) (cs:=[]) (ar:=[.agg [.str n,.int .u8 (k:Nat)]]) (H:=H) (by kernel_rfl) (by kernel_rfl) rfl (by rfl) (sgv_ok n k) rfl;have htm:=λd H t=>callV_flat (E:=L.env) (draw:=d) (call:=sem L.env Mf) (g:=49) (fs:=[]) (cs:=[]) (ar:=[.agg (Tm.enc t)]) (H:=H) (by kernel_rfl) (by kernel_rfl) rfl (by rfl) (tmv_ok t) rfl;have hvc:=λd H v=>callV_flat (E:=L.env) (draw:=d) (call:=sem L.env Mf) (g:=50) (fs:=[]) (cs:=[]) (ar:=[.agg (Vc.enc v),.agg [sl rs (S.map Sg.enc),sl rt (T.map Tm.enc),sl rv (V.map Vc.enc)]]) (H:=H) (by kernel_rfl) (by kernel_rfl) rfl (by simp+decide only[go_sem]<;>rfl) (vecv_ok v rs rt S T (sl rv (V.map Vc.enc)) (by simp+decide only[go_sem]) (by simp+decide only[go_sem]) (by omega)) rfl
 (refine sv Tryz.f21 ?_;simp only[Tryz.f21,gS])
 (repeat first|simp only[ww]|(apply xa;simp+decide only[go_sem,c1,c2,c3,List.length_map];rfl;kernel_rfl))
 refine xp_loop3 (σ:=Nat) kp21_0 (λi=>[(1,.ptr 0 0 0),(3,grV 1 ((S.take i).map snR)),(4,.nilslice),(29,sl rs (S.map Sg.enc)),(30,.int .i64 S.length),(31,.int .i64 (i:Nat))]) (λi=>some (.row 3 [[sl rs (S.map Sg.enc),sl rt (T.map Tm.enc),sl rv (V.map Vc.enc)]])::grH 1 ((S.take i).map snR)) (λi=>S.length-i) (λi=>i≤S.length) 0 ?_ (Nat.zero_le _) ?_
 ·(simp+decide only[go_sem,gcD_eq,gcIds_eq,List.take_zero,List.map_nil,grV_nil,grH_nil]<;>rfl)
 ·intro i hi;by_cases hlt:i<S.length
  ·have l1:(i:Int)<S.length:=by omega
   obtain⟨s,hs⟩:∃s,S[i]?=some s:=⟨_,List.getElem?_eq_getElem hlt⟩
   have hv1:sgOk ⟨s.name,s.dir⟩=true:=h.sg s (List.mem_of_getElem? hs);have hval:=hsg;have hsm:(S.map Sg.enc)[i]?=some (Sg.enc s):=by rw[List.getElem?_map,hs];rfl
   have hw:IntKind.i64.wrap ((i:Int)+1)=((i+1:Nat):Int):=by rw[w64 (by omega) (by omega)];omega
   have hsr:(S.take (i+1)).map snR=(S.take i).map snR++[[.str s.name]]:=by rw[take_s hs,List.map_append];rfl
   have h5:=refs_flatR (snR_flat (S.take (i+1)));have h6:=λπ=>renR_flat π (snR_flat (S.take (i+1)));have hlen:((S.take i).map snR).length=i:=by rw[List.length_map,List.length_take];omega
   have hrm:i+1≤1000000000:=by omega
   by_cases hk:i=0
   ·subst hk;have e0:(S.take 0).map snR=[]:=rfl;rw[e0]at hsr⊢;simp only[List.nil_append]at hsr
    (repeat first|simp only[ww]|(apply xa;simp+decide only[go_sem,l1,hlt,hsm,hval,hv1,hw,List.length_map,grV_nil,grH_nil];rfl;kernel_rfl))
    refine lp_n (0+1) ?_ (by omega) (by omega)
    (simp+decide only[go_sem,gcD_eq,gcIds_eq,hsr,grV_cons,grH_cons,List.length_nil]<;>rfl)
   ·have hne:(S.take i).map snR≠[]:=by intro e;rw[e]at hlen;simp at hlen;omega
    rw[grV_ne 1 hne,grH_ne 1 hne,hlen];rw[hsr]at h5 h6;generalize(S.take i).map snR=R at hsr hlen h5 h6
    (repeat first|simp only[ww]|(apply xa;simp+decide only[go_sem,l1,hlt,hsm,hval,hv1,hw,hlen,hrm,List.length_map];rfl;kernel_rfl))
    refine lp_n (i+1) ?_ (by omega) (by omega)
    (simp+decide only[go_sem,gcD_eq,gcIds_eq,hsr,grV_snoc,grH_snoc,h5,h6,hlen]<;>rfl)
  ·obtain rfl:i=S.length:=by omega
   have l1:¬(S.length:Int)<S.length:=by omega
   have hf1:=refs_flatR (snR_flat S);have hf2:=λπ=>renR_flat π (snR_flat S);rw[List.take_length];by_cases hk:S=[]
   ·have e1:S.map snR=[]:=by rw[hk];rfl
    rw[e1];simp only[grV_nil,grH_nil]
    (repeat first|simp only[ww]|(apply xa;simp+decide only[go_sem,l1,List.length_map];rfl;kernel_rfl))
    refine xp_loop3 (σ:=Nat) kp21_2 (λi=>[(1,.ptr 0 0 0),(3,.nilslice),(4,grV 1 ((T.take i).map tnR)),(45,sl rt (T.map Tm.enc)),(46,.int .i64 T.length),(47,.int .i64 (i:Nat))]) (λi=>some (.row 3 [[sl rs (S.map Sg.enc),sl rt (T.map Tm.enc),sl rv (V.map Vc.enc)]])::grH 1 ((T.take i).map tnR)) (λi=>T.length-i) (λi=>i≤T.length) 0 ?_ (Nat.zero_le _) ?_
    ·(simp+decide only[go_sem,gcD_eq,gcIds_eq,List.take_zero,List.map_nil,grV_nil,grH_nil]<;>rfl)
    ·intro i hi;by_cases hlt:i<T.length
     ·have l1:(i:Int)<T.length:=by omega
      obtain⟨t,hs⟩:∃t,T[i]?=some t:=⟨_,List.getElem?_eq_getElem hlt⟩
      have hv1:tmOk t=true:=h.tm t (List.mem_of_getElem? hs);have hval:=htm;have hsm:(T.map Tm.enc)[i]?=some (Tm.enc t):=by rw[List.getElem?_map,hs];rfl
      have hw:IntKind.i64.wrap ((i:Int)+1)=((i+1:Nat):Int):=by rw[w64 (by omega) (by omega)];omega
      have hsr:(T.take (i+1)).map tnR=(T.take i).map tnR++[[.str t.name]]:=by rw[take_s hs,List.map_append];rfl
      have h5:=refs_flatR (tnR_flat (T.take (i+1)));have h6:=λπ=>renR_flat π (tnR_flat (T.take (i+1)));have hlen:((T.take i).map tnR).length=i:=by rw[List.length_map,List.length_take];omega
      have hrm:i+1≤1000000000:=by omega
      by_cases hk:i=0
      ·subst hk;have e0:(T.take 0).map tnR=[]:=rfl;rw[e0]at hsr⊢;simp only[List.nil_append]at hsr
       (repeat first|simp only[ww]|(apply xa;simp+decide only[go_sem,l1,hlt,hsm,hval,hv1,hw,List.length_map,grV_nil,grH_nil];rfl;kernel_rfl))
       refine lp_n (0+1) ?_ (by omega) (by omega)
       (simp+decide only[go_sem,gcD_eq,gcIds_eq,hsr,grV_cons,grH_cons,List.length_nil]<;>rfl)
      ·have hne:(T.take i).map tnR≠[]:=by intro e;rw[e]at hlen;simp at hlen;omega
       rw[grV_ne 1 hne,grH_ne 1 hne,hlen];rw[hsr]at h5 h6;generalize(T.take i).map tnR=R at hsr hlen h5 h6
       (repeat first|simp only[ww]|(apply xa;simp+decide only[go_sem,l1,hlt,hsm,hval,hv1,hw,hlen,hrm,List.length_map];rfl;kernel_rfl))
       refine lp_n (i+1) ?_ (by omega) (by omega)
       (simp+decide only[go_sem,gcD_eq,gcIds_eq,hsr,grV_snoc,grH_snoc,h5,h6,hlen]<;>rfl)
     ·obtain rfl:i=T.length:=by omega
      have l2:¬(T.length:Int)<T.length:=by omega
      have hg1:=refs_flatR (tnR_flat T);have hg2:=λπ=>renR_flat π (tnR_flat T);rw[List.take_length];by_cases hkT:T=[]
      ·have e2:T.map tnR=[]:=by rw[hkT];rfl
       rw[e2];simp only[grV_nil,grH_nil]
       (repeat first|simp only[ww]|(apply xa;simp+decide only[go_sem,l2,List.length_map];rfl;kernel_rfl))
       refine xp_loop3 (σ:=Nat) kp21_4 (λi=>[(1,.ptr 0 0 0),(3,.nilslice),(4,.nilslice),(9,.int .i64 (repSum (V.take i))),(61,sl rv (V.map Vc.enc)),(62,.int .i64 V.length),(63,.int .i64 (i:Nat))]) (λ_=>[some (.row 3 [[sl rs (S.map Sg.enc),sl rt (T.map Tm.enc),sl rv (V.map Vc.enc)]])]) (λi=>V.length-i) (λi=>i≤V.length) 0 ?_ (Nat.zero_le _) ?_
       ·have e0:repSum (V.take 0)=0:=rfl
        (simp+decide only[go_sem,gcD_eq,gcIds_eq,e0]<;>rfl)
       ·intro i hi;by_cases hlt:i<V.length
        ·have l3:(i:Int)<V.length:=by omega
         obtain⟨v,hs⟩:∃v,V[i]?=some v:=⟨_,List.getElem?_eq_getElem hlt⟩
         have hv1:vcOk v S T.length=true:=h.vc v (List.mem_of_getElem? hs);have hsm:(V.map Vc.enc)[i]?=some (Vc.enc v):=by rw[List.getElem?_map,hs];rfl
         have hw:IntKind.i64.wrap ((i:Int)+1)=((i+1:Nat):Int):=by rw[w64 (by omega) (by omega)];omega
         have hrs:=repSum_s V hs;have hnn:∀v∈V,0≤v.rep:=λv hv=>by have:=(h.rep v hv).1;omega
         have hle:=repSum_le V hnn (i+1);have hge:=repSum_nn (V.take i) λv hv=>hnn v (List.mem_of_mem_take hv);have hrp:=h.rep v (List.mem_of_getElem? hs);have hsum:=h.sum;have hw2:IntKind.i64.wrap (repSum (V.take i)+v.rep)=repSum (V.take (i+1)):=by rw[w64 (by omega) (by omega)];omega
         have hmn:repSum (V.take (i+1))<1000001:=by omega
         have hmn2:¬(1000001:Int)<repSum (V.take (i+1)):=by omega
         have hmn3:repSum (V.take (i+1))≤1000001:=by omega
         (repeat first|simp only[ww]|(apply xa;simp+decide only[go_sem,l3,hlt,hsm,hvc,hv1,hw,hw2,hmn,hmn2,hmn3,List.length_map];rfl;kernel_rfl))
         refine lp_n (i+1) ?_ (by omega) (by omega)
         (simp+decide only[go_sem,gcD_eq,gcIds_eq]<;>rfl)
        ·obtain rfl:i=V.length:=by omega
         have l3:¬(V.length:Int)<V.length:=by omega
         have hsum:=h.sum;have l4:¬(1000000:Int)<repSum V:=by omega
         rw[List.take_length];obtain⟨σ1,w1⟩:=tw_call (d:=false) [some (.row 3 [[sl rs (S.map Sg.enc),sl rt (T.map Tm.enc),sl rv (V.map Vc.enc)]])] 1 (S.map Sg.name) (λhh=>absurd (by rw[hk];rfl) hh) (by rw[List.length_map];omega) h.sn;obtain⟨σ2,w2⟩:=tw_call (d:=false) [some (.row 3 [[sl rs (S.map Sg.enc),sl rt (T.map Tm.enc),sl rv (V.map Vc.enc)]])] 1 (T.map Tm.name) (λhh=>absurd (by rw[hkT];rfl) hh) (by rw[List.length_map];omega) h.tn;rw[←snR_str]at w1;rw[←tnR_str]at w2;rw[e1,grV_nil]at w1;rw[e2,grV_nil]at w2
         (repeat first|simp only[ww]|(apply xa;simp+decide only[go_sem,l3,l4,w1,w2,List.length_map];rfl;kernel_rfl))
         (apply fqb;simp+decide only[go_sem]<;>rfl)
      ·have hneT:T.map tnR≠[]:=by simpa using hkT
       rw[grV_ne 1 hneT,grH_ne 1 hneT,List.length_map]
       (repeat first|simp only[ww]|(apply xa;simp+decide only[go_sem,l2,List.length_map];rfl;kernel_rfl))
       refine xp_loop3 (σ:=Nat) kp21_4 (λi=>[(1,.ptr 0 0 0),(3,.nilslice),(4,.slice 1 0 T.length none),(9,.int .i64 (repSum (V.take i))),(61,sl rv (V.map Vc.enc)),(62,.int .i64 V.length),(63,.int .i64 (i:Nat))]) (λ_=>[some (.row 3 [[sl rs (S.map Sg.enc),sl rt (T.map Tm.enc),sl rv (V.map Vc.enc)]]),some (.row 1 (T.map tnR))]) (λi=>V.length-i) (λi=>i≤V.length) 0 ?_ (Nat.zero_le _) ?_
       ·have e0:repSum (V.take 0)=0:=rfl
        (simp+decide only[go_sem,gcD_eq,gcIds_eq,e0,hg1,hg2]<;>rfl)
       ·intro i hi;by_cases hlt:i<V.length
        ·have l3:(i:Int)<V.length:=by omega
         obtain⟨v,hs⟩:∃v,V[i]?=some v:=⟨_,List.getElem?_eq_getElem hlt⟩
         have hv1:vcOk v S T.length=true:=h.vc v (List.mem_of_getElem? hs);have hsm:(V.map Vc.enc)[i]?=some (Vc.enc v):=by rw[List.getElem?_map,hs];rfl
         have hw:IntKind.i64.wrap ((i:Int)+1)=((i+1:Nat):Int):=by rw[w64 (by omega) (by omega)];omega
         have hrs:=repSum_s V hs;have hnn:∀v∈V,0≤v.rep:=λv hv=>by have:=(h.rep v hv).1;omega
         have hle:=repSum_le V hnn (i+1);have hge:=repSum_nn (V.take i) λv hv=>hnn v (List.mem_of_mem_take hv);have hrp:=h.rep v (List.mem_of_getElem? hs);have hsum:=h.sum;have hw2:IntKind.i64.wrap (repSum (V.take i)+v.rep)=repSum (V.take (i+1)):=by rw[w64 (by omega) (by omega)];omega
         have hmn:repSum (V.take (i+1))<1000001:=by omega
         have hmn2:¬(1000001:Int)<repSum (V.take (i+1)):=by omega
         have hmn3:repSum (V.take (i+1))≤1000001:=by omega
         (repeat first|simp only[ww]|(apply xa;simp+decide only[go_sem,l3,hlt,hsm,hvc,hv1,hw,hw2,hmn,hmn2,hmn3,List.length_map,hg1,hg2];rfl;kernel_rfl))
         refine lp_n (i+1) ?_ (by omega) (by omega)
         (simp+decide only[go_sem,gcD_eq,gcIds_eq,hg1,hg2]<;>rfl)
        ·obtain rfl:i=V.length:=by omega
         have l3:¬(V.length:Int)<V.length:=by omega
         have hsum:=h.sum;have l4:¬(1000000:Int)<repSum V:=by omega
         rw[List.take_length];obtain⟨σ1,w1⟩:=tw_call (d:=false) [some (.row 3 [[sl rs (S.map Sg.enc),sl rt (T.map Tm.enc),sl rv (V.map Vc.enc)]]),some (.row 1 (T.map tnR))] 1 (S.map Sg.name) (λhh=>absurd (by rw[hk];rfl) hh) (by rw[List.length_map];omega) h.sn;obtain⟨σ2,w2⟩:=tw_call (d:=false) [some (.row 3 [[sl rs (S.map Sg.enc),sl rt (T.map Tm.enc),sl rv (V.map Vc.enc)]]),some (.row 1 (T.map tnR))] 1 (T.map Tm.name) (λhh=>by rw[←tnR_str];rfl) (by rw[List.length_map];omega) h.tn;rw[←snR_str]at w1;rw[←tnR_str]at w2;rw[e1,grV_nil]at w1;rw[grV_ne 1 hneT,List.length_map]at w2
         (repeat first|simp only[ww]|(apply xa;simp+decide only[go_sem,l3,l4,w1,w2,List.length_map,hg1,hg2];rfl;kernel_rfl))
         (apply fqb;simp+decide only[go_sem,hg1,hg2]<;>rfl)
   ·have hne:S.map snR≠[]:=by simpa using hk
    rw[grV_ne 1 hne,grH_ne 1 hne,List.length_map]
    (repeat first|simp only[ww]|(apply xa;simp+decide only[go_sem,l1,List.length_map];rfl;kernel_rfl))
    refine xp_loop3 (σ:=Nat) kp21_2 (λi=>[(1,.ptr 0 0 0),(3,.slice 1 0 S.length none),(4,grV 2 ((T.take i).map tnR)),(45,sl rt (T.map Tm.enc)),(46,.int .i64 T.length),(47,.int .i64 (i:Nat))]) (λi=>some (.row 3 [[sl rs (S.map Sg.enc),sl rt (T.map Tm.enc),sl rv (V.map Vc.enc)]])::some (.row 1 (S.map snR))::grH 1 ((T.take i).map tnR)) (λi=>T.length-i) (λi=>i≤T.length) 0 ?_ (Nat.zero_le _) ?_
    ·(simp+decide only[go_sem,gcD_eq,gcIds_eq,List.take_zero,List.map_nil,grV_nil,grH_nil,hf1,hf2]<;>rfl)
    ·intro i hi;by_cases hlt:i<T.length
     ·have l1:(i:Int)<T.length:=by omega
      obtain⟨t,hs⟩:∃t,T[i]?=some t:=⟨_,List.getElem?_eq_getElem hlt⟩
      have hv1:tmOk t=true:=h.tm t (List.mem_of_getElem? hs);have hval:=htm;have hsm:(T.map Tm.enc)[i]?=some (Tm.enc t):=by rw[List.getElem?_map,hs];rfl
      have hw:IntKind.i64.wrap ((i:Int)+1)=((i+1:Nat):Int):=by rw[w64 (by omega) (by omega)];omega
      have hsr:(T.take (i+1)).map tnR=(T.take i).map tnR++[[.str t.name]]:=by rw[take_s hs,List.map_append];rfl
      have h5:=refs_flatR (tnR_flat (T.take (i+1)));have h6:=λπ=>renR_flat π (tnR_flat (T.take (i+1)));have hlen:((T.take i).map tnR).length=i:=by rw[List.length_map,List.length_take];omega
      have hrm:i+1≤1000000000:=by omega
      by_cases hk:i=0
      ·subst hk;have e0:(T.take 0).map tnR=[]:=rfl;rw[e0]at hsr⊢;simp only[List.nil_append]at hsr
       (repeat first|simp only[ww]|(apply xa;simp+decide only[go_sem,l1,hlt,hsm,hval,hv1,hw,List.length_map,grV_nil,grH_nil,hf1,hf2];rfl;kernel_rfl))
       refine lp_n (0+1) ?_ (by omega) (by omega)
       (simp+decide only[go_sem,gcD_eq,gcIds_eq,hsr,grV_cons,grH_cons,List.length_nil,hf1,hf2]<;>rfl)
      ·have hne:(T.take i).map tnR≠[]:=by intro e;rw[e]at hlen;simp at hlen;omega
       rw[grV_ne 2 hne,grH_ne 1 hne,hlen];rw[hsr]at h5 h6;generalize(T.take i).map tnR=R at hsr hlen h5 h6
       (repeat first|simp only[ww]|(apply xa;simp+decide only[go_sem,l1,hlt,hsm,hval,hv1,hw,hlen,hrm,List.length_map,hf1,hf2];rfl;kernel_rfl))
       refine lp_n (i+1) ?_ (by omega) (by omega)
       (simp+decide only[go_sem,gcD_eq,gcIds_eq,hsr,grV_snoc,grH_snoc,h5,h6,hlen,hf1,hf2]<;>rfl)
     ·obtain rfl:i=T.length:=by omega
      have l2:¬(T.length:Int)<T.length:=by omega
      have hg1:=refs_flatR (tnR_flat T);have hg2:=λπ=>renR_flat π (tnR_flat T);rw[List.take_length];by_cases hkT:T=[]
      ·have e2:T.map tnR=[]:=by rw[hkT];rfl
       rw[e2];simp only[grV_nil,grH_nil]
       (repeat first|simp only[ww]|(apply xa;simp+decide only[go_sem,l2,List.length_map,hf1,hf2];rfl;kernel_rfl))
       refine xp_loop3 (σ:=Nat) kp21_4 (λi=>[(1,.ptr 0 0 0),(3,.slice 1 0 S.length none),(4,.nilslice),(9,.int .i64 (repSum (V.take i))),(61,sl rv (V.map Vc.enc)),(62,.int .i64 V.length),(63,.int .i64 (i:Nat))]) (λ_=>[some (.row 3 [[sl rs (S.map Sg.enc),sl rt (T.map Tm.enc),sl rv (V.map Vc.enc)]]),some (.row 1 (S.map snR))]) (λi=>V.length-i) (λi=>i≤V.length) 0 ?_ (Nat.zero_le _) ?_
       ·have e0:repSum (V.take 0)=0:=rfl
        (simp+decide only[go_sem,gcD_eq,gcIds_eq,e0,hf1,hf2]<;>rfl)
       ·intro i hi;by_cases hlt:i<V.length
        ·have l3:(i:Int)<V.length:=by omega
         obtain⟨v,hs⟩:∃v,V[i]?=some v:=⟨_,List.getElem?_eq_getElem hlt⟩
         have hv1:vcOk v S T.length=true:=h.vc v (List.mem_of_getElem? hs);have hsm:(V.map Vc.enc)[i]?=some (Vc.enc v):=by rw[List.getElem?_map,hs];rfl
         have hw:IntKind.i64.wrap ((i:Int)+1)=((i+1:Nat):Int):=by rw[w64 (by omega) (by omega)];omega
         have hrs:=repSum_s V hs;have hnn:∀v∈V,0≤v.rep:=λv hv=>by have:=(h.rep v hv).1;omega
         have hle:=repSum_le V hnn (i+1);have hge:=repSum_nn (V.take i) λv hv=>hnn v (List.mem_of_mem_take hv);have hrp:=h.rep v (List.mem_of_getElem? hs);have hsum:=h.sum;have hw2:IntKind.i64.wrap (repSum (V.take i)+v.rep)=repSum (V.take (i+1)):=by rw[w64 (by omega) (by omega)];omega
         have hmn:repSum (V.take (i+1))<1000001:=by omega
         have hmn2:¬(1000001:Int)<repSum (V.take (i+1)):=by omega
         have hmn3:repSum (V.take (i+1))≤1000001:=by omega
         (repeat first|simp only[ww]|(apply xa;simp+decide only[go_sem,l3,hlt,hsm,hvc,hv1,hw,hw2,hmn,hmn2,hmn3,List.length_map,hf1,hf2];rfl;kernel_rfl))
         refine lp_n (i+1) ?_ (by omega) (by omega)
         (simp+decide only[go_sem,gcD_eq,gcIds_eq,hf1,hf2]<;>rfl)
        ·obtain rfl:i=V.length:=by omega
         have l3:¬(V.length:Int)<V.length:=by omega
         have hsum:=h.sum;have l4:¬(1000000:Int)<repSum V:=by omega
         rw[List.take_length];obtain⟨σ1,w1⟩:=tw_call (d:=false) [some (.row 3 [[sl rs (S.map Sg.enc),sl rt (T.map Tm.enc),sl rv (V.map Vc.enc)]]),some (.row 1 (S.map snR))] 1 (S.map Sg.name) (λhh=>by rw[←snR_str];rfl) (by rw[List.length_map];omega) h.sn;obtain⟨σ2,w2⟩:=tw_call (d:=false) [some (.row 3 [[sl rs (S.map Sg.enc),sl rt (T.map Tm.enc),sl rv (V.map Vc.enc)]]),some (.row 1 (S.map snR))] 2 (T.map Tm.name) (λhh=>absurd (by rw[hkT];rfl) hh) (by rw[List.length_map];omega) h.tn;rw[←snR_str]at w1;rw[←tnR_str]at w2;rw[grV_ne 1 hne,List.length_map]at w1;rw[e2,grV_nil]at w2
         (repeat first|simp only[ww]|(apply xa;simp+decide only[go_sem,l3,l4,w1,w2,List.length_map,hf1,hf2];rfl;kernel_rfl))
         (apply fqb;simp+decide only[go_sem,hf1,hf2]<;>rfl)
      ·have hneT:T.map tnR≠[]:=by simpa using hkT
       rw[grV_ne 2 hneT,grH_ne 1 hneT,List.length_map]
       (repeat first|simp only[ww]|(apply xa;simp+decide only[go_sem,l2,List.length_map,hf1,hf2];rfl;kernel_rfl))
       refine xp_loop3 (σ:=Nat) kp21_4 (λi=>[(1,.ptr 0 0 0),(3,.slice 1 0 S.length none),(4,.slice 2 0 T.length none),(9,.int .i64 (repSum (V.take i))),(61,sl rv (V.map Vc.enc)),(62,.int .i64 V.length),(63,.int .i64 (i:Nat))]) (λ_=>[some (.row 3 [[sl rs (S.map Sg.enc),sl rt (T.map Tm.enc),sl rv (V.map Vc.enc)]]),some (.row 1 (S.map snR)),some (.row 1 (T.map tnR))]) (λi=>V.length-i) (λi=>i≤V.length) 0 ?_ (Nat.zero_le _) ?_
       ·have e0:repSum (V.take 0)=0:=rfl
        (simp+decide only[go_sem,gcD_eq,gcIds_eq,e0,hf1,hf2,hg1,hg2]<;>rfl)
       ·intro i hi;by_cases hlt:i<V.length
        ·have l3:(i:Int)<V.length:=by omega
         obtain⟨v,hs⟩:∃v,V[i]?=some v:=⟨_,List.getElem?_eq_getElem hlt⟩
         have hv1:vcOk v S T.length=true:=h.vc v (List.mem_of_getElem? hs);have hsm:(V.map Vc.enc)[i]?=some (Vc.enc v):=by rw[List.getElem?_map,hs];rfl
         have hw:IntKind.i64.wrap ((i:Int)+1)=((i+1:Nat):Int):=by rw[w64 (by omega) (by omega)];omega
         have hrs:=repSum_s V hs;have hnn:∀v∈V,0≤v.rep:=λv hv=>by have:=(h.rep v hv).1;omega
         have hle:=repSum_le V hnn (i+1);have hge:=repSum_nn (V.take i) λv hv=>hnn v (List.mem_of_mem_take hv);have hrp:=h.rep v (List.mem_of_getElem? hs);have hsum:=h.sum;have hw2:IntKind.i64.wrap (repSum (V.take i)+v.rep)=repSum (V.take (i+1)):=by rw[w64 (by omega) (by omega)];omega
         have hmn:repSum (V.take (i+1))<1000001:=by omega
         have hmn2:¬(1000001:Int)<repSum (V.take (i+1)):=by omega
         have hmn3:repSum (V.take (i+1))≤1000001:=by omega
         (repeat first|simp only[ww]|(apply xa;simp+decide only[go_sem,l3,hlt,hsm,hvc,hv1,hw,hw2,hmn,hmn2,hmn3,List.length_map,hf1,hf2,hg1,hg2];rfl;kernel_rfl))
         refine lp_n (i+1) ?_ (by omega) (by omega)
         (simp+decide only[go_sem,gcD_eq,gcIds_eq,hf1,hf2,hg1,hg2]<;>rfl)
        ·obtain rfl:i=V.length:=by omega
         have l3:¬(V.length:Int)<V.length:=by omega
         have hsum:=h.sum;have l4:¬(1000000:Int)<repSum V:=by omega
         rw[List.take_length];obtain⟨σ1,w1⟩:=tw_call (d:=false) [some (.row 3 [[sl rs (S.map Sg.enc),sl rt (T.map Tm.enc),sl rv (V.map Vc.enc)]]),some (.row 1 (S.map snR)),some (.row 1 (T.map tnR))] 1 (S.map Sg.name) (λhh=>by rw[←snR_str];rfl) (by rw[List.length_map];omega) h.sn;obtain⟨σ2,w2⟩:=tw_call (d:=false) [some (.row 3 [[sl rs (S.map Sg.enc),sl rt (T.map Tm.enc),sl rv (V.map Vc.enc)]]),some (.row 1 (S.map snR)),some (.row 1 (T.map tnR))] 2 (T.map Tm.name) (λhh=>by rw[←tnR_str];rfl) (by rw[List.length_map];omega) h.tn;rw[←snR_str]at w1;rw[←tnR_str]at w2;rw[grV_ne 1 hne,List.length_map]at w1;rw[grV_ne 2 hneT,List.length_map]at w2
         (repeat first|simp only[ww]|(apply xa;simp+decide only[go_sem,l3,l4,w1,w2,List.length_map,hf1,hf2,hg1,hg2];rfl;kernel_rfl))
         (apply fqb;simp+decide only[go_sem,hf1,hf2,hg1,hg2]<;>rfl)
end Go.RInst
namespace Go.RInst
open Go.Proofs Go.Ax Go.Pc
variable [PR]
set_option maxRecDepth 100000
theorem check_call{d:Bool}(H:Heap)(rs rt rv:Option (Option Nat))(S:List Sg)(T:List Tm)(V:List Vc)(h:Valid S T V):callV L.env d (sem L.env Mf) (.func (.func 21) [] []) [.agg [sl rs (S.map Sg.enc),sl rt (T.map Tm.enc),sl rv (V.map Vc.enc)]] H=some (.int .i64 0,H,[]):=callV_flat (by kernel_rfl) (by kernel_rfl) rfl (by simp+decide only[go_sem]<;>rfl) (check_ok rs rt rv S T V h) rfl
theorem cycles_ok(rs rt rv:Option (Option Nat))(S:List Sg)(T:List Tm)(V:List Vc)(h:Valid S T V):sem L.env Mf 10 [.agg [sl rs (S.map Sg.enc),sl rt (T.map Tm.enc),sl rv (V.map Vc.enc)]] []=some (.tuple [.int .i64 (repSum V),.int .i64 0],[]):=by
 have hV:=h.hV;have hck:=λd H=>check_call (d:=d) H rs rt rv S T V h
 (refine sv Tryz.f10 ?_;simp only[Tryz.f10,gS])
 (repeat first|simp only[ww]|(apply xa;simp+decide only[go_sem,hck,List.length_map];rfl;kernel_rfl))
 refine xp_loop3 (σ:=Nat) kp10_0 (λi=>[(5,.int .i64 (repSum (V.take i))),(14,sl rv (V.map Vc.enc)),(15,.int .i64 V.length),(16,.int .i64 (i:Nat))]) (λ_=>[]) (λi=>V.length-i) (λi=>i≤V.length) 0 ?_ (Nat.zero_le _) ?_
 ·have e0:repSum (V.take 0)=0:=rfl
  (simp+decide only[go_sem,gcD_eq,gcIds_eq,e0]<;>rfl)
 ·intro i hi;by_cases hlt:i<V.length
  ·have l3:(i:Int)<V.length:=by omega
   obtain⟨v,hs⟩:∃v,V[i]?=some v:=⟨_,List.getElem?_eq_getElem hlt⟩
   have hsm:(V.map Vc.enc)[i]?=some (Vc.enc v):=by rw[List.getElem?_map,hs];rfl
   have hw:IntKind.i64.wrap ((i:Int)+1)=((i+1:Nat):Int):=by rw[w64 (by omega) (by omega)];omega
   have hrs:=repSum_s V hs;have hnn:∀v∈V,0≤v.rep:=λv hv=>by have:=(h.rep v hv).1;omega
   have hle:=repSum_le V hnn (i+1);have hge:=repSum_nn (V.take i) λv hv=>hnn v (List.mem_of_mem_take hv);have hrp:=h.rep v (List.mem_of_getElem? hs);have hsum:=h.sum;have hw2:IntKind.i64.wrap (repSum (V.take i)+v.rep)=repSum (V.take (i+1)):=by rw[w64 (by omega) (by omega)];omega
   (repeat first|simp only[ww]|(apply xa;simp+decide only[go_sem,l3,hlt,hsm,hw,hw2,List.length_map];rfl;kernel_rfl))
   refine lp_n (i+1) ?_ (by omega) (by omega)
   (simp+decide only[go_sem,gcD_eq,gcIds_eq]<;>rfl)
  ·obtain rfl:i=V.length:=by omega
   have l3:¬(V.length:Int)<V.length:=by omega
   rw[List.take_length]
   (repeat first|simp only[ww]|(apply xa;simp+decide only[go_sem,l3];rfl;kernel_rfl))
   (apply fqb;simp+decide only[go_sem]<;>rfl)
theorem cycles_call{d:Bool}(H:Heap)(rs rt rv:Option (Option Nat))(S:List Sg)(T:List Tm)(V:List Vc)(h:Valid S T V):callV L.env d (sem L.env Mf) (.func (.func 10) [] []) [.agg [sl rs (S.map Sg.enc),sl rt (T.map Tm.enc),sl rv (V.map Vc.enc)]] H=some (.tuple [.int .i64 (repSum V),.int .i64 0],H,[]):=callV_flat (by kernel_rfl) (by kernel_rfl) rfl (by simp+decide only[go_sem]<;>rfl) (cycles_ok rs rt rv S T V h) rfl
def flatV(V:List Vc):List Vc:=V.flatMap λv=>List.replicate v.rep.toNat ⟨v.t,v.cells,1⟩
theorem flatV_len:∀(V:List Vc),(∀v∈V,0≤v.rep)→((flatV V).length:Int)=repSum V
 | [],_=>rfl
 |v::V,h=>by have:=flatV_len V λx hx=>h x (by simp[hx]);have h0:=h v (by simp);unfold flatV repSum at *;rw[List.flatMap_cons,List.length_append,List.length_replicate,List.map_cons,List.sum_cons];omega
theorem flatV_s(V:List Vc){i:Nat}{v:Vc}(h:V[i]?=some v):flatV (V.take (i+1))=flatV (V.take i)++List.replicate v.rep.toNat ⟨v.t,v.cells,1⟩:=by rw[take_s h];simp[flatV]
abbrev vz:List AV:=[.int .i64 0,.str [],.int .i64 0]
/-- The first k rows of the flat list, then rows of nothing. -/
def fRow(n:Nat)(l:List Vc):List (List AV):=l.map Vc.enc++List.replicate (n-l.length) vz
theorem fRow_flat(n:Nat)(l:List Vc):FlatR (fRow n l):=FlatR.append (vcE_flat l) (FlatR.replicate rfl)
theorem fRow_len(n:Nat)(l:List Vc)(h:l.length≤n):(fRow n l).length=n:=by simp[fRow];omega
theorem fRow_put(n:Nat)(l:List Vc)(x:Vc)(h:l.length+1≤n):(fRow n l).take l.length++[Vc.enc x]++(fRow n l).drop (l.length+1)=fRow n (l++[x]):=by
 have e1:(fRow n l).take l.length=l.map Vc.enc:=by unfold fRow;rw[List.take_append_of_le_length (by simp),List.take_of_length_le (by simp)]
 have e2:(fRow n l).drop (l.length+1)=List.replicate (n-(l.length+1)) vz:=by
  unfold fRow;rw[List.drop_append,List.drop_eq_nil_of_le (by simp),List.drop_replicate,List.length_map];simp only[List.nil_append]
  congr 1;omega
 rw[e1,e2];unfold fRow;simp
theorem flat_ok(rs rt rv:Option (Option Nat))(S:List Sg)(T:List Tm)(V:List Vc)(h:Valid S T V)(m:Int)(hm:repSum V≤m):sem L.env Mf 11 [.agg [sl rs (S.map Sg.enc),sl rt (T.map Tm.enc),sl rv (V.map Vc.enc)],.int .i64 m] []=some (.tuple [.islice ((flatV V).map Vc.enc) (some (flatV V).length),.int .i64 0],[]):=by
 have hV:=h.hV;have hsum:=h.sum;have hnn:∀v∈V,0≤v.rep:=λv hv=>by have:=(h.rep v hv).1;omega
 have hfl:=flatV_len V hnn;have hm2:¬m<repSum V:=by omega
 have hcy:=λd H=>cycles_call (d:=d) H rs rt rv S T V h;obtain⟨n,hn⟩:∃n,n=(flatV V).length:=⟨_,rfl⟩
 rw[←hn]at hfl⊢;rw[←hfl]at hcy hm2;have hb:L.env.bytes 43=32:=by kernel_rfl
 have hmk:mkOk L.env 43 (0:Int) (n:Int)=true:=by unfold mkOk;rw[hb,decide_eq_true (by omega:(0:Int)≤0),decide_eq_true (by omega:(0:Int)≤n),decide_eq_true (by omega:(n:Int)≤281474976710656),decide_eq_true (by omega:((32:Nat):Int)*n≤281474976710656)];rfl
 (refine sv Tryz.f11 ?_;simp only[Tryz.f11,gS])
 (repeat first|simp only[ww]|(apply xa;simp+decide only[go_sem,hcy,hm2];rfl;kernel_rfl))
 have e0:repSum (V.take 0)=0:=rfl;have hz:(n:Int).toNat=n:=by omega
 have hle:∀i,(flatV (V.take i)).length≤n:=λi=>by have h1:=flatV_len (V.take i) λv hv=>hnn v (List.mem_of_mem_take hv);have h2:=repSum_le V hnn i;omega
 (repeat first|simp only[ww]|(apply xa;simp+decide only[go_sem,hmk,hz,List.length_map];rfl;kernel_rfl))
 refine xp_loop3 (σ:=Nat) kp11_1 (λi=>[(8,.slice 0 0 (flatV (V.take i)).length (some n)),(27,sl rv (V.map Vc.enc)),(28,.int .i64 V.length),(29,.int .i64 (i:Nat))]) (λi=>[some (.row 3 (fRow n (flatV (V.take i))))]) (λi=>V.length-i) (λi=>i≤V.length) 0 ?_ (Nat.zero_le _) ?_
 ·have e1:flatV (V.take 0)=[]:=rfl;have e2:fRow n []=List.replicate n vz:=by simp[fRow]
  have e3:=refs_flatR (FlatR.replicate (n:=n) (r:=vz) rfl);have e4:=λπ=>renR_flat π (FlatR.replicate (n:=n) (r:=vz) rfl)
  (simp+decide only[go_sem,gcD_eq,gcIds_eq,e1,e2,e3,e4,List.length_nil]<;>rfl)
 ·intro i hi;by_cases hlt:i<V.length
  ·have l3:(i:Int)<V.length:=by omega
   obtain⟨v,hs⟩:∃v,V[i]?=some v:=⟨_,List.getElem?_eq_getElem hlt⟩
   have hsm:(V.map Vc.enc)[i]?=some (Vc.enc v):=by rw[List.getElem?_map,hs];rfl
   have hw:IntKind.i64.wrap ((i:Int)+1)=((i+1:Nat):Int):=by rw[w64 (by omega) (by omega)];omega
   have hrp:=h.rep v (List.mem_of_getElem? hs);obtain⟨r,hr⟩:∃r:Nat,v.rep=r:=⟨v.rep.toNat,by omega⟩
   have hfs:=flatV_s V hs;have hle1:=hle (i+1);rw[hfs,List.length_append,List.length_replicate]at hle1;generalize hB:flatV (V.take i)=B at hfs hle1;have hrt:v.rep.toNat=r:=by omega
   rw[hrt]at hle1 hfs;have hB1:=refs_flatR (fRow_flat n B);have hB2:=λπ=>renR_flat π (fRow_flat n B)
   (repeat first|simp only[ww]|(apply xa;simp+decide only[go_sem,l3,hlt,hsm,hr,List.length_map];rfl;kernel_rfl))
   refine xp_loop3 (σ:=Nat) kp11_3 (λj=>[(8,.slice 0 0 (B.length+j) (some n)),(10,.ptr 1 0 0),(27,sl rv (V.map Vc.enc)),(28,.int .i64 V.length),(29,.int .i64 (i:Nat)),(34,.int .i64 r),(35,.int .i64 (j:Nat))]) (λj=>[some (.row 3 (fRow n (B++List.replicate j ⟨v.t,v.cells,1⟩))),some (.row 3 [[.int .i64 v.t,.str v.cells,.int .i64 r]])]) (λj=>r-j) (λj=>j≤r) 0 ?_ (Nat.zero_le _) ?_
   ·have e5:B++List.replicate 0 (⟨v.t,v.cells,1⟩:Vc)=B:=by simp
    (simp+decide only[go_sem,gcD_eq,gcIds_eq,hB1,hB2,e5,Nat.add_zero,hr]<;>rfl)
   ·intro j hj;have hC1:=refs_flatR (fRow_flat n (B++List.replicate j (⟨v.t,v.cells,1⟩:Vc)));have hC2:=λπ=>renR_flat π (fRow_flat n (B++List.replicate j (⟨v.t,v.cells,1⟩:Vc)));have hCl:(fRow n (B++List.replicate j (⟨v.t,v.cells,1⟩:Vc))).length=n:=fRow_len _ _ (by simp;omega);by_cases hjt:j<r
    ·have l4:(j:Int)<r:=by omega
     have hw3:IntKind.i64.wrap ((j:Int)+1)=((j+1:Nat):Int):=by rw[w64 (by omega) (by omega)];omega
     have hput:=fRow_put n (B++List.replicate j (⟨v.t,v.cells,1⟩:Vc)) ⟨v.t,v.cells,1⟩ (by simp;omega);have hD1:=refs_flatR (fRow_flat n (B++List.replicate (j+1) (⟨v.t,v.cells,1⟩:Vc)));have hD2:=λπ=>renR_flat π (fRow_flat n (B++List.replicate (j+1) (⟨v.t,v.cells,1⟩:Vc)));have hrp1:B++List.replicate j (⟨v.t,v.cells,1⟩:Vc)++[⟨v.t,v.cells,1⟩]=B++List.replicate (j+1) ⟨v.t,v.cells,1⟩:=by rw[List.replicate_succ',List.append_assoc]
     rw[hrp1,List.length_append,List.length_replicate]at hput;have l5:B.length+j+1≤n:=by omega
     have l6:B.length+j≤n:=by omega
     generalize fRow n (B++List.replicate j (⟨v.t,v.cells,1⟩:Vc))=R at hC1 hC2 hCl hput
     (repeat first|simp only[ww]|(apply xa;simp+decide only[go_sem,l4,hw3,l5,l6,hCl,hput,Nat.zero_add];rfl;kernel_rfl))
     refine lp_n (j+1) ?_ (by omega) (by omega)
     (simp+decide only[go_sem,gcD_eq,gcIds_eq,hD1,hD2]<;>rfl)
    ·obtain rfl:j=r:=by omega
     have l4:¬(j:Int)<j:=by omega
     (repeat first|simp only[ww]|(apply xa;simp+decide only[go_sem,l4,hw];rfl;kernel_rfl))
     refine lp_n (i+1) ?_ (by omega) (by omega)
     (simp+decide only[go_sem,gcD_eq,gcIds_eq,hC1,hC2,hfs,List.length_append,List.length_replicate]<;>rfl)
  ·obtain rfl:i=V.length:=by omega
   have l3:¬(V.length:Int)<V.length:=by omega
   have e8:fRow n (flatV V)=(flatV V).map Vc.enc:=by unfold fRow;rw[←hn,Nat.sub_self];simp
   have e9:=λq d=>frzR_flat q d (vcE_flat (flatV V));have e10:((flatV V).map Vc.enc).length=n:=by rw[List.length_map,hn]
   have e11:((flatV V).map Vc.enc).take n=(flatV V).map Vc.enc:=List.take_of_length_le (by omega);rw[List.take_length,e8,←hn]
   (repeat first|simp only[ww]|(apply xa;simp+decide only[go_sem,l3];rfl;kernel_rfl))
   (apply fqb;simp+decide only[go_sem,e9,e10,e11]<;>rfl)
end Go.RInst
namespace Go.RInst
open Go.Proofs Go.Ax Go.Pc
variable [PR]
set_option maxRecDepth 100000
/- the closure of Wave: an event is set; the list is L, then (t, c) -/
end Go.RInst
namespace Go.RInst
open Go.Proofs Go.Ax Go.Pc
variable [PR]
set_option maxRecDepth 100000
theorem flat_call{d:Bool}(H:Heap)(rs rt rv:Option (Option Nat))(S:List Sg)(T:List Tm)(V:List Vc)(h:Valid S T V)(m:Int)(hm:repSum V≤m):callV L.env d (sem L.env Mf) (.func (.func 11) [] []) [.agg [sl rs (S.map Sg.enc),sl rt (T.map Tm.enc),sl rv (V.map Vc.enc)],.int .i64 m] H=some (.tuple [.islice ((flatV V).map Vc.enc) (some (flatV V).length),.int .i64 0],H,[]):=callV_flat (by kernel_rfl) (by kernel_rfl) rfl (by simp+decide only[go_sem]<;>rfl) (flat_ok rs rt rv S T V h m hm) rfl
end Go.RInst
namespace Go.RInst
open Go.Proofs Go.Ax Go.Pc
variable [PR]
set_option maxRecDepth 100000
theorem wave_err(e:Int)(he:e≠0)(rs rt rv:Option (Option Nat))(S:List Sg)(T:List Tm)(V:List Vc)(i:Nat)(m:Int)(hsg:∀d H,callV L.env d (sem L.env Mf) (.func (.func 31) [] []) [.agg [sl rs (S.map Sg.enc),sl rt (T.map Tm.enc),sl rv (V.map Vc.enc)],.int .i64 i,.int .i64 m,.int .u8 0] H=some (.tuple [.nilslice,.int .i64 e],H,[])):sem L.env Mf 12 [.agg [sl rs (S.map Sg.enc),sl rt (T.map Tm.enc),sl rv (V.map Vc.enc)],.int .i64 i,.int .i64 m] []=some (.tuple [.nilslice,.int .i64 e],[]):=by
 have c0:¬e=0:=he
 (refine sv Tryz.f12 ?_;simp only[Tryz.f12,gS])
 (repeat first|simp only[ww]|(apply xa;simp+decide only[go_sem,hsg,c0];rfl;kernel_rfl))
 (apply fqb;simp+decide only[go_sem]<;>rfl)
end Go.RInst
namespace Go.RInst
open Go.Proofs Go.Ax Go.Pc
variable [PR]
set_option maxRecDepth 100000
theorem strobes_err(e:Int)(he:e≠0)(rs rt rv:Option (Option Nat))(S:List Sg)(T:List Tm)(V:List Vc)(i:Nat)(m:Int)(hsg:∀d H,callV L.env d (sem L.env Mf) (.func (.func 31) [] []) [.agg [sl rs (S.map Sg.enc),sl rt (T.map Tm.enc),sl rv (V.map Vc.enc)],.int .i64 i,.int .i64 m,.int .u8 1] H=some (.tuple [.nilslice,.int .i64 e],H,[])):sem L.env Mf 13 [.agg [sl rs (S.map Sg.enc),sl rt (T.map Tm.enc),sl rv (V.map Vc.enc)],.int .i64 i,.int .i64 m] []=some (.tuple [.nilslice,.int .i64 e],[]):=by
 have c0:¬e=0:=he
 (refine sv Tryz.f13 ?_;simp only[Tryz.f13,gS])
 (repeat first|simp only[ww]|(apply xa;simp+decide only[go_sem,hsg,c0];rfl;kernel_rfl))
 (apply fqb;simp+decide only[go_sem]<;>rfl)
end Go.RInst
namespace Go.RInst
open Go.Proofs Go.Ax Go.Pc
variable [PR]
set_option maxRecDepth 100000
end Go.RInst
namespace Go.RInst
open Go.Proofs Go.Ax Go.Pc
variable [PR]
set_option maxRecDepth 100000
/-- One vector more, packed. -/
def pkS(A:List Vc)(v:Vc):List Vc:=match A.getLast? with
 |some u=>if u.t=v.t∧u.cells=v.cells then A.dropLast++[⟨u.t,u.cells,u.rep+v.rep⟩]else A++[v]
 |none=>[v]
def pk(V:List Vc):List Vc:=V.foldl pkS []
theorem pkS_nil(v:Vc):pkS [] v=[v]:=rfl
theorem pkS_eq(A:List Vc)(u v:Vc)(h:u.t=v.t∧u.cells=v.cells):pkS (A++[u]) v=A++[⟨u.t,u.cells,u.rep+v.rep⟩]:=by simp only[pkS,List.getLast?_append,List.getLast?_singleton,Option.some_or,if_pos h,List.dropLast_concat]
theorem pkS_ne(A:List Vc)(u v:Vc)(h:¬(u.t=v.t∧u.cells=v.cells)):pkS (A++[u]) v=A++[u]++[v]:=by simp only[pkS,List.getLast?_append,List.getLast?_singleton,Option.some_or,if_neg h]
theorem last_cases{α:Type}(A:List α):A=[]∨∃B u,A=B++[u]:=by
 rcases List.eq_nil_or_concat A with h|⟨B,u,h⟩
 ·exact .inl h
 ·exact .inr ⟨B,u,by rw[h,List.concat_eq_append]⟩
theorem pk_s(V:List Vc){k:Nat}{v:Vc}(h:V[k]?=some v):pk (V.take (k+1))=pkS (pk (V.take k)) v:=by unfold pk;rw[take_s h,List.foldl_append];rfl
theorem flatV_app(A B:List Vc):flatV (A++B)=flatV A++flatV B:=by simp[flatV]
theorem repSum_app(A B:List Vc):repSum (A++B)=repSum A+repSum B:=by simp[repSum]
/-- No two neighbours are of one kind. -/
def NoEq(A:List Vc):Prop:=∀(k:Nat) (a b:Vc),A[k]?=some a→A[k+1]?=some b→¬(a.t=b.t∧a.cells=b.cells)
structure PkI(B A:List Vc):Prop where
 fl:flatV A=flatV B
 rs:repSum A=repSum B
 nn:∀a∈A,0<a.rep∧∃b∈B,a.t=b.t∧a.cells=b.cells
 ne:NoEq A
 ln:A.length≤B.length
theorem noEq_snoc{A:List Vc}{u v:Vc}(h:NoEq (A++[u]))(hv:¬(u.t=v.t∧u.cells=v.cells)):NoEq (A++[u]++[v]):=by
 intro k a b h1 h2;by_cases hk:k+1<(A++[u]).length
 ·rw[List.getElem?_append_left hk]at h2;rw[List.getElem?_append_left (by omega)]at h1;exact h k a b h1 h2
 ·have hl:(A++[u]).length=A.length+1:=by simp
  have h3:=(List.getElem?_eq_some_iff.1 h2).1;have hl2:(A++[u]++[v]).length=A.length+2:=by simp
  have hkk:k=A.length:=by omega
  subst hkk;rw[List.getElem?_append_right (by omega)]at h2;rw[List.getElem?_append_left (by omega),List.getElem?_append_right (by omega)]at h1;simp only[hl,Nat.sub_self,List.getElem?_cons_zero,Option.some.injEq]at h1 h2;subst h1;subst h2;exact hv
theorem noEq_put{A:List Vc}{u w:Vc}(h:NoEq (A++[u]))(h1:w.t=u.t)(h2:w.cells=u.cells):NoEq (A++[w]):=by
 intro k a b g1 g2;have hk:k<A.length:=by have:=(List.getElem?_eq_some_iff.1 g2).1;simp at this;omega
 rw[List.getElem?_append_left hk]at g1;by_cases hk2:k+1<A.length
 ·rw[List.getElem?_append_left hk2]at g2;exact h k a b (by rw[List.getElem?_append_left hk];exact g1) (by rw[List.getElem?_append_left hk2];exact g2)
 ·have:k+1=A.length:=by omega
  rw[List.getElem?_append_right (by omega),this,Nat.sub_self]at g2;simp only[List.getElem?_cons_zero,Option.some.injEq]at g2;subst g2;rw[h1,h2];refine h k a u (by rw[List.getElem?_append_left hk];exact g1) ?_;rw[List.getElem?_append_right (by omega),this,Nat.sub_self];rfl
theorem PkI.step{B A:List Vc}(h:PkI B A)(v:Vc)(hv:0<v.rep):PkI (B++[v]) (pkS A v):=by
 rcases last_cases A with rfl|⟨C,u,rfl⟩
 ·rw[pkS_nil];refine⟨by rw[flatV_app,←h.fl];rfl,by rw[repSum_app,←h.rs];simp[repSum],?_,?_,by simp⟩
  ·intro a ha;rw[List.mem_singleton.1 ha];exact⟨hv,v,by simp,rfl,rfl⟩
  ·intro k a b h1 h2;simp at h2
 ·by_cases e:u.t=v.t∧u.cells=v.cells
  ·rw[pkS_eq C u v e];have hu:=(h.nn u (by simp)).1;refine⟨?_,?_,?_,noEq_put h.ne rfl rfl,?_⟩
   ·rw[flatV_app,flatV_app,←h.fl,flatV_app,List.append_assoc]
    congr 1
    simp only[flatV,List.flatMap_cons,List.flatMap_nil,List.append_nil];rw[←e.1,←e.2,List.replicate_append_replicate]
    congr 1
    omega
   ·rw[repSum_app,repSum_app,←h.rs,repSum_app];simp[repSum];omega
   ·intro a ha;rcases List.mem_append.1 ha with ha|ha
    ·obtain⟨p,b,hb,q⟩:=h.nn a (by simp[ha]);exact⟨p,b,by simp[hb],q⟩
    ·rw[List.mem_singleton.1 ha];exact⟨by simp only;omega,v,by simp,e.1,e.2⟩
   ·have:=h.ln;simp at this⊢;omega
  ·rw[pkS_ne C u v e];refine⟨by rw[flatV_app,h.fl,flatV_app],by rw[repSum_app,h.rs,repSum_app],?_,noEq_snoc h.ne e,by have:=h.ln;simp at this⊢;omega⟩;intro a ha;rcases List.mem_append.1 ha with ha|ha
   ·obtain⟨p,b,hb,q⟩:=h.nn a ha;exact⟨p,b,by simp[hb],q⟩
   ·rw[List.mem_singleton.1 ha];exact⟨hv,v,by simp,rfl,rfl⟩
theorem pkI_take(V:List Vc)(h:∀v∈V,0<v.rep):∀k,k≤V.length→PkI (V.take k) (pk (V.take k))
 |0,_=>⟨rfl,rfl,(λa ha=>by simp[pk]at ha),(λk a b h1 h2=>by simp[pk]at h1),(by simp[pk])⟩
 |k+1,hk=>by
  obtain⟨v,hv⟩:∃v,V[k]?=some v:=⟨_,List.getElem?_eq_getElem (by omega)⟩
  rw[pk_s V hv,take_s hv];exact(pkI_take V h k (by omega)).step v (h v (List.mem_of_getElem? hv))
theorem rep_le:∀(A:List Vc),(∀a∈A,0<a.rep)→∀a∈A,a.rep≤repSum A
 | [],_,a,h=>by cases h
 |b::A,hA,a,h=>by
  have h1:=hA b (by simp);have h2:=repSum_nn A λv hv=>by have:=hA v (by simp[hv]);omega
  have e:repSum (b::A)=b.rep+repSum A:=by simp[repSum]
  rcases List.mem_cons.1 h with rfl|h
  ·omega
  ·have:=rep_le A (λa ha=>hA a (by simp[ha])) a h;omega
end Go.RInst
namespace Go.RInst
open Go.Proofs Go.Ax Go.Pc
variable [PR]
set_option maxRecDepth 100000
theorem sgcl_ok(r:Option (Option Nat))(l:List Sg)(hl:l.length≤1000):∃r2,sem L.env Mf 54 [sl r (l.map Sg.enc)] []=some (sl r2 (l.map Sg.enc),[]):=by
 have hb:L.env.bytes 46=24:=by kernel_rfl
 have hall:(l.map Sg.enc).all (λr=>decide (r.length=2))=true:=by rw[List.all_eq_true];intro r hr;obtain⟨x,_,rfl⟩:=List.mem_map.1 hr;rfl
 have e9:=λq d=>frzR_flat q d (sgE_flat l);cases l with
 |nil=>
  cases r with
  |none=>
   refine⟨none,?_⟩;simp only[List.map_nil,sl_none_nil]
   (refine sv Tryz.f54 ?_;simp only[Tryz.f54,gS])
   (repeat first|simp only[ww]|(apply xa;simp+decide only[go_sem];rfl;kernel_rfl))
   (apply fqb;simp+decide only[go_sem]<;>rfl)
  |some c=>
   refine⟨some (some 0),?_⟩;simp only[List.map_nil,sl_some]
   (refine sv Tryz.f54 ?_;simp only[Tryz.f54,gS])
   (repeat first|simp only[ww]|(apply xa;simp+decide only[go_sem,List.all_nil];rfl;kernel_rfl))
   (apply fqb;simp+decide only[go_sem,List.take_nil]<;>rfl)
 |cons a r'=>
  have d1:¬(a::r').length≤0:=by simp
  have hrm:roomOk L.env 46 (a::r').length=true:=room_ok (by omega) (by rw[hb];simp only[List.length_cons]at hl⊢;omega);have hlen:((Sg.enc a)::r'.map Sg.enc).length=(a::r').length:=by simp
  have ht:((Sg.enc a)::r'.map Sg.enc).take (a::r').length=(Sg.enc a)::r'.map Sg.enc:=List.take_of_length_le (by omega);simp only[List.map_cons]at hall e9⊢;generalize hR:(Sg.enc a)::r'.map Sg.enc=R at *;have hs:∀c,sl (some c) R = .islice R c:=λc=>sl_some c R;have hne:R≠[]:=by rw[←hR];simp
  have hs0:sl none R = .islice R none:=sl_none_ne hne;generalize(a::r').length=n at *;refine⟨some none,?_⟩;cases r with
  |none=>
   rw[hs0,hs]
   (refine sv Tryz.f54 ?_;simp only[Tryz.f54,gS])
   (repeat first|simp only[ww]|(apply xa;simp+decide only[go_sem,hall,hlen,d1,hrm,ht,Nat.zero_add];rfl;kernel_rfl))
   (apply fqb;simp+decide only[go_sem,e9,hlen,ht]<;>rfl)
  |some c=>
   rw[hs,hs]
   (refine sv Tryz.f54 ?_;simp only[Tryz.f54,gS])
   (repeat first|simp only[ww]|(apply xa;simp+decide only[go_sem,hall,hlen,d1,hrm,ht,Nat.zero_add];rfl;kernel_rfl))
   (apply fqb;simp+decide only[go_sem,e9,hlen,ht]<;>rfl)
theorem sgcp_ok(r:Option (Option Nat))(l:List Sg):∃r2,sem L.env Mf 42 [sl r (l.map Sg.enc)] []=some (sl r2 (l.map Sg.enc),[]):=by
 cases l with
 |nil=>
  cases r with
  |none=>
   refine⟨none,?_⟩;simp only[List.map_nil,sl_none_nil]
   (refine sv Tryz.f42 ?_;simp only[Tryz.f42,gS])
   (repeat first|simp only[ww]|(apply xa;simp+decide only[go_sem];rfl;kernel_rfl))
   (apply fqb;simp+decide only[go_sem]<;>rfl)
  |some c=>
   refine⟨some (some 0),?_⟩;simp only[List.map_nil,sl_some];rcases c with _|c
   ·(refine sv Tryz.f42 ?_;simp only[Tryz.f42,gS])
    (repeat first|simp only[ww]|(apply xa;simp+decide only[go_sem];rfl;kernel_rfl))
    (apply fqb;simp+decide only[go_sem]<;>rfl)
   ·(refine sv Tryz.f42 ?_;simp only[Tryz.f42,gS])
    (repeat first|simp only[ww]|(apply xa;simp+decide only[go_sem];rfl;kernel_rfl))
    (apply fqb;simp+decide only[go_sem]<;>rfl)
 |cons a r'=>
  have ht:((Sg.enc a)::r'.map Sg.enc).take ((Sg.enc a)::r'.map Sg.enc).length=(Sg.enc a)::r'.map Sg.enc:=List.take_of_length_le (Nat.le_refl _);have hall:((a::r').map Sg.enc).all (λr=>decide (r.length=2))=true:=by rw[List.all_eq_true];intro r hr;obtain⟨x,_,rfl⟩:=List.mem_map.1 hr;rfl
  simp only[List.map_cons]at hall⊢;generalize hR:(Sg.enc a)::r'.map Sg.enc=R at *;have hs:∀c,sl (some c) R = .islice R c:=λc=>sl_some c R;have hne:R≠[]:=by rw[←hR];simp
  have hs0:sl none R = .islice R none:=sl_none_ne hne;refine⟨some (some R.length),?_⟩;cases r with
  |none=>
   rw[hs0,hs]
   (refine sv Tryz.f42 ?_;simp only[Tryz.f42,gS])
   (repeat first|simp only[ww]|(apply xa;simp+decide only[go_sem,hall,ht,Nat.le_refl];rfl;kernel_rfl))
   (apply fqb;simp+decide only[go_sem,ht]<;>rfl)
  |some c=>
   rw[hs,hs]
   (refine sv Tryz.f42 ?_;simp only[Tryz.f42,gS])
   (repeat first|simp only[ww]|(apply xa;simp+decide only[go_sem,hall,ht,Nat.le_refl];rfl;kernel_rfl))
   (apply fqb;simp+decide only[go_sem,ht]<;>rfl)
theorem tmcl_ok(r:Option (Option Nat))(l:List Tm)(hl:l.length≤1000):∃r2,sem L.env Mf 55 [sl r (l.map Tm.enc)] []=some (sl r2 (l.map Tm.enc),[]):=by
 have hb:L.env.bytes 41=56:=by kernel_rfl
 have hall:(l.map Tm.enc).all (λr=>decide (r.length=6))=true:=by rw[List.all_eq_true];intro r hr;obtain⟨x,_,rfl⟩:=List.mem_map.1 hr;rfl
 have e9:=λq d=>frzR_flat q d (tmE_flat l);cases l with
 |nil=>
  cases r with
  |none=>
   refine⟨none,?_⟩;simp only[List.map_nil,sl_none_nil]
   (refine sv Tryz.f55 ?_;simp only[Tryz.f55,gS])
   (repeat first|simp only[ww]|(apply xa;simp+decide only[go_sem];rfl;kernel_rfl))
   (apply fqb;simp+decide only[go_sem]<;>rfl)
  |some c=>
   refine⟨some (some 0),?_⟩;simp only[List.map_nil,sl_some]
   (refine sv Tryz.f55 ?_;simp only[Tryz.f55,gS])
   (repeat first|simp only[ww]|(apply xa;simp+decide only[go_sem,List.all_nil];rfl;kernel_rfl))
   (apply fqb;simp+decide only[go_sem,List.take_nil]<;>rfl)
 |cons a r'=>
  have d1:¬(a::r').length≤0:=by simp
  have hrm:roomOk L.env 41 (a::r').length=true:=room_ok (by omega) (by rw[hb];simp only[List.length_cons]at hl⊢;omega);have hlen:((Tm.enc a)::r'.map Tm.enc).length=(a::r').length:=by simp
  have ht:((Tm.enc a)::r'.map Tm.enc).take (a::r').length=(Tm.enc a)::r'.map Tm.enc:=List.take_of_length_le (by omega);simp only[List.map_cons]at hall e9⊢;generalize hR:(Tm.enc a)::r'.map Tm.enc=R at *;have hs:∀c,sl (some c) R = .islice R c:=λc=>sl_some c R;have hne:R≠[]:=by rw[←hR];simp
  have hs0:sl none R = .islice R none:=sl_none_ne hne;generalize(a::r').length=n at *;refine⟨some none,?_⟩;cases r with
  |none=>
   rw[hs0,hs]
   (refine sv Tryz.f55 ?_;simp only[Tryz.f55,gS])
   (repeat first|simp only[ww]|(apply xa;simp+decide only[go_sem,hall,hlen,d1,hrm,ht,Nat.zero_add];rfl;kernel_rfl))
   (apply fqb;simp+decide only[go_sem,e9,hlen,ht]<;>rfl)
  |some c=>
   rw[hs,hs]
   (refine sv Tryz.f55 ?_;simp only[Tryz.f55,gS])
   (repeat first|simp only[ww]|(apply xa;simp+decide only[go_sem,hall,hlen,d1,hrm,ht,Nat.zero_add];rfl;kernel_rfl))
   (apply fqb;simp+decide only[go_sem,e9,hlen,ht]<;>rfl)
theorem tmcp_ok(r:Option (Option Nat))(l:List Tm):∃r2,sem L.env Mf 43 [sl r (l.map Tm.enc)] []=some (sl r2 (l.map Tm.enc),[]):=by
 cases l with
 |nil=>
  cases r with
  |none=>
   refine⟨none,?_⟩;simp only[List.map_nil,sl_none_nil]
   (refine sv Tryz.f43 ?_;simp only[Tryz.f43,gS])
   (repeat first|simp only[ww]|(apply xa;simp+decide only[go_sem];rfl;kernel_rfl))
   (apply fqb;simp+decide only[go_sem]<;>rfl)
  |some c=>
   refine⟨some (some 0),?_⟩;simp only[List.map_nil,sl_some];rcases c with _|c
   ·(refine sv Tryz.f43 ?_;simp only[Tryz.f43,gS])
    (repeat first|simp only[ww]|(apply xa;simp+decide only[go_sem];rfl;kernel_rfl))
    (apply fqb;simp+decide only[go_sem]<;>rfl)
   ·(refine sv Tryz.f43 ?_;simp only[Tryz.f43,gS])
    (repeat first|simp only[ww]|(apply xa;simp+decide only[go_sem];rfl;kernel_rfl))
    (apply fqb;simp+decide only[go_sem]<;>rfl)
 |cons a r'=>
  have ht:((Tm.enc a)::r'.map Tm.enc).take ((Tm.enc a)::r'.map Tm.enc).length=(Tm.enc a)::r'.map Tm.enc:=List.take_of_length_le (Nat.le_refl _);have hall:((a::r').map Tm.enc).all (λr=>decide (r.length=6))=true:=by rw[List.all_eq_true];intro r hr;obtain⟨x,_,rfl⟩:=List.mem_map.1 hr;rfl
  simp only[List.map_cons]at hall⊢;generalize hR:(Tm.enc a)::r'.map Tm.enc=R at *;have hs:∀c,sl (some c) R = .islice R c:=λc=>sl_some c R;have hne:R≠[]:=by rw[←hR];simp
  have hs0:sl none R = .islice R none:=sl_none_ne hne;refine⟨some (some R.length),?_⟩;cases r with
  |none=>
   rw[hs0,hs]
   (refine sv Tryz.f43 ?_;simp only[Tryz.f43,gS])
   (repeat first|simp only[ww]|(apply xa;simp+decide only[go_sem,hall,ht,Nat.le_refl];rfl;kernel_rfl))
   (apply fqb;simp+decide only[go_sem,ht]<;>rfl)
  |some c=>
   rw[hs,hs]
   (refine sv Tryz.f43 ?_;simp only[Tryz.f43,gS])
   (repeat first|simp only[ww]|(apply xa;simp+decide only[go_sem,hall,ht,Nat.le_refl];rfl;kernel_rfl))
   (apply fqb;simp+decide only[go_sem,ht]<;>rfl)
end Go.RInst
namespace Go.RInst
open Go.Proofs Go.Ax Go.Pc
variable [PR]
set_option maxRecDepth 100000
theorem vclip_nil:sem L.env Mf 44 [.nilslice] []=some (.nilslice,[]):=by
 (refine sv Tryz.f44 ?_;simp only[Tryz.f44,gS])
 (repeat first|simp only[ww]|(apply xa;simp+decide only[go_sem];rfl;kernel_rfl))
 (apply fqb;simp+decide only[go_sem]<;>rfl)
theorem vclip_n(n:Nat)(R:List (List AV))(hn:R.length=n)(hfl:FlatR R):sem L.env Mf 44 [.slice 0 0 n none] [some (.row 3 R)]=some (.slice 0 0 n (some n),[some (.row 3 R)]):=by
 have h1:=λπ=>renR_flat π hfl;have h2:=refs_flatR hfl;have h3:=λq d=>frzR_flat q d hfl
 (refine sv Tryz.f44 ?_;simp only[Tryz.f44,gS])
 (repeat first|simp only[ww]|(apply xa;simp+decide only[go_sem,hn,Nat.le_refl];rfl;kernel_rfl))
 (apply fqb;simp+decide only[go_sem,h1,h2,h3]<;>rfl)
/-- What Pack keeps of the vectors so far. -/
def pkR(V:List Vc)(i:Nat):List (List AV):=(pk (V.take i)).map Vc.enc
set_option maxHeartbeats 4000000 in
theorem pack_ok(rs rt rv:Option (Option Nat))(S:List Sg)(T:List Tm)(V:List Vc)(h:Valid S T V):∃r:AV×Heap,(∃a b c,r=(.tuple [.agg [sl a (S.map Sg.enc),sl b (T.map Tm.enc),sl c ((pk V).map Vc.enc)],.int .i64 0],[]))∧sem L.env Mf 26 [.agg [sl rs (S.map Sg.enc),sl rt (T.map Tm.enc),sl rv (V.map Vc.enc)]] []=some r:=by
 have hS:=h.hS;have hT:=h.hT;have hV:=h.hV;have hck:=λd H=>check_call (d:=d) H rs rt rv S T V h;obtain⟨s1,hs1⟩:=sgcl_ok rs S (by omega);obtain⟨s2,hs2⟩:=sgcp_ok s1 S;obtain⟨t1,ht1⟩:=tmcl_ok rt T (by omega);obtain⟨t2,ht2⟩:=tmcp_ok t1 T;have k1:=λd H=>callV_flat (E:=L.env) (draw:=d) (call:=sem L.env Mf) (g:=54) (fs:=[]) (cs:=[]) (ar:=[sl rs (S.map Sg.enc)]) (H:=H) (by kernel_rfl) (by kernel_rfl) rfl (by simp+decide only[go_sem]<;>rfl) hs1 (by simp+decide only[go_sem]);have k2:=λd H=>callV_flat (E:=L.env) (draw:=d) (call:=sem L.env Mf) (g:=42) (fs:=[]) (cs:=[]) (ar:=[sl s1 (S.map Sg.enc)]) (H:=H) (by kernel_rfl) (by kernel_rfl) rfl (by simp+decide only[go_sem]<;>rfl) hs2 (by simp+decide only[go_sem]);have k3:=λd H=>callV_flat (E:=L.env) (draw:=d) (call:=sem L.env Mf) (g:=55) (fs:=[]) (cs:=[]) (ar:=[sl rt (T.map Tm.enc)]) (H:=H) (by kernel_rfl) (by kernel_rfl) rfl (by simp+decide only[go_sem]<;>rfl) ht1 (by simp+decide only[go_sem]);have k4:=λd H=>callV_flat (E:=L.env) (draw:=d) (call:=sem L.env Mf) (g:=43) (fs:=[]) (cs:=[]) (ar:=[sl t1 (T.map Tm.enc)]) (H:=H) (by kernel_rfl) (by kernel_rfl) rfl (by simp+decide only[go_sem]<;>rfl) ht2 (by simp+decide only[go_sem]);have hpos:∀v∈V,0<v.rep:=λv hv=>by have:=(h.rep v hv).1;omega
 have hsum:=h.sum;have hnn:∀v∈V,0≤v.rep:=λv hv=>by have:=(h.rep v hv).1;omega
 have b29:Nat.beq 29 82=false:=by decide
 (refine svE Tryz.f26 ?_;simp only[Tryz.f26,gS])
 (repeat first|simp only[ww]|(apply xa;simp+decide only[go_sem,hck,k1,k2,k3,k4,b29,List.length_map];rfl;kernel_rfl))
 refine xp_loop3 (σ:=Nat) kp26_0 (λi=>[(2,.ptr 0 0 0),(5,.ptr 1 0 0),(25,sl rv (V.map Vc.enc)),(26,.int .i64 V.length),(27,.int .i64 (i:Nat))]) (λi=>some (.row 3 [[.nilslice,.nilslice,.nilslice]])::some (.row 3 [[sl s2 (S.map Sg.enc),sl t2 (T.map Tm.enc),grV 2 (pkR V i)]])::grH 3 (pkR V i)) (λi=>V.length-i) (λi=>i≤V.length) 0 ?_ (Nat.zero_le _) ?_
 ·have e0:pkR V 0=[]:=rfl
  (simp+decide only[go_sem,gcD_eq,gcIds_eq,e0,grV_nil,grH_nil]<;>rfl)
 ·intro i hi;by_cases hlt:i<V.length
  ·have l1:(i:Int)<V.length:=by omega
   obtain⟨v,hs⟩:∃v,V[i]?=some v:=⟨_,List.getElem?_eq_getElem hlt⟩
   have hsm:(V.map Vc.enc)[i]?=some (Vc.enc v):=by rw[List.getElem?_map,hs];rfl
   have hw:IntKind.i64.wrap ((i:Int)+1)=((i+1:Nat):Int):=by rw[w64 (by omega) (by omega)];omega
   have hps:=pk_s V hs;have hi0:=pkI_take V hpos i (by omega);have hi1:=pkI_take V hpos (i+1) (by omega);have hln:=hi0.ln;rw[List.length_take]at hln;have hrs:=hi1.rs;have hle:=repSum_le V hnn (i+1);have h5:=refs_flatR (vcE_flat (pk (V.take (i+1))));have h6:=λπ=>renR_flat π (vcE_flat (pk (V.take (i+1))));have hrl:=rep_le _ λa ha=>(hi1.nn a ha).1;unfold pkR;rcases last_cases (pk (V.take i))with hA|⟨A,u,hA⟩
   ·rw[hA,pkS_nil]at hps;rw[hA];simp only[List.map_nil,grV_nil,grH_nil]
    (repeat first|simp only[ww]|(apply xa;simp+decide only[go_sem,l1,hlt,hsm,hw,List.length_map];rfl;kernel_rfl))
    refine lp_n (i+1) ?_ (by omega) (by omega)
    (simp+decide only[go_sem,gcD_eq,gcIds_eq,hps,grV_cons,grH_cons,List.length_nil,List.map_cons,List.map_nil]<;>rfl)
   ·have hu:=hi0.nn u (by rw[hA];simp);have hAl:A.length+1≤i:=by rw[hA]at hln;simp at hln;omega
    have hne:(pk (V.take i)).map Vc.enc≠[]:=by rw[hA];simp
    rw[grV_ne 2 hne,grH_ne 3 hne,List.length_map,hA];have hAm:(A++[u]).map Vc.enc=A.map Vc.enc++[Vc.enc u]:=by simp
    have hAn:(A++[u]).length=A.length+1:=by simp
    rw[hAm,hAn];have hwn:IntKind.i64.wrap (((A.length+1:Nat):Int)-1)=((A.length:Nat):Int):=by rw[w64 (by omega) (by omega)];omega
    have hge:(0:Int)≤(A.length:Nat):=by omega
    have hl2:A.length<A.length+1:=by omega
    have hRl:(A.map Vc.enc++[Vc.enc u]).length=A.length+1:=by simp
    have hRg:(A.map Vc.enc++[Vc.enc u])[A.length]?=some (Vc.enc u):=by rw[List.getElem?_append_right (by simp)];simp
    rw[hA]at hps;by_cases he:u.t=v.t∧u.cells=v.cells
    ·rw[pkS_eq A u v he,he.1,he.2]at hps;have hmem:(⟨v.t,v.cells,u.rep+v.rep⟩:Vc)∈pk (V.take (i+1)):=by rw[hps];simp
     have hb:=hrl _ hmem;have hv:=hpos v (List.mem_of_getElem? hs);simp only at hb;have hwr:IntKind.i64.wrap (u.rep+v.rep)=u.rep+v.rep:=w64 (by omega) (by omega);have hBm:(A++[⟨v.t,v.cells,u.rep+v.rep⟩]:List Vc).map Vc.enc=A.map Vc.enc++[Vc.enc ⟨v.t,v.cells,u.rep+v.rep⟩]:=by simp
     rw[hps,hBm]at h5 h6;have hput:(A.map Vc.enc++[Vc.enc u]).set A.length [.int .i64 v.t,.str v.cells,.int .i64 (u.rep+v.rep)]=A.map Vc.enc++[Vc.enc ⟨v.t,v.cells,u.rep+v.rep⟩]:=by rw[List.set_append_right _ _ (by simp)];simp
     have hBne:A.map Vc.enc++[Vc.enc ⟨v.t,v.cells,u.rep+v.rep⟩]≠[]:=by simp
     have hgv:=grV_ne 2 hBne;have hgh:=grH_ne 3 hBne;have hBl:(A.map Vc.enc++[Vc.enc ⟨v.t,v.cells,u.rep+v.rep⟩]).length=A.length+1:=by simp
     obtain⟨e1,e2⟩:=he;generalize A.map Vc.enc++[Vc.enc ⟨v.t,v.cells,u.rep+v.rep⟩]=R2 at *;generalize A.map Vc.enc++[Vc.enc u]=R at *
     (repeat first|simp only[ww]|(apply xa;simp+decide only[go_sem,l1,hlt,hsm,hw,hwn,hge,hl2,hRl,hRg,e1,e2,hwr,hput,List.length_map];rfl;kernel_rfl))
     refine lp_n (i+1) ?_ (by omega) (by omega);simp only[hps,hBm]
     (simp+decide only[go_sem,gcD_eq,gcIds_eq,hgv,hgh,hBl,h5,h6]<;>rfl)
    ·rw[pkS_ne A u v he]at hps;have hBm:(A++[u]++[v]:List Vc).map Vc.enc=A.map Vc.enc++[Vc.enc u]++[Vc.enc v]:=by simp
     rw[hps,hBm]at h5 h6;have hrm:A.length+1+1≤1000000000:=by omega
     generalize A.map Vc.enc++[Vc.enc u]=R at *;have hBne:R++[Vc.enc v]≠[]:=by simp
     have hgv:=grV_ne 2 hBne;have hgh:=grH_ne 3 hBne;have hBl:(R++[Vc.enc v]).length=A.length+1+1:=by rw[List.length_append,hRl];rfl
     by_cases e1:u.t=v.t
     ·have e2:¬u.cells=v.cells:=λe=>he ⟨e1,e⟩
      (repeat first|simp only[ww]|(apply xa;simp+decide only[go_sem,l1,hlt,hsm,hw,hwn,hge,hl2,hRl,hRg,e1,e2,hrm,List.length_map];rfl;kernel_rfl))
      refine lp_n (i+1) ?_ (by omega) (by omega);simp only[hps,hBm]
      (simp+decide only[go_sem,gcD_eq,gcIds_eq,hgv,hgh,hBl,h5,h6]<;>rfl)
     ·(repeat first|simp only[ww]|(apply xa;simp+decide only[go_sem,l1,hlt,hsm,hw,hwn,hge,hl2,hRl,hRg,e1,hrm,List.length_map];rfl;kernel_rfl))
      refine lp_n (i+1) ?_ (by omega) (by omega);simp only[hps,hBm]
      (simp+decide only[go_sem,gcD_eq,gcIds_eq,hgv,hgh,hBl,h5,h6]<;>rfl)
  ·obtain rfl:i=V.length:=by omega
   have l1:¬(V.length:Int)<V.length:=by omega
   unfold pkR;rw[List.take_length];rcases last_cases (pk V)with hA|⟨A,u,hA⟩
   ·have hcl:=λd H=>callV_flat (E:=L.env) (draw:=d) (call:=sem L.env Mf) (g:=44) (fs:=[]) (cs:=[]) (ar:=[.nilslice]) (H:=H) (by kernel_rfl) (by kernel_rfl) rfl rfl vclip_nil rfl;rw[hA];simp only[List.map_nil,grV_nil,grH_nil]
    (repeat first|simp only[ww]|(apply xa;simp+decide only[go_sem,l1,hcl,List.length_map];rfl;kernel_rfl))
    (apply fqEb;(·simp+decide only[go_sem]<;>rfl))
    exact⟨s2,t2,none,rfl⟩
   ·have hne:(pk V).map Vc.enc≠[]:=by rw[hA];simp
    have hfl:=vcE_flat (pk V);have e9:=λq d=>frzR_flat q d hfl;obtain⟨n,hn⟩:∃n,n=(pk V).length:=⟨_,rfl⟩
    have hRl:((pk V).map Vc.enc).length=n:=by rw[List.length_map,hn]
    have hcl:callV L.env false (sem L.env Mf) (.func (.func 44) [] []) [.slice 2 0 n none] [some (.row 3 [[.nilslice,.nilslice,.nilslice]]),some (.row 3 [[sl s2 (S.map Sg.enc),sl t2 (T.map Tm.enc),.slice 2 0 n none]]),some (.row 3 ((pk V).map Vc.enc))]=some (.slice 2 0 n (some n),[some (.row 3 [[.nilslice,.nilslice,.nilslice]]),some (.row 3 [[sl s2 (S.map Sg.enc),sl t2 (T.map Tm.enc),.slice 2 0 n none]]),some (.row 3 ((pk V).map Vc.enc))],[2]):=callV_one' (by kernel_rfl) (by kernel_rfl) rfl (b:=2) (o:=.row 3 ((pk V).map Vc.enc)) (o':=.row 3 ((pk V).map Vc.enc)) rfl (refsO_flat hfl) (FlatO.row hfl) rfl rfl (vclip_n n _ hRl hfl) (FlatO.row hfl) rfl;have e11:((pk V).map Vc.enc).take n=(pk V).map Vc.enc:=List.take_of_length_le (by omega);have e12:∀c,sl (some c) ((pk V).map Vc.enc) = .islice ((pk V).map Vc.enc) c:=λc=>sl_some _ _;rw[grV_ne 2 hne,grH_ne 3 hne,hRl];generalize(pk V).map Vc.enc=R at *
    (repeat first|simp only[ww]|(apply xa;simp+decide only[go_sem,l1,hcl,List.length_map];rfl;kernel_rfl))
    (apply fqEb;(·simp+decide only[go_sem,e9,hRl,e11]<;>rfl))
    exact⟨s2,t2,some (some n),by rw[e12]⟩
end Go.RInst
namespace Go.RInst
open Go.Proofs Go.Ax Go.Pc
variable [PR]
set_option maxRecDepth 100000
end Go.RInst
namespace Go.RInst
open Go.Proofs Go.Ax Go.Pc
variable [PR]
set_option maxRecDepth 100000
theorem lives_call(hso:PR.pr [.str soT]=some (soV,[])){d:Bool}(H:Heap):callV L.env d (sem L.env Mf) (.func (.func 14) [] []) [] H=some (.bool true,H,[]):=callV_flat (by kernel_rfl) (by kernel_rfl) rfl rfl (lives_ok hso) rfl
section
variable (hso:PR.pr [.str soT]=some (soV,[]))(xs:List AV)(hxr:refsL xs=[])(hxs:xs.all AV.storable=true)(hxl:xs.length=3)(S:List Sg)(T:List Tm)(V:List Vc)(h:Valid S T V)
 (hgood:∀d H,callV L.env d (sem L.env Mf) (.func (.func 9) [] []) [.agg xs] H=some (.agg [sl none (S.map Sg.enc),sl none (T.map Tm.enc),sl none (V.map Vc.enc)],H,[]))
include hso hxr hxs hxl h hgood
end
end Go.RInst
