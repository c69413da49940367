/- Part of a proof. No condition. -/
import Derived.Test.YtmbmjfjagololaaGreatDoorRRd
import Derived.Test.YtmbmjfjagololaaGreatDoorPcB
import Derived.Test.YtmbmjfjagololaaGreatDoorAxE
set_option linter.unusedSectionVars false
set_option linter.unusedSimpArgs false
set_option linter.unusedVariables false
namespace Go.RInst
open Go.Proofs Go.Ax Go.Pc
variable [PR]
set_option maxRecDepth 100000
abbrev Sg.enc(s:Sg):List AV:=[.str s.name,.int .u8 s.dir]
abbrev Tm.enc(t:Tm):List AV:=[.str t.name,.int .i64 t.per,.int .i64 t.dr,.int .i64 t.ri,.int .i64 t.fa,.int .i64 t.st]
abbrev Vc.enc(v:Vc):List AV:=[.int .i64 v.t,.str v.cells,.int .i64 v.rep]
theorem sgv_ok(n:List UInt8)(d:Nat):sem L.env Mf 48 [.agg [.str n,.int .u8 d]] []=some (.bool (sgOk ⟨n,d⟩),[]):=by
 have h:=λd H=>isname_call (d:=d) H n;by_cases h1:nameB n=true
 ·rw[h1]at h;by_cases h2:d≤1
  ·have c2:(d:Int)≤1:=by omega
   have e:sgOk ⟨n,d⟩=true:=by simp[sgOk,h1,h2]
   rw[e]
   (refine sv Tryz.f48 ?_;simp only[Tryz.f48,gS])
   (repeat first|simp only[ww]|(apply xa;simp+decide only[go_sem,h,c2];rfl;kernel_rfl))
   (apply fqb;simp+decide only[go_sem]<;>rfl)
  ·have c2:¬(d:Int)≤1:=by omega
   have e:sgOk ⟨n,d⟩=false:=by simp[sgOk,h2]
   rw[e]
   (refine sv Tryz.f48 ?_;simp only[Tryz.f48,gS])
   (repeat first|simp only[ww]|(apply xa;simp+decide only[go_sem,h,c2];rfl;kernel_rfl))
   (apply fqb;simp+decide only[go_sem]<;>rfl)
 ·have h1:nameB n=false:=by simpa using h1
  have e:sgOk ⟨n,d⟩=false:=by simp[sgOk,h1]
  rw[h1]at h;rw[e]
  (refine sv Tryz.f48 ?_;simp only[Tryz.f48,gS])
  (repeat first|simp only[ww]|(apply xa;simp+decide only[go_sem,h];rfl;kernel_rfl))
  (apply fqb;simp+decide only[go_sem]<;>rfl)
theorem tmv_ok(t:Tm):sem L.env Mf 49 [.agg (Tm.enc t)] []=some (.bool (tmOk t),[]):=by
 have h:=λd H=>isname_call (d:=d) H t.name;by_cases h1:nameB t.name=true
 ·rw[h1]at h;by_cases k0:(1:Int)≤t.per
  ·skip
   by_cases k1:t.per≤1000000
   ·skip
    by_cases k2:(0:Int)≤t.dr
    ·skip
     by_cases k3:t.dr<t.ri
     ·skip
      by_cases k4:t.ri<t.fa
      ·skip
       by_cases k5:t.fa<t.per
       ·skip
        by_cases k6:(0:Int)≤t.st
        ·skip
         by_cases k7:t.st<t.per
         ·have e:tmOk t=true:=by simp[tmOk,h1,k0,k1,k2,k3,k4,k5,k6,k7]
          rw[e]
          (refine sv Tryz.f49 ?_;simp only[Tryz.f49,gS])
          (repeat first|simp only[ww]|(apply xa;simp+decide only[go_sem,h,k0,k1,k2,k3,k4,k5,k6,k7];rfl;kernel_rfl))
          (apply fqb;simp+decide only[go_sem]<;>rfl)
         ·have e:tmOk t=false:=by simp[tmOk,k7]
          rw[e]
          (refine sv Tryz.f49 ?_;simp only[Tryz.f49,gS])
          (repeat first|simp only[ww]|(apply xa;simp+decide only[go_sem,h,k0,k1,k2,k3,k4,k5,k6,k7];rfl;kernel_rfl))
          (apply fqb;simp+decide only[go_sem]<;>rfl)
        ·have e:tmOk t=false:=by simp[tmOk,k6]
         rw[e]
         (refine sv Tryz.f49 ?_;simp only[Tryz.f49,gS])
         (repeat first|simp only[ww]|(apply xa;simp+decide only[go_sem,h,k0,k1,k2,k3,k4,k5,k6];rfl;kernel_rfl))
         (apply fqb;simp+decide only[go_sem]<;>rfl)
       ·have e:tmOk t=false:=by simp[tmOk,k5]
        rw[e]
        (refine sv Tryz.f49 ?_;simp only[Tryz.f49,gS])
        (repeat first|simp only[ww]|(apply xa;simp+decide only[go_sem,h,k0,k1,k2,k3,k4,k5];rfl;kernel_rfl))
        (apply fqb;simp+decide only[go_sem]<;>rfl)
      ·have e:tmOk t=false:=by simp[tmOk,k4]
       rw[e]
       (refine sv Tryz.f49 ?_;simp only[Tryz.f49,gS])
       (repeat first|simp only[ww]|(apply xa;simp+decide only[go_sem,h,k0,k1,k2,k3,k4];rfl;kernel_rfl))
       (apply fqb;simp+decide only[go_sem]<;>rfl)
     ·have e:tmOk t=false:=by simp[tmOk,k3]
      rw[e]
      (refine sv Tryz.f49 ?_;simp only[Tryz.f49,gS])
      (repeat first|simp only[ww]|(apply xa;simp+decide only[go_sem,h,k0,k1,k2,k3];rfl;kernel_rfl))
      (apply fqb;simp+decide only[go_sem]<;>rfl)
    ·have e:tmOk t=false:=by simp[tmOk,k2]
     rw[e]
     (refine sv Tryz.f49 ?_;simp only[Tryz.f49,gS])
     (repeat first|simp only[ww]|(apply xa;simp+decide only[go_sem,h,k0,k1,k2];rfl;kernel_rfl))
     (apply fqb;simp+decide only[go_sem]<;>rfl)
   ·have e:tmOk t=false:=by simp[tmOk,k1]
    rw[e]
    (refine sv Tryz.f49 ?_;simp only[Tryz.f49,gS])
    (repeat first|simp only[ww]|(apply xa;simp+decide only[go_sem,h,k0,k1];rfl;kernel_rfl))
    (apply fqb;simp+decide only[go_sem]<;>rfl)
  ·have e:tmOk t=false:=by simp[tmOk,k0]
   rw[e]
   (refine sv Tryz.f49 ?_;simp only[Tryz.f49,gS])
   (repeat first|simp only[ww]|(apply xa;simp+decide only[go_sem,h,k0];rfl;kernel_rfl))
   (apply fqb;simp+decide only[go_sem]<;>rfl)
 ·have h1:nameB t.name=false:=by simpa using h1
  have e:tmOk t=false:=by simp[tmOk,h1]
  rw[h1]at h;rw[e]
  (refine sv Tryz.f49 ?_;simp only[Tryz.f49,gS])
  (repeat first|simp only[ww]|(apply xa;simp+decide only[go_sem,h];rfl;kernel_rfl))
  (apply fqb;simp+decide only[go_sem]<;>rfl)
end Go.RInst
namespace Go.RInst
open Go.Proofs Go.Ax Go.Pc
variable [PR]
set_option maxRecDepth 100000
theorem ib0_ok(s:List UInt8)(c:UInt8):sem L.env Mf 86 [.str s,.int .u8 c.toNat] []=some (.int .i64 (Lib.indexByte s c),[]):=by
 have h:∀d H,callV L.env d (sem L.env Mf) (.func (.func 102) [] []) [.str s,.int .u8 c.toNat] H=some (.int .i64 (Lib.indexByte s c),H,[]):=λd H=>by
  have hx:L.env.ext 102=true:=by kernel_rfl
  have hn:(L.env.fn 102).isSome=false:=by kernel_rfl
  simp only[callV,hx,hn,cond_true,cond_false,List.nil_append,List.append_nil,aext,Int.toNat_natCast];simp
 (refine sv Tryz.f86 ?_;simp only[Tryz.f86,gS])
 (repeat first|simp only[ww]|(apply xa;simp+decide only[go_sem,h];rfl;kernel_rfl))
 (apply fqb;simp+decide only[go_sem]<;>rfl)
theorem ib_ok(s:List UInt8)(c:UInt8):sem L.env Mf 68 [.str s,.int .u8 c.toNat] []=some (.int .i64 (Lib.indexByte s c),[]):=by
 have h:=λd H=>callV_flat (E:=L.env) (draw:=d) (call:=sem L.env Mf) (g:=86) (fs:=[]) (cs:=[]) (ar:=[.str s,.int .u8 c.toNat]) (H:=H) (by kernel_rfl) (by kernel_rfl) rfl (by rfl) (ib0_ok s c) rfl
 (refine sv Tryz.f68 ?_;simp only[Tryz.f68,gS])
 (repeat first|simp only[ww]|(apply xa;simp+decide only[go_sem,h];rfl;kernel_rfl))
 (apply fqb;simp+decide only[go_sem]<;>rfl)
theorem ib_call{d:Bool}(H:Heap)(s:List UInt8)(c:UInt8):callV L.env d (sem L.env Mf) (.func (.func 68) [] []) [.str s,.int .u8 c.toNat] H=some (.int .i64 (Lib.indexByte s c),H,[]):=callV_flat (by kernel_rfl) (by kernel_rfl) rfl rfl (ib_ok s c) rfl
theorem sgE_flat(l:List Sg):FlatR (l.map Sg.enc):=FlatR.map λ_=>rfl
theorem tmE_flat(l:List Tm):FlatR (l.map Tm.enc):=FlatR.map λ_=>rfl
theorem vcE_flat(l:List Vc):FlatR (l.map Vc.enc):=FlatR.map λ_=>rfl
theorem vecv_ok(v:Vc)(rs rt:Option (Option Nat))(S:List Sg)(T:List Tm)(V:AV)(hV:refs V=[])(hVs:V.storable=true)(hS:S.length<1000000):sem L.env Mf 50 [.agg (Vc.enc v),.agg [sl rs (S.map Sg.enc),sl rt (T.map Tm.enc),V]] []=some (.bool (vcOk v S T.length),[]):=by
 by_cases k0:v.t<0
 ·have e:vcOk v S T.length=false:=by simp[vcOk];omega
  rw[e]
  (refine sv Tryz.f50 ?_;simp only[Tryz.f50,gS])
  (repeat first|simp only[ww]|(apply xa;simp+decide only[go_sem,k0,hV,hVs,List.length_map];rfl;kernel_rfl))
  (apply fqb;simp+decide only[go_sem]<;>rfl)
 by_cases k1:(T.length:Int)≤v.t
 ·have e:vcOk v S T.length=false:=by simp[vcOk];omega
  rw[e]
  (refine sv Tryz.f50 ?_;simp only[Tryz.f50,gS])
  (repeat first|simp only[ww]|(apply xa;simp+decide only[go_sem,k0,k1,hV,hVs,List.length_map];rfl;kernel_rfl))
  (apply fqb;simp+decide only[go_sem]<;>rfl)
 by_cases k2:v.rep<1
 ·have e:vcOk v S T.length=false:=by simp[vcOk];omega
  rw[e]
  (refine sv Tryz.f50 ?_;simp only[Tryz.f50,gS])
  (repeat first|simp only[ww]|(apply xa;simp+decide only[go_sem,k0,k1,k2,hV,hVs,List.length_map];rfl;kernel_rfl))
  (apply fqb;simp+decide only[go_sem]<;>rfl)
 by_cases k3:(1000000:Int)<v.rep
 ·have e:vcOk v S T.length=false:=by simp[vcOk];omega
  rw[e]
  (refine sv Tryz.f50 ?_;simp only[Tryz.f50,gS])
  (repeat first|simp only[ww]|(apply xa;simp+decide only[go_sem,k0,k1,k2,k3,hV,hVs,List.length_map];rfl;kernel_rfl))
  (apply fqb;simp+decide only[go_sem]<;>rfl)
 by_cases k4:(v.cells.length:Int)=S.length
 case neg=>
  have e:vcOk v S T.length=false:=by
   cases hc:cellsOk S v.cells with
   |false=>simp[vcOk,hc]
   |true=>exact absurd (by rw[cells_len S v.cells hc]) k4
  rw[e]
  (refine sv Tryz.f50 ?_;simp only[Tryz.f50,gS])
  (repeat first|simp only[ww]|(apply xa;simp+decide only[go_sem,k0,k1,k2,k3,k4,hV,hVs,List.length_map];rfl;kernel_rfl))
  (apply fqb;simp+decide only[go_sem]<;>rfl)
 have k5:S.length=v.cells.length:=by omega
 have eV:vcOk v S T.length=cellsOk S v.cells:=by unfold vcOk;rw[decide_eq_true (by omega:0≤v.t),decide_eq_true (by omega:v.t<T.length),decide_eq_true (by omega:1≤v.rep),decide_eq_true (by omega:v.rep≤1000000)];rfl
 rw[eV]
 suffices hs:∃r:AV×Heap,(r=(.bool (cellsOk S v.cells),[]))∧sem L.env Mf 50 [.agg (Vc.enc v),.agg [sl rs (S.map Sg.enc),sl rt (T.map Tm.enc),V]] []=some r by obtain⟨r,rfl,h3⟩:=hs;exact h3
 have hib:=λd H s c=>ib_call (d:=d) H s c
 (refine svE Tryz.f50 ?_;simp only[Tryz.f50,gS])
 (repeat first|simp only[ww]|(apply xa;simp+decide only[go_sem,k0,k1,k2,k3,k4,hV,hVs,List.length_map];rfl;kernel_rfl))
 refine xp_loop3 (σ:=Nat) kp50_0 (λi=>[(2,.ptr 0 0 0),(39,sl rs (S.map Sg.enc)),(40,.int .i64 S.length),(41,.int .i64 (i:Nat))]) (λ_=>[some (.row 3 [Vc.enc v])]) (λi=>S.length-i) (λi=>i≤S.length∧∀(j:Nat) (s:Sg) (c:UInt8),j<i→S[j]?=some s→v.cells[j]?=some c→(letters s.dir).contains c=true) 0 ?_ ⟨Nat.zero_le _,λj _ _ h=>by omega⟩ ?_
 ·(simp+decide only[go_sem,gcD_eq,gcIds_eq]<;>rfl)
 ·rintro i ⟨hi,hall⟩
  by_cases hlt:i<S.length
  ·have l1:(i:Int)<S.length:=by omega
   obtain⟨s,hs⟩:∃s,S[i]?=some s:=⟨_,List.getElem?_eq_getElem hlt⟩
   obtain⟨c,hc⟩:∃c,v.cells[i]?=some c:=⟨_,List.getElem?_eq_getElem (by omega)⟩
   have hw:IntKind.i64.wrap ((i:Int)+1)=((i+1:Nat):Int):=by rw[w64 (by omega) (by omega)];omega
   have hsm:(S.map Sg.enc)[i]?=some (Sg.enc s):=by rw[List.getElem?_map,hs];rfl
   have hnext:(letters s.dir).contains c=true→∀(j:Nat) (s:Sg) (c:UInt8),j<i+1→S[j]?=some s→v.cells[j]?=some c→(letters s.dir).contains c=true:=by
    intro h j s' c' hj h1 h2;by_cases e:j=i
    ·subst e;rw[hs]at h1;rw[hc]at h2;cases h1;cases h2;exact h
    ·exact hall j s' c' (by omega) h1 h2
   have hlc:i<v.cells.length:=by omega
   by_cases hd:s.dir=1
   ·have d1:(s.dir:Int)=1:=by omega
    have hL:letters s.dir=[76,72,88]:=by rw[hd];rfl
    by_cases hk:(letters s.dir).contains c=true
    ·have c1:¬Lib.indexByte [76,72,88] c<0:=by have:=ib_yes _ _ hk;rw[hL]at this;omega
     (repeat first|simp only[ww]|(apply xa;simp+decide only[go_sem,l1,hw,hsm,hs,hc,hlc,d1,hib,c1,List.length_map];rfl;kernel_rfl))
     refine lp_n (i+1) ?_ (by omega) ⟨by omega,hnext hk⟩
     (simp+decide only[go_sem,gcD_eq,gcIds_eq]<;>rfl)
    ·have hk:(letters s.dir).contains c=false:=by cases h:(letters s.dir).contains c with|true=>exact absurd h hk|false=>rfl
     have c1:Lib.indexByte [76,72,88] c<0:=by have:=ib_no _ _ hk;rw[hL]at this;omega
     have hr:cellsOk S v.cells=false:=cells_false S v.cells i s c hs hc hk
     (repeat first|simp only[ww]|(apply xa;simp+decide only[go_sem,l1,hw,hsm,hs,hc,hlc,d1,hib,c1,List.length_map];rfl;kernel_rfl))
     (apply fqEb;(·simp+decide only[go_sem]<;>rfl))
     rw[hr]
   ·have d1:¬(s.dir:Int)=1:=by omega
    have hL:letters s.dir=[48,49,88,80]:=if_neg hd;by_cases hk:(letters s.dir).contains c=true
    ·have c1:¬Lib.indexByte [48,49,88,80] c<0:=by have:=ib_yes _ _ hk;rw[hL]at this;omega
     (repeat first|simp only[ww]|(apply xa;simp+decide only[go_sem,l1,hw,hsm,hs,hc,hlc,d1,hib,c1,List.length_map];rfl;kernel_rfl))
     refine lp_n (i+1) ?_ (by omega) ⟨by omega,hnext hk⟩
     (simp+decide only[go_sem,gcD_eq,gcIds_eq]<;>rfl)
    ·have hk:(letters s.dir).contains c=false:=by cases h:(letters s.dir).contains c with|true=>exact absurd h hk|false=>rfl
     have c1:Lib.indexByte [48,49,88,80] c<0:=by have:=ib_no _ _ hk;rw[hL]at this;omega
     have hr:cellsOk S v.cells=false:=cells_false S v.cells i s c hs hc hk
     (repeat first|simp only[ww]|(apply xa;simp+decide only[go_sem,l1,hw,hsm,hs,hc,hlc,d1,hib,c1,List.length_map];rfl;kernel_rfl))
     (apply fqEb;(·simp+decide only[go_sem]<;>rfl))
     rw[hr]
  ·have l1:¬(i:Int)<S.length:=by omega
   have hr:cellsOk S v.cells=true:=cells_true S v.cells k5 λj s c h1 h2=>hall j s c (by have:=(List.getElem?_eq_some_iff.1 h1).1;omega) h1 h2
   (repeat first|simp only[ww]|(apply xa;simp+decide only[go_sem,l1];rfl;kernel_rfl))
   (apply fqEb;(·simp+decide only[go_sem]<;>rfl))
   rw[hr]
end Go.RInst
namespace Go.RInst
open Go.Proofs Go.Ax Go.Pc
variable [PR]
set_option maxRecDepth 100000
theorem twice_nil:sem L.env Mf 51 [.nilslice] []=some (.bool false,[]):=sem_of (E:=L.env) sems_nil 60 (by kernel_rfl)
def stR(s:List UInt8):List AV:=[.str s]
theorem stR_flat(l:List (List UInt8)):FlatR (l.map stR):=FlatR.map λ_=>rfl
theorem clone_ok(n:Nat)(R:List (List AV))(hn:R.length=n)(h0:0<n)(h1:n≤1000)(hall:R.all (λr=>decide (r.length=1))=true):sem L.env Mf 69 [.slice 0 0 n none] [some (.row 1 R)]=some (.slice 2 0 n none,[some (.row 1 R),some (.row 1 []),some (.row 1 R)]):=by
 have hb:L.env.bytes 9=16:=by kernel_rfl
 have hrm:roomOk L.env 9 n=true:=room_ok (by omega) (by rw[hb];decide);have d1:¬n≤0:=by omega
 have ht:R.take n=R:=List.take_of_length_le (by omega)
 (refine sv Tryz.f69 ?_;simp only[Tryz.f69,gS])
 (repeat first|simp only[ww]|(apply xa;simp+decide only[go_sem,hall,hn,d1,hrm,ht,Nat.zero_add];rfl;kernel_rfl))
 (apply fqb;simp+decide only[go_sem]<;>rfl)
theorem clone_call(n:Nat)(l:List (List UInt8))(hn:l.length=n)(h0:0<n)(h1:n≤1000):callV L.env false (sem L.env Mf) (.func (.func 69) [] []) [.slice 0 0 n none] [some (.row 1 (l.map stR))]=some (.slice 2 0 n none,[some (.row 1 (l.map stR)),some (.row 1 []),some (.row 1 (l.map stR))],[0]):=by
 have hr:=λπ=>renR_flat π (stR_flat l);have hall:(l.map stR).all (λr=>decide (r.length=1))=true:=by rw[List.all_eq_true];intro r hr;obtain⟨x,_,rfl⟩:=List.mem_map.1 hr;rfl
 have hc:=callLoc_eq (sem L.env Mf 69) [.slice 0 0 n none] [some (.row 1 (l.map stR))] (σ:=[0]) (reach_one (refsO_flat (stR_flat l))) rfl rfl (args':=[.slice 0 0 n none]) rfl (H0:=[some (.row 1 (l.map stR))]) (by simp only[smallH,List.map_cons,List.map_nil,HeapF,List.getElem?_cons_zero,Option.join_some,Option.map_some,renObj,hr]) (clone_ok n (l.map stR) (by simp[hn]) h0 h1 hall);refine callV_eqn (by kernel_rfl) (by kernel_rfl) rfl (hc.trans ?_);have e1:putBack [0] 1 [some (.row 1 (l.map stR)),some (.row 1 []),some (.row 1 (l.map stR))] 0 [some (.row 1 (l.map stR))]=[some (.row 1 (l.map stR))]:=by rw[putBack_cons,putBack_nil'];show [Option.map (renObj _) (some (AObj.row 1 (l.map stR)))]=_;simp only[Option.map_some,renObj,hr]
 show some (_,putBack [0] 1 _ 0 _++_,_)=_;rw[e1];simp only[List.length_cons,List.length_nil,List.drop_succ_cons,List.drop_zero,List.map_cons,List.map_nil,Option.map_some,renObj,hr];rfl
theorem sorts_ok(n:Nat)(l:List (List UInt8))(hn:l.length=n)(h0:0<n)(h1:n≤1000):sem L.env Mf 70 [.slice 0 0 n none] [some (.row 1 (l.map stR))]=some (.tuple [],[some (.row 1 ((sortS l).map stR))]):=by
 refine sem_run (by intro y hy;cases hy) 0 ?_;have hp:primH L.env 70 [.slice 0 0 n none] [some (.row 1 (l.map stR))]=some (.tuple [],[some (.row 1 ((sortS l).map stR))]):=by
  show sortP [.slice 0 0 n none] [some (.row 1 (l.map stR))]=_;have b1:Nat.beq n (l.map stR).length=true:=by rw[Nat.beq_eq,List.length_map];exact hn.symm
  have b2:Nat.blt 0 n=true:=by rw[Nat.blt_eq];exact h0
  have b3:Nat.ble n bigB=true:=by rw[Nat.ble_eq];exact Nat.le_trans h1 (by decide)
  have b4:unS (l.map stR)=some l:=unS_strs l;simp only[sortP,b1,b2,b3,b4];rfl
 unfold runFn;rw[hp]
theorem compact_ok(n:Nat)(m:List (List UInt8))(hn:m.length=n)(h1:n≤1000)(hd:∀k a b,m[k]?=some a→m[k+1]?=some b→¬b=a):sem L.env Mf 71 [.slice 0 0 n none] [some (.row 1 (m.map stR))]=some (.slice 0 0 n none,[some (.row 1 (m.map stR))]):=by
 have hr:=λπ=>renR_flat π (stR_flat m);have hrf:=refs_flatR (stR_flat m);have hfz:=λq d=>frzR_flat q d (stR_flat m);by_cases h2:(n:Int)<2
 ·(refine sv Tryz.f71 ?_;simp only[Tryz.f71,gS])
  (repeat first|simp only[ww]|(apply xa;simp+decide only[go_sem,h2];rfl;kernel_rfl))
  (apply fqb;simp+decide only[go_sem,hr,hfz,hrf]<;>rfl)
 ·(refine sv Tryz.f71 ?_;simp only[Tryz.f71,gS])
  (repeat first|simp only[ww]|(apply xa;simp+decide only[go_sem,h2];rfl;kernel_rfl))
  refine xp_loop3 (σ:=Nat) kp71_0 (λi=>[(0,.slice 0 0 n none),(3,.int .i64 (i:Nat))]) (λ_=>[some (.row 1 (m.map stR))]) (λi=>n-i) (λi=>1≤i∧i≤n) 1 ?_ ⟨Nat.le_refl _,by omega⟩ ?_
  ·(simp+decide only[go_sem,gcD_eq,gcIds_eq,hr,hrf]<;>rfl)
  ·rintro i ⟨hi1,hi⟩
   by_cases hlt:i<n
   ·have l1:(i:Int)<n:=by omega
    obtain⟨b,hb⟩:∃b,m[i]?=some b:=⟨_,List.getElem?_eq_getElem (by omega)⟩
    obtain⟨a,ha⟩:∃a,m[i-1]?=some a:=⟨_,List.getElem?_eq_getElem (by omega)⟩
    have hba:¬b=a:=hd (i-1) a b ha (by rw[show i-1+1=i by omega];exact hb);have hw:IntKind.i64.wrap ((i:Int)+1)=((i+1:Nat):Int):=by rw[w64 (by omega) (by omega)];omega
    have hw2:IntKind.i64.wrap ((i:Int)-1)=((i-1:Nat):Int):=by rw[w64 (by omega) (by omega)];omega
    have g1:(m.map stR)[i]?=some [.str b]:=by rw[List.getElem?_map,hb];rfl
    have g2:(m.map stR)[i-1]?=some [.str a]:=by rw[List.getElem?_map,ha];rfl
    have l2:i-1<n:=by omega
    (repeat first|simp only[ww]|(apply xa;simp+decide only[go_sem,l1,hlt,l2,hba,hw,hw2,g1,g2];rfl;kernel_rfl))
    refine lp_n (i+1) ?_ (by omega) ⟨by omega,by omega⟩
    (simp+decide only[go_sem,gcD_eq,gcIds_eq,hr,hrf]<;>rfl)
   ·have l1:¬(i:Int)<n:=by omega
    (repeat first|simp only[ww]|(apply xa;simp+decide only[go_sem,l1];rfl;kernel_rfl))
    (apply fqb;simp+decide only[go_sem,hr,hfz,hrf]<;>rfl)
theorem sort_adj{l:List (List UInt8)}(h:l.Nodup):∀k a b,(sortS l)[k]?=some a→(sortS l)[k+1]?=some b→¬b=a:=by intro k a b h1 h2 e;have hn:(sortS l).Nodup:=(sortS_perm l).symm.nodup h;obtain⟨l1,e1⟩:=List.getElem?_eq_some_iff.1 h1;obtain⟨l2,e2⟩:=List.getElem?_eq_some_iff.1 h2;exact List.pairwise_iff_getElem.1 hn k (k+1) l1 l2 (by omega) (by rw[e1,e2,e])
theorem twice_nd(n:Nat)(l:List (List UInt8))(hn:l.length=n)(h0:0<n)(h1:n≤1000)(hd:l.Nodup):sem L.env Mf 51 [.slice 0 0 n none] [some (.row 1 (l.map stR))]=some (.bool false,[some (.row 1 (l.map stR))]):=by
 have hr:=λπ=>renR_flat π (stR_flat l);have hrf:=refs_flatR (stR_flat l);have hfz:=λq d=>frzR_flat q d (stR_flat l);have hl':(sortS l).length=n:=by rw[(sortS_perm l).length_eq,hn]
 have k1:=clone_call n l hn h0 h1;have k2:callV L.env false (sem L.env Mf) (.func (.func 70) [] []) [.slice 2 0 n none] [some (.row 1 (l.map stR)),some (.row 1 []),some (.row 1 (l.map stR))]=some (.tuple [],[some (.row 1 (l.map stR)),some (.row 1 []),some (.row 1 ((sortS l).map stR))],[2]):=callV_one' (by kernel_rfl) (by kernel_rfl) rfl (b:=2) (o:=.row 1 (l.map stR)) (o':=.row 1 ((sortS l).map stR)) rfl (refsO_flat (stR_flat l)) (FlatO.row (stR_flat l)) rfl rfl (sorts_ok n l hn h0 h1) (FlatO.row (stR_flat _)) rfl;have k3:callV L.env false (sem L.env Mf) (.func (.func 71) [] []) [.slice 2 0 n none] [some (.row 1 (l.map stR)),some (.row 1 []),some (.row 1 ((sortS l).map stR))]=some (.slice 2 0 n none,[some (.row 1 (l.map stR)),some (.row 1 []),some (.row 1 ((sortS l).map stR))],[2]):=callV_one' (by kernel_rfl) (by kernel_rfl) rfl (b:=2) (o:=.row 1 ((sortS l).map stR)) (o':=.row 1 ((sortS l).map stR)) rfl (refsO_flat (stR_flat _)) (FlatO.row (stR_flat _)) rfl rfl (compact_ok n _ hl' h1 (sort_adj hd)) (FlatO.row (stR_flat _)) rfl;have l1:¬(n:Int)<n:=by omega
 (refine sv Tryz.f51 ?_;simp only[Tryz.f51,gS])
 (repeat first|simp only[ww]|(apply xa;simp+decide only[go_sem,k1,k2,k3,l1];rfl;kernel_rfl))
 (apply fqb;simp+decide only[go_sem,hr,hfz,hrf]<;>rfl)
end Go.RInst
namespace Go.RInst
open Go.Proofs Go.Ax Go.Pc
variable [PR]
set_option maxRecDepth 100000
def snR(s:Sg):List AV:=[.str s.name]
def tnR(t:Tm):List AV:=[.str t.name]
theorem snR_flat(l:List Sg):FlatR (l.map snR):=FlatR.map λ_=>rfl
theorem tnR_flat(l:List Tm):FlatR (l.map tnR):=FlatR.map λ_=>rfl
theorem snR_str(l:List Sg):l.map snR=(l.map Sg.name).map stR:=by simp[snR,stR]
theorem tnR_str(l:List Tm):l.map tnR=(l.map Tm.name).map stR:=by simp[tnR,stR]
theorem take_s{α:Type}{l:List α}{i:Nat}{x:α}(h:l[i]?=some x):l.take (i+1)=l.take i++[x]:=by rw[List.take_add_one,h];rfl
theorem tw_call{d:Bool}(H:Heap)(b:Nat)(ns:List (List UInt8))(hH:ns≠[]→HeapF H b=some (.row 1 (ns.map stR)))(hn:ns.length≤1000)(hd:ns.Nodup):∃σ,callV L.env d (sem L.env Mf) (.func (.func 51) [] []) [grV b (ns.map stR)] H=some (.bool false,H,σ):=by
 cases ns with
 |nil=>exact⟨[],callV_flat (by kernel_rfl) (by kernel_rfl) rfl rfl twice_nil rfl⟩
 |cons a r=>refine⟨[b],?_⟩;rw[grV_ne b (by simp),List.length_map];exact callV_one (by kernel_rfl) (by kernel_rfl) rfl (hH (by simp)) (refsO_flat (stR_flat _)) (FlatO.row (stR_flat _)) rfl (ren_slice1 b 0 _ _▸rfl) (twice_nd (a::r).length (a::r) rfl (by simp) hn hd) rfl
def repSum(V:List Vc):Int:=(V.map Vc.rep).sum
theorem repSum_s(V:List Vc){i:Nat}{v:Vc}(h:V[i]?=some v):repSum (V.take (i+1))=repSum (V.take i)+v.rep:=by rw[take_s h];simp[repSum]
theorem repSum_nn:∀(V:List Vc),(∀v∈V,0≤v.rep)→0≤repSum V
 | [],_=>by simp[repSum]
 |v::V,h=>by have:=repSum_nn V λx hx=>h x (by simp[hx]);have:=h v (by simp);simp[repSum]at *;omega
theorem repSum_le(V:List Vc)(h:∀v∈V,0≤v.rep)(i:Nat):repSum (V.take i)≤repSum V:=by
 have e:repSum V=repSum (V.take i)+repSum (V.drop i):=by unfold repSum;rw[←List.sum_append,←List.map_append,List.take_append_drop]
 have:=repSum_nn (V.drop i) λv hv=>h v (List.mem_of_mem_drop hv);omega
/-- A valid program of few parts. -/
structure Valid(S:List Sg)(T:List Tm)(V:List Vc):Prop where
 hS:S.length≤100
 hT:T.length≤16
 hV:V.length≤100
 sg:∀s∈S,sgOk s=true
 tm:∀t∈T,tmOk t=true
 vc:∀v∈V,vcOk v S T.length=true
 sn:(S.map Sg.name).Nodup
 tn:(T.map Tm.name).Nodup
 sum:repSum V≤1000000
theorem Valid.rep{S:List Sg}{T:List Tm}{V:List Vc}(h:Valid S T V):∀v∈V,1≤v.rep∧v.rep≤1000000:=by intro v hv;have:=h.vc v hv;simp only[vcOk,Bool.and_eq_true,decide_eq_true_eq]at this;exact⟨this.2.2.1,this.2.2.2.1⟩
theorem check_ok(rs rt rv:Option (Option Nat))(S:List Sg)(T:List Tm)(V:List Vc)(h:Valid S T V):sem L.env Mf 21 [.agg [sl rs (S.map Sg.enc),sl rt (T.map Tm.enc),sl rv (V.map Vc.enc)]] []=some (.int .i64 0,[]):=by
 have hS:=h.hS;have hT:=h.hT;have hV:=h.hV;have c1:¬(256:Int)<S.length:=by omega
 have c2:¬(16:Int)<T.length:=by omega
 have c3:¬(65536:Int)<V.length:=by omega
 have hsg:=λd H n k=>callV_flat (E:=L.env) (draw:=d) (call:=sem L.env Mf) (g:=48) (fs:=[]) (cs:=[]) (ar:=[.agg [.str n,.int .u8 (k:Nat)]]) (H:=H) (by kernel_rfl) (by kernel_rfl) rfl (by rfl) (sgv_ok n k) rfl;have htm:=λd H t=>callV_flat (E:=L.env) (draw:=d) (call:=sem L.env Mf) (g:=49) (fs:=[]) (cs:=[]) (ar:=[.agg (Tm.enc t)]) (H:=H) (by kernel_rfl) (by kernel_rfl) rfl (by rfl) (tmv_ok t) rfl;have hvc:=λd H v=>callV_flat (E:=L.env) (draw:=d) (call:=sem L.env Mf) (g:=50) (fs:=[]) (cs:=[]) (ar:=[.agg (Vc.enc v),.agg [sl rs (S.map Sg.enc),sl rt (T.map Tm.enc),sl rv (V.map Vc.enc)]]) (H:=H) (by kernel_rfl) (by kernel_rfl) rfl (by simp+decide only[go_sem]<;>rfl) (vecv_ok v rs rt S T (sl rv (V.map Vc.enc)) (by simp+decide only[go_sem]) (by simp+decide only[go_sem]) (by omega)) rfl
 (refine sv Tryz.f21 ?_;simp only[Tryz.f21,gS])
 (repeat first|simp only[ww]|(apply xa;simp+decide only[go_sem,c1,c2,c3,List.length_map];rfl;kernel_rfl))
 refine xp_loop3 (σ:=Nat) kp21_0 (λi=>[(1,.ptr 0 0 0),(3,grV 1 ((S.take i).map snR)),(4,.nilslice),(29,sl rs (S.map Sg.enc)),(30,.int .i64 S.length),(31,.int .i64 (i:Nat))]) (λi=>some (.row 3 [[sl rs (S.map Sg.enc),sl rt (T.map Tm.enc),sl rv (V.map Vc.enc)]])::grH 1 ((S.take i).map snR)) (λi=>S.length-i) (λi=>i≤S.length) 0 ?_ (Nat.zero_le _) ?_
 ·(simp+decide only[go_sem,gcD_eq,gcIds_eq,List.take_zero,List.map_nil,grV_nil,grH_nil]<;>rfl)
 ·intro i hi;by_cases hlt:i<S.length
  ·have l1:(i:Int)<S.length:=by omega
   obtain⟨s,hs⟩:∃s,S[i]?=some s:=⟨_,List.getElem?_eq_getElem hlt⟩
   have hv1:sgOk ⟨s.name,s.dir⟩=true:=h.sg s (List.mem_of_getElem? hs);have hval:=hsg;have hsm:(S.map Sg.enc)[i]?=some (Sg.enc s):=by rw[List.getElem?_map,hs];rfl
   have hw:IntKind.i64.wrap ((i:Int)+1)=((i+1:Nat):Int):=by rw[w64 (by omega) (by omega)];omega
   have hsr:(S.take (i+1)).map snR=(S.take i).map snR++[[.str s.name]]:=by rw[take_s hs,List.map_append];rfl
   have h5:=refs_flatR (snR_flat (S.take (i+1)));have h6:=λπ=>renR_flat π (snR_flat (S.take (i+1)));have hlen:((S.take i).map snR).length=i:=by rw[List.length_map,List.length_take];omega
   have hrm:i+1≤1000000000:=by omega
   by_cases hk:i=0
   ·subst hk;have e0:(S.take 0).map snR=[]:=rfl;rw[e0]at hsr⊢;simp only[List.nil_append]at hsr
    (repeat first|simp only[ww]|(apply xa;simp+decide only[go_sem,l1,hlt,hsm,hval,hv1,hw,List.length_map,grV_nil,grH_nil];rfl;kernel_rfl))
    refine lp_n (0+1) ?_ (by omega) (by omega)
    (simp+decide only[go_sem,gcD_eq,gcIds_eq,hsr,grV_cons,grH_cons,List.length_nil]<;>rfl)
   ·have hne:(S.take i).map snR≠[]:=by intro e;rw[e]at hlen;simp at hlen;omega
    rw[grV_ne 1 hne,grH_ne 1 hne,hlen];rw[hsr]at h5 h6;generalize(S.take i).map snR=R at hsr hlen h5 h6
    (repeat first|simp only[ww]|(apply xa;simp+decide only[go_sem,l1,hlt,hsm,hval,hv1,hw,hlen,hrm,List.length_map];rfl;kernel_rfl))
    refine lp_n (i+1) ?_ (by omega) (by omega)
    (simp+decide only[go_sem,gcD_eq,gcIds_eq,hsr,grV_snoc,grH_snoc,h5,h6,hlen]<;>rfl)
  ·obtain rfl:i=S.length:=by omega
   have l1:¬(S.length:Int)<S.length:=by omega
   have hf1:=refs_flatR (snR_flat S);have hf2:=λπ=>renR_flat π (snR_flat S);rw[List.take_length];by_cases hk:S=[]
   ·have e1:S.map snR=[]:=by rw[hk];rfl
    rw[e1];simp only[grV_nil,grH_nil]
    (repeat first|simp only[ww]|(apply xa;simp+decide only[go_sem,l1,List.length_map];rfl;kernel_rfl))
    refine xp_loop3 (σ:=Nat) kp21_2 (λi=>[(1,.ptr 0 0 0),(3,.nilslice),(4,grV 1 ((T.take i).map tnR)),(45,sl rt (T.map Tm.enc)),(46,.int .i64 T.length),(47,.int .i64 (i:Nat))]) (λi=>some (.row 3 [[sl rs (S.map Sg.enc),sl rt (T.map Tm.enc),sl rv (V.map Vc.enc)]])::grH 1 ((T.take i).map tnR)) (λi=>T.length-i) (λi=>i≤T.length) 0 ?_ (Nat.zero_le _) ?_
    ·(simp+decide only[go_sem,gcD_eq,gcIds_eq,List.take_zero,List.map_nil,grV_nil,grH_nil]<;>rfl)
    ·intro i hi;by_cases hlt:i<T.length
     ·have l1:(i:Int)<T.length:=by omega
      obtain⟨t,hs⟩:∃t,T[i]?=some t:=⟨_,List.getElem?_eq_getElem hlt⟩
      have hv1:tmOk t=true:=h.tm t (List.mem_of_getElem? hs);have hval:=htm;have hsm:(T.map Tm.enc)[i]?=some (Tm.enc t):=by rw[List.getElem?_map,hs];rfl
      have hw:IntKind.i64.wrap ((i:Int)+1)=((i+1:Nat):Int):=by rw[w64 (by omega) (by omega)];omega
      have hsr:(T.take (i+1)).map tnR=(T.take i).map tnR++[[.str t.name]]:=by rw[take_s hs,List.map_append];rfl
      have h5:=refs_flatR (tnR_flat (T.take (i+1)));have h6:=λπ=>renR_flat π (tnR_flat (T.take (i+1)));have hlen:((T.take i).map tnR).length=i:=by rw[List.length_map,List.length_take];omega
      have hrm:i+1≤1000000000:=by omega
      by_cases hk:i=0
      ·subst hk;have e0:(T.take 0).map tnR=[]:=rfl;rw[e0]at hsr⊢;simp only[List.nil_append]at hsr
       (repeat first|simp only[ww]|(apply xa;simp+decide only[go_sem,l1,hlt,hsm,hval,hv1,hw,List.length_map,grV_nil,grH_nil];rfl;kernel_rfl))
       refine lp_n (0+1) ?_ (by omega) (by omega)
       (simp+decide only[go_sem,gcD_eq,gcIds_eq,hsr,grV_cons,grH_cons,List.length_nil]<;>rfl)
      ·have hne:(T.take i).map tnR≠[]:=by intro e;rw[e]at hlen;simp at hlen;omega
       rw[grV_ne 1 hne,grH_ne 1 hne,hlen];rw[hsr]at h5 h6;generalize(T.take i).map tnR=R at hsr hlen h5 h6
       (repeat first|simp only[ww]|(apply xa;simp+decide only[go_sem,l1,hlt,hsm,hval,hv1,hw,hlen,hrm,List.length_map];rfl;kernel_rfl))
       refine lp_n (i+1) ?_ (by omega) (by omega)
       (simp+decide only[go_sem,gcD_eq,gcIds_eq,hsr,grV_snoc,grH_snoc,h5,h6,hlen]<;>rfl)
     ·obtain rfl:i=T.length:=by omega
      have l2:¬(T.length:Int)<T.length:=by omega
      have hg1:=refs_flatR (tnR_flat T);have hg2:=λπ=>renR_flat π (tnR_flat T);rw[List.take_length];by_cases hkT:T=[]
      ·have e2:T.map tnR=[]:=by rw[hkT];rfl
       rw[e2];simp only[grV_nil,grH_nil]
       (repeat first|simp only[ww]|(apply xa;simp+decide only[go_sem,l2,List.length_map];rfl;kernel_rfl))
       refine xp_loop3 (σ:=Nat) kp21_4 (λi=>[(1,.ptr 0 0 0),(3,.nilslice),(4,.nilslice),(9,.int .i64 (repSum (V.take i))),(61,sl rv (V.map Vc.enc)),(62,.int .i64 V.length),(63,.int .i64 (i:Nat))]) (λ_=>[some (.row 3 [[sl rs (S.map Sg.enc),sl rt (T.map Tm.enc),sl rv (V.map Vc.enc)]])]) (λi=>V.length-i) (λi=>i≤V.length) 0 ?_ (Nat.zero_le _) ?_
       ·have e0:repSum (V.take 0)=0:=rfl
        (simp+decide only[go_sem,gcD_eq,gcIds_eq,e0]<;>rfl)
       ·intro i hi;by_cases hlt:i<V.length
        ·have l3:(i:Int)<V.length:=by omega
         obtain⟨v,hs⟩:∃v,V[i]?=some v:=⟨_,List.getElem?_eq_getElem hlt⟩
         have hv1:vcOk v S T.length=true:=h.vc v (List.mem_of_getElem? hs);have hsm:(V.map Vc.enc)[i]?=some (Vc.enc v):=by rw[List.getElem?_map,hs];rfl
         have hw:IntKind.i64.wrap ((i:Int)+1)=((i+1:Nat):Int):=by rw[w64 (by omega) (by omega)];omega
         have hrs:=repSum_s V hs;have hnn:∀v∈V,0≤v.rep:=λv hv=>by have:=(h.rep v hv).1;omega
         have hle:=repSum_le V hnn (i+1);have hge:=repSum_nn (V.take i) λv hv=>hnn v (List.mem_of_mem_take hv);have hrp:=h.rep v (List.mem_of_getElem? hs);have hsum:=h.sum;have hw2:IntKind.i64.wrap (repSum (V.take i)+v.rep)=repSum (V.take (i+1)):=by rw[w64 (by omega) (by omega)];omega
         have hmn:repSum (V.take (i+1))<1000001:=by omega
         have hmn2:¬(1000001:Int)<repSum (V.take (i+1)):=by omega
         have hmn3:repSum (V.take (i+1))≤1000001:=by omega
         (repeat first|simp only[ww]|(apply xa;simp+decide only[go_sem,l3,hlt,hsm,hvc,hv1,hw,hw2,hmn,hmn2,hmn3,List.length_map];rfl;kernel_rfl))
         refine lp_n (i+1) ?_ (by omega) (by omega)
         (simp+decide only[go_sem,gcD_eq,gcIds_eq]<;>rfl)
        ·obtain rfl:i=V.length:=by omega
         have l3:¬(V.length:Int)<V.length:=by omega
         have hsum:=h.sum;have l4:¬(1000000:Int)<repSum V:=by omega
         rw[List.take_length];obtain⟨σ1,w1⟩:=tw_call (d:=false) [some (.row 3 [[sl rs (S.map Sg.enc),sl rt (T.map Tm.enc),sl rv (V.map Vc.enc)]])] 1 (S.map Sg.name) (λhh=>absurd (by rw[hk];rfl) hh) (by rw[List.length_map];omega) h.sn;obtain⟨σ2,w2⟩:=tw_call (d:=false) [some (.row 3 [[sl rs (S.map Sg.enc),sl rt (T.map Tm.enc),sl rv (V.map Vc.enc)]])] 1 (T.map Tm.name) (λhh=>absurd (by rw[hkT];rfl) hh) (by rw[List.length_map];omega) h.tn;rw[←snR_str]at w1;rw[←tnR_str]at w2;rw[e1,grV_nil]at w1;rw[e2,grV_nil]at w2
         (repeat first|simp only[ww]|(apply xa;simp+decide only[go_sem,l3,l4,w1,w2,List.length_map];rfl;kernel_rfl))
         (apply fqb;simp+decide only[go_sem]<;>rfl)
      ·have hneT:T.map tnR≠[]:=by simpa using hkT
       rw[grV_ne 1 hneT,grH_ne 1 hneT,List.length_map]
       (repeat first|simp only[ww]|(apply xa;simp+decide only[go_sem,l2,List.length_map];rfl;kernel_rfl))
       refine xp_loop3 (σ:=Nat) kp21_4 (λi=>[(1,.ptr 0 0 0),(3,.nilslice),(4,.slice 1 0 T.length none),(9,.int .i64 (repSum (V.take i))),(61,sl rv (V.map Vc.enc)),(62,.int .i64 V.length),(63,.int .i64 (i:Nat))]) (λ_=>[some (.row 3 [[sl rs (S.map Sg.enc),sl rt (T.map Tm.enc),sl rv (V.map Vc.enc)]]),some (.row 1 (T.map tnR))]) (λi=>V.length-i) (λi=>i≤V.length) 0 ?_ (Nat.zero_le _) ?_
       ·have e0:repSum (V.take 0)=0:=rfl
        (simp+decide only[go_sem,gcD_eq,gcIds_eq,e0,hg1,hg2]<;>rfl)
       ·intro i hi;by_cases hlt:i<V.length
        ·have l3:(i:Int)<V.length:=by omega
         obtain⟨v,hs⟩:∃v,V[i]?=some v:=⟨_,List.getElem?_eq_getElem hlt⟩
         have hv1:vcOk v S T.length=true:=h.vc v (List.mem_of_getElem? hs);have hsm:(V.map Vc.enc)[i]?=some (Vc.enc v):=by rw[List.getElem?_map,hs];rfl
         have hw:IntKind.i64.wrap ((i:Int)+1)=((i+1:Nat):Int):=by rw[w64 (by omega) (by omega)];omega
         have hrs:=repSum_s V hs;have hnn:∀v∈V,0≤v.rep:=λv hv=>by have:=(h.rep v hv).1;omega
         have hle:=repSum_le V hnn (i+1);have hge:=repSum_nn (V.take i) λv hv=>hnn v (List.mem_of_mem_take hv);have hrp:=h.rep v (List.mem_of_getElem? hs);have hsum:=h.sum;have hw2:IntKind.i64.wrap (repSum (V.take i)+v.rep)=repSum (V.take (i+1)):=by rw[w64 (by omega) (by omega)];omega
         have hmn:repSum (V.take (i+1))<1000001:=by omega
         have hmn2:¬(1000001:Int)<repSum (V.take (i+1)):=by omega
         have hmn3:repSum (V.take (i+1))≤1000001:=by omega
         (repeat first|simp only[ww]|(apply xa;simp+decide only[go_sem,l3,hlt,hsm,hvc,hv1,hw,hw2,hmn,hmn2,hmn3,List.length_map,hg1,hg2];rfl;kernel_rfl))
         refine lp_n (i+1) ?_ (by omega) (by omega)
         (simp+decide only[go_sem,gcD_eq,gcIds_eq,hg1,hg2]<;>rfl)
        ·obtain rfl:i=V.length:=by omega
         have l3:¬(V.length:Int)<V.length:=by omega
         have hsum:=h.sum;have l4:¬(1000000:Int)<repSum V:=by omega
         rw[List.take_length];obtain⟨σ1,w1⟩:=tw_call (d:=false) [some (.row 3 [[sl rs (S.map Sg.enc),sl rt (T.map Tm.enc),sl rv (V.map Vc.enc)]]),some (.row 1 (T.map tnR))] 1 (S.map Sg.name) (λhh=>absurd (by rw[hk];rfl) hh) (by rw[List.length_map];omega) h.sn;obtain⟨σ2,w2⟩:=tw_call (d:=false) [some (.row 3 [[sl rs (S.map Sg.enc),sl rt (T.map Tm.enc),sl rv (V.map Vc.enc)]]),some (.row 1 (T.map tnR))] 1 (T.map Tm.name) (λhh=>by rw[←tnR_str];rfl) (by rw[List.length_map];omega) h.tn;rw[←snR_str]at w1;rw[←tnR_str]at w2;rw[e1,grV_nil]at w1;rw[grV_ne 1 hneT,List.length_map]at w2
         (repeat first|simp only[ww]|(apply xa;simp+decide only[go_sem,l3,l4,w1,w2,List.length_map,hg1,hg2];rfl;kernel_rfl))
         (apply fqb;simp+decide only[go_sem,hg1,hg2]<;>rfl)
   ·have hne:S.map snR≠[]:=by simpa using hk
    rw[grV_ne 1 hne,grH_ne 1 hne,List.length_map]
    (repeat first|simp only[ww]|(apply xa;simp+decide only[go_sem,l1,List.length_map];rfl;kernel_rfl))
    refine xp_loop3 (σ:=Nat) kp21_2 (λi=>[(1,.ptr 0 0 0),(3,.slice 1 0 S.length none),(4,grV 2 ((T.take i).map tnR)),(45,sl rt (T.map Tm.enc)),(46,.int .i64 T.length),(47,.int .i64 (i:Nat))]) (λi=>some (.row 3 [[sl rs (S.map Sg.enc),sl rt (T.map Tm.enc),sl rv (V.map Vc.enc)]])::some (.row 1 (S.map snR))::grH 1 ((T.take i).map tnR)) (λi=>T.length-i) (λi=>i≤T.length) 0 ?_ (Nat.zero_le _) ?_
    ·(simp+decide only[go_sem,gcD_eq,gcIds_eq,List.take_zero,List.map_nil,grV_nil,grH_nil,hf1,hf2]<;>rfl)
    ·intro i hi;by_cases hlt:i<T.length
     ·have l1:(i:Int)<T.length:=by omega
      obtain⟨t,hs⟩:∃t,T[i]?=some t:=⟨_,List.getElem?_eq_getElem hlt⟩
      have hv1:tmOk t=true:=h.tm t (List.mem_of_getElem? hs);have hval:=htm;have hsm:(T.map Tm.enc)[i]?=some (Tm.enc t):=by rw[List.getElem?_map,hs];rfl
      have hw:IntKind.i64.wrap ((i:Int)+1)=((i+1:Nat):Int):=by rw[w64 (by omega) (by omega)];omega
      have hsr:(T.take (i+1)).map tnR=(T.take i).map tnR++[[.str t.name]]:=by rw[take_s hs,List.map_append];rfl
      have h5:=refs_flatR (tnR_flat (T.take (i+1)));have h6:=λπ=>renR_flat π (tnR_flat (T.take (i+1)));have hlen:((T.take i).map tnR).length=i:=by rw[List.length_map,List.length_take];omega
      have hrm:i+1≤1000000000:=by omega
      by_cases hk:i=0
      ·subst hk;have e0:(T.take 0).map tnR=[]:=rfl;rw[e0]at hsr⊢;simp only[List.nil_append]at hsr
       (repeat first|simp only[ww]|(apply xa;simp+decide only[go_sem,l1,hlt,hsm,hval,hv1,hw,List.length_map,grV_nil,grH_nil,hf1,hf2];rfl;kernel_rfl))
       refine lp_n (0+1) ?_ (by omega) (by omega)
       (simp+decide only[go_sem,gcD_eq,gcIds_eq,hsr,grV_cons,grH_cons,List.length_nil,hf1,hf2]<;>rfl)
      ·have hne:(T.take i).map tnR≠[]:=by intro e;rw[e]at hlen;simp at hlen;omega
       rw[grV_ne 2 hne,grH_ne 1 hne,hlen];rw[hsr]at h5 h6;generalize(T.take i).map tnR=R at hsr hlen h5 h6
       (repeat first|simp only[ww]|(apply xa;simp+decide only[go_sem,l1,hlt,hsm,hval,hv1,hw,hlen,hrm,List.length_map,hf1,hf2];rfl;kernel_rfl))
       refine lp_n (i+1) ?_ (by omega) (by omega)
       (simp+decide only[go_sem,gcD_eq,gcIds_eq,hsr,grV_snoc,grH_snoc,h5,h6,hlen,hf1,hf2]<;>rfl)
     ·obtain rfl:i=T.length:=by omega
      have l2:¬(T.length:Int)<T.length:=by omega
      have hg1:=refs_flatR (tnR_flat T);have hg2:=λπ=>renR_flat π (tnR_flat T);rw[List.take_length];by_cases hkT:T=[]
      ·have e2:T.map tnR=[]:=by rw[hkT];rfl
       rw[e2];simp only[grV_nil,grH_nil]
       (repeat first|simp only[ww]|(apply xa;simp+decide only[go_sem,l2,List.length_map,hf1,hf2];rfl;kernel_rfl))
       refine xp_loop3 (σ:=Nat) kp21_4 (λi=>[(1,.ptr 0 0 0),(3,.slice 1 0 S.length none),(4,.nilslice),(9,.int .i64 (repSum (V.take i))),(61,sl rv (V.map Vc.enc)),(62,.int .i64 V.length),(63,.int .i64 (i:Nat))]) (λ_=>[some (.row 3 [[sl rs (S.map Sg.enc),sl rt (T.map Tm.enc),sl rv (V.map Vc.enc)]]),some (.row 1 (S.map snR))]) (λi=>V.length-i) (λi=>i≤V.length) 0 ?_ (Nat.zero_le _) ?_
       ·have e0:repSum (V.take 0)=0:=rfl
        (simp+decide only[go_sem,gcD_eq,gcIds_eq,e0,hf1,hf2]<;>rfl)
       ·intro i hi;by_cases hlt:i<V.length
        ·have l3:(i:Int)<V.length:=by omega
         obtain⟨v,hs⟩:∃v,V[i]?=some v:=⟨_,List.getElem?_eq_getElem hlt⟩
         have hv1:vcOk v S T.length=true:=h.vc v (List.mem_of_getElem? hs);have hsm:(V.map Vc.enc)[i]?=some (Vc.enc v):=by rw[List.getElem?_map,hs];rfl
         have hw:IntKind.i64.wrap ((i:Int)+1)=((i+1:Nat):Int):=by rw[w64 (by omega) (by omega)];omega
         have hrs:=repSum_s V hs;have hnn:∀v∈V,0≤v.rep:=λv hv=>by have:=(h.rep v hv).1;omega
         have hle:=repSum_le V hnn (i+1);have hge:=repSum_nn (V.take i) λv hv=>hnn v (List.mem_of_mem_take hv);have hrp:=h.rep v (List.mem_of_getElem? hs);have hsum:=h.sum;have hw2:IntKind.i64.wrap (repSum (V.take i)+v.rep)=repSum (V.take (i+1)):=by rw[w64 (by omega) (by omega)];omega
         have hmn:repSum (V.take (i+1))<1000001:=by omega
         have hmn2:¬(1000001:Int)<repSum (V.take (i+1)):=by omega
         have hmn3:repSum (V.take (i+1))≤1000001:=by omega
         (repeat first|simp only[ww]|(apply xa;simp+decide only[go_sem,l3,hlt,hsm,hvc,hv1,hw,hw2,hmn,hmn2,hmn3,List.length_map,hf1,hf2];rfl;kernel_rfl))
         refine lp_n (i+1) ?_ (by omega) (by omega)
         (simp+decide only[go_sem,gcD_eq,gcIds_eq,hf1,hf2]<;>rfl)
        ·obtain rfl:i=V.length:=by omega
         have l3:¬(V.length:Int)<V.length:=by omega
         have hsum:=h.sum;have l4:¬(1000000:Int)<repSum V:=by omega
         rw[List.take_length];obtain⟨σ1,w1⟩:=tw_call (d:=false) [some (.row 3 [[sl rs (S.map Sg.enc),sl rt (T.map Tm.enc),sl rv (V.map Vc.enc)]]),some (.row 1 (S.map snR))] 1 (S.map Sg.name) (λhh=>by rw[←snR_str];rfl) (by rw[List.length_map];omega) h.sn;obtain⟨σ2,w2⟩:=tw_call (d:=false) [some (.row 3 [[sl rs (S.map Sg.enc),sl rt (T.map Tm.enc),sl rv (V.map Vc.enc)]]),some (.row 1 (S.map snR))] 2 (T.map Tm.name) (λhh=>absurd (by rw[hkT];rfl) hh) (by rw[List.length_map];omega) h.tn;rw[←snR_str]at w1;rw[←tnR_str]at w2;rw[grV_ne 1 hne,List.length_map]at w1;rw[e2,grV_nil]at w2
         (repeat first|simp only[ww]|(apply xa;simp+decide only[go_sem,l3,l4,w1,w2,List.length_map,hf1,hf2];rfl;kernel_rfl))
         (apply fqb;simp+decide only[go_sem,hf1,hf2]<;>rfl)
      ·have hneT:T.map tnR≠[]:=by simpa using hkT
       rw[grV_ne 2 hneT,grH_ne 1 hneT,List.length_map]
       (repeat first|simp only[ww]|(apply xa;simp+decide only[go_sem,l2,List.length_map,hf1,hf2];rfl;kernel_rfl))
       refine xp_loop3 (σ:=Nat) kp21_4 (λi=>[(1,.ptr 0 0 0),(3,.slice 1 0 S.length none),(4,.slice 2 0 T.length none),(9,.int .i64 (repSum (V.take i))),(61,sl rv (V.map Vc.enc)),(62,.int .i64 V.length),(63,.int .i64 (i:Nat))]) (λ_=>[some (.row 3 [[sl rs (S.map Sg.enc),sl rt (T.map Tm.enc),sl rv (V.map Vc.enc)]]),some (.row 1 (S.map snR)),some (.row 1 (T.map tnR))]) (λi=>V.length-i) (λi=>i≤V.length) 0 ?_ (Nat.zero_le _) ?_
       ·have e0:repSum (V.take 0)=0:=rfl
        (simp+decide only[go_sem,gcD_eq,gcIds_eq,e0,hf1,hf2,hg1,hg2]<;>rfl)
       ·intro i hi;by_cases hlt:i<V.length
        ·have l3:(i:Int)<V.length:=by omega
         obtain⟨v,hs⟩:∃v,V[i]?=some v:=⟨_,List.getElem?_eq_getElem hlt⟩
         have hv1:vcOk v S T.length=true:=h.vc v (List.mem_of_getElem? hs);have hsm:(V.map Vc.enc)[i]?=some (Vc.enc v):=by rw[List.getElem?_map,hs];rfl
         have hw:IntKind.i64.wrap ((i:Int)+1)=((i+1:Nat):Int):=by rw[w64 (by omega) (by omega)];omega
         have hrs:=repSum_s V hs;have hnn:∀v∈V,0≤v.rep:=λv hv=>by have:=(h.rep v hv).1;omega
         have hle:=repSum_le V hnn (i+1);have hge:=repSum_nn (V.take i) λv hv=>hnn v (List.mem_of_mem_take hv);have hrp:=h.rep v (List.mem_of_getElem? hs);have hsum:=h.sum;have hw2:IntKind.i64.wrap (repSum (V.take i)+v.rep)=repSum (V.take (i+1)):=by rw[w64 (by omega) (by omega)];omega
         have hmn:repSum (V.take (i+1))<1000001:=by omega
         have hmn2:¬(1000001:Int)<repSum (V.take (i+1)):=by omega
         have hmn3:repSum (V.take (i+1))≤1000001:=by omega
         (repeat first|simp only[ww]|(apply xa;simp+decide only[go_sem,l3,hlt,hsm,hvc,hv1,hw,hw2,hmn,hmn2,hmn3,List.length_map,hf1,hf2,hg1,hg2];rfl;kernel_rfl))
         refine lp_n (i+1) ?_ (by omega) (by omega)
         (simp+decide only[go_sem,gcD_eq,gcIds_eq,hf1,hf2,hg1,hg2]<;>rfl)
        ·obtain rfl:i=V.length:=by omega
         have l3:¬(V.length:Int)<V.length:=by omega
         have hsum:=h.sum;have l4:¬(1000000:Int)<repSum V:=by omega
         rw[List.take_length];obtain⟨σ1,w1⟩:=tw_call (d:=false) [some (.row 3 [[sl rs (S.map Sg.enc),sl rt (T.map Tm.enc),sl rv (V.map Vc.enc)]]),some (.row 1 (S.map snR)),some (.row 1 (T.map tnR))] 1 (S.map Sg.name) (λhh=>by rw[←snR_str];rfl) (by rw[List.length_map];omega) h.sn;obtain⟨σ2,w2⟩:=tw_call (d:=false) [some (.row 3 [[sl rs (S.map Sg.enc),sl rt (T.map Tm.enc),sl rv (V.map Vc.enc)]]),some (.row 1 (S.map snR)),some (.row 1 (T.map tnR))] 2 (T.map Tm.name) (λhh=>by rw[←tnR_str];rfl) (by rw[List.length_map];omega) h.tn;rw[←snR_str]at w1;rw[←tnR_str]at w2;rw[grV_ne 1 hne,List.length_map]at w1;rw[grV_ne 2 hneT,List.length_map]at w2
         (repeat first|simp only[ww]|(apply xa;simp+decide only[go_sem,l3,l4,w1,w2,List.length_map,hf1,hf2,hg1,hg2];rfl;kernel_rfl))
         (apply fqb;simp+decide only[go_sem,hf1,hf2,hg1,hg2]<;>rfl)
end Go.RInst
namespace Go.RInst
open Go.Proofs Go.Ax Go.Pc
variable [PR]
set_option maxRecDepth 100000
theorem check_call{d:Bool}(H:Heap)(rs rt rv:Option (Option Nat))(S:List Sg)(T:List Tm)(V:List Vc)(h:Valid S T V):callV L.env d (sem L.env Mf) (.func (.func 21) [] []) [.agg [sl rs (S.map Sg.enc),sl rt (T.map Tm.enc),sl rv (V.map Vc.enc)]] H=some (.int .i64 0,H,[]):=callV_flat (by kernel_rfl) (by kernel_rfl) rfl (by simp+decide only[go_sem]<;>rfl) (check_ok rs rt rv S T V h) rfl
theorem cycles_ok(rs rt rv:Option (Option Nat))(S:List Sg)(T:List Tm)(V:List Vc)(h:Valid S T V):sem L.env Mf 10 [.agg [sl rs (S.map Sg.enc),sl rt (T.map Tm.enc),sl rv (V.map Vc.enc)]] []=some (.tuple [.int .i64 (repSum V),.int .i64 0],[]):=by
 have hV:=h.hV;have hck:=λd H=>check_call (d:=d) H rs rt rv S T V h
 (refine sv Tryz.f10 ?_;simp only[Tryz.f10,gS])
 (repeat first|simp only[ww]|(apply xa;simp+decide only[go_sem,hck,List.length_map];rfl;kernel_rfl))
 refine xp_loop3 (σ:=Nat) kp10_0 (λi=>[(5,.int .i64 (repSum (V.take i))),(14,sl rv (V.map Vc.enc)),(15,.int .i64 V.length),(16,.int .i64 (i:Nat))]) (λ_=>[]) (λi=>V.length-i) (λi=>i≤V.length) 0 ?_ (Nat.zero_le _) ?_
 ·have e0:repSum (V.take 0)=0:=rfl
  (simp+decide only[go_sem,gcD_eq,gcIds_eq,e0]<;>rfl)
 ·intro i hi;by_cases hlt:i<V.length
  ·have l3:(i:Int)<V.length:=by omega
   obtain⟨v,hs⟩:∃v,V[i]?=some v:=⟨_,List.getElem?_eq_getElem hlt⟩
   have hsm:(V.map Vc.enc)[i]?=some (Vc.enc v):=by rw[List.getElem?_map,hs];rfl
   have hw:IntKind.i64.wrap ((i:Int)+1)=((i+1:Nat):Int):=by rw[w64 (by omega) (by omega)];omega
   have hrs:=repSum_s V hs;have hnn:∀v∈V,0≤v.rep:=λv hv=>by have:=(h.rep v hv).1;omega
   have hle:=repSum_le V hnn (i+1);have hge:=repSum_nn (V.take i) λv hv=>hnn v (List.mem_of_mem_take hv);have hrp:=h.rep v (List.mem_of_getElem? hs);have hsum:=h.sum;have hw2:IntKind.i64.wrap (repSum (V.take i)+v.rep)=repSum (V.take (i+1)):=by rw[w64 (by omega) (by omega)];omega
   (repeat first|simp only[ww]|(apply xa;simp+decide only[go_sem,l3,hlt,hsm,hw,hw2,List.length_map];rfl;kernel_rfl))
   refine lp_n (i+1) ?_ (by omega) (by omega)
   (simp+decide only[go_sem,gcD_eq,gcIds_eq]<;>rfl)
  ·obtain rfl:i=V.length:=by omega
   have l3:¬(V.length:Int)<V.length:=by omega
   rw[List.take_length]
   (repeat first|simp only[ww]|(apply xa;simp+decide only[go_sem,l3];rfl;kernel_rfl))
   (apply fqb;simp+decide only[go_sem]<;>rfl)
theorem cycles_call{d:Bool}(H:Heap)(rs rt rv:Option (Option Nat))(S:List Sg)(T:List Tm)(V:List Vc)(h:Valid S T V):callV L.env d (sem L.env Mf) (.func (.func 10) [] []) [.agg [sl rs (S.map Sg.enc),sl rt (T.map Tm.enc),sl rv (V.map Vc.enc)]] H=some (.tuple [.int .i64 (repSum V),.int .i64 0],H,[]):=callV_flat (by kernel_rfl) (by kernel_rfl) rfl (by simp+decide only[go_sem]<;>rfl) (cycles_ok rs rt rv S T V h) rfl
theorem flat_lim(rs rt rv:Option (Option Nat))(S:List Sg)(T:List Tm)(V:List Vc)(h:Valid S T V)(m:Int)(hm:m<repSum V):sem L.env Mf 11 [.agg [sl rs (S.map Sg.enc),sl rt (T.map Tm.enc),sl rv (V.map Vc.enc)],.int .i64 m] []=some (.tuple [.nilslice,.int .i64 3],[]):=by
 have hcy:=λd H=>cycles_call (d:=d) H rs rt rv S T V h
 (refine sv Tryz.f11 ?_;simp only[Tryz.f11,gS])
 (repeat first|simp only[ww]|(apply xa;simp+decide only[go_sem,hcy,hm];rfl;kernel_rfl))
 (apply fqb;simp+decide only[go_sem]<;>rfl)
def flatV(V:List Vc):List Vc:=V.flatMap λv=>List.replicate v.rep.toNat ⟨v.t,v.cells,1⟩
theorem flatV_len:∀(V:List Vc),(∀v∈V,0≤v.rep)→((flatV V).length:Int)=repSum V
 | [],_=>rfl
 |v::V,h=>by have:=flatV_len V λx hx=>h x (by simp[hx]);have h0:=h v (by simp);unfold flatV repSum at *;rw[List.flatMap_cons,List.length_append,List.length_replicate,List.map_cons,List.sum_cons];omega
theorem flatV_s(V:List Vc){i:Nat}{v:Vc}(h:V[i]?=some v):flatV (V.take (i+1))=flatV (V.take i)++List.replicate v.rep.toNat ⟨v.t,v.cells,1⟩:=by rw[take_s h];simp[flatV]
abbrev vz:List AV:=[.int .i64 0,.str [],.int .i64 0]
/-- The first k rows of the flat list, then rows of nothing. -/
def fRow(n:Nat)(l:List Vc):List (List AV):=l.map Vc.enc++List.replicate (n-l.length) vz
theorem fRow_flat(n:Nat)(l:List Vc):FlatR (fRow n l):=FlatR.append (vcE_flat l) (FlatR.replicate rfl)
theorem fRow_len(n:Nat)(l:List Vc)(h:l.length≤n):(fRow n l).length=n:=by simp[fRow];omega
theorem fRow_put(n:Nat)(l:List Vc)(x:Vc)(h:l.length+1≤n):(fRow n l).take l.length++[Vc.enc x]++(fRow n l).drop (l.length+1)=fRow n (l++[x]):=by
 have e1:(fRow n l).take l.length=l.map Vc.enc:=by unfold fRow;rw[List.take_append_of_le_length (by simp),List.take_of_length_le (by simp)]
 have e2:(fRow n l).drop (l.length+1)=List.replicate (n-(l.length+1)) vz:=by
  unfold fRow;rw[List.drop_append,List.drop_eq_nil_of_le (by simp),List.drop_replicate,List.length_map];simp only[List.nil_append]
  congr 1;omega
 rw[e1,e2];unfold fRow;simp
theorem flat_ok(rs rt rv:Option (Option Nat))(S:List Sg)(T:List Tm)(V:List Vc)(h:Valid S T V)(m:Int)(hm:repSum V≤m):sem L.env Mf 11 [.agg [sl rs (S.map Sg.enc),sl rt (T.map Tm.enc),sl rv (V.map Vc.enc)],.int .i64 m] []=some (.tuple [.islice ((flatV V).map Vc.enc) (some (flatV V).length),.int .i64 0],[]):=by
 have hV:=h.hV;have hsum:=h.sum;have hnn:∀v∈V,0≤v.rep:=λv hv=>by have:=(h.rep v hv).1;omega
 have hfl:=flatV_len V hnn;have hm2:¬m<repSum V:=by omega
 have hcy:=λd H=>cycles_call (d:=d) H rs rt rv S T V h;obtain⟨n,hn⟩:∃n,n=(flatV V).length:=⟨_,rfl⟩
 rw[←hn]at hfl⊢;rw[←hfl]at hcy hm2;have hb:L.env.bytes 43=32:=by kernel_rfl
 have hmk:mkOk L.env 43 (0:Int) (n:Int)=true:=by unfold mkOk;rw[hb,decide_eq_true (by omega:(0:Int)≤0),decide_eq_true (by omega:(0:Int)≤n),decide_eq_true (by omega:(n:Int)≤281474976710656),decide_eq_true (by omega:((32:Nat):Int)*n≤281474976710656)];rfl
 (refine sv Tryz.f11 ?_;simp only[Tryz.f11,gS])
 (repeat first|simp only[ww]|(apply xa;simp+decide only[go_sem,hcy,hm2];rfl;kernel_rfl))
 have e0:repSum (V.take 0)=0:=rfl;have hz:(n:Int).toNat=n:=by omega
 have hle:∀i,(flatV (V.take i)).length≤n:=λi=>by have h1:=flatV_len (V.take i) λv hv=>hnn v (List.mem_of_mem_take hv);have h2:=repSum_le V hnn i;omega
 (repeat first|simp only[ww]|(apply xa;simp+decide only[go_sem,hmk,hz,List.length_map];rfl;kernel_rfl))
 refine xp_loop3 (σ:=Nat) kp11_1 (λi=>[(8,.slice 0 0 (flatV (V.take i)).length (some n)),(27,sl rv (V.map Vc.enc)),(28,.int .i64 V.length),(29,.int .i64 (i:Nat))]) (λi=>[some (.row 3 (fRow n (flatV (V.take i))))]) (λi=>V.length-i) (λi=>i≤V.length) 0 ?_ (Nat.zero_le _) ?_
 ·have e1:flatV (V.take 0)=[]:=rfl;have e2:fRow n []=List.replicate n vz:=by simp[fRow]
  have e3:=refs_flatR (FlatR.replicate (n:=n) (r:=vz) rfl);have e4:=λπ=>renR_flat π (FlatR.replicate (n:=n) (r:=vz) rfl)
  (simp+decide only[go_sem,gcD_eq,gcIds_eq,e1,e2,e3,e4,List.length_nil]<;>rfl)
 ·intro i hi;by_cases hlt:i<V.length
  ·have l3:(i:Int)<V.length:=by omega
   obtain⟨v,hs⟩:∃v,V[i]?=some v:=⟨_,List.getElem?_eq_getElem hlt⟩
   have hsm:(V.map Vc.enc)[i]?=some (Vc.enc v):=by rw[List.getElem?_map,hs];rfl
   have hw:IntKind.i64.wrap ((i:Int)+1)=((i+1:Nat):Int):=by rw[w64 (by omega) (by omega)];omega
   have hrp:=h.rep v (List.mem_of_getElem? hs);obtain⟨r,hr⟩:∃r:Nat,v.rep=r:=⟨v.rep.toNat,by omega⟩
   have hfs:=flatV_s V hs;have hle1:=hle (i+1);rw[hfs,List.length_append,List.length_replicate]at hle1;generalize hB:flatV (V.take i)=B at hfs hle1;have hrt:v.rep.toNat=r:=by omega
   rw[hrt]at hle1 hfs;have hB1:=refs_flatR (fRow_flat n B);have hB2:=λπ=>renR_flat π (fRow_flat n B)
   (repeat first|simp only[ww]|(apply xa;simp+decide only[go_sem,l3,hlt,hsm,hr,List.length_map];rfl;kernel_rfl))
   refine xp_loop3 (σ:=Nat) kp11_3 (λj=>[(8,.slice 0 0 (B.length+j) (some n)),(10,.ptr 1 0 0),(27,sl rv (V.map Vc.enc)),(28,.int .i64 V.length),(29,.int .i64 (i:Nat)),(34,.int .i64 r),(35,.int .i64 (j:Nat))]) (λj=>[some (.row 3 (fRow n (B++List.replicate j ⟨v.t,v.cells,1⟩))),some (.row 3 [[.int .i64 v.t,.str v.cells,.int .i64 r]])]) (λj=>r-j) (λj=>j≤r) 0 ?_ (Nat.zero_le _) ?_
   ·have e5:B++List.replicate 0 (⟨v.t,v.cells,1⟩:Vc)=B:=by simp
    (simp+decide only[go_sem,gcD_eq,gcIds_eq,hB1,hB2,e5,Nat.add_zero,hr]<;>rfl)
   ·intro j hj;have hC1:=refs_flatR (fRow_flat n (B++List.replicate j (⟨v.t,v.cells,1⟩:Vc)));have hC2:=λπ=>renR_flat π (fRow_flat n (B++List.replicate j (⟨v.t,v.cells,1⟩:Vc)));have hCl:(fRow n (B++List.replicate j (⟨v.t,v.cells,1⟩:Vc))).length=n:=fRow_len _ _ (by simp;omega);by_cases hjt:j<r
    ·have l4:(j:Int)<r:=by omega
     have hw3:IntKind.i64.wrap ((j:Int)+1)=((j+1:Nat):Int):=by rw[w64 (by omega) (by omega)];omega
     have hput:=fRow_put n (B++List.replicate j (⟨v.t,v.cells,1⟩:Vc)) ⟨v.t,v.cells,1⟩ (by simp;omega);have hD1:=refs_flatR (fRow_flat n (B++List.replicate (j+1) (⟨v.t,v.cells,1⟩:Vc)));have hD2:=λπ=>renR_flat π (fRow_flat n (B++List.replicate (j+1) (⟨v.t,v.cells,1⟩:Vc)));have hrp1:B++List.replicate j (⟨v.t,v.cells,1⟩:Vc)++[⟨v.t,v.cells,1⟩]=B++List.replicate (j+1) ⟨v.t,v.cells,1⟩:=by rw[List.replicate_succ',List.append_assoc]
     rw[hrp1,List.length_append,List.length_replicate]at hput;have l5:B.length+j+1≤n:=by omega
     have l6:B.length+j≤n:=by omega
     generalize fRow n (B++List.replicate j (⟨v.t,v.cells,1⟩:Vc))=R at hC1 hC2 hCl hput
     (repeat first|simp only[ww]|(apply xa;simp+decide only[go_sem,l4,hw3,l5,l6,hCl,hput,Nat.zero_add];rfl;kernel_rfl))
     refine lp_n (j+1) ?_ (by omega) (by omega)
     (simp+decide only[go_sem,gcD_eq,gcIds_eq,hD1,hD2]<;>rfl)
    ·obtain rfl:j=r:=by omega
     have l4:¬(j:Int)<j:=by omega
     (repeat first|simp only[ww]|(apply xa;simp+decide only[go_sem,l4,hw];rfl;kernel_rfl))
     refine lp_n (i+1) ?_ (by omega) (by omega)
     (simp+decide only[go_sem,gcD_eq,gcIds_eq,hC1,hC2,hfs,List.length_append,List.length_replicate]<;>rfl)
  ·obtain rfl:i=V.length:=by omega
   have l3:¬(V.length:Int)<V.length:=by omega
   have e8:fRow n (flatV V)=(flatV V).map Vc.enc:=by unfold fRow;rw[←hn,Nat.sub_self];simp
   have e9:=λq d=>frzR_flat q d (vcE_flat (flatV V));have e10:((flatV V).map Vc.enc).length=n:=by rw[List.length_map,hn]
   have e11:((flatV V).map Vc.enc).take n=(flatV V).map Vc.enc:=List.take_of_length_le (by omega);rw[List.take_length,e8,←hn]
   (repeat first|simp only[ww]|(apply xa;simp+decide only[go_sem,l3];rfl;kernel_rfl))
   (apply fqb;simp+decide only[go_sem,e9,e10,e11]<;>rfl)
end Go.RInst
namespace Go.RInst
open Go.Proofs Go.Ax Go.Pc
variable [PR]
set_option maxRecDepth 100000
abbrev Evt.enc(e:Int×Nat):List AV:=[.int .i64 e.1,.int .u8 e.2]
theorem evE_flat(l:List (Int×Nat)):FlatR (l.map Evt.enc):=FlatR.map λ_=>rfl
/- the closure of Wave: an event is set; the list is L, then (t, c) -/
def evc(A:List (Int×Nat))(t:Int)(c:Nat):List (List AV):=(A++[(t,c)]).map Evt.enc
theorem evc_get(A:List (Int×Nat))(t:Int)(c:Nat):(evc A t c)[A.length]?=some [.int .i64 t,.int .u8 c]:=by unfold evc;rw[List.getElem?_map,List.getElem?_append_right (Nat.le_refl _),Nat.sub_self];rfl
theorem evc_len(A:List (Int×Nat))(t:Int)(c:Nat):(evc A t c).length=A.length+1:=by simp[evc]
theorem evc_flat(A:List (Int×Nat))(t:Int)(c:Nat):FlatR (evc A t c):=evE_flat _
theorem ev_same(A:List (Int×Nat))(t at_:Int)(c n:Nat)(cp:Option Nat)(hn:n=A.length+1)(hl:A.length≤100000000):sem L.env Mf 32 [.int .i64 at_,.int .u8 c,.ptr 0 0 0] [some (.row 1 [[.slice 1 0 n cp]]),some (.row 2 (evc A t c))]=some (.tuple [],[some (.row 1 [[.slice 1 0 n cp]]),some (.row 2 (evc A t c))]):=by
 have hw:IntKind.i64.wrap ((n:Int)-1)=(A.length:Int):=by rw[w64 (by omega) (by omega)];omega
 have hg:=evc_get A t c;have hlt:A.length<n:=by omega
 have h0:oneOf [] = .tuple []:=rfl;generalize evc A t c=R at hg⊢
 (refine sv Tryz.f32 ?_;simp only[Tryz.f32,gS])
 (repeat first|simp only[ww]|(apply xa;simp+decide only[go_sem,hw,hg,hlt];rfl;kernel_rfl))
 (apply fqb;simp+decide only[go_sem,h0]<;>rfl)
theorem ev_repl(A:List (Int×Nat))(t:Int)(c c' n:Nat)(cp:Option Nat)(hn:n=A.length+1)(hl:A.length≤100000000)(hc:c≠c'):sem L.env Mf 32 [.int .i64 t,.int .u8 c',.ptr 0 0 0] [some (.row 1 [[.slice 1 0 n cp]]),some (.row 2 (evc A t c))]=some (.tuple [],[some (.row 1 [[.slice 1 0 n cp]]),some (.row 2 (evc A t c'))]):=by
 have hw:IntKind.i64.wrap ((n:Int)-1)=(A.length:Int):=by rw[w64 (by omega) (by omega)];omega
 have hg:=evc_get A t c;have hlt:A.length<n:=by omega
 have h0:oneOf [] = .tuple []:=rfl;have c1:¬(c:Int)=c':=by omega
 have hset:(evc A t c).set A.length [.int .i64 t,.int .u8 c']=evc A t c':=by unfold evc;rw[List.map_append,List.map_append,List.set_append_right _ _ (by simp)];simp
 generalize evc A t c'=R' at hset⊢;generalize evc A t c=R at hg hset⊢
 (refine sv Tryz.f32 ?_;simp only[Tryz.f32,gS])
 (repeat first|simp only[ww]|(apply xa;simp+decide only[go_sem,hw,hg,hlt,c1,hset];rfl;kernel_rfl))
 (apply fqb;simp+decide only[go_sem,h0]<;>rfl)
theorem ev_app1(t at_:Int)(c c':Nat)(hc:c≠c')(ht:t≠at_):sem L.env Mf 32 [.int .i64 at_,.int .u8 c',.ptr 0 0 0] [some (.row 1 [[.slice 1 0 1 (some 1)]]),some (.row 2 (evc [] t c))]=some (.tuple [],[some (.row 1 [[.slice 3 0 2 none]]),some (.row 2 (evc [] t c)),some (.row 2 [Evt.enc (at_,c')]),some (.row 2 (evc [(t,c)] at_ c'))]):=by
 have h0:oneOf [] = .tuple []:=rfl;have c1:¬(c:Int)=c':=by omega
 have hg:=evc_get [] t c;have hle:=evc_len [] t c;have happ:evc [] t c++[[.int .i64 at_,.int .u8 c']]=evc [(t,c)] at_ c':=rfl;simp only[List.length_nil,Nat.zero_add]at hg hle;have htk:(evc [] t c).take 1=evc [] t c:=List.take_of_length_le (by omega);have w0:IntKind.i64.wrap (((1:Nat):Int)-1)=0:=by decide
 generalize evc [(t,c)] at_ c'=R' at happ⊢;generalize evc [] t c=R at hg hle happ htk⊢
 (refine sv Tryz.f32 ?_;simp only[Tryz.f32,gS])
 (repeat first|simp only[ww]|(apply xa;simp+decide only[go_sem,c1,ht,hg,w0,hle,happ,htk];rfl;kernel_rfl))
 (apply fqb;simp+decide only[go_sem,h0]<;>rfl)
theorem ev_appn(A:List (Int×Nat))(t at_:Int)(c c' n:Nat)(hn:n=A.length+1)(hl:A.length≤100000000)(hc:c≠c')(ht:t≠at_):sem L.env Mf 32 [.int .i64 at_,.int .u8 c',.ptr 0 0 0] [some (.row 1 [[.slice 1 0 n none]]),some (.row 2 (evc A t c))]=some (.tuple [],[some (.row 1 [[.slice 3 0 (n+1) none]]),none,some (.row 2 [Evt.enc (at_,c')]),some (.row 2 (evc (A++[(t,c)]) at_ c'))]):=by
 have hw:IntKind.i64.wrap ((n:Int)-1)=(A.length:Int):=by rw[w64 (by omega) (by omega)];omega
 have hg:=evc_get A t c;have hlt:A.length<n:=by omega
 have h0:oneOf [] = .tuple []:=rfl;have c1:¬(c:Int)=c':=by omega
 have hle:=evc_len A t c;rw[←hn]at hle;have hrm:n+1≤1000000000:=by omega
 have happ:evc A t c++[[.int .i64 at_,.int .u8 c']]=evc (A++[(t,c)]) at_ c':=by unfold evc;rw[List.map_append (l₂:=[(at_,c')])];rfl
 generalize evc (A++[(t,c)]) at_ c'=R' at happ⊢;generalize evc A t c=R at hg hle happ⊢
 (refine sv Tryz.f32 ?_;simp only[Tryz.f32,gS])
 (repeat first|simp only[ww]|(apply xa;simp+decide only[go_sem,hw,hg,hlt,c1,ht,hle,hrm,happ];rfl;kernel_rfl))
 (apply fqb;simp+decide only[go_sem,h0]<;>rfl)
theorem ev_call(H:Heap)(cb a:Nat)(e:Ev3)(cp:Option Nat)(x:Int)(k:Nat)(hca:cb≠a)(h1:HeapF H cb=some (.row 1 [[.slice a 0 (e.A.length+1) cp]]))(h2:HeapF H a=some (.row 2 (evc e.A e.t e.c)))(hcp:cp=none∨cp=some 1∧e.A=[])(hl:e.A.length≤100000000) :
 ∃H' a' cp' σ,callV L.env false (sem L.env Mf) (.func (.func 32) [] [.ptr cb 0 0]) [.int .i64 x,.int .u8 k] H=some (.tuple [],H',σ)∧H.length≤H'.length∧HeapF H' cb=some (.row 1 [[.slice a' 0 ((e.put x k).A.length+1) cp']])∧
  HeapF H' a'=some (.row 2 (evc (e.put x k).A (e.put x k).t (e.put x k).c))∧(cp'=none∨cp'=some 1∧(e.put x k).A=[])∧(a'=a∨H.length≤a')∧∀b,b<H.length→b≠cb→b≠a→HeapF H' b=HeapF H b:=by
 have hr0:∀n,renObj (piOf [cb,a]) (.row 1 [[.slice a 0 n cp]]) = .row 1 [[.slice 1 0 n cp]]:=λn=>by
  have:piOf [cb,a] a=some 1:=by simp[piOf,List.idxOf?,List.findIdx?_cons,hca]
  simp only[renObj_row,List.map_cons,List.map_nil,ren_slice,this,renB_some]
 have ha0:[AV.int .i64 x,.int .u8 k,.ptr cb 0 0].map (ren (piOf [cb,a]))=[.int .i64 x,.int .u8 k,.ptr 0 0 0]:=by
  have:piOf [cb,a] cb=some 0:=by simp[piOf,List.idxOf?,List.findIdx?_cons]
  simp only[List.map_cons,List.map_nil,ren_int,ren_ptr,this,renB_some]
 have hb1:∀n m cq,renObj (backOf [cb,a] n) (.row 1 [[.slice 1 0 m cq]]) = .row 1 [[.slice a 0 m cq]]:=λn m cq=>rfl;have hb3:∀n m cq,renObj (backOf [cb,a] n) (.row 1 [[.slice 3 0 m cq]]) = .row 1 [[.slice (n+1) 0 m cq]]:=λn m cq=>rfl;have hev:∀π A t c,renObj π (.row 2 (evc A t c)) = .row 2 (evc A t c):=λπ A t c=>by simp only[renObj_row,renR_flat π (evc_flat A t c)]
 have key:=λ(C1 O1:Option AObj) (G:Heap) (hr:sem L.env Mf 32 [.int .i64 x,.int .u8 k,.ptr 0 0 0] [some (.row 1 [[.slice 1 0 (e.A.length+1) cp]]),some (.row 2 (evc e.A e.t e.c))]=some (.tuple [],C1::O1::G))=>callV_cell (E:=L.env) (call:=sem L.env Mf) (g:=32) (fs:=[]) (cs:=[.ptr cb 0 0]) (ar:=[.int .i64 x,.int .u8 k]) (H:=H) (v:=.tuple []) (v':=.tuple []) (c:=cb) (a:=a) (by kernel_rfl) (by kernel_rfl) rfl hca h1 rfl h2 rfl (refsO_flat (evc_flat _ _ _)) (FlatO.row (evc_flat _ _ _)) rfl ha0 (by rw[hr0];exact hr) rfl;obtain⟨A,t,c⟩:=e;simp only at *;by_cases hc:c=k
 ·subst hc;have hp:(⟨A,t,c⟩:Ev3).put x c=⟨A,t,c⟩:=by simp[Ev3.put]
  obtain⟨H',q1,q2,q3,q4,q5,q6⟩:=key _ _ [] (ev_same A t x c (A.length+1) cp rfl hl);rw[hp];exact⟨H',a,cp,_,q1,by simp at q2;omega,q3.trans (by rw[Option.map_some,hb1]),q4.trans (by rw[Option.map_some,hev]),hcp,.inl rfl,q5⟩
 ·by_cases ht:t=x
  ·subst ht;have hp:(⟨A,t,c⟩:Ev3).put t k=⟨A,t,k⟩:=by simp[Ev3.put,hc]
   obtain⟨H',q1,q2,q3,q4,q5,q6⟩:=key _ _ [] (ev_repl A t c k (A.length+1) cp rfl hl hc);rw[hp];exact⟨H',a,cp,_,q1,by simp at q2;omega,q3.trans (by rw[Option.map_some,hb1]),q4.trans (by rw[Option.map_some,hev]),hcp,.inl rfl,q5⟩
  ·have hp:(⟨A,t,c⟩:Ev3).put x k=⟨A++[(t,c)],x,k⟩:=by simp[Ev3.put,hc,ht]
   rw[hp];have hln:(A++[(t,c)]).length=A.length+1:=by simp
   rcases hcp with rfl|⟨rfl,rfl⟩
   ·obtain⟨H',q1,q2,q3,q4,q5,q6⟩:=key _ _ _ (ev_appn A t x c k (A.length+1) rfl hl hc ht);refine⟨H',H.length+1,none,_,q1,by omega,q3.trans (by rw[Option.map_some,hb3,hln]),(q6 1).trans ?_,.inl rfl,.inr (by omega),q5⟩;show Option.map _ (some _)=_;rw[Option.map_some,hev]
   ·obtain⟨H',q1,q2,q3,q4,q5,q6⟩:=key _ _ _ (ev_app1 t x c k hc ht);refine⟨H',H.length+1,none,_,q1,by omega,q3.trans (by rw[Option.map_some,hb3];rfl),(q6 1).trans ?_,.inl rfl,.inr (by omega),q5⟩;show Option.map _ (some _)=_;rw[Option.map_some,hev];rfl
end Go.RInst
namespace Go.RInst
open Go.Proofs Go.Ax Go.Pc
variable [PR]
set_option maxRecDepth 100000
theorem sig_arg(rs rt rv:Option (Option Nat))(S:List Sg)(T:List Tm)(V:List Vc)(h:Valid S T V)(i:Nat)(m:Int)(d:Nat)(hi:S.length≤i∨∃s,S[i]?=some s∧s.dir≠d):sem L.env Mf 31 [.agg [sl rs (S.map Sg.enc),sl rt (T.map Tm.enc),sl rv (V.map Vc.enc)],.int .i64 i,.int .i64 m,.int .u8 d] []=some (.tuple [.nilslice,.int .i64 1],[]):=by
 have hck:=λd H=>check_call (d:=d) H rs rt rv S T V h;have c0:¬(i:Int)<0:=by omega
 by_cases hk:S.length≤i
 ·have c1:(S.length:Int)≤i:=by omega
  (refine sv Tryz.f31 ?_;simp only[Tryz.f31,gS])
  (repeat first|simp only[ww]|(apply xa;simp+decide only[go_sem,hck,c0,c1,List.length_map];rfl;kernel_rfl))
  (apply fqb;simp+decide only[go_sem]<;>rfl)
 ·obtain⟨s,hs,hd⟩:∃s,S[i]?=some s∧s.dir≠d:=hi.resolve_left hk;have c1:¬(S.length:Int)≤i:=by omega
  have hlt:i<S.length:=by omega
  have hsm:(S.map Sg.enc)[i]?=some (Sg.enc s):=by rw[List.getElem?_map,hs];rfl
  have c2:¬(s.dir:Int)=d:=by omega
  (refine sv Tryz.f31 ?_;simp only[Tryz.f31,gS])
  (repeat first|simp only[ww]|(apply xa;simp+decide only[go_sem,hck,c0,c1,c2,hlt,hsm,List.length_map];rfl;kernel_rfl))
  (apply fqb;simp+decide only[go_sem]<;>rfl)
theorem flat_call{d:Bool}(H:Heap)(rs rt rv:Option (Option Nat))(S:List Sg)(T:List Tm)(V:List Vc)(h:Valid S T V)(m:Int)(hm:repSum V≤m):callV L.env d (sem L.env Mf) (.func (.func 11) [] []) [.agg [sl rs (S.map Sg.enc),sl rt (T.map Tm.enc),sl rv (V.map Vc.enc)],.int .i64 m] H=some (.tuple [.islice ((flatV V).map Vc.enc) (some (flatV V).length),.int .i64 0],H,[]):=callV_flat (by kernel_rfl) (by kernel_rfl) rfl (by simp+decide only[go_sem]<;>rfl) (flat_ok rs rt rv S T V h m hm) rfl
theorem flatl_call{d:Bool}(H:Heap)(rs rt rv:Option (Option Nat))(S:List Sg)(T:List Tm)(V:List Vc)(h:Valid S T V)(m:Int)(hm:m<repSum V):callV L.env d (sem L.env Mf) (.func (.func 11) [] []) [.agg [sl rs (S.map Sg.enc),sl rt (T.map Tm.enc),sl rv (V.map Vc.enc)],.int .i64 m] H=some (.tuple [.nilslice,.int .i64 3],H,[]):=callV_flat (by kernel_rfl) (by kernel_rfl) rfl (by simp+decide only[go_sem]<;>rfl) (flat_lim rs rt rv S T V h m hm) rfl
theorem sig_run(v e:AV)(rs rt rv:Option (Option Nat))(S:List Sg)(T:List Tm)(V:List Vc)(h:Valid S T V)(i:Nat)(m:Int)(s:Sg)(hs:S[i]?=some s)(hv:refs v=[])(he:refs e=[])
 (hf:∀d H,callV L.env d (sem L.env Mf) (.func (.func 11) [] []) [.agg [sl rs (S.map Sg.enc),sl rt (T.map Tm.enc),sl rv (V.map Vc.enc)],.int .i64 m] H=some (.tuple [v,e],H,[])):sem L.env Mf 31 [.agg [sl rs (S.map Sg.enc),sl rt (T.map Tm.enc),sl rv (V.map Vc.enc)],.int .i64 i,.int .i64 m,.int .u8 s.dir] []=some (.tuple [v,e],[]):=by
 have hck:=λd H=>check_call (d:=d) H rs rt rv S T V h;have c0:¬(i:Int)<0:=by omega
 have hlt:i<S.length:=(List.getElem?_eq_some_iff.1 hs).1;have c1:¬(S.length:Int)≤i:=by omega
 have hsm:(S.map Sg.enc)[i]?=some (Sg.enc s):=by rw[List.getElem?_map,hs];rfl
 have hfz:=λm b d=>frzV_flat m b d v hv;have hfz2:=λm b d=>frzV_flat m b d e he
 (refine sv Tryz.f31 ?_;simp only[Tryz.f31,gS])
 (repeat first|simp only[ww]|(apply xa;simp+decide only[go_sem,hck,c0,c1,hlt,hsm,hf,List.length_map];rfl;kernel_rfl))
 (apply fqb;simp+decide only[go_sem,hfz,hfz2]<;>rfl)
end Go.RInst
namespace Go.RInst
open Go.Proofs Go.Ax Go.Pc
variable [PR]
set_option maxRecDepth 100000
theorem flatV_in{S:List Sg}{T:List Tm}{V:List Vc}(h:Valid S T V):∀v∈flatV V,VIn S.length T.length v:=by intro v hv;simp only[flatV,List.mem_flatMap]at hv;obtain⟨u,hu,hv⟩:=hv;have hv:=List.eq_of_mem_replicate hv;have hk:=h.vc u hu;simp only[vcOk,Bool.and_eq_true,decide_eq_true_eq]at hk;subst hv;exact⟨hk.1,hk.2.1,(cells_len _ _ hk.2.2.2.2).symm⟩
theorem clip_n(n:Nat)(R:List (List AV))(hn:R.length=n)(hfl:FlatR R)(c:Option Nat)(hc:c=none∨c=some n):sem L.env Mf 33 [.slice 0 0 n c] [some (.row 2 R)]=some (.slice 0 0 n (some n),[some (.row 2 R)]):=by
 have h1:=λπ=>renR_flat π hfl;have h2:=refs_flatR hfl;have h3:=λq d=>frzR_flat q d hfl;rcases hc with rfl|rfl
 ·(refine sv Tryz.f33 ?_;simp only[Tryz.f33,gS])
  (repeat first|simp only[ww]|(apply xa;simp+decide only[go_sem,hn,Nat.le_refl];rfl;kernel_rfl))
  (apply fqb;simp+decide only[go_sem,h1,h2,h3]<;>rfl)
 ·(refine sv Tryz.f33 ?_;simp only[Tryz.f33,gS])
  (repeat first|simp only[ww]|(apply xa;simp+decide only[go_sem,hn,Nat.le_refl];rfl;kernel_rfl))
  (apply fqb;simp+decide only[go_sem,h1,h2,h3]<;>rfl)
theorem wave_err(e:Int)(he:e≠0)(rs rt rv:Option (Option Nat))(S:List Sg)(T:List Tm)(V:List Vc)(i:Nat)(m:Int)(hsg:∀d H,callV L.env d (sem L.env Mf) (.func (.func 31) [] []) [.agg [sl rs (S.map Sg.enc),sl rt (T.map Tm.enc),sl rv (V.map Vc.enc)],.int .i64 i,.int .i64 m,.int .u8 0] H=some (.tuple [.nilslice,.int .i64 e],H,[])):sem L.env Mf 12 [.agg [sl rs (S.map Sg.enc),sl rt (T.map Tm.enc),sl rv (V.map Vc.enc)],.int .i64 i,.int .i64 m] []=some (.tuple [.nilslice,.int .i64 e],[]):=by
 have c0:¬e=0:=he
 (refine sv Tryz.f12 ?_;simp only[Tryz.f12,gS])
 (repeat first|simp only[ww]|(apply xa;simp+decide only[go_sem,hsg,c0];rfl;kernel_rfl))
 (apply fqb;simp+decide only[go_sem]<;>rfl)
theorem wave_ok(rs rt rv:Option (Option Nat))(S:List Sg)(T:List Tm)(V:List Vc)(i:Nat)(m:Int)(hi:i<S.length)(W:List Vc)(hW:∀v∈W,VIn S.length T.length v)(hT:∀t∈T,TIn t)(hWl:W.length≤1000000)
 (hsg:∀d H,callV L.env d (sem L.env Mf) (.func (.func 31) [] []) [.agg [sl rs (S.map Sg.enc),sl rt (T.map Tm.enc),sl rv (V.map Vc.enc)],.int .i64 i,.int .i64 m,.int .u8 0] H=some (.tuple [.islice (W.map Vc.enc) (some W.length),.int .i64 0],H,[])) :
 sem L.env Mf 12 [.agg [sl rs (S.map Sg.enc),sl rt (T.map Tm.enc),sl rv (V.map Vc.enc)],.int .i64 i,.int .i64 m] []=some (.tuple [.islice ((wvS T i W).1.all.map Evt.enc) (some (wvS T i W).1.all.length),.int .i64 0],[]):=by
 (refine sv Tryz.f12 ?_;simp only[Tryz.f12,gS])
 (repeat first|simp only[ww]|(apply xa;simp+decide only[go_sem,hsg,List.length_map];rfl;kernel_rfl))
 refine xp_lp kp12_0 (λn F H=>∃k cp,n=W.length-k∧k≤W.length∧(cp=none∨cp=some 1∧(wvS T i (W.take k)).1.A=[])∧F=[(1,.int .i64 i),(3,.ptr 0 0 0),(10,.ptr 1 0 0),(11,.func (.func 32) [] [.ptr 1 0 0]),(12,.int .i64 (wvS T i (W.take k)).2),(30,.islice (W.map Vc.enc) (some W.length)),(31,.int .i64 W.length),(32,.int .i64 (k:Nat))]∧
  H=[some (.row 3 [[sl rs (S.map Sg.enc),sl rt (T.map Tm.enc),sl rv (V.map Vc.enc)]]),some (.row 1 [[.slice 2 0 ((wvS T i (W.take k)).1.A.length+1) cp]]),some (.row 2 (evc (wvS T i (W.take k)).1.A (wvS T i (W.take k)).1.t (wvS T i (W.take k)).1.c))]) W.length ?_ ?_
 ·refine⟨_,_,?_,0,some 1,rfl,Nat.zero_le _,.inr ⟨rfl,rfl⟩,rfl,rfl⟩;have e1:wvS T i (W.take 0)=(⟨[],0,88⟩,0):=rfl
  (simp+decide only[go_sem,gcD_eq,gcIds_eq,e1,evc]<;>rfl)
 ·rintro n F H ⟨k,cp,rfl,hk,hcp,rfl,rfl⟩
  by_cases hlt:k<W.length
  ·have l1:(k:Int)<W.length:=by omega
   obtain⟨v,hs⟩:∃v,W[k]?=some v:=⟨_,List.getElem?_eq_getElem hlt⟩
   have hvi:=hW v (List.mem_of_getElem? hs);have hv0:=hvi.t0;have hv1:=hvi.t1;have hvc:=hvi.cl;obtain⟨tn,htn⟩:∃tn:Nat,v.t=tn:=⟨v.t.toNat,by omega⟩
   have htl:tn<T.length:=by omega
   obtain⟨t,ht⟩:∃t,T[tn]?=some t:=⟨_,List.getElem?_eq_getElem htl⟩
   have hil:i<v.cells.length:=by omega
   obtain⟨c,hc⟩:∃c,v.cells[i]?=some c:=⟨_,List.getElem?_eq_getElem hil⟩
   have hti:=hT t (List.mem_of_getElem? ht);have hsm:(W.map Vc.enc)[k]?=some (Vc.enc v):=by rw[List.getElem?_map,hs];rfl
   have hst:(T.map Tm.enc)[tn]?=some (Tm.enc t):=by rw[List.getElem?_map,ht];rfl
   have hw:IntKind.i64.wrap ((k:Int)+1)=((k+1:Nat):Int):=by rw[w64 (by omega) (by omega)];omega
   obtain⟨b1,b2,b3⟩:=wvS_bound T i hT (W.take k) (⟨[],0,88⟩,0) (Int.le_refl _);have b4:=List.length_take_le k W;have hstep:=wvS_s T i W hs;change 0≤(wvS T i (W.take k)).2 at b1;change (wvS T i (W.take k)).2≤_ at b2;change (wvS T i (W.take k)).1.A.length≤_ at b3;simp only[List.length_nil]at b3;generalize wvS T i (W.take k)=s at hcp b1 b2 b3 hstep⊢;obtain⟨e,now⟩:=s;simp only at hcp b1 b2 b3 hstep⊢;have i1:=hti.dr0;have i2:=hti.ri;have i3:=hti.fa;have i4:=hti.per;have i5:=hti.top;have hwp:IntKind.i64.wrap (now+t.per)=now+t.per:=w64 (by omega) (by omega);have hwd:IntKind.i64.wrap (now+t.dr)=now+t.dr:=w64 (by omega) (by omega);have hwr:IntKind.i64.wrap (now+t.ri)=now+t.ri:=w64 (by omega) (by omega);have hwf:IntKind.i64.wrap (now+t.fa)=now+t.fa:=w64 (by omega) (by omega);have hse:wvStep T i (e,now) v=(if c.toNat=80 then((e.put (now+t.dr) 48).put (now+t.ri) 49).put (now+t.fa) 48 else e.put (now+t.dr) c.toNat,now+t.per):=by
    have:v.t.toNat=tn:=by omega
    unfold wvStep;rw[this,ht,hc]
   rw[hse]at hstep;by_cases hP:c.toNat=80
   ·have d1:(c.toNat:Int)=80:=by omega
    rw[if_pos hP]at hstep;have r1:=Ev3.put_len e (now+t.dr) 48;have r2:=Ev3.put_len (e.put (now+t.dr) 48) (now+t.ri) 49;obtain⟨H1,a1,cp1,σ1,q1,q2,q3,q4,q5,q6,q7⟩:=ev_call [some (.row 3 [[sl rs (S.map Sg.enc),sl rt (T.map Tm.enc),sl rv (V.map Vc.enc)]]),some (.row 1 [[.slice 2 0 (e.A.length+1) cp]]),some (.row 2 (evc e.A e.t e.c)),some (.row 3 [[.int .i64 tn,.str v.cells,.int .i64 v.rep]]),some (.row 6 [Tm.enc t])] 1 2 e cp (now+t.dr) 48 (by decide) rfl rfl hcp (by omega);have z2_1:5≤H1.length:=by have:=q2;exact this
    have z6_1:a1=2∨5≤a1:=by exact q6
    have p0_1:HeapF H1 0=some (.row 3 [[sl rs (S.map Sg.enc),sl rt (T.map Tm.enc),sl rv (V.map Vc.enc)]]):=q7 0 (by show 0<5;decide) (by decide) (by decide);have p4_1:HeapF H1 4=some (.row 6 [Tm.enc t]):=q7 4 (by show 4<5;decide) (by decide) (by decide);obtain⟨H2,a2,cp2,σ2,u1,u2,u3,u4,u5,u6,u7⟩:=ev_call H1 1 a1 (e.put (now+t.dr) 48) cp1 (now+t.ri) 49 (by omega) q3 q4 q5 (by omega);have z2_2:5≤H2.length:=by have:=u2;omega
    have z6_2:a2=2∨5≤a2:=by rcases u6 with h|h<;>omega
    have p0_2:HeapF H2 0=some (.row 3 [[sl rs (S.map Sg.enc),sl rt (T.map Tm.enc),sl rv (V.map Vc.enc)]]):=(u7 0 (by omega) (by decide) (by omega)).trans p0_1;have p4_2:HeapF H2 4=some (.row 6 [Tm.enc t]):=(u7 4 (by omega) (by decide) (by omega)).trans p4_1;obtain⟨H3,a3,cp3,σ3,v1,v2,v3,v4,v5,v6,v7⟩:=ev_call H2 1 a2 ((e.put (now+t.dr) 48).put (now+t.ri) 49) cp2 (now+t.fa) 48 (by omega) u3 u4 u5 (by omega);have z2_3:5≤H3.length:=by have:=v2;omega
    have z6_3:a3=2∨5≤a3:=by rcases v6 with h|h<;>omega
    have p0_3:HeapF H3 0=some (.row 3 [[sl rs (S.map Sg.enc),sl rt (T.map Tm.enc),sl rv (V.map Vc.enc)]]):=(v7 0 (by omega) (by decide) (by omega)).trans p0_2;have p4_3:HeapF H3 4=some (.row 6 [Tm.enc t]):=(v7 4 (by omega) (by decide) (by omega)).trans p4_2;generalize((e.put (now+t.dr) 48).put (now+t.ri) 49).put (now+t.fa) 48=e' at v3 v4 v5 hstep;have z7:=heapF_lt v4;have z8:0<H3.length:=by omega
    have z9:1<H3.length:=by omega
    have y0:¬0=a3:=by omega
    have y1:¬1=a3:=by omega
    have y2:¬a3=0:=by omega
    have y3:¬a3=1:=by omega
    have h5:=refs_flatR (evc_flat e'.A e'.t e'.c);have h6:=λπ=>renR_flat π (evc_flat e'.A e'.t e'.c);have e48:((48:Nat):Int)=48:=rfl;have e49:((49:Nat):Int)=49:=rfl;rw[e48]at q1 v1;rw[e49]at u1
    (repeat first|simp only[ww]|(apply xa;simp+decide only[go_sem,l1,hlt,hsm,hst,htn,htl,hil,hc,d1,hwd,hwr,hwf,q1,u1,v1,p4_1,p4_2,p4_3,hwp,hw,List.length_map];rfl;kernel_rfl))
    refine lpJ_n (W.length-(k+1)) (by omega) ⟨_,_,?_,k+1,cp3,rfl,by omega,by rw[hstep];exact v5,rfl,rfl⟩;rw[hstep];simp+decide only[go_sem,gcD_eq,gcIds_eq,p0_3,v3,v4,h5,h6,z7,z8,z9,y0,y1,y2,y3,Nat.zero_le,Nat.not_lt_zero]<;>rfl
   ·have d1:¬(c.toNat:Int)=80:=by omega
    rw[if_neg hP]at hstep;obtain⟨H1,a1,cp1,σ1,q1,q2,q3,q4,q5,q6,q7⟩:=ev_call [some (.row 3 [[sl rs (S.map Sg.enc),sl rt (T.map Tm.enc),sl rv (V.map Vc.enc)]]),some (.row 1 [[.slice 2 0 (e.A.length+1) cp]]),some (.row 2 (evc e.A e.t e.c)),some (.row 3 [[.int .i64 tn,.str v.cells,.int .i64 v.rep]]),some (.row 6 [Tm.enc t])] 1 2 e cp (now+t.dr) c.toNat (by decide) rfl rfl hcp (by omega);have z2:5≤H1.length:=q2;have z6:a1=2∨5≤a1:=q6;have p0:HeapF H1 0=some (.row 3 [[sl rs (S.map Sg.enc),sl rt (T.map Tm.enc),sl rv (V.map Vc.enc)]]):=q7 0 (by show 0<5;decide) (by decide) (by decide);have p4:HeapF H1 4=some (.row 6 [Tm.enc t]):=q7 4 (by show 4<5;decide) (by decide) (by decide);have z7:=heapF_lt q4;have z8:0<H1.length:=by omega
    have z9:1<H1.length:=by omega
    have y0:¬0=a1:=by omega
    have y1:¬1=a1:=by omega
    have y2:¬a1=0:=by omega
    have y3:¬a1=1:=by omega
    have h5:=refs_flatR (evc_flat (e.put (now+t.dr) c.toNat).A (e.put (now+t.dr) c.toNat).t (e.put (now+t.dr) c.toNat).c);have h6:=λπ=>renR_flat π (evc_flat (e.put (now+t.dr) c.toNat).A (e.put (now+t.dr) c.toNat).t (e.put (now+t.dr) c.toNat).c)
    (repeat first|simp only[ww]|(apply xa;simp+decide only[go_sem,l1,hlt,hsm,hst,htn,htl,hil,hc,d1,hwd,q1,p4,hwp,hw,List.length_map];rfl;kernel_rfl))
    refine lpJ_n (W.length-(k+1)) (by omega) ⟨_,_,?_,k+1,cp1,rfl,by omega,by rw[hstep];exact q5,rfl,rfl⟩;rw[hstep];simp+decide only[go_sem,gcD_eq,gcIds_eq,p0,q3,q4,h5,h6,z7,z8,z9,y0,y1,y2,y3,Nat.zero_le,Nat.not_lt_zero]<;>rfl
  ·obtain rfl:k=W.length:=by omega
   have l1:¬(W.length:Int)<W.length:=by omega
   rw[List.take_length]at hcp⊢;generalize wvS T i W=s at hcp⊢;obtain⟨e,now⟩:=s;simp only at hcp⊢;have hR:e.all.map Evt.enc=evc e.A e.t e.c:=rfl;have hRl:e.all.length=e.A.length+1:=by simp[Ev3.all]
   rw[hR,hRl];have hcap:cp=none∨cp=some (e.A.length+1):=by
    rcases hcp with h|⟨h,h'⟩
    ·exact .inl h
    ·rw[h'];exact .inr h
   have hcl:callV L.env false (sem L.env Mf) (.func (.func 33) [] []) [.slice 2 0 (e.A.length+1) cp] [some (.row 3 [[sl rs (S.map Sg.enc),sl rt (T.map Tm.enc),sl rv (V.map Vc.enc)]]),some (.row 1 [[.slice 2 0 (e.A.length+1) cp]]),some (.row 2 (evc e.A e.t e.c))]=some (.slice 2 0 (e.A.length+1) (some (e.A.length+1)),[some (.row 3 [[sl rs (S.map Sg.enc),sl rt (T.map Tm.enc),sl rv (V.map Vc.enc)]]),some (.row 1 [[.slice 2 0 (e.A.length+1) cp]]),some (.row 2 (evc e.A e.t e.c))],[2]):=callV_one' (by kernel_rfl) (by kernel_rfl) rfl (b:=2) (o:=.row 2 (evc e.A e.t e.c)) (o':=.row 2 (evc e.A e.t e.c)) rfl (refsO_flat (evc_flat _ _ _)) (FlatO.row (evc_flat _ _ _)) rfl rfl (clip_n _ _ (evc_len _ _ _) (evc_flat _ _ _) cp hcap) (FlatO.row (evc_flat _ _ _)) rfl;have e9:=λq d=>frzR_flat q d (evc_flat e.A e.t e.c);have e10:=evc_len e.A e.t e.c;have e11:(evc e.A e.t e.c).take (e.A.length+1)=evc e.A e.t e.c:=List.take_of_length_le (by omega)
   (repeat first|simp only[ww]|(apply xa;simp+decide only[go_sem,l1,hcl];rfl;kernel_rfl))
   (apply fqb;simp+decide only[go_sem,e9,e10,e11]<;>rfl)
end Go.RInst
namespace Go.RInst
open Go.Proofs Go.Ax Go.Pc
variable [PR]
set_option maxRecDepth 100000
theorem strobes_err(e:Int)(he:e≠0)(rs rt rv:Option (Option Nat))(S:List Sg)(T:List Tm)(V:List Vc)(i:Nat)(m:Int)(hsg:∀d H,callV L.env d (sem L.env Mf) (.func (.func 31) [] []) [.agg [sl rs (S.map Sg.enc),sl rt (T.map Tm.enc),sl rv (V.map Vc.enc)],.int .i64 i,.int .i64 m,.int .u8 1] H=some (.tuple [.nilslice,.int .i64 e],H,[])):sem L.env Mf 13 [.agg [sl rs (S.map Sg.enc),sl rt (T.map Tm.enc),sl rv (V.map Vc.enc)],.int .i64 i,.int .i64 m] []=some (.tuple [.nilslice,.int .i64 e],[]):=by
 have c0:¬e=0:=he
 (refine sv Tryz.f13 ?_;simp only[Tryz.f13,gS])
 (repeat first|simp only[ww]|(apply xa;simp+decide only[go_sem,hsg,c0];rfl;kernel_rfl))
 (apply fqb;simp+decide only[go_sem]<;>rfl)
/-- A clipped list of events. -/
def clE(l:List (Int×Nat)):AV:=if l=[]then .nilslice else .islice (l.map Evt.enc) (some l.length)
theorem clip_nil:sem L.env Mf 33 [.nilslice] []=some (.nilslice,[]):=by
 (refine sv Tryz.f33 ?_;simp only[Tryz.f33,gS])
 (repeat first|simp only[ww]|(apply xa;simp+decide only[go_sem];rfl;kernel_rfl))
 (apply fqb;simp+decide only[go_sem]<;>rfl)
theorem strobes_ok(rs rt rv:Option (Option Nat))(S:List Sg)(T:List Tm)(V:List Vc)(i:Nat)(m:Int)(hi:i<S.length)(W:List Vc)(hW:∀v∈W,VIn S.length T.length v)(hT:∀t∈T,TIn t)(hWl:W.length≤1000000)
 (hsg:∀d H,callV L.env d (sem L.env Mf) (.func (.func 31) [] []) [.agg [sl rs (S.map Sg.enc),sl rt (T.map Tm.enc),sl rv (V.map Vc.enc)],.int .i64 i,.int .i64 m,.int .u8 1] H=some (.tuple [.islice (W.map Vc.enc) (some W.length),.int .i64 0],H,[])) :
 sem L.env Mf 13 [.agg [sl rs (S.map Sg.enc),sl rt (T.map Tm.enc),sl rv (V.map Vc.enc)],.int .i64 i,.int .i64 m] []=some (.tuple [clE (stS T i W).1,.int .i64 0],[]):=by
 (refine sv Tryz.f13 ?_;simp only[Tryz.f13,gS])
 (repeat first|simp only[ww]|(apply xa;simp+decide only[go_sem,hsg,List.length_map];rfl;kernel_rfl))
 refine xp_loop3 (σ:=Nat) kp13_0 (λk=>[(1,.int .i64 i),(3,.ptr 0 0 0),(10,grV 1 ((stS T i (W.take k)).1.map Evt.enc)),(11,.int .i64 (stS T i (W.take k)).2),(26,.islice (W.map Vc.enc) (some W.length)),(27,.int .i64 W.length),(28,.int .i64 (k:Nat))])
  (λk=>some (.row 3 [[sl rs (S.map Sg.enc),sl rt (T.map Tm.enc),sl rv (V.map Vc.enc)]])::grH 2 ((stS T i (W.take k)).1.map Evt.enc)) (λk=>W.length-k) (λk=>k≤W.length) 0 ?_ (Nat.zero_le _) ?_
 ·have e1:stS T i (W.take 0)=([],0):=rfl
  (simp+decide only[go_sem,gcD_eq,gcIds_eq,e1,List.map_nil,grV_nil,grH_nil]<;>rfl)
 ·intro k hk;by_cases hlt:k<W.length
  ·have l1:(k:Int)<W.length:=by omega
   obtain⟨v,hs⟩:∃v,W[k]?=some v:=⟨_,List.getElem?_eq_getElem hlt⟩
   have hvi:=hW v (List.mem_of_getElem? hs);have hv0:=hvi.t0;have hv1:=hvi.t1;have hvc:=hvi.cl;obtain⟨tn,htn⟩:∃tn:Nat,v.t=tn:=⟨v.t.toNat,by omega⟩
   have htl:tn<T.length:=by omega
   obtain⟨t,ht⟩:∃t,T[tn]?=some t:=⟨_,List.getElem?_eq_getElem htl⟩
   have hil:i<v.cells.length:=by omega
   obtain⟨c,hc⟩:∃c,v.cells[i]?=some c:=⟨_,List.getElem?_eq_getElem hil⟩
   have hti:=hT t (List.mem_of_getElem? ht);have hsm:(W.map Vc.enc)[k]?=some (Vc.enc v):=by rw[List.getElem?_map,hs];rfl
   have hst:(T.map Tm.enc)[tn]?=some (Tm.enc t):=by rw[List.getElem?_map,ht];rfl
   have hw:IntKind.i64.wrap ((k:Int)+1)=((k+1:Nat):Int):=by rw[w64 (by omega) (by omega)];omega
   obtain⟨b1,b2,b3⟩:=stS_bound T i hT (W.take k) ([],0) (Int.le_refl _);have b4:=List.length_take_le k W;have hstep:=stS_s T i W hs;change 0≤(stS T i (W.take k)).2 at b1;change (stS T i (W.take k)).2≤_ at b2;change (stS T i (W.take k)).1.length≤_ at b3;simp only[List.length_nil]at b3;have hse:stStep T i (stS T i (W.take k)) v=(if c.toNat=88 then(stS T i (W.take k)).1 else(stS T i (W.take k)).1++[((stS T i (W.take k)).2+t.st,c.toNat)],(stS T i (W.take k)).2+t.per):=by
    have:v.t.toNat=tn:=by omega
    unfold stStep;rw[this,ht,hc]
   rw[hse]at hstep;generalize hg:stS T i (W.take k)=s at b1 b2 b3 hstep⊢;obtain⟨e,now⟩:=s;simp only at b1 b2 b3 hstep⊢;have i1:=hti.dr0;have i2:=hti.ri;have i3:=hti.fa;have i4:=hti.per;have i5:=hti.top;have i6:=hti.st0;have i7:=hti.st1;have hwp:IntKind.i64.wrap (now+t.per)=now+t.per:=w64 (by omega) (by omega);have hws:IntKind.i64.wrap (now+t.st)=now+t.st:=w64 (by omega) (by omega);have hf1:=refs_flatR (evE_flat e);have hf2:=λπ=>renR_flat π (evE_flat e);have hf3:=refs_flatR (evE_flat (e++[(now+t.st,c.toNat)]));have hf4:=λπ=>renR_flat π (evE_flat (e++[(now+t.st,c.toNat)]));have hsr:(e++[(now+t.st,c.toNat)]).map Evt.enc=e.map Evt.enc++[[.int .i64 (now+t.st),.int .u8 c.toNat]]:=by rw[List.map_append];rfl
   have hrm:e.length+1≤1000000000:=by omega
   by_cases hX:c.toNat=88
   ·have d1:(c.toNat:Int)=88:=by omega
    rw[if_pos hX]at hstep;by_cases he:e=[]
    ·subst he;simp only[List.map_nil,grV_nil,grH_nil]
     (repeat first|simp only[ww]|(apply xa;simp+decide only[go_sem,l1,hlt,hsm,hst,htn,htl,hil,hc,d1,hwp,hw,List.length_map];rfl;kernel_rfl))
     refine lp_n (k+1) ?_ (by omega) (by omega)
     (simp+decide only[go_sem,gcD_eq,gcIds_eq,hstep,List.map_nil,grV_nil,grH_nil]<;>rfl)
    ·have hne:e.map Evt.enc≠[]:=by simpa using he
     rw[grV_ne 1 hne,grH_ne 2 hne,List.length_map]
     (repeat first|simp only[ww]|(apply xa;simp+decide only[go_sem,l1,hlt,hsm,hst,htn,htl,hil,hc,d1,hwp,hw,List.length_map];rfl;kernel_rfl))
     refine lp_n (k+1) ?_ (by omega) (by omega);have e3:=grV_ne 1 hne;have e4:=grH_ne 2 hne;rw[List.length_map]at e3
     (simp+decide only[go_sem,gcD_eq,gcIds_eq,hstep,e3,e4,hf1,hf2]<;>rfl)
   ·have d1:¬(c.toNat:Int)=88:=by omega
    rw[if_neg hX]at hstep;by_cases he:e=[]
    ·subst he;simp only[List.map_nil,grV_nil,grH_nil];simp only[List.map_nil,List.nil_append]at hsr
     (repeat first|simp only[ww]|(apply xa;simp+decide only[go_sem,l1,hlt,hsm,hst,htn,htl,hil,hc,d1,hwp,hws,hw,List.length_map];rfl;kernel_rfl))
     refine lp_n (k+1) ?_ (by omega) (by omega)
     (simp+decide only[go_sem,gcD_eq,gcIds_eq,hstep,List.nil_append,hsr,grV_cons,grH_cons,List.length_nil]<;>rfl)
    ·have hne:e.map Evt.enc≠[]:=by simpa using he
     have hlen:(e.map Evt.enc).length=e.length:=List.length_map _;rw[grV_ne 1 hne,grH_ne 2 hne,hlen];rw[hsr]at hf3 hf4;generalize e.map Evt.enc=R at hsr hlen hf3 hf4 hne⊢
     (repeat first|simp only[ww]|(apply xa;simp+decide only[go_sem,l1,hlt,hsm,hst,htn,htl,hil,hc,d1,hwp,hws,hw,hlen,hrm,List.length_map];rfl;kernel_rfl))
     refine lp_n (k+1) ?_ (by omega) (by omega)
     (simp+decide only[go_sem,gcD_eq,gcIds_eq,hstep,hsr,grV_snoc,grH_snoc,hlen,hf3,hf4]<;>rfl)
  ·obtain rfl:k=W.length:=by omega
   have l1:¬(W.length:Int)<W.length:=by omega
   rw[List.take_length];generalize stS T i W=s;obtain⟨e,now⟩:=s;simp only;by_cases he:e=[]
   ·subst he;have hk0:=λd H=>callV_flat (E:=L.env) (draw:=d) (call:=sem L.env Mf) (g:=33) (fs:=[]) (cs:=[]) (ar:=[.nilslice]) (H:=H) (by kernel_rfl) (by kernel_rfl) rfl rfl clip_nil rfl;have e2:clE [] = .nilslice:=rfl;rw[e2];simp only[List.map_nil,grV_nil,grH_nil]
    (repeat first|simp only[ww]|(apply xa;simp+decide only[go_sem,l1,hk0];rfl;kernel_rfl))
    (apply fqb;simp+decide only[go_sem]<;>rfl)
   ·have hne:e.map Evt.enc≠[]:=by simpa using he
    have hc2:clE e = .islice (e.map Evt.enc) (some e.length):=if_neg he;rw[grV_ne 1 hne,grH_ne 2 hne,List.length_map,hc2];have hcl:callV L.env false (sem L.env Mf) (.func (.func 33) [] []) [.slice 1 0 e.length none] [some (.row 3 [[sl rs (S.map Sg.enc),sl rt (T.map Tm.enc),sl rv (V.map Vc.enc)]]),some (.row 2 (e.map Evt.enc))]=some (.slice 1 0 e.length (some e.length),[some (.row 3 [[sl rs (S.map Sg.enc),sl rt (T.map Tm.enc),sl rv (V.map Vc.enc)]]),some (.row 2 (e.map Evt.enc))],[1]):=callV_one' (by kernel_rfl) (by kernel_rfl) rfl (b:=1) (o:=.row 2 (e.map Evt.enc)) (o':=.row 2 (e.map Evt.enc)) rfl (refsO_flat (evE_flat _)) (FlatO.row (evE_flat _)) rfl rfl (clip_n _ _ (List.length_map _) (evE_flat _) none (.inl rfl)) (FlatO.row (evE_flat _)) rfl;have e9:=λq d=>frzR_flat q d (evE_flat e);have e10:(e.map Evt.enc).length=e.length:=List.length_map _;have e11:(e.map Evt.enc).take e.length=e.map Evt.enc:=List.take_of_length_le (by omega)
    (repeat first|simp only[ww]|(apply xa;simp+decide only[go_sem,l1,hcl];rfl;kernel_rfl))
    (apply fqb;simp+decide only[go_sem,e9,e10,e11]<;>rfl)
end Go.RInst
namespace Go.RInst
open Go.Proofs Go.Ax Go.Pc
variable [PR]
set_option maxRecDepth 100000
theorem driven_ok(rs rt rv:Option (Option Nat))(S:List Sg)(T:List Tm)(V:List Vc)(i:Nat)(x:Int)(cw:Option Nat)(W:List Vc)(hi:i<S.length)(hW:∀v∈W,VIn S.length T.length v)(hT:∀t∈T,TIn t)(hWl:W.length≤1000000) :
 sem L.env Mf 15 [.agg [sl rs (S.map Sg.enc),sl rt (T.map Tm.enc),sl rv (V.map Vc.enc)],.islice (W.map Vc.enc) cw,.int .i64 i,.int .i64 x] []=some (.int .u8 (drS T i x W).1,[]):=by
 (refine sv Tryz.f15 ?_;simp only[Tryz.f15,gS])
 (repeat first|simp only[ww]|(apply xa;simp+decide only[go_sem];rfl;kernel_rfl))
 refine xp_loop3 (σ:=Nat) kp15_0 (λk=>[(1,.islice (W.map Vc.enc) cw),(2,.int .i64 i),(3,.int .i64 x),(4,.ptr 0 0 0),(9,.int .i64 (drS T i x (W.take k)).2),(10,.int .u8 (drS T i x (W.take k)).1),(11,.int .i64 (k:Nat))]) (λk=>[some (.row 3 [[sl rs (S.map Sg.enc),sl rt (T.map Tm.enc),sl rv (V.map Vc.enc)]])]) (λk=>W.length-k) (λk=>k≤W.length) 0 ?_ (Nat.zero_le _) ?_
 ·have e1:drS T i x (W.take 0)=(88,0):=rfl
  (simp+decide only[go_sem,gcD_eq,gcIds_eq,e1]<;>rfl)
 ·intro k hk;by_cases hlt:k<W.length
  ·have l1:(k:Int)<W.length:=by omega
   obtain⟨v,hs⟩:∃v,W[k]?=some v:=⟨_,List.getElem?_eq_getElem hlt⟩
   have hvi:=hW v (List.mem_of_getElem? hs);have hv0:=hvi.t0;have hv1:=hvi.t1;have hvc:=hvi.cl;obtain⟨tn,htn⟩:∃tn:Nat,v.t=tn:=⟨v.t.toNat,by omega⟩
   have htl:tn<T.length:=by omega
   obtain⟨t,ht⟩:∃t,T[tn]?=some t:=⟨_,List.getElem?_eq_getElem htl⟩
   have hil:i<v.cells.length:=by omega
   obtain⟨c,hc⟩:∃c,v.cells[i]?=some c:=⟨_,List.getElem?_eq_getElem hil⟩
   have hti:=hT t (List.mem_of_getElem? ht);have hsm:(W.map Vc.enc)[k]?=some (Vc.enc v):=by rw[List.getElem?_map,hs];rfl
   have hst:(T.map Tm.enc)[tn]?=some (Tm.enc t):=by rw[List.getElem?_map,ht];rfl
   have hw:IntKind.i64.wrap ((k:Int)+1)=((k+1:Nat):Int):=by rw[w64 (by omega) (by omega)];omega
   obtain⟨b1,b2⟩:=drS_bound T i x hT (W.take k) (88,0) (Int.le_refl _);have b4:=List.length_take_le k W;have hstep:=drS_s T i x W hs;change 0≤(drS T i x (W.take k)).2 at b1;change (drS T i x (W.take k)).2≤_ at b2;have hse:drStep T i x (drS T i x (W.take k)) v=(if(drS T i x (W.take k)).2+t.dr≤x then(if c.toNat=80 then(if(drS T i x (W.take k)).2+t.ri≤x∧x<(drS T i x (W.take k)).2+t.fa then 49 else 48)else c.toNat)else(drS T i x (W.take k)).1,(drS T i x (W.take k)).2+t.per):=by
    have:v.t.toNat=tn:=by omega
    unfold drStep;rw[this,ht,hc]
   rw[hse]at hstep;generalize hg:drS T i x (W.take k)=s at b1 b2 hstep⊢;obtain⟨u,now⟩:=s;simp only at b1 b2 hstep⊢;have i1:=hti.dr0;have i2:=hti.ri;have i3:=hti.fa;have i4:=hti.per;have i5:=hti.top;have hwp:IntKind.i64.wrap (now+t.per)=now+t.per:=w64 (by omega) (by omega);have hwd:IntKind.i64.wrap (now+t.dr)=now+t.dr:=w64 (by omega) (by omega);have hwr:IntKind.i64.wrap (now+t.ri)=now+t.ri:=w64 (by omega) (by omega);have hwf:IntKind.i64.wrap (now+t.fa)=now+t.fa:=w64 (by omega) (by omega);by_cases h1:now+t.dr≤x
   ·rw[if_pos h1]at hstep;by_cases hP:c.toNat=80
    ·have d1:(c.toNat:Int)=80:=by omega
     rw[if_pos hP]at hstep;by_cases h2:now+t.ri≤x
     ·by_cases h3:x<now+t.fa
      ·rw[if_pos ⟨h2,h3⟩]at hstep
       (repeat first|simp only[ww]|(apply xa;simp+decide only[go_sem,l1,hlt,hsm,hst,htn,htl,hil,hc,hwd,hwr,hwf,hwp,h1,h2,h3,d1,hw,List.length_map];rfl;kernel_rfl))
       refine lp_n (k+1) ?_ (by omega) (by omega)
       (simp+decide only[go_sem,gcD_eq,gcIds_eq,hstep]<;>rfl)
      ·rw[if_neg (λh=>h3 h.2)]at hstep
       (repeat first|simp only[ww]|(apply xa;simp+decide only[go_sem,l1,hlt,hsm,hst,htn,htl,hil,hc,hwd,hwr,hwf,hwp,h1,h2,h3,d1,hw,List.length_map];rfl;kernel_rfl))
       refine lp_n (k+1) ?_ (by omega) (by omega)
       (simp+decide only[go_sem,gcD_eq,gcIds_eq,hstep]<;>rfl)
     ·rw[if_neg (λh=>h2 h.1)]at hstep
      (repeat first|simp only[ww]|(apply xa;simp+decide only[go_sem,l1,hlt,hsm,hst,htn,htl,hil,hc,hwd,hwr,hwf,hwp,h1,h2,d1,hw,List.length_map];rfl;kernel_rfl))
      refine lp_n (k+1) ?_ (by omega) (by omega)
      (simp+decide only[go_sem,gcD_eq,gcIds_eq,hstep]<;>rfl)
    ·have d1:¬(c.toNat:Int)=80:=by omega
     rw[if_neg hP]at hstep
     (repeat first|simp only[ww]|(apply xa;simp+decide only[go_sem,l1,hlt,hsm,hst,htn,htl,hil,hc,hwd,hwr,hwf,hwp,h1,d1,hw,List.length_map];rfl;kernel_rfl))
     refine lp_n (k+1) ?_ (by omega) (by omega)
     (simp+decide only[go_sem,gcD_eq,gcIds_eq,hstep]<;>rfl)
   ·rw[if_neg h1]at hstep
    (repeat first|simp only[ww]|(apply xa;simp+decide only[go_sem,l1,hlt,hsm,hst,htn,htl,hil,hc,hwd,hwr,hwf,hwp,h1,hw,List.length_map];rfl;kernel_rfl))
    refine lp_n (k+1) ?_ (by omega) (by omega)
    (simp+decide only[go_sem,gcD_eq,gcIds_eq,hstep]<;>rfl)
  ·obtain rfl:k=W.length:=by omega
   have l1:¬(W.length:Int)<W.length:=by omega
   rw[List.take_length]
   (repeat first|simp only[ww]|(apply xa;simp+decide only[go_sem,l1,List.length_map];rfl;kernel_rfl))
   (apply fqb;simp+decide only[go_sem]<;>rfl)
end Go.RInst
namespace Go.RInst
open Go.Proofs Go.Ax Go.Pc
variable [PR]
set_option maxRecDepth 100000
theorem lives_call(hso:PR.pr [.str soT]=some (soV,[])){d:Bool}(H:Heap):callV L.env d (sem L.env Mf) (.func (.func 14) [] []) [] H=some (.bool true,H,[]):=callV_flat (by kernel_rfl) (by kernel_rfl) rfl rfl (lives_ok hso) rfl
section
variable (hso:PR.pr [.str soT]=some (soV,[]))(xs:List AV)(hxr:refsL xs=[])(hxs:xs.all AV.storable=true)(hxl:xs.length=3)(S:List Sg)(T:List Tm)(V:List Vc)(h:Valid S T V)
 (hgood:∀d H,callV L.env d (sem L.env Mf) (.func (.func 9) [] []) [.agg xs] H=some (.agg [sl none (S.map Sg.enc),sl none (T.map Tm.enc),sl none (V.map Vc.enc)],H,[]))
include hso hxr hxs hxl h hgood
theorem wave_A(z:Nat)(hz:S.length≤z%9):sem L.env Mf 3 [.agg xs,.int .u8 z] []=some (.bool true,[]):=by
 have hnn:∀v∈V,0≤v.rep:=λv hv=>by have:=(h.rep v hv).1;omega
 have hfl:=flatV_len V hnn;have hS:=h.hS;have hcy:=λd H=>cycles_call (d:=d) H none none none S T V h;have hft:=λd H=>flat_call (d:=d) H none none none S T V h (repSum V) (Int.le_refl _);have hwv:=λd H=>callV_flat (E:=L.env) (draw:=d) (call:=sem L.env Mf) (g:=12) (fs:=[]) (cs:=[]) (ar:=[.agg [sl none (S.map Sg.enc),sl none (T.map Tm.enc),sl none (V.map Vc.enc)],.int .i64 (z%9:Nat),.int .i64 (repSum V)]) (H:=H) (by kernel_rfl) (by kernel_rfl) rfl (by simp+decide only[go_sem]<;>rfl) (wave_err 1 (by decide) none none none S T V (z%9) (repSum V) λd H=>callV_flat (by kernel_rfl) (by kernel_rfl) rfl (by simp+decide only[go_sem]<;>rfl) (sig_arg none none none S T V h (z%9) (repSum V) 0 (.inl hz)) rfl) rfl;have hsv:=λd H=>callV_flat (E:=L.env) (draw:=d) (call:=sem L.env Mf) (g:=13) (fs:=[]) (cs:=[]) (ar:=[.agg [sl none (S.map Sg.enc),sl none (T.map Tm.enc),sl none (V.map Vc.enc)],.int .i64 (z%9:Nat),.int .i64 (repSum V)]) (H:=H) (by kernel_rfl) (by kernel_rfl) rfl (by simp+decide only[go_sem]<;>rfl) (strobes_err 1 (by decide) none none none S T V (z%9) (repSum V) λd H=>callV_flat (by kernel_rfl) (by kernel_rfl) rfl (by simp+decide only[go_sem]<;>rfl) (sig_arg none none none S T V h (z%9) (repSum V) 1 (.inl hz)) rfl) rfl;have hm:(z:Int).tmod 9=((z%9:Nat):Int):=by rw[Int.tmod_eq_emod_of_nonneg (by omega)];omega
 have hw:IntKind.i64.wrap ((z%9:Nat):Int)=((z%9:Nat):Int):=w64 (by omega) (by omega);have c1:(S.length:Int)≤((z%9:Nat):Int):=by omega
 have hlv:=λd H=>lives_call hso (d:=d) H;have hz29:L.env.sz 26=3:=by kernel_rfl
 obtain⟨x1,x2,x3,rfl⟩:∃a b c,xs=[a,b,c]:=by
  match xs,hxl with
  | [a,b,c],_=>exact⟨a,b,c,rfl⟩
 simp only[List.all_cons,List.all_nil,Bool.and_true,Bool.and_eq_true]at hxs;obtain⟨s1,s2,s3⟩:=hxs
 (refine sv Tryz.f3 ?_;simp only[Tryz.f3,gS])
 (repeat first|simp only[ww]|(apply xa;simp+decide only[go_sem,hgood,hcy,hft,hwv,hsv,hm,hw,c1,hlv,s1,s2,s3,List.length_map];rfl;kernel_rfl))
 (apply fqb;simp+decide only[go_sem]<;>rfl)
theorem wave_B0(z:Nat)(s:Sg)(hs:S[z%9]?=some s)(hd:s.dir=0)(hev:EvOk (wvS T (z%9) (flatV V)).1.all (wvS T (z%9) (flatV V)).2 (λx=>(drS T (z%9) x (flatV V)).1)):sem L.env Mf 3 [.agg xs,.int .u8 z] []=some (.bool true,[]):=by
 have hnn:∀v∈V,0≤v.rep:=λv hv=>by have:=(h.rep v hv).1;omega
 have hfl:=flatV_len V hnn;have hsum:=h.sum;have hS:=h.hS;have hT:∀t∈T,TIn t:=λt ht=>tIn_of (h.tm t ht);have hW:=flatV_in h;have hi:z%9<S.length:=(List.getElem?_eq_some_iff.1 hs).1;have hcy:=λd H=>cycles_call (d:=d) H none none none S T V h;have hft:=λd H=>flat_call (d:=d) H none none none S T V h (repSum V) (Int.le_refl _);have hsgl:=λd H=>callV_flat (E:=L.env) (draw:=d) (call:=sem L.env Mf) (g:=31) (fs:=[]) (cs:=[]) (ar:=[.agg [sl none (S.map Sg.enc),sl none (T.map Tm.enc),sl none (V.map Vc.enc)],.int .i64 (z%9:Nat),.int .i64 (repSum V-1),.int .u8 s.dir]) (H:=H) (by kernel_rfl) (by kernel_rfl) rfl (by simp+decide only[go_sem]<;>rfl) (sig_run .nilslice (.int .i64 3) none none none S T V h (z%9) (repSum V-1) s hs rfl rfl λd H=>flatl_call (d:=d) H none none none S T V h (repSum V-1) (by omega)) rfl;have hsgo:=λd H=>callV_flat (E:=L.env) (draw:=d) (call:=sem L.env Mf) (g:=31) (fs:=[]) (cs:=[]) (ar:=[.agg [sl none (S.map Sg.enc),sl none (T.map Tm.enc),sl none (V.map Vc.enc)],.int .i64 (z%9:Nat),.int .i64 (repSum V),.int .u8 s.dir]) (H:=H) (by kernel_rfl) (by kernel_rfl) rfl (by simp+decide only[go_sem]<;>rfl) (sig_run (.islice ((flatV V).map Vc.enc) (some (flatV V).length)) (.int .i64 0) none none none S T V h (z%9) (repSum V) s hs rfl rfl hft) rfl;have hsge:=λ(k:Nat) (hk:s.dir≠k) d H=>callV_flat (E:=L.env) (draw:=d) (call:=sem L.env Mf) (g:=31) (fs:=[]) (cs:=[]) (ar:=[.agg [sl none (S.map Sg.enc),sl none (T.map Tm.enc),sl none (V.map Vc.enc)],.int .i64 (z%9:Nat),.int .i64 (repSum V),.int .u8 k]) (H:=H) (by kernel_rfl) (by kernel_rfl) rfl (by simp+decide only[go_sem]<;>rfl) (sig_arg none none none S T V h (z%9) (repSum V) k (.inr ⟨s,hs,hk⟩)) rfl;rw[hd]at hsgl hsgo;have hwv:=λd H=>callV_flat (E:=L.env) (draw:=d) (call:=sem L.env Mf) (g:=12) (fs:=[]) (cs:=[]) (ar:=[.agg [sl none (S.map Sg.enc),sl none (T.map Tm.enc),sl none (V.map Vc.enc)],.int .i64 (z%9:Nat),.int .i64 (repSum V)]) (H:=H) (by kernel_rfl) (by kernel_rfl) rfl (by simp+decide only[go_sem]<;>rfl) (wave_ok none none none S T V (z%9) (repSum V) hi (flatV V) hW hT (by omega) hsgo) rfl;have hsv:=λd H=>callV_flat (E:=L.env) (draw:=d) (call:=sem L.env Mf) (g:=13) (fs:=[]) (cs:=[]) (ar:=[.agg [sl none (S.map Sg.enc),sl none (T.map Tm.enc),sl none (V.map Vc.enc)],.int .i64 (z%9:Nat),.int .i64 (repSum V)]) (H:=H) (by kernel_rfl) (by kernel_rfl) rfl (by simp+decide only[go_sem]<;>rfl) (strobes_err 1 (by decide) none none none S T V (z%9) (repSum V) (hsge 1 (by omega))) rfl;have hwl:=λd H=>callV_flat (E:=L.env) (draw:=d) (call:=sem L.env Mf) (g:=12) (fs:=[]) (cs:=[]) (ar:=[.agg [sl none (S.map Sg.enc),sl none (T.map Tm.enc),sl none (V.map Vc.enc)],.int .i64 (z%9:Nat),.int .i64 (repSum V-1)]) (H:=H) (by kernel_rfl) (by kernel_rfl) rfl (by simp+decide only[go_sem]<;>rfl) (wave_err 3 (by decide) none none none S T V (z%9) (repSum V-1) hsgl) rfl;have hdr:=λ(d:Bool) H (x:Int)=>callV_flat (E:=L.env) (draw:=d) (call:=sem L.env Mf) (g:=15) (fs:=[]) (cs:=[]) (ar:=[.agg [sl none (S.map Sg.enc),sl none (T.map Tm.enc),sl none (V.map Vc.enc)],.islice ((flatV V).map Vc.enc) (some (flatV V).length),.int .i64 (z%9:Nat),.int .i64 x]) (H:=H) (by kernel_rfl) (by kernel_rfl) rfl (by simp+decide only[go_sem]<;>rfl) (driven_ok none none none S T V (z%9) x (some (flatV V).length) (flatV V) hi hW hT (by omega)) rfl;have hm:(z:Int).tmod 9=((z%9:Nat):Int):=by rw[Int.tmod_eq_emod_of_nonneg (by omega)];omega
 have hw:IntKind.i64.wrap ((z%9:Nat):Int)=((z%9:Nat):Int):=w64 (by omega) (by omega);have hwn:IntKind.i64.wrap (repSum V-1)=repSum V-1:=w64 (by have:=repSum_nn V hnn;omega) (by omega);have c1:¬(S.length:Int)≤((z%9:Nat):Int):=by omega
 have hlv:=λd H=>lives_call hso (d:=d) H;have hss:(S.map Sg.enc)[z%9]?=some (Sg.enc s):=by rw[List.getElem?_map,hs];rfl
 obtain⟨x1,x2,x3,rfl⟩:∃a b c,xs=[a,b,c]:=by
  match xs,hxl with
  | [a,b,c],_=>exact⟨a,b,c,rfl⟩
 simp only[List.all_cons,List.all_nil,Bool.and_true,Bool.and_eq_true]at hxs;obtain⟨s1,s2,s3⟩:=hxs;have hb0:=λk=>wvS_bound T (z%9) hT ((flatV V).take k) (⟨[],0,88⟩,0) (Int.le_refl _);have hWb:(flatV V).length≤1000000:=by omega
 generalize hWW:flatV V=W at *;rw[←hfl]at hcy hft hwv hsv hwl hwn;obtain⟨bz1,bz2,bz3⟩:=hb0 W.length;rw[List.take_length]at bz1 bz2 bz3;change 0≤(wvS T (z%9) W).2 at bz1;change (wvS T (z%9) W).2≤_ at bz2;change (wvS T (z%9) W).1.A.length≤_ at bz3;have hEl:(wvS T (z%9) W).1.all.length=(wvS T (z%9) W).1.A.length+1:=by simp[Ev3.all]
 simp only[List.length_nil]at bz2 bz3;have hE0:(wvS T (z%9) W).1.all.length≤10000000:=by omega
 generalize hEE:(wvS T (z%9) W).1.all=E0 at *
 (refine sv Tryz.f3 ?_;simp only[Tryz.f3,gS])
 (repeat first|simp only[ww]|(apply xa;simp+decide only[go_sem,hgood,hcy,hft,hwv,hsv,hm,hw,c1,s1,s2,s3,List.length_map];rfl;kernel_rfl))
 refine xp_loop3 (σ:=Nat) kp3_0 (λk=>[(5,.ptr 0 0 0),(6,.int .i64 W.length),(8,.islice (W.map Vc.enc) (some W.length)),(10,.int .i64 (z%9:Nat)),(11,.islice (E0.map Evt.enc) (some E0.length)),(12,.int .i64 0),(13,.nilslice),(14,.int .i64 1),(15,.int .i64 (wvS T (z%9) (W.take k)).2),(16,.int .i64 (k:Nat))]) (λ_=>[some (.row 3 [[sl none (S.map Sg.enc),sl none (T.map Tm.enc),sl none (V.map Vc.enc)]])]) (λk=>W.length-k) (λk=>k≤W.length) 0 ?_ (Nat.zero_le _) ?_
 ·have e1:(wvS T (z%9) (W.take 0)).2=0:=rfl
  (simp+decide only[go_sem,gcD_eq,gcIds_eq,e1]<;>rfl)
 ·intro k hk;by_cases hlt:k<W.length
  ·have l1:(k:Int)<W.length:=by omega
   obtain⟨v,hv⟩:∃v,W[k]?=some v:=⟨_,List.getElem?_eq_getElem hlt⟩
   have hvi:=hW v (List.mem_of_getElem? hv);have hv0:=hvi.t0;have hv1:=hvi.t1;have hvc:=hvi.cl;obtain⟨tn,htn⟩:∃tn:Nat,v.t=tn:=⟨v.t.toNat,by omega⟩
   have htl:tn<T.length:=by omega
   obtain⟨t,ht⟩:∃t,T[tn]?=some t:=⟨_,List.getElem?_eq_getElem htl⟩
   have hil:z%9<v.cells.length:=by omega
   obtain⟨c,hc⟩:∃c,v.cells[z%9]?=some c:=⟨_,List.getElem?_eq_getElem hil⟩
   have hti:=hT t (List.mem_of_getElem? ht);have hsm:(W.map Vc.enc)[k]?=some (Vc.enc v):=by rw[List.getElem?_map,hv];rfl
   have hst:(T.map Tm.enc)[tn]?=some (Tm.enc t):=by rw[List.getElem?_map,ht];rfl
   have hwk:IntKind.i64.wrap ((k:Int)+1)=((k+1:Nat):Int):=by rw[w64 (by omega) (by omega)];omega
   obtain⟨b1,b2,b3⟩:=hb0 k;have b4:=List.length_take_le k W;have hstep:(wvS T (z%9) (W.take (k+1))).2=(wvS T (z%9) (W.take k)).2+t.per:=by
    have:v.t.toNat=tn:=by omega
    rw[wvS_s T (z%9) W hv];unfold wvStep;rw[this,ht,hc]
   change 0≤(wvS T (z%9) (W.take k)).2 at b1;change (wvS T (z%9) (W.take k)).2≤_ at b2;generalize(wvS T (z%9) (W.take k)).2=now at b1 b2 hstep⊢;have i4:=hti.per;have i3:=hti.fa;have i2:=hti.ri;have i1:=hti.dr0;have i5:=hti.top;simp only at b2;have hwp:IntKind.i64.wrap (now+t.per)=now+t.per:=w64 (by omega) (by omega)
   (repeat first|simp only[ww]|(apply xa;simp+decide only[go_sem,l1,hlt,hsm,hst,htn,htl,hwp,hwk,List.length_map];rfl;kernel_rfl))
   refine lp_n (k+1) ?_ (by omega) (by omega)
   (simp+decide only[go_sem,gcD_eq,gcIds_eq,hstep]<;>rfl)
  ·obtain rfl:k=W.length:=by omega
   have l1:¬(W.length:Int)<W.length:=by omega
   rw[List.take_length];have hne:=hev.ne;obtain⟨f0,hf0⟩:∃f0,E0[0]?=some f0:=⟨_,List.getElem?_eq_getElem hne⟩
   have hf1:=hev.first f0 hf0;have hfm:(E0.map Evt.enc)[0]?=some [.int .i64 0,.int .u8 f0.2]:=by rw[List.getElem?_map,hf0,Option.map_some,←hf1]
   have c5:¬(E0.length:Int)=0:=by omega
   have d1:(s.dir:Int)=0:=by omega
   have hra:Ax.rowAt (E0.map Evt.enc) 0=some [.int .i64 0,.int .u8 f0.2]:=by unfold Ax.rowAt;simpa using hfm
   (repeat first|simp only[ww]|(apply xa;simp+decide only[go_sem,l1,hss,hi,d1,hwn,hwl,hne,hfm,hra,c5,List.length_map];rfl;kernel_rfl))
   have hEl2:(E0.map Evt.enc).length=E0.length:=List.length_map _;have hwt:=λ(k:Nat) (hk:k<1000000000000000)=>(by rw[w64 (by omega) (by omega)];omega:IntKind.i64.wrap ((k:Int)+1)=((k+1:Nat):Int))
   generalize hfin:(wvS T (z%9) W).2=fin at hev bz1 bz2⊢;obtain⟨fn,hfn⟩:∃fn:Nat,fin=fn:=⟨fin.toNat,by omega⟩
   subst hfn;refine xp_loop3 (σ:=Nat×Nat) kp3_2 (λq=>[(5,.ptr 0 0 0),(8,.islice (W.map Vc.enc) (some W.length)),(10,.int .i64 (z%9:Nat)),(11,.islice (E0.map Evt.enc) (some E0.length)),(15,.int .i64 fn),(19,.int .i64 (q.2:Nat)),(20,.int .i64 (q.1:Nat))]) (λ_=>[some (.row 3 [[sl none (S.map Sg.enc),sl none (T.map Tm.enc),sl none (V.map Vc.enc)]])]) (λq=>fn+1-q.1)
    (λq=>q.1≤fn+1∧q.2<E0.length∧(∀a,E0[q.2]?=some a→a.1≤q.1)∧∀(k:Nat) (b:Int×Nat),q.2<k→E0[k]?=some b→(q.1:Int)≤b.1) (0,0) ?_ ⟨Nat.zero_le _,hne,λa ha=>by rw[hev.first a ha];exact Int.le_refl _,λk b hk hb=>by have:=hev.asc 0 k f0 b hk hf0 hb;show(0:Int)≤_;omega⟩ ?_
   ·(simp+decide only[go_sem,gcD_eq,gcIds_eq]<;>rfl)
   ·rintro⟨x,a⟩ ⟨hx,ha,hlo,hhi⟩
    simp only at hx ha hlo hhi⊢;obtain⟨ea,hea⟩:∃ea,E0[a]?=some ea:=⟨_,List.getElem?_eq_getElem ha⟩
    have hlo':=hlo ea hea;have hwa:=hwt a (by omega);have hwx:=hwt x (by omega);by_cases hxf:x≤fn
    ·have k1:(x:Int)≤fn:=by omega
     by_cases hnx:a+1<E0.length
     ·have k2:((a+1:Nat):Int)<E0.length:=by omega
      obtain⟨eb,heb⟩:∃eb,E0[a+1]?=some eb:=⟨_,List.getElem?_eq_getElem hnx⟩
      have gb:(E0.map Evt.enc)[a+1]?=some (Evt.enc eb):=by rw[List.getElem?_map,heb];rfl
      have ga:(E0.map Evt.enc)[a]?=some (Evt.enc ea):=by rw[List.getElem?_map,hea];rfl
      have hge:=hhi (a+1) eb (by omega) heb;by_cases hat:eb.1=x
      ·have hdf:=hev.diff a ea eb hea heb;have k4:¬(eb.2:Int)=ea.2:=by omega
       have hv:=hev.val x (a+1) eb (by omega) heb (by omega) (λk b hk hb=>by have:=hev.asc (a+1) k eb b hk heb hb;omega);have hwm:IntKind.i64.wrap (((a+1:Nat):Int)-1)=(a:Int):=by rw[w64 (by omega) (by omega)];omega
       have hdx:=λd H=>hdr d H x;rw[←hv]at hdx
       (repeat first|simp only[ww]|(apply xa;simp+decide only[go_sem,k1,k2,hwa,hwx,hnx,ha,ga,gb,hat,k4,hwm,hdx,List.length_map];rfl;kernel_rfl))
       refine lp_n (x+1,a+1) ?_ (by show fn+1-(x+1)<fn+1-x;omega) ⟨by show x+1≤fn+1;omega,hnx,λb hb=>by rw[heb]at hb;cases hb;show _≤((x+1:Nat):Int);omega,λk b hk hb=>by have:=hev.asc (a+1) k eb b hk heb hb;show((x+1:Nat):Int)≤_;omega⟩
       (simp+decide only[go_sem,gcD_eq,gcIds_eq]<;>rfl)
      ·have k3:¬eb.1=(x:Int):=hat;have hhi2:∀(k:Nat) (b:Int×Nat),a<k→E0[k]?=some b→(x:Int)<b.1:=λk b hk hb=>by
        by_cases hka:k=a+1
        ·subst hka;rw[heb]at hb;cases hb;omega
        ·have:=hev.asc (a+1) k eb b (by omega) heb hb;omega
       have hv:=hev.val x a ea (by omega) hea (by omega) hhi2;have hdx:=λd H=>hdr d H x;rw[←hv]at hdx
       (repeat first|simp only[ww]|(apply xa;simp+decide only[go_sem,k1,k2,hwa,hwx,hnx,ha,ga,gb,k3,hdx,List.length_map];rfl;kernel_rfl))
       refine lp_n (x+1,a) ?_ (by show fn+1-(x+1)<fn+1-x;omega) ⟨by show x+1≤fn+1;omega,ha,λb hb=>by rw[hea]at hb;cases hb;show _≤((x+1:Nat):Int);omega,λk b hk hb=>by have:=hhi2 k b hk hb;show((x+1:Nat):Int)≤_;omega⟩
       (simp+decide only[go_sem,gcD_eq,gcIds_eq]<;>rfl)
     ·have k2:¬((a+1:Nat):Int)<E0.length:=by omega
      have ga:(E0.map Evt.enc)[a]?=some (Evt.enc ea):=by rw[List.getElem?_map,hea];rfl
      have hhi2:∀(k:Nat) (b:Int×Nat),a<k→E0[k]?=some b→(x:Int)<b.1:=λk b hk hb=>by have:=(List.getElem?_eq_some_iff.1 hb).1;omega
      have hv:=hev.val x a ea (by omega) hea (by omega) hhi2;have hdx:=λd H=>hdr d H x;rw[←hv]at hdx
      (repeat first|simp only[ww]|(apply xa;simp+decide only[go_sem,k1,k2,hwa,hwx,ha,ga,hdx,List.length_map];rfl;kernel_rfl))
      refine lp_n (x+1,a) ?_ (by show fn+1-(x+1)<fn+1-x;omega) ⟨by show x+1≤fn+1;omega,ha,λb hb=>by rw[hea]at hb;cases hb;show _≤((x+1:Nat):Int);omega,λk b hk hb=>by have:=hhi2 k b hk hb;show((x+1:Nat):Int)≤_;omega⟩
      (simp+decide only[go_sem,gcD_eq,gcIds_eq]<;>rfl)
    ·have k1:¬(x:Int)≤fn:=by omega
     have hae:a+1=E0.length:=by
      by_cases hnx:a+1<E0.length
      ·obtain⟨eb,heb⟩:∃eb,E0[a+1]?=some eb:=⟨_,List.getElem?_eq_getElem hnx⟩
       have h1:=hhi (a+1) eb (by omega) heb;have h2:=hev.top (a+1) eb heb;omega
      ·omega
     have hwl2:IntKind.i64.wrap ((E0.length:Int)-1)=(a:Int):=by rw[w64 (by omega) (by omega)];omega
     (repeat first|simp only[ww]|(apply xa;simp+decide only[go_sem,k1,hwl2,hlv,List.length_map];rfl;kernel_rfl))
     (apply fqb;simp+decide only[go_sem]<;>rfl)
theorem wave_B1(z:Nat)(s:Sg)(hs:S[z%9]?=some s)(hd:s.dir=1):sem L.env Mf 3 [.agg xs,.int .u8 z] []=some (.bool true,[]):=by
 have hnn:∀v∈V,0≤v.rep:=λv hv=>by have:=(h.rep v hv).1;omega
 have hfl:=flatV_len V hnn;have hsum:=h.sum;have hS:=h.hS;have hT:∀t∈T,TIn t:=λt ht=>tIn_of (h.tm t ht);have hW:=flatV_in h;have hi:z%9<S.length:=(List.getElem?_eq_some_iff.1 hs).1;have hcy:=λd H=>cycles_call (d:=d) H none none none S T V h;have hft:=λd H=>flat_call (d:=d) H none none none S T V h (repSum V) (Int.le_refl _);have hsgl:=λd H=>callV_flat (E:=L.env) (draw:=d) (call:=sem L.env Mf) (g:=31) (fs:=[]) (cs:=[]) (ar:=[.agg [sl none (S.map Sg.enc),sl none (T.map Tm.enc),sl none (V.map Vc.enc)],.int .i64 (z%9:Nat),.int .i64 (repSum V-1),.int .u8 s.dir]) (H:=H) (by kernel_rfl) (by kernel_rfl) rfl (by simp+decide only[go_sem]<;>rfl) (sig_run .nilslice (.int .i64 3) none none none S T V h (z%9) (repSum V-1) s hs rfl rfl λd H=>flatl_call (d:=d) H none none none S T V h (repSum V-1) (by omega)) rfl;have hsgo:=λd H=>callV_flat (E:=L.env) (draw:=d) (call:=sem L.env Mf) (g:=31) (fs:=[]) (cs:=[]) (ar:=[.agg [sl none (S.map Sg.enc),sl none (T.map Tm.enc),sl none (V.map Vc.enc)],.int .i64 (z%9:Nat),.int .i64 (repSum V),.int .u8 s.dir]) (H:=H) (by kernel_rfl) (by kernel_rfl) rfl (by simp+decide only[go_sem]<;>rfl) (sig_run (.islice ((flatV V).map Vc.enc) (some (flatV V).length)) (.int .i64 0) none none none S T V h (z%9) (repSum V) s hs rfl rfl hft) rfl;have hsge:=λ(k:Nat) (hk:s.dir≠k) d H=>callV_flat (E:=L.env) (draw:=d) (call:=sem L.env Mf) (g:=31) (fs:=[]) (cs:=[]) (ar:=[.agg [sl none (S.map Sg.enc),sl none (T.map Tm.enc),sl none (V.map Vc.enc)],.int .i64 (z%9:Nat),.int .i64 (repSum V),.int .u8 k]) (H:=H) (by kernel_rfl) (by kernel_rfl) rfl (by simp+decide only[go_sem]<;>rfl) (sig_arg none none none S T V h (z%9) (repSum V) k (.inr ⟨s,hs,hk⟩)) rfl;rw[hd]at hsgl hsgo;have hstr:refs (clE (stS T (z%9) (flatV V)).1)=[]:=by unfold clE;split<;>rfl
 have hwv:=λd H=>callV_flat (E:=L.env) (draw:=d) (call:=sem L.env Mf) (g:=12) (fs:=[]) (cs:=[]) (ar:=[.agg [sl none (S.map Sg.enc),sl none (T.map Tm.enc),sl none (V.map Vc.enc)],.int .i64 (z%9:Nat),.int .i64 (repSum V)]) (H:=H) (by kernel_rfl) (by kernel_rfl) rfl (by simp+decide only[go_sem]<;>rfl) (wave_err 1 (by decide) none none none S T V (z%9) (repSum V) (hsge 0 (by omega))) rfl;have hsv:=λd H=>callV_flat (E:=L.env) (draw:=d) (call:=sem L.env Mf) (g:=13) (fs:=[]) (cs:=[]) (ar:=[.agg [sl none (S.map Sg.enc),sl none (T.map Tm.enc),sl none (V.map Vc.enc)],.int .i64 (z%9:Nat),.int .i64 (repSum V)]) (H:=H) (by kernel_rfl) (by kernel_rfl) rfl (by simp+decide only[go_sem]<;>rfl) (strobes_ok none none none S T V (z%9) (repSum V) hi (flatV V) hW hT (by omega) hsgo) (by simp+decide only[go_sem,hstr]<;>rfl);have hwl:=λd H=>callV_flat (E:=L.env) (draw:=d) (call:=sem L.env Mf) (g:=13) (fs:=[]) (cs:=[]) (ar:=[.agg [sl none (S.map Sg.enc),sl none (T.map Tm.enc),sl none (V.map Vc.enc)],.int .i64 (z%9:Nat),.int .i64 (repSum V-1)]) (H:=H) (by kernel_rfl) (by kernel_rfl) rfl (by simp+decide only[go_sem]<;>rfl) (strobes_err 3 (by decide) none none none S T V (z%9) (repSum V-1) hsgl) rfl;have hm:(z:Int).tmod 9=((z%9:Nat):Int):=by rw[Int.tmod_eq_emod_of_nonneg (by omega)];omega
 have hw:IntKind.i64.wrap ((z%9:Nat):Int)=((z%9:Nat):Int):=w64 (by omega) (by omega);have hwn:IntKind.i64.wrap (repSum V-1)=repSum V-1:=w64 (by have:=repSum_nn V hnn;omega) (by omega);have c1:¬(S.length:Int)≤((z%9:Nat):Int):=by omega
 have hlv:=λd H=>lives_call hso (d:=d) H;have hss:(S.map Sg.enc)[z%9]?=some (Sg.enc s):=by rw[List.getElem?_map,hs];rfl
 obtain⟨x1,x2,x3,rfl⟩:∃a b c,xs=[a,b,c]:=by
  match xs,hxl with
  | [a,b,c],_=>exact⟨a,b,c,rfl⟩
 simp only[List.all_cons,List.all_nil,Bool.and_true,Bool.and_eq_true]at hxs;obtain⟨s1,s2,s3⟩:=hxs;have hb0:=λk=>wvS_bound T (z%9) hT ((flatV V).take k) (⟨[],0,88⟩,0) (Int.le_refl _);have hWb:(flatV V).length≤1000000:=by omega
 generalize hWW:flatV V=W at *;rw[←hfl]at hcy hft hwv hsv hwl hwn;have hpre:=stS_pre T (z%9) W;generalize hST:(stS T (z%9) W).1=ST at *;have hr1:refs (clE ST)=[]:=by unfold clE;split<;>rfl
 have hr2:∀π,ren π (clE ST)=clE ST:=λπ=>ren_flat π _ hr1
 (refine sv Tryz.f3 ?_;simp only[Tryz.f3,gS])
 (repeat first|simp only[ww]|(apply xa;simp+decide only[go_sem,hgood,hcy,hft,hwv,hsv,hm,hw,c1,s1,s2,s3,List.length_map];rfl;kernel_rfl))
 refine xp_loop3 (σ:=Nat) kp3_0 (λk=>[(5,.ptr 0 0 0),(6,.int .i64 W.length),(8,.islice (W.map Vc.enc) (some W.length)),(10,.int .i64 (z%9:Nat)),(11,.nilslice),(12,.int .i64 1),(13,clE ST),(14,.int .i64 0),(15,.int .i64 (wvS T (z%9) (W.take k)).2),(16,.int .i64 (k:Nat))]) (λ_=>[some (.row 3 [[sl none (S.map Sg.enc),sl none (T.map Tm.enc),sl none (V.map Vc.enc)]])]) (λk=>W.length-k) (λk=>k≤W.length) 0 ?_ (Nat.zero_le _) ?_
 ·have e1:(wvS T (z%9) (W.take 0)).2=0:=rfl
  (simp+decide only[go_sem,gcD_eq,gcIds_eq,e1,hr1,hr2]<;>rfl)
 ·intro k hk;by_cases hlt:k<W.length
  ·have l1:(k:Int)<W.length:=by omega
   obtain⟨v,hv⟩:∃v,W[k]?=some v:=⟨_,List.getElem?_eq_getElem hlt⟩
   have hvi:=hW v (List.mem_of_getElem? hv);have hv0:=hvi.t0;have hv1:=hvi.t1;have hvc:=hvi.cl;obtain⟨tn,htn⟩:∃tn:Nat,v.t=tn:=⟨v.t.toNat,by omega⟩
   have htl:tn<T.length:=by omega
   obtain⟨t,ht⟩:∃t,T[tn]?=some t:=⟨_,List.getElem?_eq_getElem htl⟩
   have hil:z%9<v.cells.length:=by omega
   obtain⟨c,hc⟩:∃c,v.cells[z%9]?=some c:=⟨_,List.getElem?_eq_getElem hil⟩
   have hti:=hT t (List.mem_of_getElem? ht);have hsm:(W.map Vc.enc)[k]?=some (Vc.enc v):=by rw[List.getElem?_map,hv];rfl
   have hst:(T.map Tm.enc)[tn]?=some (Tm.enc t):=by rw[List.getElem?_map,ht];rfl
   have hwk:IntKind.i64.wrap ((k:Int)+1)=((k+1:Nat):Int):=by rw[w64 (by omega) (by omega)];omega
   obtain⟨b1,b2,b3⟩:=hb0 k;have b4:=List.length_take_le k W;have hstep:(wvS T (z%9) (W.take (k+1))).2=(wvS T (z%9) (W.take k)).2+t.per:=by
    have:v.t.toNat=tn:=by omega
    rw[wvS_s T (z%9) W hv];unfold wvStep;rw[this,ht,hc]
   change 0≤(wvS T (z%9) (W.take k)).2 at b1;change (wvS T (z%9) (W.take k)).2≤_ at b2;generalize(wvS T (z%9) (W.take k)).2=now at b1 b2 hstep⊢;have i4:=hti.per;have i3:=hti.fa;have i2:=hti.ri;have i1:=hti.dr0;have i5:=hti.top;simp only at b2;have hwp:IntKind.i64.wrap (now+t.per)=now+t.per:=w64 (by omega) (by omega)
   (repeat first|simp only[ww]|(apply xa;simp+decide only[go_sem,l1,hlt,hsm,hst,htn,htl,hwp,hwk,List.length_map];rfl;kernel_rfl))
   refine lp_n (k+1) ?_ (by omega) (by omega)
   (simp+decide only[go_sem,gcD_eq,gcIds_eq,hstep,hr1,hr2]<;>rfl)
  ·obtain rfl:k=W.length:=by omega
   have l1:¬(W.length:Int)<W.length:=by omega
   rw[List.take_length];have d1:¬(s.dir:Int)=0:=by omega
   (repeat first|simp only[ww]|(apply xa;simp+decide only[go_sem,l1,hss,hi,d1,hwn,hwl,List.length_map];rfl;kernel_rfl))
   refine xp_loop3 (σ:=Nat) kp3_4 (λk=>[(5,.ptr 0 0 0),(8,.islice (W.map Vc.enc) (some W.length)),(10,.int .i64 (z%9:Nat)),(13,clE ST),(23,.int .i64 (stS T (z%9) (W.take k)).1.length),(24,.int .i64 (stS T (z%9) (W.take k)).2),(25,.int .i64 (k:Nat))]) (λ_=>[some (.row 3 [[sl none (S.map Sg.enc),sl none (T.map Tm.enc),sl none (V.map Vc.enc)]])]) (λk=>W.length-k) (λk=>k≤W.length) 0 ?_ (Nat.zero_le _) ?_
   ·have e1:stS T (z%9) (W.take 0)=([],0):=rfl
    (simp+decide only[go_sem,gcD_eq,gcIds_eq,e1,hr1,hr2,List.length_nil]<;>rfl)
   ·intro k hk;by_cases hlt:k<W.length
    ·have l1:(k:Int)<W.length:=by omega
     obtain⟨v,hv⟩:∃v,W[k]?=some v:=⟨_,List.getElem?_eq_getElem hlt⟩
     have hvi:=hW v (List.mem_of_getElem? hv);have hv0:=hvi.t0;have hv1:=hvi.t1;have hvc:=hvi.cl;obtain⟨tn,htn⟩:∃tn:Nat,v.t=tn:=⟨v.t.toNat,by omega⟩
     have htl:tn<T.length:=by omega
     obtain⟨t,ht⟩:∃t,T[tn]?=some t:=⟨_,List.getElem?_eq_getElem htl⟩
     have hil:z%9<v.cells.length:=by omega
     obtain⟨c,hc⟩:∃c,v.cells[z%9]?=some c:=⟨_,List.getElem?_eq_getElem hil⟩
     have hti:=hT t (List.mem_of_getElem? ht);have hsm:(W.map Vc.enc)[k]?=some (Vc.enc v):=by rw[List.getElem?_map,hv];rfl
     have hst:(T.map Tm.enc)[tn]?=some (Tm.enc t):=by rw[List.getElem?_map,ht];rfl
     have hwk:IntKind.i64.wrap ((k:Int)+1)=((k+1:Nat):Int):=by rw[w64 (by omega) (by omega)];omega
     obtain⟨b1,b2,b3⟩:=stS_bound T (z%9) hT (W.take k) ([],0) (Int.le_refl _);have b4:=List.length_take_le k W;have hstep:stS T (z%9) (W.take (k+1))=(if c.toNat=88 then(stS T (z%9) (W.take k)).1 else(stS T (z%9) (W.take k)).1++[((stS T (z%9) (W.take k)).2+t.st,c.toNat)],(stS T (z%9) (W.take k)).2+t.per):=by
      have:v.t.toNat=tn:=by omega
      rw[stS_s T (z%9) W hv];unfold stStep;rw[this,ht,hc]
     obtain⟨R,hR⟩:=hpre (k+1);change 0≤(stS T (z%9) (W.take k)).2 at b1;change (stS T (z%9) (W.take k)).2≤_ at b2;change (stS T (z%9) (W.take k)).1.length≤_ at b3;rw[hstep]at hR;generalize stS T (z%9) (W.take k)=u at b1 b2 b3 hstep hR⊢;obtain⟨e,now⟩:=u;simp only at b1 b2 b3 hstep hR⊢;simp only[List.length_nil]at b3;have i6:=hti.st1;have i7:=hti.st0;have i4:=hti.per;have i3:=hti.fa;have i2:=hti.ri;have i1:=hti.dr0;have i5:=hti.top;have hwp:IntKind.i64.wrap (now+t.per)=now+t.per:=w64 (by omega) (by omega);have hws:IntKind.i64.wrap (now+t.st)=now+t.st:=w64 (by omega) (by omega);by_cases hX:c.toNat=88
     ·have k1:(c.toNat:Int)=88:=by omega
      rw[if_pos hX]at hstep
      (repeat first|simp only[ww]|(apply xa;simp+decide only[go_sem,l1,hlt,hsm,hst,htn,htl,hil,hc,k1,hwp,hwk,List.length_map];rfl;kernel_rfl))
      refine lp_n (k+1) ?_ (by omega) (by omega)
      (simp+decide only[go_sem,gcD_eq,gcIds_eq,hstep,hr1,hr2]<;>rfl)
     ·have k1:¬(c.toNat:Int)=88:=by omega
      rw[if_neg hX]at hstep hR;have hel:e.length<ST.length:=by rw[hR];simp
      have hge:ST[e.length]?=some (now+t.st,c.toNat):=by rw[hR,List.append_assoc,List.getElem?_append_right (Nat.le_refl _),Nat.sub_self];rfl
      have hSn:¬ST=[]:=by intro e;rw[e]at hel;simp at hel
      have hcE:clE ST = .islice (ST.map Evt.enc) (some ST.length):=if_neg hSn;have hgm:(ST.map Evt.enc)[e.length]?=some [.int .i64 (now+t.st),.int .u8 c.toNat]:=by rw[List.getElem?_map,hge];rfl
      have k2:¬(ST.length:Int)≤e.length:=by omega
      have hwe:IntKind.i64.wrap ((e.length:Int)+1)=((e.length+1:Nat):Int):=by rw[w64 (by omega) (by omega)];omega
      rw[hcE]at hr1 hr2⊢
      (repeat first|simp only[ww]|(apply xa;simp+decide only[go_sem,l1,hlt,hsm,hst,htn,htl,hil,hc,k1,k2,hel,hgm,hwe,hws,hwp,hwk,beq_self_eq_true,Bool.and_self,Bool.not_true,List.length_map];rfl;kernel_rfl))
      refine lp_n (k+1) ?_ (by omega) (by omega)
      (simp+decide only[go_sem,gcD_eq,gcIds_eq,hstep,List.length_append,List.length_cons,List.length_nil]<;>rfl)
    ·obtain rfl:k=W.length:=by omega
     have l1:¬(W.length:Int)<W.length:=by omega
     rw[List.take_length,hST];by_cases hSn:ST=[]
     ·have hcE:clE ST = .nilslice:=if_pos hSn;have hl0:ST.length=0:=by rw[hSn];rfl
      rw[hcE,hl0]
      (repeat first|simp only[ww]|(apply xa;simp+decide only[go_sem,l1,hlv,List.length_map];rfl;kernel_rfl))
      (apply fqb;simp+decide only[go_sem]<;>rfl)
     ·have hcE:clE ST = .islice (ST.map Evt.enc) (some ST.length):=if_neg hSn;rw[hcE]
      (repeat first|simp only[ww]|(apply xa;simp+decide only[go_sem,l1,hlv,List.length_map];rfl;kernel_rfl))
      (apply fqb;simp+decide only[go_sem]<;>rfl)
end
end Go.RInst
