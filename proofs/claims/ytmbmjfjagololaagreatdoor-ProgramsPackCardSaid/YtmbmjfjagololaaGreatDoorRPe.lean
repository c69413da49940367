/- Part of a proof. No condition. -/
import Derived.Test.YtmbmjfjagololaaGreatDoorRPg
import Derived.Test.YtmbmjfjagololaaGreatDoorPcB
import Derived.Test.YtmbmjfjagololaaGreatDoorRRd
set_option linter.unusedSectionVars false
set_option linter.unusedSimpArgs false
set_option linter.unusedVariables false
namespace Go.RInst
open Go.Proofs Go.Ax Go.Pc
variable [PR]
set_option maxRecDepth 100000
theorem iand_b(a:Int)(b:Nat)(hb:b<4294967296):0≤iand .i64 a b∧iand .i64 a b≤b:=by
 unfold iand;have h1:(BitVec.ofInt (IntKind.i64.bits) a&&&BitVec.ofInt (IntKind.i64.bits) (b:Int)).toNat≤b:=by rw[BitVec.toNat_and];refine Nat.le_trans Nat.and_le_right ?_;rw[BitVec.ofInt_natCast,BitVec.toNat_ofNat];exact Nat.mod_le _ _
 rw[w64 (by omega) (by omega)];omega
theorem ia15(a:Int):0≤iand .i64 a 15∧iand .i64 a 15≤15:=iand_b a 15 (by decide)
theorem ia63(a:Int):0≤iand .i64 a 63∧iand .i64 a 63≤63:=iand_b a 63 (by decide)
theorem ia7(a:Int):0≤iand .i64 a 7∧iand .i64 a 7≤7:=iand_b a 7 (by decide)
theorem ia3(a:Int):0≤iand .i64 a 3∧iand .i64 a 3≤3:=iand_b a 3 (by decide)
def goS(i:Nat):Sg:=⟨[115,(48+i).toUInt8],i%2⟩
def goSs(n:Nat):List Sg:=(List.range n).map goS
theorem goSs_s(n:Nat):goSs (n+1)=goSs n++[goS n]:=by unfold goSs;rw[List.range_succ,List.map_append];rfl
theorem goSs_len(n:Nat):(goSs n).length=n:=by simp[goSs]
def goT(i:Nat)(t:Tm):Tm:=⟨[116,(48+i).toUInt8],iand .i64 t.dr 15+1+iand .i64 t.ri 15+1+iand .i64 t.fa 15+1+iand .i64 t.per 15,iand .i64 t.dr 15,iand .i64 t.dr 15+1+iand .i64 t.ri 15,iand .i64 t.dr 15+1+iand .i64 t.ri 15+1+iand .i64 t.fa 15,(iand .i64 t.st 63).tmod (iand .i64 t.dr 15+1+iand .i64 t.ri 15+1+iand .i64 t.fa 15+1+iand .i64 t.per 15)⟩
def goTs(X:List Tm):Nat→List Tm
 |0=>[]
 |j+1=>match X[j]? with
  |some t=>goTs X j++[goT j t]
  |none=>goTs X j
theorem goTs_s{X:List Tm}{j:Nat}{t:Tm}(h:X[j]?=some t):goTs X (j+1)=goTs X j++[goT j t]:=by simp only[goTs,h]
theorem goTs_len(X:List Tm):∀j,j≤X.length→(goTs X j).length=j
 |0,_=>rfl
 |j+1,h=>by
  obtain⟨t,ht⟩:∃t,X[j]?=some t:=⟨_,List.getElem?_eq_getElem (by omega)⟩
  rw[goTs_s ht,List.length_append,goTs_len X j (by omega)];rfl
def l4(c:Nat):UInt8:=if c=0 then 48 else if c=1 then 49 else if c=2 then 88 else 80
def l3(c:Nat):UInt8:=if c=0 then 76 else if c=1 then 72 else 88
def rawC(v:Vc)(k:Nat):Nat:=if v.cells=[]then 0 else((v.cells)[k%v.cells.length]?.getD 0).toNat
def cellAt(v:Vc)(k:Nat):UInt8:=if k%2=0 then l4 (rawC v k%4)else l3 (rawC v k%3)
def goC(v:Vc)(n:Nat):List UInt8:=(List.range n).map (cellAt v)
theorem goC_s(v:Vc)(n:Nat):goC v (n+1)=goC v n++[cellAt v n]:=by unfold goC;rw[List.range_succ,List.map_append];rfl
theorem goC_len(v:Vc)(n:Nat):(goC v n).length=n:=by simp[goC]
def goV(n m:Nat)(v:Vc):Vc:=⟨(iand .i64 v.t 7).tmod m,goC v n,1+iand .i64 v.rep 3⟩
def goVs(n m:Nat)(Y:List Vc)(q:Nat):List Vc:=(Y.take q).map (goV n m)
theorem goVs_s{n m:Nat}{Y:List Vc}{q:Nat}{v:Vc}(h:Y[q]?=some v):goVs n m Y (q+1)=goVs n m Y q++[goV n m v]:=by unfold goVs;rw[take_s h,List.map_append];rfl
theorem goVs_len(n m:Nat)(Y:List Vc)(q:Nat)(h:q≤Y.length):(goVs n m Y q).length=q:=by simp[goVs];omega
theorem dig8(h:FHeap):∀i:Nat,i<8→aslice L.env h 9 (.str [48,49,50,51,52,53,54,55]) (some (.int .i64 (i:Nat))) (some (.int .i64 (i+1:Nat))) none=some (.str [(48+i).toUInt8])
 |0,_=>by kernel_rfl
 |1,_=>by kernel_rfl
 |2,_=>by kernel_rfl
 |3,_=>by kernel_rfl
 |4,_=>by kernel_rfl
 |5,_=>by kernel_rfl
 |6,_=>by kernel_rfl
 |7,_=>by kernel_rfl
 |n+8,h=>by omega
theorem dig3(h:FHeap):∀i:Nat,i<3→aslice L.env h 9 (.str [48,49,50]) (some (.int .i64 (i:Nat))) (some (.int .i64 (i+1:Nat))) none=some (.str [(48+i).toUInt8])
 |0,_=>by kernel_rfl
 |1,_=>by kernel_rfl
 |2,_=>by kernel_rfl
 |n+3,h=>by omega
theorem u8m2(i:Nat):IntKind.u8.wrap ((i%2:Nat):Int)=((i%2:Nat):Int):=by
 have h:i%2=0∨i%2=1:=by omega
 rcases h with h|h<;>rw[h]<;>decide
theorem let4(h:FHeap):∀c:Nat,c<4→aslice L.env h 9 (.str [48,49,88,80]) (some (.int .u8 (c:Nat))) (some (.int .u8 (c+1:Nat))) none=some (.str [l4 c])
 |0,_=>by kernel_rfl
 |1,_=>by kernel_rfl
 |2,_=>by kernel_rfl
 |3,_=>by kernel_rfl
 |n+4,h=>by omega
theorem let3(h:FHeap):∀c:Nat,c<3→aslice L.env h 9 (.str [76,72,88]) (some (.int .u8 (c:Nat))) (some (.int .u8 (c+1:Nat))) none=some (.str [l3 c])
 |0,_=>by kernel_rfl
 |1,_=>by kernel_rfl
 |2,_=>by kernel_rfl
 |n+3,h=>by omega
theorem u8s:∀c:Nat,c<4→IntKind.u8.wrap ((c:Int)+1)=((c+1:Nat):Int)
 |0,_=>by decide
 |1,_=>by decide
 |2,_=>by decide
 |3,_=>by decide
 |n+4,h=>by omega
theorem tmodN(a b:Nat):(a:Int).tmod b=((a%b:Nat):Int):=by rw[Int.tmod_eq_emod_of_nonneg (by omega)];omega
set_option maxHeartbeats 40000000 in
theorem good_ok(r0 r1 r2:Option (Option Nat))(N:List (List UInt8))(X:List Tm)(Y:List Vc)(hN:N.length<9223372036854775808)(hX:X.length<9223372036854775808)(hY:Y.length<9223372036854775808):∃r:AV×Heap,(r=(.agg [sl none ((goSs (min N.length 8)).map Sg.enc),sl none ((goTs X (min X.length 3)).map Tm.enc),sl none ((if X=[]then[]else goVs (min N.length 8) (min X.length 3) Y (min Y.length 12)).map Vc.enc)],[]))∧sem L.env Mf 9 [.agg [sl r0 (N.map stR),sl r1 (X.map Tm.enc),sl r2 (Y.map Vc.enc)]] []=some r:=by
 have b29:Nat.beq 29 82=false:=by rfl
 have b41:Nat.beq 41 82=false:=by rfl
 have b43:Nat.beq 43 82=false:=by rfl
 (refine svE Tryz.f9 ?_;simp only[Tryz.f9,gS])
 (repeat first|simp only[ww]|(apply xa;simp+decide only[go_sem,b29];rfl;kernel_rfl))
 refine xp_loop3 (σ:=Nat) kp9_0 (λi=>[(1,.ptr 0 0 0),(2,.ptr 1 0 0),(3,.ptr 2 0 0),(4,.int .i64 (i:Nat))]) (λi=>some (.row 3 [[sl r0 (N.map stR),sl r1 (X.map Tm.enc),sl r2 (Y.map Vc.enc)]])::some (.row 3 [[.nilslice,.nilslice,.nilslice]])::some (.row 3 [[grV 3 ((goSs i).map Sg.enc),.nilslice,.nilslice]])::grH 2 ((goSs i).map Sg.enc)) (λi=>8-i) (λi=>i≤N.length∧i≤8) 0 ?_ ⟨Nat.zero_le _,Nat.zero_le _⟩ ?_
 ·have e1:goSs 0=[]:=rfl
  (simp+decide only[go_sem,gcD_eq,gcIds_eq,e1,List.map_nil,grV_nil,grH_nil]<;>rfl)
 ·rintro i ⟨hi,hi8⟩
  by_cases hlt:i<N.length
  ·have l1:(i:Int)<N.length:=by omega
   by_cases hl8:i<8
   ·have l2:(i:Int)<8:=by omega
    have hw:IntKind.i64.wrap ((i:Int)+1)=((i+1:Nat):Int):=by rw[w64 (by omega) (by omega)];omega
    by_cases hk:i=0
    ·subst hk;have e1:goSs 0=[]:=rfl;rw[e1]
     (repeat first|simp only[ww]|(apply xa;simp+decide only[go_sem,l1,l2,hw,List.length_map,List.map_nil,grV_nil,grH_nil];rfl;kernel_rfl))
     refine lp_n (0+1) ?_ (by omega) ⟨by omega,by omega⟩;have e2:(goSs (0+1)).map Sg.enc=[[.str [115,48],.int .u8 0]]:=rfl
     (simp+decide only[go_sem,gcD_eq,gcIds_eq,e2,grV_cons,grH_cons,List.length_nil]<;>rfl)
    ·have hlen:((goSs i).map Sg.enc).length=i:=by rw[List.length_map,goSs_len]
     have hne:(goSs i).map Sg.enc≠[]:=by intro e;rw[e]at hlen;simp at hlen;omega
     have hsr:(goSs (i+1)).map Sg.enc=(goSs i).map Sg.enc++[[.str [115,(48+i).toUInt8],.int .u8 (i%2:Nat)]]:=by rw[goSs_s,List.map_append];rfl
     have h5:=refs_flatR (sgE_flat (goSs (i+1)));have h6:=λπ=>renR_flat π (sgE_flat (goSs (i+1)));have hrm:i+1≤1000000000:=by omega
     have hmod:(i:Int).tmod 2=((i%2:Nat):Int):=by rw[Int.tmod_eq_emod_of_nonneg (by omega)];omega
     have hdg:=λh=>dig8 h i hl8;have hu:=u8m2 i;rw[grV_ne 3 hne,grH_ne 2 hne,hlen];rw[hsr]at h5 h6;generalize(goSs i).map Sg.enc=R at hsr hlen h5 h6 hne⊢
     (repeat first|simp only[ww]|(apply xa;simp+decide only[go_sem,l1,l2,hw,hlen,hrm,hmod,hdg,hu,List.length_map,List.cons_append,List.nil_append];rfl;kernel_rfl))
     refine lp_n (i+1) ?_ (by omega) ⟨by omega,by omega⟩
     (simp+decide only[go_sem,gcD_eq,gcIds_eq,hsr,grV_snoc,grH_snoc,hlen,h5,h6]<;>rfl)
   ·have l2:¬(i:Int)<8:=by omega
    have hnS:i=min N.length 8:=by omega
    rw[←hnS];have hlS:((goSs i).map Sg.enc).length=i:=by rw[List.length_map,goSs_len]
    have hneS:(goSs i).map Sg.enc≠[]:=by intro e;rw[e]at hlS;simp at hlS;omega
    have hS1:=refs_flatR (sgE_flat (goSs i));have hS2:=λπ=>renR_flat π (sgE_flat (goSs i));have hS3:=λq d=>frzR_flat q d (sgE_flat (goSs i));rw[sl_none_ne hneS,grV_ne 3 hneS,grH_ne 2 hneS,hlS];generalize(goSs i).map Sg.enc=SR at hlS hneS hS1 hS2 hS3⊢;have hS4:SR.take i=SR:=List.take_of_length_le (by omega)
    (repeat first|simp only[ww]|(apply xa;simp+decide only[go_sem,l1,l2,List.length_map];rfl;kernel_rfl))
    refine xp_loop3 (σ:=Nat) kp9_2 (λj=>[(1,.ptr 0 0 0),(2,.ptr 1 0 0),(3,.ptr 2 0 0),(5,.int .i64 (j:Nat))]) (λj=>some (.row 3 [[sl r0 (N.map stR),sl r1 (X.map Tm.enc),sl r2 (Y.map Vc.enc)]])::some (.row 3 [[.nilslice,.nilslice,.nilslice]])::some (.row 3 [[.slice 3 0 i none,grV 4 ((goTs X j).map Tm.enc),.nilslice]])::some (.row 2 SR)::grH 6 ((goTs X j).map Tm.enc)) (λj=>3-j) (λj=>j≤X.length∧j≤3) 0 ?_ ⟨Nat.zero_le _,Nat.zero_le _⟩ ?_
    ·have e1:goTs X 0=[]:=rfl
     (simp+decide only[go_sem,gcD_eq,gcIds_eq,e1,List.map_nil,grV_nil,grH_nil,hS1,hS2]<;>rfl)
    ·rintro j ⟨hj,hj3⟩
     by_cases hlj:j<X.length
     ·have m1:(j:Int)<X.length:=by omega
      by_cases hl3:j<3
      ·have m2:(j:Int)<3:=by omega
       have hw:IntKind.i64.wrap ((j:Int)+1)=((j+1:Nat):Int):=by rw[w64 (by omega) (by omega)];omega
       obtain⟨t,ht⟩:∃t,X[j]?=some t:=⟨_,List.getElem?_eq_getElem hlj⟩
       have hsm:(X.map Tm.enc)[j]?=some (Tm.enc t):=by rw[List.getElem?_map,ht];rfl
       have hgs:=goTs_s ht;have hdg:=λh=>dig3 h j hl3;have a1:=ia15 t.dr;have a2:=ia15 t.ri;have a3:=ia15 t.fa;have a4:=ia15 t.per;have a5:=ia63 t.st;have hgt:Tm.enc (goT j t)=Tm.enc (goT j t):=rfl;unfold goT at hgt;unfold goT at hgs;generalize hd1:iand .i64 t.dr 15=x1 at a1 hgs;generalize hd2:iand .i64 t.ri 15=x2 at a2 hgs;generalize hd3:iand .i64 t.fa 15=x3 at a3 hgs;generalize hd4:iand .i64 t.per 15=x4 at a4 hgs;generalize hd5:iand .i64 t.st 63=x5 at a5 hgs;have u1:IntKind.i64.wrap (x1+1)=x1+1:=w64 (by omega) (by omega);have u2:IntKind.i64.wrap (x1+1+x2)=x1+1+x2:=w64 (by omega) (by omega);have u3:IntKind.i64.wrap (x1+1+x2+1)=x1+1+x2+1:=w64 (by omega) (by omega);have u4:IntKind.i64.wrap (x1+1+x2+1+x3)=x1+1+x2+1+x3:=w64 (by omega) (by omega);have u5:IntKind.i64.wrap (x1+1+x2+1+x3+1)=x1+1+x2+1+x3+1:=w64 (by omega) (by omega);have u6:IntKind.i64.wrap (x1+1+x2+1+x3+1+x4)=x1+1+x2+1+x3+1+x4:=w64 (by omega) (by omega);have u7:¬x1+1+x2+1+x3+1+x4=0:=by omega
       have hsr:(goTs X (j+1)).map Tm.enc=(goTs X j).map Tm.enc++[[.str [116,(48+j).toUInt8],.int .i64 (x1+1+x2+1+x3+1+x4),.int .i64 x1,.int .i64 (x1+1+x2),.int .i64 (x1+1+x2+1+x3),.int .i64 (x5.tmod (x1+1+x2+1+x3+1+x4))]]:=by rw[hgs,List.map_append];rfl
       by_cases hk:j=0
       ·subst hk;have e1:(goTs X 0).map Tm.enc=[]:=rfl;rw[e1]at hsr⊢;simp only[List.nil_append]at hsr
        (repeat first|simp only[ww]|(apply xa;simp+decide only[go_sem,m1,m2,hlj,hsm,hw,hdg,hd1,hd2,hd3,hd4,hd5,u1,u2,u3,u4,u5,u6,u7,b41,List.length_map,List.cons_append,List.nil_append,grV_nil,grH_nil,hS1,hS2];rfl;kernel_rfl))
        refine lp_n (0+1) ?_ (by omega) ⟨by omega,by omega⟩
        (simp+decide only[go_sem,gcD_eq,gcIds_eq,hsr,grV_cons,grH_cons,List.length_nil,hS1,hS2]<;>rfl)
       ·have hlen:((goTs X j).map Tm.enc).length=j:=by rw[List.length_map,goTs_len X j hj]
        have hne:(goTs X j).map Tm.enc≠[]:=by intro e;rw[e]at hlen;simp at hlen;omega
        have h5:=refs_flatR (tmE_flat (goTs X (j+1)));have h6:=λπ=>renR_flat π (tmE_flat (goTs X (j+1)));have hrm:j+1≤1000000000:=by omega
        rw[grV_ne 4 hne,grH_ne 6 hne,hlen];rw[hsr]at h5 h6;generalize(goTs X j).map Tm.enc=R at hsr hlen h5 h6 hne⊢
        (repeat first|simp only[ww]|(apply xa;simp+decide only[go_sem,m1,m2,hlj,hsm,hw,hlen,hrm,hdg,hd1,hd2,hd3,hd4,hd5,u1,u2,u3,u4,u5,u6,u7,b41,List.length_map,List.cons_append,List.nil_append,hS1,hS2];rfl;kernel_rfl))
        refine lp_n (j+1) ?_ (by omega) ⟨by omega,by omega⟩
        (simp+decide only[go_sem,gcD_eq,gcIds_eq,hsr,grV_snoc,grH_snoc,hlen,h5,h6,hS1,hS2]<;>rfl)
      ·have m2:¬(j:Int)<3:=by omega
       have hnT:j=min X.length 3:=by omega
       rw[←hnT];have hX0:¬X=[]:=by intro e;rw[e]at hj;simp at hj;omega
       have hlT:((goTs X j).map Tm.enc).length=j:=by rw[List.length_map,goTs_len X j hj]
       have hneT:(goTs X j).map Tm.enc≠[]:=by intro e;rw[e]at hlT;simp at hlT;omega
       have hT1:=refs_flatR (tmE_flat (goTs X j));have hT2:=λπ=>renR_flat π (tmE_flat (goTs X j));have hT3:=λq d=>frzR_flat q d (tmE_flat (goTs X j));rw[sl_none_ne hneT,grV_ne 4 hneT,grH_ne 6 hneT,hlT,if_neg hX0];generalize(goTs X j).map Tm.enc=TR at hlT hneT hT1 hT2 hT3⊢;have hT4:TR.take j=TR:=List.take_of_length_le (by omega)
       (repeat first|simp only[ww]|(apply xa;simp+decide only[go_sem,m1,m2,List.length_map,hS1,hS2];rfl;kernel_rfl))
       have hjp:(0:Int)<j:=by omega
       have hj9:j<1000:=by omega
       refine xp_loop3 (σ:=Nat) kp9_4 (λq=>[(1,.ptr 0 0 0),(2,.ptr 1 0 0),(3,.ptr 2 0 0),(11,.int .i64 (q:Nat))]) (λq=>some (.row 3 [[sl r0 (N.map stR),sl r1 (X.map Tm.enc),sl r2 (Y.map Vc.enc)]])::some (.row 3 [[.nilslice,.nilslice,.nilslice]])::some (.row 3 [[.slice 3 0 i none,.slice 4 0 j none,grV 5 ((goVs i j Y q).map Vc.enc)]])::some (.row 2 SR)::some (.row 6 TR)::grH 3 ((goVs i j Y q).map Vc.enc)) (λq=>12-q) (λq=>q≤Y.length∧q≤12) 0 ?_ ⟨Nat.zero_le _,Nat.zero_le _⟩ ?_
       ·have e1:goVs i j Y 0=[]:=rfl
        (simp+decide only[go_sem,gcD_eq,gcIds_eq,e1,List.map_nil,grV_nil,grH_nil,hS1,hS2,hT1,hT2]<;>rfl)
       ·rintro q ⟨hq,hq12⟩
        by_cases hly:q<Y.length
        ·have n1:(q:Int)<Y.length:=by omega
         by_cases hl12:q<12
         ·have n2:(q:Int)<12:=by omega
          have hw:IntKind.i64.wrap ((q:Int)+1)=((q+1:Nat):Int):=by rw[w64 (by omega) (by omega)];omega
          obtain⟨v,hv⟩:∃v,Y[q]?=some v:=⟨_,List.getElem?_eq_getElem hly⟩
          have hsm:(Y.map Vc.enc)[q]?=some (Vc.enc v):=by rw[List.getElem?_map,hv];rfl
          have hgs:goVs i j Y (q+1)=goVs i j Y q++[goV i j v]:=goVs_s hv;have a1:=ia7 v.t;have a2:=ia3 v.rep;unfold goV at hgs;generalize hd1:iand .i64 v.t 7=x1 at a1 hgs;generalize hd2:iand .i64 v.rep 3=x2 at a2 hgs;have u1:IntKind.i64.wrap (1+x2)=1+x2:=w64 (by omega) (by omega);have u7:¬(j:Int)=0:=by omega
          have hsr:(goVs i j Y (q+1)).map Vc.enc=(goVs i j Y q).map Vc.enc++[[.int .i64 (x1.tmod j),.str (goC v i),.int .i64 (1+x2)]]:=by rw[hgs,List.map_append];rfl
          by_cases hk:q=0
          ·subst hk;have e1:(goVs i j Y 0).map Vc.enc=[]:=rfl;rw[e1]at hsr⊢;simp only[List.nil_append]at hsr;simp only[grV_nil,grH_nil]
           (repeat first|simp only[ww]|(apply xa;simp+decide only[go_sem,n1,n2,hjp,hly,hsm,b43,List.length_map,hS1,hS2,hT1,hT2];rfl;kernel_rfl))
           refine xp_loop3 (σ:=Nat) kp9_6 (λk=>[(1,.ptr 0 0 0),(2,.ptr 1 0 0),(3,.ptr 2 0 0),(11,.int .i64 (0:Nat)),(12,.ptr 5 0 0),(13,.str (goC v k)),(14,.int .i64 (k:Nat))]) (λk=>[some (.row 3 [[sl r0 (N.map stR),sl r1 (X.map Tm.enc),sl r2 (Y.map Vc.enc)]]),some (.row 3 [[.nilslice,.nilslice,.nilslice]]),some (.row 3 [[.slice 3 0 i none,.slice 4 0 j none,.nilslice]]),some (.row 2 SR),some (.row 6 TR),some (.row 3 [Vc.enc v])]) (λk=>i-k) (λk=>k≤i) 0 ?_ (Nat.zero_le _) ?_
           ·have e0:goC v 0=[]:=rfl
            (simp+decide only[go_sem,gcD_eq,gcIds_eq,e0,hS1,hS2,hT1,hT2]<;>rfl)
           ·intro k hkn;by_cases hlk:k<i
            ·have k1:(k:Int)<i:=by omega
             have hwk:IntKind.i64.wrap ((k:Int)+1)=((k+1:Nat):Int):=by rw[w64 (by omega) (by omega)];omega
             have hcl:=goC_len v k;have hkk:k+1≤4611686018427387904:=by omega
             have hgc:=goC_s v k;by_cases hce:v.cells=[]
             ·have c5:¬(0:Int)<v.cells.length:=by rw[hce];decide
              have hrc:rawC v k=0:=if_pos hce;have q0:IntKind.u8.wrap (0+1)=1:=by decide
              have e04:(0:Int).tmod 4=0:=rfl;have e03:(0:Int).tmod 3=0:=rfl;have s4:∀h,aslice L.env h 9 (.str [48,49,88,80]) (some (.int .u8 0)) (some (.int .u8 1)) none=some (.str [l4 0]):=λh=>by kernel_rfl
              have s3:∀h,aslice L.env h 9 (.str [76,72,88]) (some (.int .u8 0)) (some (.int .u8 1)) none=some (.str [l3 0]):=λh=>by kernel_rfl
              generalize goC v k=G at hcl hgc⊢;by_cases hev:k%2=0
              ·have m2:(k:Int).tmod 2=0:=by rw[show(2:Int)=((2:Nat):Int)from rfl,tmodN,hev];rfl
               have hca:cellAt v k=l4 0:=by unfold cellAt;rw[if_pos hev,hrc]
               rw[hca]at hgc
               (repeat first|simp only[ww]|(apply xa;simp+decide only[go_sem,k1,c5,m2,q0,e04,e03,s4,s3,hcl,hkk,hwk,Nat.zero_add,List.length_cons,List.length_nil,hS1,hS2,hT1,hT2];rfl;kernel_rfl))
               refine lp_n (k+1) ?_ (by omega) (by omega)
               (simp+decide only[go_sem,gcD_eq,gcIds_eq,hgc,hS1,hS2,hT1,hT2]<;>rfl)
              ·have m2:(k:Int).tmod 2=1:=by rw[show(2:Int)=((2:Nat):Int)from rfl,tmodN,show k%2=1 by omega];rfl
               have hca:cellAt v k=l3 0:=by unfold cellAt;rw[if_neg hev,hrc]
               rw[hca]at hgc
               (repeat first|simp only[ww]|(apply xa;simp+decide only[go_sem,k1,c5,m2,q0,e04,e03,s4,s3,hcl,hkk,hwk,Nat.zero_add,List.length_cons,List.length_nil,hS1,hS2,hT1,hT2];rfl;kernel_rfl))
               refine lp_n (k+1) ?_ (by omega) (by omega)
               (simp+decide only[go_sem,gcD_eq,gcIds_eq,hgc,hS1,hS2,hT1,hT2]<;>rfl)
             ·have hcp:0<v.cells.length:=List.length_pos_iff.2 hce;have c5:(0:Int)<v.cells.length:=by omega
              have c6:¬(v.cells.length:Int)=0:=by omega
              have hil:k%v.cells.length<v.cells.length:=Nat.mod_lt _ hcp;obtain⟨c,hc⟩:∃c,v.cells[k%v.cells.length]?=some c:=⟨_,List.getElem?_eq_getElem hil⟩
              have hrc:rawC v k=c.toNat:=by unfold rawC;rw[if_neg hce,hc];rfl
              have hmk:=tmodN k v.cells.length;have m4:(c.toNat:Int).tmod 4=((c.toNat%4:Nat):Int):=tmodN _ 4;have m3:(c.toNat:Int).tmod 3=((c.toNat%3:Nat):Int):=tmodN _ 3;have w4:=u8s (c.toNat%4) (by omega);have w3:=u8s (c.toNat%3) (by omega);have s4:=λh=>let4 h (c.toNat%4) (by omega);have s3:=λh=>let3 h (c.toNat%3) (by omega);generalize goC v k=G at hcl hgc⊢;by_cases hev:k%2=0
              ·have m2:(k:Int).tmod 2=0:=by rw[show(2:Int)=((2:Nat):Int)from rfl,tmodN,hev];rfl
               have hca:cellAt v k=l4 (c.toNat%4):=by unfold cellAt;rw[if_pos hev,hrc]
               rw[hca]at hgc
               (repeat first|simp only[ww]|(apply xa;simp+decide only[go_sem,k1,c5,c6,hmk,hil,hc,m2,m4,m3,w4,w3,s4,s3,hcl,hkk,hwk,Nat.zero_add,List.length_cons,List.length_nil,hS1,hS2,hT1,hT2];rfl;kernel_rfl))
               refine lp_n (k+1) ?_ (by omega) (by omega)
               (simp+decide only[go_sem,gcD_eq,gcIds_eq,hgc,hS1,hS2,hT1,hT2]<;>rfl)
              ·have m2:(k:Int).tmod 2=1:=by rw[show(2:Int)=((2:Nat):Int)from rfl,tmodN,show k%2=1 by omega];rfl
               have hca:cellAt v k=l3 (c.toNat%3):=by unfold cellAt;rw[if_neg hev,hrc]
               rw[hca]at hgc
               (repeat first|simp only[ww]|(apply xa;simp+decide only[go_sem,k1,c5,c6,hmk,hil,hc,m2,m4,m3,w4,w3,s4,s3,hcl,hkk,hwk,Nat.zero_add,List.length_cons,List.length_nil,hS1,hS2,hT1,hT2];rfl;kernel_rfl))
               refine lp_n (k+1) ?_ (by omega) (by omega)
               (simp+decide only[go_sem,gcD_eq,gcIds_eq,hgc,hS1,hS2,hT1,hT2]<;>rfl)
            ·have hkn2:k=i:=by omega
             rw[hkn2];have k1:¬(i:Int)<i:=by omega
             (repeat first|simp only[ww]|(apply xa;simp+decide only[go_sem,k1,hd1,hd2,u1,u7,hw,List.length_map,hS1,hS2,hT1,hT2];rfl;kernel_rfl))
             refine lp_n (0+1) ?_ (by omega) ⟨by omega,by omega⟩
             (simp+decide only[go_sem,gcD_eq,gcIds_eq,hsr,grV_cons,grH_cons,List.length_nil,hS1,hS2,hT1,hT2]<;>rfl)
          ·have hlen:((goVs i j Y q).map Vc.enc).length=q:=by rw[List.length_map,goVs_len i j Y q hq]
           have hne:(goVs i j Y q).map Vc.enc≠[]:=by intro e;rw[e]at hlen;simp at hlen;omega
           have h5:=refs_flatR (vcE_flat (goVs i j Y (q+1)));have h6:=λπ=>renR_flat π (vcE_flat (goVs i j Y (q+1)));have h7:=refs_flatR (vcE_flat (goVs i j Y q));have h8:=λπ=>renR_flat π (vcE_flat (goVs i j Y q));have hrm:q+1≤1000000000:=by omega
           rw[grV_ne 5 hne,grH_ne 3 hne,hlen];rw[hsr]at h5 h6;generalize(goVs i j Y q).map Vc.enc=R at hsr hlen h5 h6 h7 h8 hne⊢
           (repeat first|simp only[ww]|(apply xa;simp+decide only[go_sem,n1,n2,hjp,hly,hsm,b43,List.length_map,hS1,hS2,hT1,hT2];rfl;kernel_rfl))
           refine xp_loop3 (σ:=Nat) kp9_6 (λk=>[(1,.ptr 0 0 0),(2,.ptr 1 0 0),(3,.ptr 2 0 0),(11,.int .i64 (q:Nat)),(12,.ptr 6 0 0),(13,.str (goC v k)),(14,.int .i64 (k:Nat))]) (λk=>[some (.row 3 [[sl r0 (N.map stR),sl r1 (X.map Tm.enc),sl r2 (Y.map Vc.enc)]]),some (.row 3 [[.nilslice,.nilslice,.nilslice]]),some (.row 3 [[.slice 3 0 i none,.slice 4 0 j none,.slice 5 0 q none]]),some (.row 2 SR),some (.row 6 TR),some (.row 3 R),some (.row 3 [Vc.enc v])]) (λk=>i-k) (λk=>k≤i) 0 ?_ (Nat.zero_le _) ?_
           ·have e0:goC v 0=[]:=rfl
            (simp+decide only[go_sem,gcD_eq,gcIds_eq,e0,hS1,hS2,hT1,hT2,h7,h8]<;>rfl)
           ·intro k hkn;by_cases hlk:k<i
            ·have k1:(k:Int)<i:=by omega
             have hwk:IntKind.i64.wrap ((k:Int)+1)=((k+1:Nat):Int):=by rw[w64 (by omega) (by omega)];omega
             have hcl:=goC_len v k;have hkk:k+1≤4611686018427387904:=by omega
             have hgc:=goC_s v k;by_cases hce:v.cells=[]
             ·have c5:¬(0:Int)<v.cells.length:=by rw[hce];decide
              have hrc:rawC v k=0:=if_pos hce;have q0:IntKind.u8.wrap (0+1)=1:=by decide
              have e04:(0:Int).tmod 4=0:=rfl;have e03:(0:Int).tmod 3=0:=rfl;have s4:∀h,aslice L.env h 9 (.str [48,49,88,80]) (some (.int .u8 0)) (some (.int .u8 1)) none=some (.str [l4 0]):=λh=>by kernel_rfl
              have s3:∀h,aslice L.env h 9 (.str [76,72,88]) (some (.int .u8 0)) (some (.int .u8 1)) none=some (.str [l3 0]):=λh=>by kernel_rfl
              generalize goC v k=G at hcl hgc⊢;by_cases hev:k%2=0
              ·have m2:(k:Int).tmod 2=0:=by rw[show(2:Int)=((2:Nat):Int)from rfl,tmodN,hev];rfl
               have hca:cellAt v k=l4 0:=by unfold cellAt;rw[if_pos hev,hrc]
               rw[hca]at hgc
               (repeat first|simp only[ww]|(apply xa;simp+decide only[go_sem,k1,c5,m2,q0,e04,e03,s4,s3,hcl,hkk,hwk,Nat.zero_add,List.length_cons,List.length_nil,hS1,hS2,hT1,hT2,h7,h8];rfl;kernel_rfl))
               refine lp_n (k+1) ?_ (by omega) (by omega)
               (simp+decide only[go_sem,gcD_eq,gcIds_eq,hgc,hS1,hS2,hT1,hT2,h7,h8]<;>rfl)
              ·have m2:(k:Int).tmod 2=1:=by rw[show(2:Int)=((2:Nat):Int)from rfl,tmodN,show k%2=1 by omega];rfl
               have hca:cellAt v k=l3 0:=by unfold cellAt;rw[if_neg hev,hrc]
               rw[hca]at hgc
               (repeat first|simp only[ww]|(apply xa;simp+decide only[go_sem,k1,c5,m2,q0,e04,e03,s4,s3,hcl,hkk,hwk,Nat.zero_add,List.length_cons,List.length_nil,hS1,hS2,hT1,hT2,h7,h8];rfl;kernel_rfl))
               refine lp_n (k+1) ?_ (by omega) (by omega)
               (simp+decide only[go_sem,gcD_eq,gcIds_eq,hgc,hS1,hS2,hT1,hT2,h7,h8]<;>rfl)
             ·have hcp:0<v.cells.length:=List.length_pos_iff.2 hce;have c5:(0:Int)<v.cells.length:=by omega
              have c6:¬(v.cells.length:Int)=0:=by omega
              have hil:k%v.cells.length<v.cells.length:=Nat.mod_lt _ hcp;obtain⟨c,hc⟩:∃c,v.cells[k%v.cells.length]?=some c:=⟨_,List.getElem?_eq_getElem hil⟩
              have hrc:rawC v k=c.toNat:=by unfold rawC;rw[if_neg hce,hc];rfl
              have hmk:=tmodN k v.cells.length;have m4:(c.toNat:Int).tmod 4=((c.toNat%4:Nat):Int):=tmodN _ 4;have m3:(c.toNat:Int).tmod 3=((c.toNat%3:Nat):Int):=tmodN _ 3;have w4:=u8s (c.toNat%4) (by omega);have w3:=u8s (c.toNat%3) (by omega);have s4:=λh=>let4 h (c.toNat%4) (by omega);have s3:=λh=>let3 h (c.toNat%3) (by omega);generalize goC v k=G at hcl hgc⊢;by_cases hev:k%2=0
              ·have m2:(k:Int).tmod 2=0:=by rw[show(2:Int)=((2:Nat):Int)from rfl,tmodN,hev];rfl
               have hca:cellAt v k=l4 (c.toNat%4):=by unfold cellAt;rw[if_pos hev,hrc]
               rw[hca]at hgc
               (repeat first|simp only[ww]|(apply xa;simp+decide only[go_sem,k1,c5,c6,hmk,hil,hc,m2,m4,m3,w4,w3,s4,s3,hcl,hkk,hwk,Nat.zero_add,List.length_cons,List.length_nil,hS1,hS2,hT1,hT2,h7,h8];rfl;kernel_rfl))
               refine lp_n (k+1) ?_ (by omega) (by omega)
               (simp+decide only[go_sem,gcD_eq,gcIds_eq,hgc,hS1,hS2,hT1,hT2,h7,h8]<;>rfl)
              ·have m2:(k:Int).tmod 2=1:=by rw[show(2:Int)=((2:Nat):Int)from rfl,tmodN,show k%2=1 by omega];rfl
               have hca:cellAt v k=l3 (c.toNat%3):=by unfold cellAt;rw[if_neg hev,hrc]
               rw[hca]at hgc
               (repeat first|simp only[ww]|(apply xa;simp+decide only[go_sem,k1,c5,c6,hmk,hil,hc,m2,m4,m3,w4,w3,s4,s3,hcl,hkk,hwk,Nat.zero_add,List.length_cons,List.length_nil,hS1,hS2,hT1,hT2,h7,h8];rfl;kernel_rfl))
               refine lp_n (k+1) ?_ (by omega) (by omega)
               (simp+decide only[go_sem,gcD_eq,gcIds_eq,hgc,hS1,hS2,hT1,hT2,h7,h8]<;>rfl)
            ·have hkn2:k=i:=by omega
             rw[hkn2];have k1:¬(i:Int)<i:=by omega
             (repeat first|simp only[ww]|(apply xa;simp+decide only[go_sem,k1,hd1,hd2,u1,u7,hw,hlen,hrm,List.length_map,hS1,hS2,hT1,hT2,h7,h8];rfl;kernel_rfl))
             refine lp_n (q+1) ?_ (by omega) ⟨by omega,by omega⟩
             (simp+decide only[go_sem,gcD_eq,gcIds_eq,hsr,grV_snoc,grH_snoc,hlen,h5,h6,hS1,hS2,hT1,hT2]<;>rfl)
         ·have n2:¬(q:Int)<12:=by omega
          have hnV:q=min Y.length 12:=by omega
          rw[←hnV];by_cases hk:q=0
          ·have e1:(goVs i j Y q).map Vc.enc=[]:=by rw[hk];rfl
           rw[e1];simp only[grV_nil,grH_nil]
           (repeat first|simp only[ww]|(apply xa;simp+decide only[go_sem,n1,n2,hjp,List.length_map,hS1,hS2,hT1,hT2];rfl;kernel_rfl))
           (apply fqEb;(·simp+decide only[go_sem,sl_none_nil,hS3,hlS,hS4,hT3,hlT,hT4,hS1,hS2,hT1,hT2]<;>rfl))
           rfl
          ·have hlen:((goVs i j Y q).map Vc.enc).length=q:=by rw[List.length_map,goVs_len i j Y q hq]
           have hne:(goVs i j Y q).map Vc.enc≠[]:=by intro e;rw[e]at hlen;simp at hlen;omega
           have h9:=λq' d=>frzR_flat q' d (vcE_flat (goVs i j Y q));have h7:=refs_flatR (vcE_flat (goVs i j Y q));have h8:=λπ=>renR_flat π (vcE_flat (goVs i j Y q));rw[sl_none_ne hne,grV_ne 5 hne,grH_ne 3 hne,hlen];generalize(goVs i j Y q).map Vc.enc=R at hlen h7 h8 h9 hne⊢;have h10:R.take q=R:=List.take_of_length_le (by omega)
           (repeat first|simp only[ww]|(apply xa;simp+decide only[go_sem,n1,n2,hjp,List.length_map,h7,h8,hS1,hS2,hT1,hT2];rfl;kernel_rfl))
           (apply fqEb;(·simp+decide only[go_sem,sl_none_nil,hS3,hlS,hS4,hT3,hlT,hT4,h7,h8,h9,hlen,h10,hS1,hS2,hT1,hT2]<;>rfl))
           rfl
        ·have n1:¬(q:Int)<Y.length:=by omega
         have hnV:q=min Y.length 12:=by omega
         rw[←hnV];by_cases hk:q=0
         ·have e1:(goVs i j Y q).map Vc.enc=[]:=by rw[hk];rfl
          rw[e1];simp only[grV_nil,grH_nil]
          (repeat first|simp only[ww]|(apply xa;simp+decide only[go_sem,n1,List.length_map,hS1,hS2,hT1,hT2];rfl;kernel_rfl))
          (apply fqEb;(·simp+decide only[go_sem,sl_none_nil,hS3,hlS,hS4,hT3,hlT,hT4,hS1,hS2,hT1,hT2]<;>rfl))
          rfl
         ·have hlen:((goVs i j Y q).map Vc.enc).length=q:=by rw[List.length_map,goVs_len i j Y q hq]
          have hne:(goVs i j Y q).map Vc.enc≠[]:=by intro e;rw[e]at hlen;simp at hlen;omega
          have h9:=λq' d=>frzR_flat q' d (vcE_flat (goVs i j Y q));have h7:=refs_flatR (vcE_flat (goVs i j Y q));have h8:=λπ=>renR_flat π (vcE_flat (goVs i j Y q));rw[sl_none_ne hne,grV_ne 5 hne,grH_ne 3 hne,hlen];generalize(goVs i j Y q).map Vc.enc=R at hlen h7 h8 h9 hne⊢;have h10:R.take q=R:=List.take_of_length_le (by omega)
          (repeat first|simp only[ww]|(apply xa;simp+decide only[go_sem,n1,List.length_map,h7,h8,hS1,hS2,hT1,hT2];rfl;kernel_rfl))
          (apply fqEb;(·simp+decide only[go_sem,sl_none_nil,hS3,hlS,hS4,hT3,hlT,hT4,h7,h8,h9,hlen,h10,hS1,hS2,hT1,hT2]<;>rfl))
          rfl
     ·have m1:¬(j:Int)<X.length:=by omega
      by_cases hzj:j=0
      ·have hnT:j=min X.length 3:=by omega
       rw[←hnT];have eT:(goTs X j).map Tm.enc=[]:=by rw[hzj];rfl
       have hX0:X=[]:=List.eq_nil_of_length_eq_zero (by omega);rw[eT,if_pos hX0];simp only[grV_nil,grH_nil,List.map_nil]
       (repeat first|simp only[ww]|(apply xa;simp+decide only[go_sem,m1,List.length_map,hS1,hS2];rfl;kernel_rfl))
       refine xp_lp kp9_4 (λz F H=>F=[(1,.ptr 0 0 0),(2,.ptr 1 0 0),(3,.ptr 2 0 0),(11,.int .i64 0)]∧H=some (.row 3 [[sl r0 (N.map stR),sl r1 (X.map Tm.enc),sl r2 (Y.map Vc.enc)]])::some (.row 3 [[.nilslice,.nilslice,.nilslice]])::some (.row 3 [[.slice 3 0 i none,.nilslice,.nilslice]])::[some (.row 2 SR)]) 0 ⟨_,_,by(simp+decide only[go_sem,gcD_eq,gcIds_eq,hS1,hS2]<;>rfl),rfl,rfl⟩ ?_
       rintro z F H ⟨rfl,rfl⟩
       have hz9:(0:Int)<12:=by decide
       by_cases hy0:(0:Int)<Y.length
       ·(repeat first|simp only[ww]|(apply xa;simp+decide only[go_sem,hy0,hz9,List.length_map,hS1,hS2];rfl;kernel_rfl))
        (apply fqEb;(·simp+decide only[go_sem,sl_none_nil,hS3,hlS,hS4,hS1,hS2]<;>rfl))
        rfl
       ·(repeat first|simp only[ww]|(apply xa;simp+decide only[go_sem,hy0,hz9,List.length_map,hS1,hS2];rfl;kernel_rfl))
        (apply fqEb;(·simp+decide only[go_sem,sl_none_nil,hS3,hlS,hS4,hS1,hS2]<;>rfl))
        rfl
      ·have hnT:j=min X.length 3:=by omega
       rw[←hnT];have hX0:¬X=[]:=by intro e;rw[e]at hj;simp at hj;omega
       have hlT:((goTs X j).map Tm.enc).length=j:=by rw[List.length_map,goTs_len X j hj]
       have hneT:(goTs X j).map Tm.enc≠[]:=by intro e;rw[e]at hlT;simp at hlT;omega
       have hT1:=refs_flatR (tmE_flat (goTs X j));have hT2:=λπ=>renR_flat π (tmE_flat (goTs X j));have hT3:=λq d=>frzR_flat q d (tmE_flat (goTs X j));rw[sl_none_ne hneT,grV_ne 4 hneT,grH_ne 6 hneT,hlT,if_neg hX0];generalize(goTs X j).map Tm.enc=TR at hlT hneT hT1 hT2 hT3⊢;have hT4:TR.take j=TR:=List.take_of_length_le (by omega)
       (repeat first|simp only[ww]|(apply xa;simp+decide only[go_sem,m1,List.length_map,hS1,hS2];rfl;kernel_rfl))
       have hjp:(0:Int)<j:=by omega
       have hj9:j<1000:=by omega
       refine xp_loop3 (σ:=Nat) kp9_4 (λq=>[(1,.ptr 0 0 0),(2,.ptr 1 0 0),(3,.ptr 2 0 0),(11,.int .i64 (q:Nat))]) (λq=>some (.row 3 [[sl r0 (N.map stR),sl r1 (X.map Tm.enc),sl r2 (Y.map Vc.enc)]])::some (.row 3 [[.nilslice,.nilslice,.nilslice]])::some (.row 3 [[.slice 3 0 i none,.slice 4 0 j none,grV 5 ((goVs i j Y q).map Vc.enc)]])::some (.row 2 SR)::some (.row 6 TR)::grH 3 ((goVs i j Y q).map Vc.enc)) (λq=>12-q) (λq=>q≤Y.length∧q≤12) 0 ?_ ⟨Nat.zero_le _,Nat.zero_le _⟩ ?_
       ·have e1:goVs i j Y 0=[]:=rfl
        (simp+decide only[go_sem,gcD_eq,gcIds_eq,e1,List.map_nil,grV_nil,grH_nil,hS1,hS2,hT1,hT2]<;>rfl)
       ·rintro q ⟨hq,hq12⟩
        by_cases hly:q<Y.length
        ·have n1:(q:Int)<Y.length:=by omega
         by_cases hl12:q<12
         ·have n2:(q:Int)<12:=by omega
          have hw:IntKind.i64.wrap ((q:Int)+1)=((q+1:Nat):Int):=by rw[w64 (by omega) (by omega)];omega
          obtain⟨v,hv⟩:∃v,Y[q]?=some v:=⟨_,List.getElem?_eq_getElem hly⟩
          have hsm:(Y.map Vc.enc)[q]?=some (Vc.enc v):=by rw[List.getElem?_map,hv];rfl
          have hgs:goVs i j Y (q+1)=goVs i j Y q++[goV i j v]:=goVs_s hv;have a1:=ia7 v.t;have a2:=ia3 v.rep;unfold goV at hgs;generalize hd1:iand .i64 v.t 7=x1 at a1 hgs;generalize hd2:iand .i64 v.rep 3=x2 at a2 hgs;have u1:IntKind.i64.wrap (1+x2)=1+x2:=w64 (by omega) (by omega);have u7:¬(j:Int)=0:=by omega
          have hsr:(goVs i j Y (q+1)).map Vc.enc=(goVs i j Y q).map Vc.enc++[[.int .i64 (x1.tmod j),.str (goC v i),.int .i64 (1+x2)]]:=by rw[hgs,List.map_append];rfl
          by_cases hk:q=0
          ·subst hk;have e1:(goVs i j Y 0).map Vc.enc=[]:=rfl;rw[e1]at hsr⊢;simp only[List.nil_append]at hsr;simp only[grV_nil,grH_nil]
           (repeat first|simp only[ww]|(apply xa;simp+decide only[go_sem,n1,n2,hjp,hly,hsm,b43,List.length_map,hS1,hS2,hT1,hT2];rfl;kernel_rfl))
           refine xp_loop3 (σ:=Nat) kp9_6 (λk=>[(1,.ptr 0 0 0),(2,.ptr 1 0 0),(3,.ptr 2 0 0),(11,.int .i64 (0:Nat)),(12,.ptr 5 0 0),(13,.str (goC v k)),(14,.int .i64 (k:Nat))]) (λk=>[some (.row 3 [[sl r0 (N.map stR),sl r1 (X.map Tm.enc),sl r2 (Y.map Vc.enc)]]),some (.row 3 [[.nilslice,.nilslice,.nilslice]]),some (.row 3 [[.slice 3 0 i none,.slice 4 0 j none,.nilslice]]),some (.row 2 SR),some (.row 6 TR),some (.row 3 [Vc.enc v])]) (λk=>i-k) (λk=>k≤i) 0 ?_ (Nat.zero_le _) ?_
           ·have e0:goC v 0=[]:=rfl
            (simp+decide only[go_sem,gcD_eq,gcIds_eq,e0,hS1,hS2,hT1,hT2]<;>rfl)
           ·intro k hkn;by_cases hlk:k<i
            ·have k1:(k:Int)<i:=by omega
             have hwk:IntKind.i64.wrap ((k:Int)+1)=((k+1:Nat):Int):=by rw[w64 (by omega) (by omega)];omega
             have hcl:=goC_len v k;have hkk:k+1≤4611686018427387904:=by omega
             have hgc:=goC_s v k;by_cases hce:v.cells=[]
             ·have c5:¬(0:Int)<v.cells.length:=by rw[hce];decide
              have hrc:rawC v k=0:=if_pos hce;have q0:IntKind.u8.wrap (0+1)=1:=by decide
              have e04:(0:Int).tmod 4=0:=rfl;have e03:(0:Int).tmod 3=0:=rfl;have s4:∀h,aslice L.env h 9 (.str [48,49,88,80]) (some (.int .u8 0)) (some (.int .u8 1)) none=some (.str [l4 0]):=λh=>by kernel_rfl
              have s3:∀h,aslice L.env h 9 (.str [76,72,88]) (some (.int .u8 0)) (some (.int .u8 1)) none=some (.str [l3 0]):=λh=>by kernel_rfl
              generalize goC v k=G at hcl hgc⊢;by_cases hev:k%2=0
              ·have m2:(k:Int).tmod 2=0:=by rw[show(2:Int)=((2:Nat):Int)from rfl,tmodN,hev];rfl
               have hca:cellAt v k=l4 0:=by unfold cellAt;rw[if_pos hev,hrc]
               rw[hca]at hgc
               (repeat first|simp only[ww]|(apply xa;simp+decide only[go_sem,k1,c5,m2,q0,e04,e03,s4,s3,hcl,hkk,hwk,Nat.zero_add,List.length_cons,List.length_nil,hS1,hS2,hT1,hT2];rfl;kernel_rfl))
               refine lp_n (k+1) ?_ (by omega) (by omega)
               (simp+decide only[go_sem,gcD_eq,gcIds_eq,hgc,hS1,hS2,hT1,hT2]<;>rfl)
              ·have m2:(k:Int).tmod 2=1:=by rw[show(2:Int)=((2:Nat):Int)from rfl,tmodN,show k%2=1 by omega];rfl
               have hca:cellAt v k=l3 0:=by unfold cellAt;rw[if_neg hev,hrc]
               rw[hca]at hgc
               (repeat first|simp only[ww]|(apply xa;simp+decide only[go_sem,k1,c5,m2,q0,e04,e03,s4,s3,hcl,hkk,hwk,Nat.zero_add,List.length_cons,List.length_nil,hS1,hS2,hT1,hT2];rfl;kernel_rfl))
               refine lp_n (k+1) ?_ (by omega) (by omega)
               (simp+decide only[go_sem,gcD_eq,gcIds_eq,hgc,hS1,hS2,hT1,hT2]<;>rfl)
             ·have hcp:0<v.cells.length:=List.length_pos_iff.2 hce;have c5:(0:Int)<v.cells.length:=by omega
              have c6:¬(v.cells.length:Int)=0:=by omega
              have hil:k%v.cells.length<v.cells.length:=Nat.mod_lt _ hcp;obtain⟨c,hc⟩:∃c,v.cells[k%v.cells.length]?=some c:=⟨_,List.getElem?_eq_getElem hil⟩
              have hrc:rawC v k=c.toNat:=by unfold rawC;rw[if_neg hce,hc];rfl
              have hmk:=tmodN k v.cells.length;have m4:(c.toNat:Int).tmod 4=((c.toNat%4:Nat):Int):=tmodN _ 4;have m3:(c.toNat:Int).tmod 3=((c.toNat%3:Nat):Int):=tmodN _ 3;have w4:=u8s (c.toNat%4) (by omega);have w3:=u8s (c.toNat%3) (by omega);have s4:=λh=>let4 h (c.toNat%4) (by omega);have s3:=λh=>let3 h (c.toNat%3) (by omega);generalize goC v k=G at hcl hgc⊢;by_cases hev:k%2=0
              ·have m2:(k:Int).tmod 2=0:=by rw[show(2:Int)=((2:Nat):Int)from rfl,tmodN,hev];rfl
               have hca:cellAt v k=l4 (c.toNat%4):=by unfold cellAt;rw[if_pos hev,hrc]
               rw[hca]at hgc
               (repeat first|simp only[ww]|(apply xa;simp+decide only[go_sem,k1,c5,c6,hmk,hil,hc,m2,m4,m3,w4,w3,s4,s3,hcl,hkk,hwk,Nat.zero_add,List.length_cons,List.length_nil,hS1,hS2,hT1,hT2];rfl;kernel_rfl))
               refine lp_n (k+1) ?_ (by omega) (by omega)
               (simp+decide only[go_sem,gcD_eq,gcIds_eq,hgc,hS1,hS2,hT1,hT2]<;>rfl)
              ·have m2:(k:Int).tmod 2=1:=by rw[show(2:Int)=((2:Nat):Int)from rfl,tmodN,show k%2=1 by omega];rfl
               have hca:cellAt v k=l3 (c.toNat%3):=by unfold cellAt;rw[if_neg hev,hrc]
               rw[hca]at hgc
               (repeat first|simp only[ww]|(apply xa;simp+decide only[go_sem,k1,c5,c6,hmk,hil,hc,m2,m4,m3,w4,w3,s4,s3,hcl,hkk,hwk,Nat.zero_add,List.length_cons,List.length_nil,hS1,hS2,hT1,hT2];rfl;kernel_rfl))
               refine lp_n (k+1) ?_ (by omega) (by omega)
               (simp+decide only[go_sem,gcD_eq,gcIds_eq,hgc,hS1,hS2,hT1,hT2]<;>rfl)
            ·have hkn2:k=i:=by omega
             rw[hkn2];have k1:¬(i:Int)<i:=by omega
             (repeat first|simp only[ww]|(apply xa;simp+decide only[go_sem,k1,hd1,hd2,u1,u7,hw,List.length_map,hS1,hS2,hT1,hT2];rfl;kernel_rfl))
             refine lp_n (0+1) ?_ (by omega) ⟨by omega,by omega⟩
             (simp+decide only[go_sem,gcD_eq,gcIds_eq,hsr,grV_cons,grH_cons,List.length_nil,hS1,hS2,hT1,hT2]<;>rfl)
          ·have hlen:((goVs i j Y q).map Vc.enc).length=q:=by rw[List.length_map,goVs_len i j Y q hq]
           have hne:(goVs i j Y q).map Vc.enc≠[]:=by intro e;rw[e]at hlen;simp at hlen;omega
           have h5:=refs_flatR (vcE_flat (goVs i j Y (q+1)));have h6:=λπ=>renR_flat π (vcE_flat (goVs i j Y (q+1)));have h7:=refs_flatR (vcE_flat (goVs i j Y q));have h8:=λπ=>renR_flat π (vcE_flat (goVs i j Y q));have hrm:q+1≤1000000000:=by omega
           rw[grV_ne 5 hne,grH_ne 3 hne,hlen];rw[hsr]at h5 h6;generalize(goVs i j Y q).map Vc.enc=R at hsr hlen h5 h6 h7 h8 hne⊢
           (repeat first|simp only[ww]|(apply xa;simp+decide only[go_sem,n1,n2,hjp,hly,hsm,b43,List.length_map,hS1,hS2,hT1,hT2];rfl;kernel_rfl))
           refine xp_loop3 (σ:=Nat) kp9_6 (λk=>[(1,.ptr 0 0 0),(2,.ptr 1 0 0),(3,.ptr 2 0 0),(11,.int .i64 (q:Nat)),(12,.ptr 6 0 0),(13,.str (goC v k)),(14,.int .i64 (k:Nat))]) (λk=>[some (.row 3 [[sl r0 (N.map stR),sl r1 (X.map Tm.enc),sl r2 (Y.map Vc.enc)]]),some (.row 3 [[.nilslice,.nilslice,.nilslice]]),some (.row 3 [[.slice 3 0 i none,.slice 4 0 j none,.slice 5 0 q none]]),some (.row 2 SR),some (.row 6 TR),some (.row 3 R),some (.row 3 [Vc.enc v])]) (λk=>i-k) (λk=>k≤i) 0 ?_ (Nat.zero_le _) ?_
           ·have e0:goC v 0=[]:=rfl
            (simp+decide only[go_sem,gcD_eq,gcIds_eq,e0,hS1,hS2,hT1,hT2,h7,h8]<;>rfl)
           ·intro k hkn;by_cases hlk:k<i
            ·have k1:(k:Int)<i:=by omega
             have hwk:IntKind.i64.wrap ((k:Int)+1)=((k+1:Nat):Int):=by rw[w64 (by omega) (by omega)];omega
             have hcl:=goC_len v k;have hkk:k+1≤4611686018427387904:=by omega
             have hgc:=goC_s v k;by_cases hce:v.cells=[]
             ·have c5:¬(0:Int)<v.cells.length:=by rw[hce];decide
              have hrc:rawC v k=0:=if_pos hce;have q0:IntKind.u8.wrap (0+1)=1:=by decide
              have e04:(0:Int).tmod 4=0:=rfl;have e03:(0:Int).tmod 3=0:=rfl;have s4:∀h,aslice L.env h 9 (.str [48,49,88,80]) (some (.int .u8 0)) (some (.int .u8 1)) none=some (.str [l4 0]):=λh=>by kernel_rfl
              have s3:∀h,aslice L.env h 9 (.str [76,72,88]) (some (.int .u8 0)) (some (.int .u8 1)) none=some (.str [l3 0]):=λh=>by kernel_rfl
              generalize goC v k=G at hcl hgc⊢;by_cases hev:k%2=0
              ·have m2:(k:Int).tmod 2=0:=by rw[show(2:Int)=((2:Nat):Int)from rfl,tmodN,hev];rfl
               have hca:cellAt v k=l4 0:=by unfold cellAt;rw[if_pos hev,hrc]
               rw[hca]at hgc
               (repeat first|simp only[ww]|(apply xa;simp+decide only[go_sem,k1,c5,m2,q0,e04,e03,s4,s3,hcl,hkk,hwk,Nat.zero_add,List.length_cons,List.length_nil,hS1,hS2,hT1,hT2,h7,h8];rfl;kernel_rfl))
               refine lp_n (k+1) ?_ (by omega) (by omega)
               (simp+decide only[go_sem,gcD_eq,gcIds_eq,hgc,hS1,hS2,hT1,hT2,h7,h8]<;>rfl)
              ·have m2:(k:Int).tmod 2=1:=by rw[show(2:Int)=((2:Nat):Int)from rfl,tmodN,show k%2=1 by omega];rfl
               have hca:cellAt v k=l3 0:=by unfold cellAt;rw[if_neg hev,hrc]
               rw[hca]at hgc
               (repeat first|simp only[ww]|(apply xa;simp+decide only[go_sem,k1,c5,m2,q0,e04,e03,s4,s3,hcl,hkk,hwk,Nat.zero_add,List.length_cons,List.length_nil,hS1,hS2,hT1,hT2,h7,h8];rfl;kernel_rfl))
               refine lp_n (k+1) ?_ (by omega) (by omega)
               (simp+decide only[go_sem,gcD_eq,gcIds_eq,hgc,hS1,hS2,hT1,hT2,h7,h8]<;>rfl)
             ·have hcp:0<v.cells.length:=List.length_pos_iff.2 hce;have c5:(0:Int)<v.cells.length:=by omega
              have c6:¬(v.cells.length:Int)=0:=by omega
              have hil:k%v.cells.length<v.cells.length:=Nat.mod_lt _ hcp;obtain⟨c,hc⟩:∃c,v.cells[k%v.cells.length]?=some c:=⟨_,List.getElem?_eq_getElem hil⟩
              have hrc:rawC v k=c.toNat:=by unfold rawC;rw[if_neg hce,hc];rfl
              have hmk:=tmodN k v.cells.length;have m4:(c.toNat:Int).tmod 4=((c.toNat%4:Nat):Int):=tmodN _ 4;have m3:(c.toNat:Int).tmod 3=((c.toNat%3:Nat):Int):=tmodN _ 3;have w4:=u8s (c.toNat%4) (by omega);have w3:=u8s (c.toNat%3) (by omega);have s4:=λh=>let4 h (c.toNat%4) (by omega);have s3:=λh=>let3 h (c.toNat%3) (by omega);generalize goC v k=G at hcl hgc⊢;by_cases hev:k%2=0
              ·have m2:(k:Int).tmod 2=0:=by rw[show(2:Int)=((2:Nat):Int)from rfl,tmodN,hev];rfl
               have hca:cellAt v k=l4 (c.toNat%4):=by unfold cellAt;rw[if_pos hev,hrc]
               rw[hca]at hgc
               (repeat first|simp only[ww]|(apply xa;simp+decide only[go_sem,k1,c5,c6,hmk,hil,hc,m2,m4,m3,w4,w3,s4,s3,hcl,hkk,hwk,Nat.zero_add,List.length_cons,List.length_nil,hS1,hS2,hT1,hT2,h7,h8];rfl;kernel_rfl))
               refine lp_n (k+1) ?_ (by omega) (by omega)
               (simp+decide only[go_sem,gcD_eq,gcIds_eq,hgc,hS1,hS2,hT1,hT2,h7,h8]<;>rfl)
              ·have m2:(k:Int).tmod 2=1:=by rw[show(2:Int)=((2:Nat):Int)from rfl,tmodN,show k%2=1 by omega];rfl
               have hca:cellAt v k=l3 (c.toNat%3):=by unfold cellAt;rw[if_neg hev,hrc]
               rw[hca]at hgc
               (repeat first|simp only[ww]|(apply xa;simp+decide only[go_sem,k1,c5,c6,hmk,hil,hc,m2,m4,m3,w4,w3,s4,s3,hcl,hkk,hwk,Nat.zero_add,List.length_cons,List.length_nil,hS1,hS2,hT1,hT2,h7,h8];rfl;kernel_rfl))
               refine lp_n (k+1) ?_ (by omega) (by omega)
               (simp+decide only[go_sem,gcD_eq,gcIds_eq,hgc,hS1,hS2,hT1,hT2,h7,h8]<;>rfl)
            ·have hkn2:k=i:=by omega
             rw[hkn2];have k1:¬(i:Int)<i:=by omega
             (repeat first|simp only[ww]|(apply xa;simp+decide only[go_sem,k1,hd1,hd2,u1,u7,hw,hlen,hrm,List.length_map,hS1,hS2,hT1,hT2,h7,h8];rfl;kernel_rfl))
             refine lp_n (q+1) ?_ (by omega) ⟨by omega,by omega⟩
             (simp+decide only[go_sem,gcD_eq,gcIds_eq,hsr,grV_snoc,grH_snoc,hlen,h5,h6,hS1,hS2,hT1,hT2]<;>rfl)
         ·have n2:¬(q:Int)<12:=by omega
          have hnV:q=min Y.length 12:=by omega
          rw[←hnV];by_cases hk:q=0
          ·have e1:(goVs i j Y q).map Vc.enc=[]:=by rw[hk];rfl
           rw[e1];simp only[grV_nil,grH_nil]
           (repeat first|simp only[ww]|(apply xa;simp+decide only[go_sem,n1,n2,hjp,List.length_map,hS1,hS2,hT1,hT2];rfl;kernel_rfl))
           (apply fqEb;(·simp+decide only[go_sem,sl_none_nil,hS3,hlS,hS4,hT3,hlT,hT4,hS1,hS2,hT1,hT2]<;>rfl))
           rfl
          ·have hlen:((goVs i j Y q).map Vc.enc).length=q:=by rw[List.length_map,goVs_len i j Y q hq]
           have hne:(goVs i j Y q).map Vc.enc≠[]:=by intro e;rw[e]at hlen;simp at hlen;omega
           have h9:=λq' d=>frzR_flat q' d (vcE_flat (goVs i j Y q));have h7:=refs_flatR (vcE_flat (goVs i j Y q));have h8:=λπ=>renR_flat π (vcE_flat (goVs i j Y q));rw[sl_none_ne hne,grV_ne 5 hne,grH_ne 3 hne,hlen];generalize(goVs i j Y q).map Vc.enc=R at hlen h7 h8 h9 hne⊢;have h10:R.take q=R:=List.take_of_length_le (by omega)
           (repeat first|simp only[ww]|(apply xa;simp+decide only[go_sem,n1,n2,hjp,List.length_map,h7,h8,hS1,hS2,hT1,hT2];rfl;kernel_rfl))
           (apply fqEb;(·simp+decide only[go_sem,sl_none_nil,hS3,hlS,hS4,hT3,hlT,hT4,h7,h8,h9,hlen,h10,hS1,hS2,hT1,hT2]<;>rfl))
           rfl
        ·have n1:¬(q:Int)<Y.length:=by omega
         have hnV:q=min Y.length 12:=by omega
         rw[←hnV];by_cases hk:q=0
         ·have e1:(goVs i j Y q).map Vc.enc=[]:=by rw[hk];rfl
          rw[e1];simp only[grV_nil,grH_nil]
          (repeat first|simp only[ww]|(apply xa;simp+decide only[go_sem,n1,List.length_map,hS1,hS2,hT1,hT2];rfl;kernel_rfl))
          (apply fqEb;(·simp+decide only[go_sem,sl_none_nil,hS3,hlS,hS4,hT3,hlT,hT4,hS1,hS2,hT1,hT2]<;>rfl))
          rfl
         ·have hlen:((goVs i j Y q).map Vc.enc).length=q:=by rw[List.length_map,goVs_len i j Y q hq]
          have hne:(goVs i j Y q).map Vc.enc≠[]:=by intro e;rw[e]at hlen;simp at hlen;omega
          have h9:=λq' d=>frzR_flat q' d (vcE_flat (goVs i j Y q));have h7:=refs_flatR (vcE_flat (goVs i j Y q));have h8:=λπ=>renR_flat π (vcE_flat (goVs i j Y q));rw[sl_none_ne hne,grV_ne 5 hne,grH_ne 3 hne,hlen];generalize(goVs i j Y q).map Vc.enc=R at hlen h7 h8 h9 hne⊢;have h10:R.take q=R:=List.take_of_length_le (by omega)
          (repeat first|simp only[ww]|(apply xa;simp+decide only[go_sem,n1,List.length_map,h7,h8,hS1,hS2,hT1,hT2];rfl;kernel_rfl))
          (apply fqEb;(·simp+decide only[go_sem,sl_none_nil,hS3,hlS,hS4,hT3,hlT,hT4,h7,h8,h9,hlen,h10,hS1,hS2,hT1,hT2]<;>rfl))
          rfl
  ·have l1:¬(i:Int)<N.length:=by omega
   by_cases hz0:i=0
   ·have hnS:i=min N.length 8:=by omega
    rw[←hnS];have eS:(goSs i).map Sg.enc=[]:=by rw[hz0];rfl
    rw[eS];simp only[grV_nil,grH_nil]
    (repeat first|simp only[ww]|(apply xa;simp+decide only[go_sem,l1,List.length_map];rfl;kernel_rfl))
    refine xp_loop3 (σ:=Nat) kp9_2 (λj=>[(1,.ptr 0 0 0),(2,.ptr 1 0 0),(3,.ptr 2 0 0),(5,.int .i64 (j:Nat))]) (λj=>some (.row 3 [[sl r0 (N.map stR),sl r1 (X.map Tm.enc),sl r2 (Y.map Vc.enc)]])::some (.row 3 [[.nilslice,.nilslice,.nilslice]])::some (.row 3 [[.nilslice,grV 3 ((goTs X j).map Tm.enc),.nilslice]])::grH 6 ((goTs X j).map Tm.enc)) (λj=>3-j) (λj=>j≤X.length∧j≤3) 0 ?_ ⟨Nat.zero_le _,Nat.zero_le _⟩ ?_
    ·have e1:goTs X 0=[]:=rfl
     (simp+decide only[go_sem,gcD_eq,gcIds_eq,e1,List.map_nil,grV_nil,grH_nil]<;>rfl)
    ·rintro j ⟨hj,hj3⟩
     by_cases hlj:j<X.length
     ·have m1:(j:Int)<X.length:=by omega
      by_cases hl3:j<3
      ·have m2:(j:Int)<3:=by omega
       have hw:IntKind.i64.wrap ((j:Int)+1)=((j+1:Nat):Int):=by rw[w64 (by omega) (by omega)];omega
       obtain⟨t,ht⟩:∃t,X[j]?=some t:=⟨_,List.getElem?_eq_getElem hlj⟩
       have hsm:(X.map Tm.enc)[j]?=some (Tm.enc t):=by rw[List.getElem?_map,ht];rfl
       have hgs:=goTs_s ht;have hdg:=λh=>dig3 h j hl3;have a1:=ia15 t.dr;have a2:=ia15 t.ri;have a3:=ia15 t.fa;have a4:=ia15 t.per;have a5:=ia63 t.st;have hgt:Tm.enc (goT j t)=Tm.enc (goT j t):=rfl;unfold goT at hgt;unfold goT at hgs;generalize hd1:iand .i64 t.dr 15=x1 at a1 hgs;generalize hd2:iand .i64 t.ri 15=x2 at a2 hgs;generalize hd3:iand .i64 t.fa 15=x3 at a3 hgs;generalize hd4:iand .i64 t.per 15=x4 at a4 hgs;generalize hd5:iand .i64 t.st 63=x5 at a5 hgs;have u1:IntKind.i64.wrap (x1+1)=x1+1:=w64 (by omega) (by omega);have u2:IntKind.i64.wrap (x1+1+x2)=x1+1+x2:=w64 (by omega) (by omega);have u3:IntKind.i64.wrap (x1+1+x2+1)=x1+1+x2+1:=w64 (by omega) (by omega);have u4:IntKind.i64.wrap (x1+1+x2+1+x3)=x1+1+x2+1+x3:=w64 (by omega) (by omega);have u5:IntKind.i64.wrap (x1+1+x2+1+x3+1)=x1+1+x2+1+x3+1:=w64 (by omega) (by omega);have u6:IntKind.i64.wrap (x1+1+x2+1+x3+1+x4)=x1+1+x2+1+x3+1+x4:=w64 (by omega) (by omega);have u7:¬x1+1+x2+1+x3+1+x4=0:=by omega
       have hsr:(goTs X (j+1)).map Tm.enc=(goTs X j).map Tm.enc++[[.str [116,(48+j).toUInt8],.int .i64 (x1+1+x2+1+x3+1+x4),.int .i64 x1,.int .i64 (x1+1+x2),.int .i64 (x1+1+x2+1+x3),.int .i64 (x5.tmod (x1+1+x2+1+x3+1+x4))]]:=by rw[hgs,List.map_append];rfl
       by_cases hk:j=0
       ·subst hk;have e1:(goTs X 0).map Tm.enc=[]:=rfl;rw[e1]at hsr⊢;simp only[List.nil_append]at hsr
        (repeat first|simp only[ww]|(apply xa;simp+decide only[go_sem,m1,m2,hlj,hsm,hw,hdg,hd1,hd2,hd3,hd4,hd5,u1,u2,u3,u4,u5,u6,u7,b41,List.length_map,List.cons_append,List.nil_append,grV_nil,grH_nil];rfl;kernel_rfl))
        refine lp_n (0+1) ?_ (by omega) ⟨by omega,by omega⟩
        (simp+decide only[go_sem,gcD_eq,gcIds_eq,hsr,grV_cons,grH_cons,List.length_nil]<;>rfl)
       ·have hlen:((goTs X j).map Tm.enc).length=j:=by rw[List.length_map,goTs_len X j hj]
        have hne:(goTs X j).map Tm.enc≠[]:=by intro e;rw[e]at hlen;simp at hlen;omega
        have h5:=refs_flatR (tmE_flat (goTs X (j+1)));have h6:=λπ=>renR_flat π (tmE_flat (goTs X (j+1)));have hrm:j+1≤1000000000:=by omega
        rw[grV_ne 3 hne,grH_ne 6 hne,hlen];rw[hsr]at h5 h6;generalize(goTs X j).map Tm.enc=R at hsr hlen h5 h6 hne⊢
        (repeat first|simp only[ww]|(apply xa;simp+decide only[go_sem,m1,m2,hlj,hsm,hw,hlen,hrm,hdg,hd1,hd2,hd3,hd4,hd5,u1,u2,u3,u4,u5,u6,u7,b41,List.length_map,List.cons_append,List.nil_append];rfl;kernel_rfl))
        refine lp_n (j+1) ?_ (by omega) ⟨by omega,by omega⟩
        (simp+decide only[go_sem,gcD_eq,gcIds_eq,hsr,grV_snoc,grH_snoc,hlen,h5,h6]<;>rfl)
      ·have m2:¬(j:Int)<3:=by omega
       have hnT:j=min X.length 3:=by omega
       rw[←hnT];have hX0:¬X=[]:=by intro e;rw[e]at hj;simp at hj;omega
       have hlT:((goTs X j).map Tm.enc).length=j:=by rw[List.length_map,goTs_len X j hj]
       have hneT:(goTs X j).map Tm.enc≠[]:=by intro e;rw[e]at hlT;simp at hlT;omega
       have hT1:=refs_flatR (tmE_flat (goTs X j));have hT2:=λπ=>renR_flat π (tmE_flat (goTs X j));have hT3:=λq d=>frzR_flat q d (tmE_flat (goTs X j));rw[sl_none_ne hneT,grV_ne 3 hneT,grH_ne 6 hneT,hlT,if_neg hX0];generalize(goTs X j).map Tm.enc=TR at hlT hneT hT1 hT2 hT3⊢;have hT4:TR.take j=TR:=List.take_of_length_le (by omega)
       (repeat first|simp only[ww]|(apply xa;simp+decide only[go_sem,m1,m2,List.length_map];rfl;kernel_rfl))
       have hjp:(0:Int)<j:=by omega
       have hj9:j<1000:=by omega
       refine xp_loop3 (σ:=Nat) kp9_4 (λq=>[(1,.ptr 0 0 0),(2,.ptr 1 0 0),(3,.ptr 2 0 0),(11,.int .i64 (q:Nat))]) (λq=>some (.row 3 [[sl r0 (N.map stR),sl r1 (X.map Tm.enc),sl r2 (Y.map Vc.enc)]])::some (.row 3 [[.nilslice,.nilslice,.nilslice]])::some (.row 3 [[.nilslice,.slice 3 0 j none,grV 4 ((goVs i j Y q).map Vc.enc)]])::some (.row 6 TR)::grH 3 ((goVs i j Y q).map Vc.enc)) (λq=>12-q) (λq=>q≤Y.length∧q≤12) 0 ?_ ⟨Nat.zero_le _,Nat.zero_le _⟩ ?_
       ·have e1:goVs i j Y 0=[]:=rfl
        (simp+decide only[go_sem,gcD_eq,gcIds_eq,e1,List.map_nil,grV_nil,grH_nil,hT1,hT2]<;>rfl)
       ·rintro q ⟨hq,hq12⟩
        by_cases hly:q<Y.length
        ·have n1:(q:Int)<Y.length:=by omega
         by_cases hl12:q<12
         ·have n2:(q:Int)<12:=by omega
          have hw:IntKind.i64.wrap ((q:Int)+1)=((q+1:Nat):Int):=by rw[w64 (by omega) (by omega)];omega
          obtain⟨v,hv⟩:∃v,Y[q]?=some v:=⟨_,List.getElem?_eq_getElem hly⟩
          have hsm:(Y.map Vc.enc)[q]?=some (Vc.enc v):=by rw[List.getElem?_map,hv];rfl
          have hgs:goVs i j Y (q+1)=goVs i j Y q++[goV i j v]:=goVs_s hv;have a1:=ia7 v.t;have a2:=ia3 v.rep;unfold goV at hgs;generalize hd1:iand .i64 v.t 7=x1 at a1 hgs;generalize hd2:iand .i64 v.rep 3=x2 at a2 hgs;have u1:IntKind.i64.wrap (1+x2)=1+x2:=w64 (by omega) (by omega);have u7:¬(j:Int)=0:=by omega
          have hsr:(goVs i j Y (q+1)).map Vc.enc=(goVs i j Y q).map Vc.enc++[[.int .i64 (x1.tmod j),.str (goC v i),.int .i64 (1+x2)]]:=by rw[hgs,List.map_append];rfl
          by_cases hk:q=0
          ·subst hk;have e1:(goVs i j Y 0).map Vc.enc=[]:=rfl;rw[e1]at hsr⊢;simp only[List.nil_append]at hsr;simp only[grV_nil,grH_nil]
           (repeat first|simp only[ww]|(apply xa;simp+decide only[go_sem,n1,n2,hjp,hly,hsm,b43,List.length_map,hT1,hT2];rfl;kernel_rfl))
           refine xp_loop3 (σ:=Nat) kp9_6 (λk=>[(1,.ptr 0 0 0),(2,.ptr 1 0 0),(3,.ptr 2 0 0),(11,.int .i64 (0:Nat)),(12,.ptr 4 0 0),(13,.str (goC v k)),(14,.int .i64 (k:Nat))]) (λk=>[some (.row 3 [[sl r0 (N.map stR),sl r1 (X.map Tm.enc),sl r2 (Y.map Vc.enc)]]),some (.row 3 [[.nilslice,.nilslice,.nilslice]]),some (.row 3 [[.nilslice,.slice 3 0 j none,.nilslice]]),some (.row 6 TR),some (.row 3 [Vc.enc v])]) (λk=>i-k) (λk=>k≤i) 0 ?_ (Nat.zero_le _) ?_
           ·have e0:goC v 0=[]:=rfl
            (simp+decide only[go_sem,gcD_eq,gcIds_eq,e0,hT1,hT2]<;>rfl)
           ·intro k hkn;by_cases hlk:k<i
            ·omega
            ·have hkn2:k=i:=by omega
             rw[hkn2];have k1:¬(i:Int)<i:=by omega
             have k2:¬(i:Int)<0:=by omega
             (repeat first|simp only[ww]|(apply xa;simp+decide only[go_sem,k1,k2,hd1,hd2,u1,u7,hw,List.length_map,hT1,hT2];rfl;kernel_rfl))
             refine lp_n (0+1) ?_ (by omega) ⟨by omega,by omega⟩
             (simp+decide only[go_sem,gcD_eq,gcIds_eq,hsr,grV_cons,grH_cons,List.length_nil,hT1,hT2]<;>rfl)
          ·have hlen:((goVs i j Y q).map Vc.enc).length=q:=by rw[List.length_map,goVs_len i j Y q hq]
           have hne:(goVs i j Y q).map Vc.enc≠[]:=by intro e;rw[e]at hlen;simp at hlen;omega
           have h5:=refs_flatR (vcE_flat (goVs i j Y (q+1)));have h6:=λπ=>renR_flat π (vcE_flat (goVs i j Y (q+1)));have h7:=refs_flatR (vcE_flat (goVs i j Y q));have h8:=λπ=>renR_flat π (vcE_flat (goVs i j Y q));have hrm:q+1≤1000000000:=by omega
           rw[grV_ne 4 hne,grH_ne 3 hne,hlen];rw[hsr]at h5 h6;generalize(goVs i j Y q).map Vc.enc=R at hsr hlen h5 h6 h7 h8 hne⊢
           (repeat first|simp only[ww]|(apply xa;simp+decide only[go_sem,n1,n2,hjp,hly,hsm,b43,List.length_map,hT1,hT2];rfl;kernel_rfl))
           refine xp_loop3 (σ:=Nat) kp9_6 (λk=>[(1,.ptr 0 0 0),(2,.ptr 1 0 0),(3,.ptr 2 0 0),(11,.int .i64 (q:Nat)),(12,.ptr 5 0 0),(13,.str (goC v k)),(14,.int .i64 (k:Nat))]) (λk=>[some (.row 3 [[sl r0 (N.map stR),sl r1 (X.map Tm.enc),sl r2 (Y.map Vc.enc)]]),some (.row 3 [[.nilslice,.nilslice,.nilslice]]),some (.row 3 [[.nilslice,.slice 3 0 j none,.slice 4 0 q none]]),some (.row 6 TR),some (.row 3 R),some (.row 3 [Vc.enc v])]) (λk=>i-k) (λk=>k≤i) 0 ?_ (Nat.zero_le _) ?_
           ·have e0:goC v 0=[]:=rfl
            (simp+decide only[go_sem,gcD_eq,gcIds_eq,e0,hT1,hT2,h7,h8]<;>rfl)
           ·intro k hkn;by_cases hlk:k<i
            ·omega
            ·have hkn2:k=i:=by omega
             rw[hkn2];have k1:¬(i:Int)<i:=by omega
             have k2:¬(i:Int)<0:=by omega
             (repeat first|simp only[ww]|(apply xa;simp+decide only[go_sem,k1,k2,hd1,hd2,u1,u7,hw,hlen,hrm,List.length_map,hT1,hT2,h7,h8];rfl;kernel_rfl))
             refine lp_n (q+1) ?_ (by omega) ⟨by omega,by omega⟩
             (simp+decide only[go_sem,gcD_eq,gcIds_eq,hsr,grV_snoc,grH_snoc,hlen,h5,h6,hT1,hT2]<;>rfl)
         ·have n2:¬(q:Int)<12:=by omega
          have hnV:q=min Y.length 12:=by omega
          rw[←hnV];by_cases hk:q=0
          ·have e1:(goVs i j Y q).map Vc.enc=[]:=by rw[hk];rfl
           rw[e1];simp only[grV_nil,grH_nil]
           (repeat first|simp only[ww]|(apply xa;simp+decide only[go_sem,n1,n2,hjp,List.length_map,hT1,hT2];rfl;kernel_rfl))
           (apply fqEb;(·simp+decide only[go_sem,sl_none_nil,hT3,hlT,hT4,hT1,hT2]<;>rfl))
           rfl
          ·have hlen:((goVs i j Y q).map Vc.enc).length=q:=by rw[List.length_map,goVs_len i j Y q hq]
           have hne:(goVs i j Y q).map Vc.enc≠[]:=by intro e;rw[e]at hlen;simp at hlen;omega
           have h9:=λq' d=>frzR_flat q' d (vcE_flat (goVs i j Y q));have h7:=refs_flatR (vcE_flat (goVs i j Y q));have h8:=λπ=>renR_flat π (vcE_flat (goVs i j Y q));rw[sl_none_ne hne,grV_ne 4 hne,grH_ne 3 hne,hlen];generalize(goVs i j Y q).map Vc.enc=R at hlen h7 h8 h9 hne⊢;have h10:R.take q=R:=List.take_of_length_le (by omega)
           (repeat first|simp only[ww]|(apply xa;simp+decide only[go_sem,n1,n2,hjp,List.length_map,h7,h8,hT1,hT2];rfl;kernel_rfl))
           (apply fqEb;(·simp+decide only[go_sem,sl_none_nil,hT3,hlT,hT4,h7,h8,h9,hlen,h10,hT1,hT2]<;>rfl))
           rfl
        ·have n1:¬(q:Int)<Y.length:=by omega
         have hnV:q=min Y.length 12:=by omega
         rw[←hnV];by_cases hk:q=0
         ·have e1:(goVs i j Y q).map Vc.enc=[]:=by rw[hk];rfl
          rw[e1];simp only[grV_nil,grH_nil]
          (repeat first|simp only[ww]|(apply xa;simp+decide only[go_sem,n1,List.length_map,hT1,hT2];rfl;kernel_rfl))
          (apply fqEb;(·simp+decide only[go_sem,sl_none_nil,hT3,hlT,hT4,hT1,hT2]<;>rfl))
          rfl
         ·have hlen:((goVs i j Y q).map Vc.enc).length=q:=by rw[List.length_map,goVs_len i j Y q hq]
          have hne:(goVs i j Y q).map Vc.enc≠[]:=by intro e;rw[e]at hlen;simp at hlen;omega
          have h9:=λq' d=>frzR_flat q' d (vcE_flat (goVs i j Y q));have h7:=refs_flatR (vcE_flat (goVs i j Y q));have h8:=λπ=>renR_flat π (vcE_flat (goVs i j Y q));rw[sl_none_ne hne,grV_ne 4 hne,grH_ne 3 hne,hlen];generalize(goVs i j Y q).map Vc.enc=R at hlen h7 h8 h9 hne⊢;have h10:R.take q=R:=List.take_of_length_le (by omega)
          (repeat first|simp only[ww]|(apply xa;simp+decide only[go_sem,n1,List.length_map,h7,h8,hT1,hT2];rfl;kernel_rfl))
          (apply fqEb;(·simp+decide only[go_sem,sl_none_nil,hT3,hlT,hT4,h7,h8,h9,hlen,h10,hT1,hT2]<;>rfl))
          rfl
     ·have m1:¬(j:Int)<X.length:=by omega
      by_cases hzj:j=0
      ·have hnT:j=min X.length 3:=by omega
       rw[←hnT];have eT:(goTs X j).map Tm.enc=[]:=by rw[hzj];rfl
       have hX0:X=[]:=List.eq_nil_of_length_eq_zero (by omega);rw[eT,if_pos hX0];simp only[grV_nil,grH_nil,List.map_nil]
       (repeat first|simp only[ww]|(apply xa;simp+decide only[go_sem,m1,List.length_map];rfl;kernel_rfl))
       refine xp_lp kp9_4 (λz F H=>F=[(1,.ptr 0 0 0),(2,.ptr 1 0 0),(3,.ptr 2 0 0),(11,.int .i64 0)]∧H=some (.row 3 [[sl r0 (N.map stR),sl r1 (X.map Tm.enc),sl r2 (Y.map Vc.enc)]])::some (.row 3 [[.nilslice,.nilslice,.nilslice]])::some (.row 3 [[.nilslice,.nilslice,.nilslice]])::[]) 0 ⟨_,_,by(simp+decide only[go_sem,gcD_eq,gcIds_eq]<;>rfl),rfl,rfl⟩ ?_
       rintro z F H ⟨rfl,rfl⟩
       have hz9:(0:Int)<12:=by decide
       by_cases hy0:(0:Int)<Y.length
       ·(repeat first|simp only[ww]|(apply xa;simp+decide only[go_sem,hy0,hz9,List.length_map];rfl;kernel_rfl))
        (apply fqEb;(·simp+decide only[go_sem,sl_none_nil]<;>rfl))
        rfl
       ·(repeat first|simp only[ww]|(apply xa;simp+decide only[go_sem,hy0,hz9,List.length_map];rfl;kernel_rfl))
        (apply fqEb;(·simp+decide only[go_sem,sl_none_nil]<;>rfl))
        rfl
      ·have hnT:j=min X.length 3:=by omega
       rw[←hnT];have hX0:¬X=[]:=by intro e;rw[e]at hj;simp at hj;omega
       have hlT:((goTs X j).map Tm.enc).length=j:=by rw[List.length_map,goTs_len X j hj]
       have hneT:(goTs X j).map Tm.enc≠[]:=by intro e;rw[e]at hlT;simp at hlT;omega
       have hT1:=refs_flatR (tmE_flat (goTs X j));have hT2:=λπ=>renR_flat π (tmE_flat (goTs X j));have hT3:=λq d=>frzR_flat q d (tmE_flat (goTs X j));rw[sl_none_ne hneT,grV_ne 3 hneT,grH_ne 6 hneT,hlT,if_neg hX0];generalize(goTs X j).map Tm.enc=TR at hlT hneT hT1 hT2 hT3⊢;have hT4:TR.take j=TR:=List.take_of_length_le (by omega)
       (repeat first|simp only[ww]|(apply xa;simp+decide only[go_sem,m1,List.length_map];rfl;kernel_rfl))
       have hjp:(0:Int)<j:=by omega
       have hj9:j<1000:=by omega
       refine xp_loop3 (σ:=Nat) kp9_4 (λq=>[(1,.ptr 0 0 0),(2,.ptr 1 0 0),(3,.ptr 2 0 0),(11,.int .i64 (q:Nat))]) (λq=>some (.row 3 [[sl r0 (N.map stR),sl r1 (X.map Tm.enc),sl r2 (Y.map Vc.enc)]])::some (.row 3 [[.nilslice,.nilslice,.nilslice]])::some (.row 3 [[.nilslice,.slice 3 0 j none,grV 4 ((goVs i j Y q).map Vc.enc)]])::some (.row 6 TR)::grH 3 ((goVs i j Y q).map Vc.enc)) (λq=>12-q) (λq=>q≤Y.length∧q≤12) 0 ?_ ⟨Nat.zero_le _,Nat.zero_le _⟩ ?_
       ·have e1:goVs i j Y 0=[]:=rfl
        (simp+decide only[go_sem,gcD_eq,gcIds_eq,e1,List.map_nil,grV_nil,grH_nil,hT1,hT2]<;>rfl)
       ·rintro q ⟨hq,hq12⟩
        by_cases hly:q<Y.length
        ·have n1:(q:Int)<Y.length:=by omega
         by_cases hl12:q<12
         ·have n2:(q:Int)<12:=by omega
          have hw:IntKind.i64.wrap ((q:Int)+1)=((q+1:Nat):Int):=by rw[w64 (by omega) (by omega)];omega
          obtain⟨v,hv⟩:∃v,Y[q]?=some v:=⟨_,List.getElem?_eq_getElem hly⟩
          have hsm:(Y.map Vc.enc)[q]?=some (Vc.enc v):=by rw[List.getElem?_map,hv];rfl
          have hgs:goVs i j Y (q+1)=goVs i j Y q++[goV i j v]:=goVs_s hv;have a1:=ia7 v.t;have a2:=ia3 v.rep;unfold goV at hgs;generalize hd1:iand .i64 v.t 7=x1 at a1 hgs;generalize hd2:iand .i64 v.rep 3=x2 at a2 hgs;have u1:IntKind.i64.wrap (1+x2)=1+x2:=w64 (by omega) (by omega);have u7:¬(j:Int)=0:=by omega
          have hsr:(goVs i j Y (q+1)).map Vc.enc=(goVs i j Y q).map Vc.enc++[[.int .i64 (x1.tmod j),.str (goC v i),.int .i64 (1+x2)]]:=by rw[hgs,List.map_append];rfl
          by_cases hk:q=0
          ·subst hk;have e1:(goVs i j Y 0).map Vc.enc=[]:=rfl;rw[e1]at hsr⊢;simp only[List.nil_append]at hsr;simp only[grV_nil,grH_nil]
           (repeat first|simp only[ww]|(apply xa;simp+decide only[go_sem,n1,n2,hjp,hly,hsm,b43,List.length_map,hT1,hT2];rfl;kernel_rfl))
           refine xp_loop3 (σ:=Nat) kp9_6 (λk=>[(1,.ptr 0 0 0),(2,.ptr 1 0 0),(3,.ptr 2 0 0),(11,.int .i64 (0:Nat)),(12,.ptr 4 0 0),(13,.str (goC v k)),(14,.int .i64 (k:Nat))]) (λk=>[some (.row 3 [[sl r0 (N.map stR),sl r1 (X.map Tm.enc),sl r2 (Y.map Vc.enc)]]),some (.row 3 [[.nilslice,.nilslice,.nilslice]]),some (.row 3 [[.nilslice,.slice 3 0 j none,.nilslice]]),some (.row 6 TR),some (.row 3 [Vc.enc v])]) (λk=>i-k) (λk=>k≤i) 0 ?_ (Nat.zero_le _) ?_
           ·have e0:goC v 0=[]:=rfl
            (simp+decide only[go_sem,gcD_eq,gcIds_eq,e0,hT1,hT2]<;>rfl)
           ·intro k hkn;by_cases hlk:k<i
            ·omega
            ·have hkn2:k=i:=by omega
             rw[hkn2];have k1:¬(i:Int)<i:=by omega
             have k2:¬(i:Int)<0:=by omega
             (repeat first|simp only[ww]|(apply xa;simp+decide only[go_sem,k1,k2,hd1,hd2,u1,u7,hw,List.length_map,hT1,hT2];rfl;kernel_rfl))
             refine lp_n (0+1) ?_ (by omega) ⟨by omega,by omega⟩
             (simp+decide only[go_sem,gcD_eq,gcIds_eq,hsr,grV_cons,grH_cons,List.length_nil,hT1,hT2]<;>rfl)
          ·have hlen:((goVs i j Y q).map Vc.enc).length=q:=by rw[List.length_map,goVs_len i j Y q hq]
           have hne:(goVs i j Y q).map Vc.enc≠[]:=by intro e;rw[e]at hlen;simp at hlen;omega
           have h5:=refs_flatR (vcE_flat (goVs i j Y (q+1)));have h6:=λπ=>renR_flat π (vcE_flat (goVs i j Y (q+1)));have h7:=refs_flatR (vcE_flat (goVs i j Y q));have h8:=λπ=>renR_flat π (vcE_flat (goVs i j Y q));have hrm:q+1≤1000000000:=by omega
           rw[grV_ne 4 hne,grH_ne 3 hne,hlen];rw[hsr]at h5 h6;generalize(goVs i j Y q).map Vc.enc=R at hsr hlen h5 h6 h7 h8 hne⊢
           (repeat first|simp only[ww]|(apply xa;simp+decide only[go_sem,n1,n2,hjp,hly,hsm,b43,List.length_map,hT1,hT2];rfl;kernel_rfl))
           refine xp_loop3 (σ:=Nat) kp9_6 (λk=>[(1,.ptr 0 0 0),(2,.ptr 1 0 0),(3,.ptr 2 0 0),(11,.int .i64 (q:Nat)),(12,.ptr 5 0 0),(13,.str (goC v k)),(14,.int .i64 (k:Nat))]) (λk=>[some (.row 3 [[sl r0 (N.map stR),sl r1 (X.map Tm.enc),sl r2 (Y.map Vc.enc)]]),some (.row 3 [[.nilslice,.nilslice,.nilslice]]),some (.row 3 [[.nilslice,.slice 3 0 j none,.slice 4 0 q none]]),some (.row 6 TR),some (.row 3 R),some (.row 3 [Vc.enc v])]) (λk=>i-k) (λk=>k≤i) 0 ?_ (Nat.zero_le _) ?_
           ·have e0:goC v 0=[]:=rfl
            (simp+decide only[go_sem,gcD_eq,gcIds_eq,e0,hT1,hT2,h7,h8]<;>rfl)
           ·intro k hkn;by_cases hlk:k<i
            ·omega
            ·have hkn2:k=i:=by omega
             rw[hkn2];have k1:¬(i:Int)<i:=by omega
             have k2:¬(i:Int)<0:=by omega
             (repeat first|simp only[ww]|(apply xa;simp+decide only[go_sem,k1,k2,hd1,hd2,u1,u7,hw,hlen,hrm,List.length_map,hT1,hT2,h7,h8];rfl;kernel_rfl))
             refine lp_n (q+1) ?_ (by omega) ⟨by omega,by omega⟩
             (simp+decide only[go_sem,gcD_eq,gcIds_eq,hsr,grV_snoc,grH_snoc,hlen,h5,h6,hT1,hT2]<;>rfl)
         ·have n2:¬(q:Int)<12:=by omega
          have hnV:q=min Y.length 12:=by omega
          rw[←hnV];by_cases hk:q=0
          ·have e1:(goVs i j Y q).map Vc.enc=[]:=by rw[hk];rfl
           rw[e1];simp only[grV_nil,grH_nil]
           (repeat first|simp only[ww]|(apply xa;simp+decide only[go_sem,n1,n2,hjp,List.length_map,hT1,hT2];rfl;kernel_rfl))
           (apply fqEb;(·simp+decide only[go_sem,sl_none_nil,hT3,hlT,hT4,hT1,hT2]<;>rfl))
           rfl
          ·have hlen:((goVs i j Y q).map Vc.enc).length=q:=by rw[List.length_map,goVs_len i j Y q hq]
           have hne:(goVs i j Y q).map Vc.enc≠[]:=by intro e;rw[e]at hlen;simp at hlen;omega
           have h9:=λq' d=>frzR_flat q' d (vcE_flat (goVs i j Y q));have h7:=refs_flatR (vcE_flat (goVs i j Y q));have h8:=λπ=>renR_flat π (vcE_flat (goVs i j Y q));rw[sl_none_ne hne,grV_ne 4 hne,grH_ne 3 hne,hlen];generalize(goVs i j Y q).map Vc.enc=R at hlen h7 h8 h9 hne⊢;have h10:R.take q=R:=List.take_of_length_le (by omega)
           (repeat first|simp only[ww]|(apply xa;simp+decide only[go_sem,n1,n2,hjp,List.length_map,h7,h8,hT1,hT2];rfl;kernel_rfl))
           (apply fqEb;(·simp+decide only[go_sem,sl_none_nil,hT3,hlT,hT4,h7,h8,h9,hlen,h10,hT1,hT2]<;>rfl))
           rfl
        ·have n1:¬(q:Int)<Y.length:=by omega
         have hnV:q=min Y.length 12:=by omega
         rw[←hnV];by_cases hk:q=0
         ·have e1:(goVs i j Y q).map Vc.enc=[]:=by rw[hk];rfl
          rw[e1];simp only[grV_nil,grH_nil]
          (repeat first|simp only[ww]|(apply xa;simp+decide only[go_sem,n1,List.length_map,hT1,hT2];rfl;kernel_rfl))
          (apply fqEb;(·simp+decide only[go_sem,sl_none_nil,hT3,hlT,hT4,hT1,hT2]<;>rfl))
          rfl
         ·have hlen:((goVs i j Y q).map Vc.enc).length=q:=by rw[List.length_map,goVs_len i j Y q hq]
          have hne:(goVs i j Y q).map Vc.enc≠[]:=by intro e;rw[e]at hlen;simp at hlen;omega
          have h9:=λq' d=>frzR_flat q' d (vcE_flat (goVs i j Y q));have h7:=refs_flatR (vcE_flat (goVs i j Y q));have h8:=λπ=>renR_flat π (vcE_flat (goVs i j Y q));rw[sl_none_ne hne,grV_ne 4 hne,grH_ne 3 hne,hlen];generalize(goVs i j Y q).map Vc.enc=R at hlen h7 h8 h9 hne⊢;have h10:R.take q=R:=List.take_of_length_le (by omega)
          (repeat first|simp only[ww]|(apply xa;simp+decide only[go_sem,n1,List.length_map,h7,h8,hT1,hT2];rfl;kernel_rfl))
          (apply fqEb;(·simp+decide only[go_sem,sl_none_nil,hT3,hlT,hT4,h7,h8,h9,hlen,h10,hT1,hT2]<;>rfl))
          rfl
   ·have hnS:i=min N.length 8:=by omega
    rw[←hnS];have hlS:((goSs i).map Sg.enc).length=i:=by rw[List.length_map,goSs_len]
    have hneS:(goSs i).map Sg.enc≠[]:=by intro e;rw[e]at hlS;simp at hlS;omega
    have hS1:=refs_flatR (sgE_flat (goSs i));have hS2:=λπ=>renR_flat π (sgE_flat (goSs i));have hS3:=λq d=>frzR_flat q d (sgE_flat (goSs i));rw[sl_none_ne hneS,grV_ne 3 hneS,grH_ne 2 hneS,hlS];generalize(goSs i).map Sg.enc=SR at hlS hneS hS1 hS2 hS3⊢;have hS4:SR.take i=SR:=List.take_of_length_le (by omega)
    (repeat first|simp only[ww]|(apply xa;simp+decide only[go_sem,l1,List.length_map];rfl;kernel_rfl))
    refine xp_loop3 (σ:=Nat) kp9_2 (λj=>[(1,.ptr 0 0 0),(2,.ptr 1 0 0),(3,.ptr 2 0 0),(5,.int .i64 (j:Nat))]) (λj=>some (.row 3 [[sl r0 (N.map stR),sl r1 (X.map Tm.enc),sl r2 (Y.map Vc.enc)]])::some (.row 3 [[.nilslice,.nilslice,.nilslice]])::some (.row 3 [[.slice 3 0 i none,grV 4 ((goTs X j).map Tm.enc),.nilslice]])::some (.row 2 SR)::grH 6 ((goTs X j).map Tm.enc)) (λj=>3-j) (λj=>j≤X.length∧j≤3) 0 ?_ ⟨Nat.zero_le _,Nat.zero_le _⟩ ?_
    ·have e1:goTs X 0=[]:=rfl
     (simp+decide only[go_sem,gcD_eq,gcIds_eq,e1,List.map_nil,grV_nil,grH_nil,hS1,hS2]<;>rfl)
    ·rintro j ⟨hj,hj3⟩
     by_cases hlj:j<X.length
     ·have m1:(j:Int)<X.length:=by omega
      by_cases hl3:j<3
      ·have m2:(j:Int)<3:=by omega
       have hw:IntKind.i64.wrap ((j:Int)+1)=((j+1:Nat):Int):=by rw[w64 (by omega) (by omega)];omega
       obtain⟨t,ht⟩:∃t,X[j]?=some t:=⟨_,List.getElem?_eq_getElem hlj⟩
       have hsm:(X.map Tm.enc)[j]?=some (Tm.enc t):=by rw[List.getElem?_map,ht];rfl
       have hgs:=goTs_s ht;have hdg:=λh=>dig3 h j hl3;have a1:=ia15 t.dr;have a2:=ia15 t.ri;have a3:=ia15 t.fa;have a4:=ia15 t.per;have a5:=ia63 t.st;have hgt:Tm.enc (goT j t)=Tm.enc (goT j t):=rfl;unfold goT at hgt;unfold goT at hgs;generalize hd1:iand .i64 t.dr 15=x1 at a1 hgs;generalize hd2:iand .i64 t.ri 15=x2 at a2 hgs;generalize hd3:iand .i64 t.fa 15=x3 at a3 hgs;generalize hd4:iand .i64 t.per 15=x4 at a4 hgs;generalize hd5:iand .i64 t.st 63=x5 at a5 hgs;have u1:IntKind.i64.wrap (x1+1)=x1+1:=w64 (by omega) (by omega);have u2:IntKind.i64.wrap (x1+1+x2)=x1+1+x2:=w64 (by omega) (by omega);have u3:IntKind.i64.wrap (x1+1+x2+1)=x1+1+x2+1:=w64 (by omega) (by omega);have u4:IntKind.i64.wrap (x1+1+x2+1+x3)=x1+1+x2+1+x3:=w64 (by omega) (by omega);have u5:IntKind.i64.wrap (x1+1+x2+1+x3+1)=x1+1+x2+1+x3+1:=w64 (by omega) (by omega);have u6:IntKind.i64.wrap (x1+1+x2+1+x3+1+x4)=x1+1+x2+1+x3+1+x4:=w64 (by omega) (by omega);have u7:¬x1+1+x2+1+x3+1+x4=0:=by omega
       have hsr:(goTs X (j+1)).map Tm.enc=(goTs X j).map Tm.enc++[[.str [116,(48+j).toUInt8],.int .i64 (x1+1+x2+1+x3+1+x4),.int .i64 x1,.int .i64 (x1+1+x2),.int .i64 (x1+1+x2+1+x3),.int .i64 (x5.tmod (x1+1+x2+1+x3+1+x4))]]:=by rw[hgs,List.map_append];rfl
       by_cases hk:j=0
       ·subst hk;have e1:(goTs X 0).map Tm.enc=[]:=rfl;rw[e1]at hsr⊢;simp only[List.nil_append]at hsr
        (repeat first|simp only[ww]|(apply xa;simp+decide only[go_sem,m1,m2,hlj,hsm,hw,hdg,hd1,hd2,hd3,hd4,hd5,u1,u2,u3,u4,u5,u6,u7,b41,List.length_map,List.cons_append,List.nil_append,grV_nil,grH_nil,hS1,hS2];rfl;kernel_rfl))
        refine lp_n (0+1) ?_ (by omega) ⟨by omega,by omega⟩
        (simp+decide only[go_sem,gcD_eq,gcIds_eq,hsr,grV_cons,grH_cons,List.length_nil,hS1,hS2]<;>rfl)
       ·have hlen:((goTs X j).map Tm.enc).length=j:=by rw[List.length_map,goTs_len X j hj]
        have hne:(goTs X j).map Tm.enc≠[]:=by intro e;rw[e]at hlen;simp at hlen;omega
        have h5:=refs_flatR (tmE_flat (goTs X (j+1)));have h6:=λπ=>renR_flat π (tmE_flat (goTs X (j+1)));have hrm:j+1≤1000000000:=by omega
        rw[grV_ne 4 hne,grH_ne 6 hne,hlen];rw[hsr]at h5 h6;generalize(goTs X j).map Tm.enc=R at hsr hlen h5 h6 hne⊢
        (repeat first|simp only[ww]|(apply xa;simp+decide only[go_sem,m1,m2,hlj,hsm,hw,hlen,hrm,hdg,hd1,hd2,hd3,hd4,hd5,u1,u2,u3,u4,u5,u6,u7,b41,List.length_map,List.cons_append,List.nil_append,hS1,hS2];rfl;kernel_rfl))
        refine lp_n (j+1) ?_ (by omega) ⟨by omega,by omega⟩
        (simp+decide only[go_sem,gcD_eq,gcIds_eq,hsr,grV_snoc,grH_snoc,hlen,h5,h6,hS1,hS2]<;>rfl)
      ·have m2:¬(j:Int)<3:=by omega
       have hnT:j=min X.length 3:=by omega
       rw[←hnT];have hX0:¬X=[]:=by intro e;rw[e]at hj;simp at hj;omega
       have hlT:((goTs X j).map Tm.enc).length=j:=by rw[List.length_map,goTs_len X j hj]
       have hneT:(goTs X j).map Tm.enc≠[]:=by intro e;rw[e]at hlT;simp at hlT;omega
       have hT1:=refs_flatR (tmE_flat (goTs X j));have hT2:=λπ=>renR_flat π (tmE_flat (goTs X j));have hT3:=λq d=>frzR_flat q d (tmE_flat (goTs X j));rw[sl_none_ne hneT,grV_ne 4 hneT,grH_ne 6 hneT,hlT,if_neg hX0];generalize(goTs X j).map Tm.enc=TR at hlT hneT hT1 hT2 hT3⊢;have hT4:TR.take j=TR:=List.take_of_length_le (by omega)
       (repeat first|simp only[ww]|(apply xa;simp+decide only[go_sem,m1,m2,List.length_map,hS1,hS2];rfl;kernel_rfl))
       have hjp:(0:Int)<j:=by omega
       have hj9:j<1000:=by omega
       refine xp_loop3 (σ:=Nat) kp9_4 (λq=>[(1,.ptr 0 0 0),(2,.ptr 1 0 0),(3,.ptr 2 0 0),(11,.int .i64 (q:Nat))]) (λq=>some (.row 3 [[sl r0 (N.map stR),sl r1 (X.map Tm.enc),sl r2 (Y.map Vc.enc)]])::some (.row 3 [[.nilslice,.nilslice,.nilslice]])::some (.row 3 [[.slice 3 0 i none,.slice 4 0 j none,grV 5 ((goVs i j Y q).map Vc.enc)]])::some (.row 2 SR)::some (.row 6 TR)::grH 3 ((goVs i j Y q).map Vc.enc)) (λq=>12-q) (λq=>q≤Y.length∧q≤12) 0 ?_ ⟨Nat.zero_le _,Nat.zero_le _⟩ ?_
       ·have e1:goVs i j Y 0=[]:=rfl
        (simp+decide only[go_sem,gcD_eq,gcIds_eq,e1,List.map_nil,grV_nil,grH_nil,hS1,hS2,hT1,hT2]<;>rfl)
       ·rintro q ⟨hq,hq12⟩
        by_cases hly:q<Y.length
        ·have n1:(q:Int)<Y.length:=by omega
         by_cases hl12:q<12
         ·have n2:(q:Int)<12:=by omega
          have hw:IntKind.i64.wrap ((q:Int)+1)=((q+1:Nat):Int):=by rw[w64 (by omega) (by omega)];omega
          obtain⟨v,hv⟩:∃v,Y[q]?=some v:=⟨_,List.getElem?_eq_getElem hly⟩
          have hsm:(Y.map Vc.enc)[q]?=some (Vc.enc v):=by rw[List.getElem?_map,hv];rfl
          have hgs:goVs i j Y (q+1)=goVs i j Y q++[goV i j v]:=goVs_s hv;have a1:=ia7 v.t;have a2:=ia3 v.rep;unfold goV at hgs;generalize hd1:iand .i64 v.t 7=x1 at a1 hgs;generalize hd2:iand .i64 v.rep 3=x2 at a2 hgs;have u1:IntKind.i64.wrap (1+x2)=1+x2:=w64 (by omega) (by omega);have u7:¬(j:Int)=0:=by omega
          have hsr:(goVs i j Y (q+1)).map Vc.enc=(goVs i j Y q).map Vc.enc++[[.int .i64 (x1.tmod j),.str (goC v i),.int .i64 (1+x2)]]:=by rw[hgs,List.map_append];rfl
          by_cases hk:q=0
          ·subst hk;have e1:(goVs i j Y 0).map Vc.enc=[]:=rfl;rw[e1]at hsr⊢;simp only[List.nil_append]at hsr;simp only[grV_nil,grH_nil]
           (repeat first|simp only[ww]|(apply xa;simp+decide only[go_sem,n1,n2,hjp,hly,hsm,b43,List.length_map,hS1,hS2,hT1,hT2];rfl;kernel_rfl))
           refine xp_loop3 (σ:=Nat) kp9_6 (λk=>[(1,.ptr 0 0 0),(2,.ptr 1 0 0),(3,.ptr 2 0 0),(11,.int .i64 (0:Nat)),(12,.ptr 5 0 0),(13,.str (goC v k)),(14,.int .i64 (k:Nat))]) (λk=>[some (.row 3 [[sl r0 (N.map stR),sl r1 (X.map Tm.enc),sl r2 (Y.map Vc.enc)]]),some (.row 3 [[.nilslice,.nilslice,.nilslice]]),some (.row 3 [[.slice 3 0 i none,.slice 4 0 j none,.nilslice]]),some (.row 2 SR),some (.row 6 TR),some (.row 3 [Vc.enc v])]) (λk=>i-k) (λk=>k≤i) 0 ?_ (Nat.zero_le _) ?_
           ·have e0:goC v 0=[]:=rfl
            (simp+decide only[go_sem,gcD_eq,gcIds_eq,e0,hS1,hS2,hT1,hT2]<;>rfl)
           ·intro k hkn;by_cases hlk:k<i
            ·have k1:(k:Int)<i:=by omega
             have hwk:IntKind.i64.wrap ((k:Int)+1)=((k+1:Nat):Int):=by rw[w64 (by omega) (by omega)];omega
             have hcl:=goC_len v k;have hkk:k+1≤4611686018427387904:=by omega
             have hgc:=goC_s v k;by_cases hce:v.cells=[]
             ·have c5:¬(0:Int)<v.cells.length:=by rw[hce];decide
              have hrc:rawC v k=0:=if_pos hce;have q0:IntKind.u8.wrap (0+1)=1:=by decide
              have e04:(0:Int).tmod 4=0:=rfl;have e03:(0:Int).tmod 3=0:=rfl;have s4:∀h,aslice L.env h 9 (.str [48,49,88,80]) (some (.int .u8 0)) (some (.int .u8 1)) none=some (.str [l4 0]):=λh=>by kernel_rfl
              have s3:∀h,aslice L.env h 9 (.str [76,72,88]) (some (.int .u8 0)) (some (.int .u8 1)) none=some (.str [l3 0]):=λh=>by kernel_rfl
              generalize goC v k=G at hcl hgc⊢;by_cases hev:k%2=0
              ·have m2:(k:Int).tmod 2=0:=by rw[show(2:Int)=((2:Nat):Int)from rfl,tmodN,hev];rfl
               have hca:cellAt v k=l4 0:=by unfold cellAt;rw[if_pos hev,hrc]
               rw[hca]at hgc
               (repeat first|simp only[ww]|(apply xa;simp+decide only[go_sem,k1,c5,m2,q0,e04,e03,s4,s3,hcl,hkk,hwk,Nat.zero_add,List.length_cons,List.length_nil,hS1,hS2,hT1,hT2];rfl;kernel_rfl))
               refine lp_n (k+1) ?_ (by omega) (by omega)
               (simp+decide only[go_sem,gcD_eq,gcIds_eq,hgc,hS1,hS2,hT1,hT2]<;>rfl)
              ·have m2:(k:Int).tmod 2=1:=by rw[show(2:Int)=((2:Nat):Int)from rfl,tmodN,show k%2=1 by omega];rfl
               have hca:cellAt v k=l3 0:=by unfold cellAt;rw[if_neg hev,hrc]
               rw[hca]at hgc
               (repeat first|simp only[ww]|(apply xa;simp+decide only[go_sem,k1,c5,m2,q0,e04,e03,s4,s3,hcl,hkk,hwk,Nat.zero_add,List.length_cons,List.length_nil,hS1,hS2,hT1,hT2];rfl;kernel_rfl))
               refine lp_n (k+1) ?_ (by omega) (by omega)
               (simp+decide only[go_sem,gcD_eq,gcIds_eq,hgc,hS1,hS2,hT1,hT2]<;>rfl)
             ·have hcp:0<v.cells.length:=List.length_pos_iff.2 hce;have c5:(0:Int)<v.cells.length:=by omega
              have c6:¬(v.cells.length:Int)=0:=by omega
              have hil:k%v.cells.length<v.cells.length:=Nat.mod_lt _ hcp;obtain⟨c,hc⟩:∃c,v.cells[k%v.cells.length]?=some c:=⟨_,List.getElem?_eq_getElem hil⟩
              have hrc:rawC v k=c.toNat:=by unfold rawC;rw[if_neg hce,hc];rfl
              have hmk:=tmodN k v.cells.length;have m4:(c.toNat:Int).tmod 4=((c.toNat%4:Nat):Int):=tmodN _ 4;have m3:(c.toNat:Int).tmod 3=((c.toNat%3:Nat):Int):=tmodN _ 3;have w4:=u8s (c.toNat%4) (by omega);have w3:=u8s (c.toNat%3) (by omega);have s4:=λh=>let4 h (c.toNat%4) (by omega);have s3:=λh=>let3 h (c.toNat%3) (by omega);generalize goC v k=G at hcl hgc⊢;by_cases hev:k%2=0
              ·have m2:(k:Int).tmod 2=0:=by rw[show(2:Int)=((2:Nat):Int)from rfl,tmodN,hev];rfl
               have hca:cellAt v k=l4 (c.toNat%4):=by unfold cellAt;rw[if_pos hev,hrc]
               rw[hca]at hgc
               (repeat first|simp only[ww]|(apply xa;simp+decide only[go_sem,k1,c5,c6,hmk,hil,hc,m2,m4,m3,w4,w3,s4,s3,hcl,hkk,hwk,Nat.zero_add,List.length_cons,List.length_nil,hS1,hS2,hT1,hT2];rfl;kernel_rfl))
               refine lp_n (k+1) ?_ (by omega) (by omega)
               (simp+decide only[go_sem,gcD_eq,gcIds_eq,hgc,hS1,hS2,hT1,hT2]<;>rfl)
              ·have m2:(k:Int).tmod 2=1:=by rw[show(2:Int)=((2:Nat):Int)from rfl,tmodN,show k%2=1 by omega];rfl
               have hca:cellAt v k=l3 (c.toNat%3):=by unfold cellAt;rw[if_neg hev,hrc]
               rw[hca]at hgc
               (repeat first|simp only[ww]|(apply xa;simp+decide only[go_sem,k1,c5,c6,hmk,hil,hc,m2,m4,m3,w4,w3,s4,s3,hcl,hkk,hwk,Nat.zero_add,List.length_cons,List.length_nil,hS1,hS2,hT1,hT2];rfl;kernel_rfl))
               refine lp_n (k+1) ?_ (by omega) (by omega)
               (simp+decide only[go_sem,gcD_eq,gcIds_eq,hgc,hS1,hS2,hT1,hT2]<;>rfl)
            ·have hkn2:k=i:=by omega
             rw[hkn2];have k1:¬(i:Int)<i:=by omega
             (repeat first|simp only[ww]|(apply xa;simp+decide only[go_sem,k1,hd1,hd2,u1,u7,hw,List.length_map,hS1,hS2,hT1,hT2];rfl;kernel_rfl))
             refine lp_n (0+1) ?_ (by omega) ⟨by omega,by omega⟩
             (simp+decide only[go_sem,gcD_eq,gcIds_eq,hsr,grV_cons,grH_cons,List.length_nil,hS1,hS2,hT1,hT2]<;>rfl)
          ·have hlen:((goVs i j Y q).map Vc.enc).length=q:=by rw[List.length_map,goVs_len i j Y q hq]
           have hne:(goVs i j Y q).map Vc.enc≠[]:=by intro e;rw[e]at hlen;simp at hlen;omega
           have h5:=refs_flatR (vcE_flat (goVs i j Y (q+1)));have h6:=λπ=>renR_flat π (vcE_flat (goVs i j Y (q+1)));have h7:=refs_flatR (vcE_flat (goVs i j Y q));have h8:=λπ=>renR_flat π (vcE_flat (goVs i j Y q));have hrm:q+1≤1000000000:=by omega
           rw[grV_ne 5 hne,grH_ne 3 hne,hlen];rw[hsr]at h5 h6;generalize(goVs i j Y q).map Vc.enc=R at hsr hlen h5 h6 h7 h8 hne⊢
           (repeat first|simp only[ww]|(apply xa;simp+decide only[go_sem,n1,n2,hjp,hly,hsm,b43,List.length_map,hS1,hS2,hT1,hT2];rfl;kernel_rfl))
           refine xp_loop3 (σ:=Nat) kp9_6 (λk=>[(1,.ptr 0 0 0),(2,.ptr 1 0 0),(3,.ptr 2 0 0),(11,.int .i64 (q:Nat)),(12,.ptr 6 0 0),(13,.str (goC v k)),(14,.int .i64 (k:Nat))]) (λk=>[some (.row 3 [[sl r0 (N.map stR),sl r1 (X.map Tm.enc),sl r2 (Y.map Vc.enc)]]),some (.row 3 [[.nilslice,.nilslice,.nilslice]]),some (.row 3 [[.slice 3 0 i none,.slice 4 0 j none,.slice 5 0 q none]]),some (.row 2 SR),some (.row 6 TR),some (.row 3 R),some (.row 3 [Vc.enc v])]) (λk=>i-k) (λk=>k≤i) 0 ?_ (Nat.zero_le _) ?_
           ·have e0:goC v 0=[]:=rfl
            (simp+decide only[go_sem,gcD_eq,gcIds_eq,e0,hS1,hS2,hT1,hT2,h7,h8]<;>rfl)
           ·intro k hkn;by_cases hlk:k<i
            ·have k1:(k:Int)<i:=by omega
             have hwk:IntKind.i64.wrap ((k:Int)+1)=((k+1:Nat):Int):=by rw[w64 (by omega) (by omega)];omega
             have hcl:=goC_len v k;have hkk:k+1≤4611686018427387904:=by omega
             have hgc:=goC_s v k;by_cases hce:v.cells=[]
             ·have c5:¬(0:Int)<v.cells.length:=by rw[hce];decide
              have hrc:rawC v k=0:=if_pos hce;have q0:IntKind.u8.wrap (0+1)=1:=by decide
              have e04:(0:Int).tmod 4=0:=rfl;have e03:(0:Int).tmod 3=0:=rfl;have s4:∀h,aslice L.env h 9 (.str [48,49,88,80]) (some (.int .u8 0)) (some (.int .u8 1)) none=some (.str [l4 0]):=λh=>by kernel_rfl
              have s3:∀h,aslice L.env h 9 (.str [76,72,88]) (some (.int .u8 0)) (some (.int .u8 1)) none=some (.str [l3 0]):=λh=>by kernel_rfl
              generalize goC v k=G at hcl hgc⊢;by_cases hev:k%2=0
              ·have m2:(k:Int).tmod 2=0:=by rw[show(2:Int)=((2:Nat):Int)from rfl,tmodN,hev];rfl
               have hca:cellAt v k=l4 0:=by unfold cellAt;rw[if_pos hev,hrc]
               rw[hca]at hgc
               (repeat first|simp only[ww]|(apply xa;simp+decide only[go_sem,k1,c5,m2,q0,e04,e03,s4,s3,hcl,hkk,hwk,Nat.zero_add,List.length_cons,List.length_nil,hS1,hS2,hT1,hT2,h7,h8];rfl;kernel_rfl))
               refine lp_n (k+1) ?_ (by omega) (by omega)
               (simp+decide only[go_sem,gcD_eq,gcIds_eq,hgc,hS1,hS2,hT1,hT2,h7,h8]<;>rfl)
              ·have m2:(k:Int).tmod 2=1:=by rw[show(2:Int)=((2:Nat):Int)from rfl,tmodN,show k%2=1 by omega];rfl
               have hca:cellAt v k=l3 0:=by unfold cellAt;rw[if_neg hev,hrc]
               rw[hca]at hgc
               (repeat first|simp only[ww]|(apply xa;simp+decide only[go_sem,k1,c5,m2,q0,e04,e03,s4,s3,hcl,hkk,hwk,Nat.zero_add,List.length_cons,List.length_nil,hS1,hS2,hT1,hT2,h7,h8];rfl;kernel_rfl))
               refine lp_n (k+1) ?_ (by omega) (by omega)
               (simp+decide only[go_sem,gcD_eq,gcIds_eq,hgc,hS1,hS2,hT1,hT2,h7,h8]<;>rfl)
             ·have hcp:0<v.cells.length:=List.length_pos_iff.2 hce;have c5:(0:Int)<v.cells.length:=by omega
              have c6:¬(v.cells.length:Int)=0:=by omega
              have hil:k%v.cells.length<v.cells.length:=Nat.mod_lt _ hcp;obtain⟨c,hc⟩:∃c,v.cells[k%v.cells.length]?=some c:=⟨_,List.getElem?_eq_getElem hil⟩
              have hrc:rawC v k=c.toNat:=by unfold rawC;rw[if_neg hce,hc];rfl
              have hmk:=tmodN k v.cells.length;have m4:(c.toNat:Int).tmod 4=((c.toNat%4:Nat):Int):=tmodN _ 4;have m3:(c.toNat:Int).tmod 3=((c.toNat%3:Nat):Int):=tmodN _ 3;have w4:=u8s (c.toNat%4) (by omega);have w3:=u8s (c.toNat%3) (by omega);have s4:=λh=>let4 h (c.toNat%4) (by omega);have s3:=λh=>let3 h (c.toNat%3) (by omega);generalize goC v k=G at hcl hgc⊢;by_cases hev:k%2=0
              ·have m2:(k:Int).tmod 2=0:=by rw[show(2:Int)=((2:Nat):Int)from rfl,tmodN,hev];rfl
               have hca:cellAt v k=l4 (c.toNat%4):=by unfold cellAt;rw[if_pos hev,hrc]
               rw[hca]at hgc
               (repeat first|simp only[ww]|(apply xa;simp+decide only[go_sem,k1,c5,c6,hmk,hil,hc,m2,m4,m3,w4,w3,s4,s3,hcl,hkk,hwk,Nat.zero_add,List.length_cons,List.length_nil,hS1,hS2,hT1,hT2,h7,h8];rfl;kernel_rfl))
               refine lp_n (k+1) ?_ (by omega) (by omega)
               (simp+decide only[go_sem,gcD_eq,gcIds_eq,hgc,hS1,hS2,hT1,hT2,h7,h8]<;>rfl)
              ·have m2:(k:Int).tmod 2=1:=by rw[show(2:Int)=((2:Nat):Int)from rfl,tmodN,show k%2=1 by omega];rfl
               have hca:cellAt v k=l3 (c.toNat%3):=by unfold cellAt;rw[if_neg hev,hrc]
               rw[hca]at hgc
               (repeat first|simp only[ww]|(apply xa;simp+decide only[go_sem,k1,c5,c6,hmk,hil,hc,m2,m4,m3,w4,w3,s4,s3,hcl,hkk,hwk,Nat.zero_add,List.length_cons,List.length_nil,hS1,hS2,hT1,hT2,h7,h8];rfl;kernel_rfl))
               refine lp_n (k+1) ?_ (by omega) (by omega)
               (simp+decide only[go_sem,gcD_eq,gcIds_eq,hgc,hS1,hS2,hT1,hT2,h7,h8]<;>rfl)
            ·have hkn2:k=i:=by omega
             rw[hkn2];have k1:¬(i:Int)<i:=by omega
             (repeat first|simp only[ww]|(apply xa;simp+decide only[go_sem,k1,hd1,hd2,u1,u7,hw,hlen,hrm,List.length_map,hS1,hS2,hT1,hT2,h7,h8];rfl;kernel_rfl))
             refine lp_n (q+1) ?_ (by omega) ⟨by omega,by omega⟩
             (simp+decide only[go_sem,gcD_eq,gcIds_eq,hsr,grV_snoc,grH_snoc,hlen,h5,h6,hS1,hS2,hT1,hT2]<;>rfl)
         ·have n2:¬(q:Int)<12:=by omega
          have hnV:q=min Y.length 12:=by omega
          rw[←hnV];by_cases hk:q=0
          ·have e1:(goVs i j Y q).map Vc.enc=[]:=by rw[hk];rfl
           rw[e1];simp only[grV_nil,grH_nil]
           (repeat first|simp only[ww]|(apply xa;simp+decide only[go_sem,n1,n2,hjp,List.length_map,hS1,hS2,hT1,hT2];rfl;kernel_rfl))
           (apply fqEb;(·simp+decide only[go_sem,sl_none_nil,hS3,hlS,hS4,hT3,hlT,hT4,hS1,hS2,hT1,hT2]<;>rfl))
           rfl
          ·have hlen:((goVs i j Y q).map Vc.enc).length=q:=by rw[List.length_map,goVs_len i j Y q hq]
           have hne:(goVs i j Y q).map Vc.enc≠[]:=by intro e;rw[e]at hlen;simp at hlen;omega
           have h9:=λq' d=>frzR_flat q' d (vcE_flat (goVs i j Y q));have h7:=refs_flatR (vcE_flat (goVs i j Y q));have h8:=λπ=>renR_flat π (vcE_flat (goVs i j Y q));rw[sl_none_ne hne,grV_ne 5 hne,grH_ne 3 hne,hlen];generalize(goVs i j Y q).map Vc.enc=R at hlen h7 h8 h9 hne⊢;have h10:R.take q=R:=List.take_of_length_le (by omega)
           (repeat first|simp only[ww]|(apply xa;simp+decide only[go_sem,n1,n2,hjp,List.length_map,h7,h8,hS1,hS2,hT1,hT2];rfl;kernel_rfl))
           (apply fqEb;(·simp+decide only[go_sem,sl_none_nil,hS3,hlS,hS4,hT3,hlT,hT4,h7,h8,h9,hlen,h10,hS1,hS2,hT1,hT2]<;>rfl))
           rfl
        ·have n1:¬(q:Int)<Y.length:=by omega
         have hnV:q=min Y.length 12:=by omega
         rw[←hnV];by_cases hk:q=0
         ·have e1:(goVs i j Y q).map Vc.enc=[]:=by rw[hk];rfl
          rw[e1];simp only[grV_nil,grH_nil]
          (repeat first|simp only[ww]|(apply xa;simp+decide only[go_sem,n1,List.length_map,hS1,hS2,hT1,hT2];rfl;kernel_rfl))
          (apply fqEb;(·simp+decide only[go_sem,sl_none_nil,hS3,hlS,hS4,hT3,hlT,hT4,hS1,hS2,hT1,hT2]<;>rfl))
          rfl
         ·have hlen:((goVs i j Y q).map Vc.enc).length=q:=by rw[List.length_map,goVs_len i j Y q hq]
          have hne:(goVs i j Y q).map Vc.enc≠[]:=by intro e;rw[e]at hlen;simp at hlen;omega
          have h9:=λq' d=>frzR_flat q' d (vcE_flat (goVs i j Y q));have h7:=refs_flatR (vcE_flat (goVs i j Y q));have h8:=λπ=>renR_flat π (vcE_flat (goVs i j Y q));rw[sl_none_ne hne,grV_ne 5 hne,grH_ne 3 hne,hlen];generalize(goVs i j Y q).map Vc.enc=R at hlen h7 h8 h9 hne⊢;have h10:R.take q=R:=List.take_of_length_le (by omega)
          (repeat first|simp only[ww]|(apply xa;simp+decide only[go_sem,n1,List.length_map,h7,h8,hS1,hS2,hT1,hT2];rfl;kernel_rfl))
          (apply fqEb;(·simp+decide only[go_sem,sl_none_nil,hS3,hlS,hS4,hT3,hlT,hT4,h7,h8,h9,hlen,h10,hS1,hS2,hT1,hT2]<;>rfl))
          rfl
     ·have m1:¬(j:Int)<X.length:=by omega
      by_cases hzj:j=0
      ·have hnT:j=min X.length 3:=by omega
       rw[←hnT];have eT:(goTs X j).map Tm.enc=[]:=by rw[hzj];rfl
       have hX0:X=[]:=List.eq_nil_of_length_eq_zero (by omega);rw[eT,if_pos hX0];simp only[grV_nil,grH_nil,List.map_nil]
       (repeat first|simp only[ww]|(apply xa;simp+decide only[go_sem,m1,List.length_map,hS1,hS2];rfl;kernel_rfl))
       refine xp_lp kp9_4 (λz F H=>F=[(1,.ptr 0 0 0),(2,.ptr 1 0 0),(3,.ptr 2 0 0),(11,.int .i64 0)]∧H=some (.row 3 [[sl r0 (N.map stR),sl r1 (X.map Tm.enc),sl r2 (Y.map Vc.enc)]])::some (.row 3 [[.nilslice,.nilslice,.nilslice]])::some (.row 3 [[.slice 3 0 i none,.nilslice,.nilslice]])::[some (.row 2 SR)]) 0 ⟨_,_,by(simp+decide only[go_sem,gcD_eq,gcIds_eq,hS1,hS2]<;>rfl),rfl,rfl⟩ ?_
       rintro z F H ⟨rfl,rfl⟩
       have hz9:(0:Int)<12:=by decide
       by_cases hy0:(0:Int)<Y.length
       ·(repeat first|simp only[ww]|(apply xa;simp+decide only[go_sem,hy0,hz9,List.length_map,hS1,hS2];rfl;kernel_rfl))
        (apply fqEb;(·simp+decide only[go_sem,sl_none_nil,hS3,hlS,hS4,hS1,hS2]<;>rfl))
        rfl
       ·(repeat first|simp only[ww]|(apply xa;simp+decide only[go_sem,hy0,hz9,List.length_map,hS1,hS2];rfl;kernel_rfl))
        (apply fqEb;(·simp+decide only[go_sem,sl_none_nil,hS3,hlS,hS4,hS1,hS2]<;>rfl))
        rfl
      ·have hnT:j=min X.length 3:=by omega
       rw[←hnT];have hX0:¬X=[]:=by intro e;rw[e]at hj;simp at hj;omega
       have hlT:((goTs X j).map Tm.enc).length=j:=by rw[List.length_map,goTs_len X j hj]
       have hneT:(goTs X j).map Tm.enc≠[]:=by intro e;rw[e]at hlT;simp at hlT;omega
       have hT1:=refs_flatR (tmE_flat (goTs X j));have hT2:=λπ=>renR_flat π (tmE_flat (goTs X j));have hT3:=λq d=>frzR_flat q d (tmE_flat (goTs X j));rw[sl_none_ne hneT,grV_ne 4 hneT,grH_ne 6 hneT,hlT,if_neg hX0];generalize(goTs X j).map Tm.enc=TR at hlT hneT hT1 hT2 hT3⊢;have hT4:TR.take j=TR:=List.take_of_length_le (by omega)
       (repeat first|simp only[ww]|(apply xa;simp+decide only[go_sem,m1,List.length_map,hS1,hS2];rfl;kernel_rfl))
       have hjp:(0:Int)<j:=by omega
       have hj9:j<1000:=by omega
       refine xp_loop3 (σ:=Nat) kp9_4 (λq=>[(1,.ptr 0 0 0),(2,.ptr 1 0 0),(3,.ptr 2 0 0),(11,.int .i64 (q:Nat))]) (λq=>some (.row 3 [[sl r0 (N.map stR),sl r1 (X.map Tm.enc),sl r2 (Y.map Vc.enc)]])::some (.row 3 [[.nilslice,.nilslice,.nilslice]])::some (.row 3 [[.slice 3 0 i none,.slice 4 0 j none,grV 5 ((goVs i j Y q).map Vc.enc)]])::some (.row 2 SR)::some (.row 6 TR)::grH 3 ((goVs i j Y q).map Vc.enc)) (λq=>12-q) (λq=>q≤Y.length∧q≤12) 0 ?_ ⟨Nat.zero_le _,Nat.zero_le _⟩ ?_
       ·have e1:goVs i j Y 0=[]:=rfl
        (simp+decide only[go_sem,gcD_eq,gcIds_eq,e1,List.map_nil,grV_nil,grH_nil,hS1,hS2,hT1,hT2]<;>rfl)
       ·rintro q ⟨hq,hq12⟩
        by_cases hly:q<Y.length
        ·have n1:(q:Int)<Y.length:=by omega
         by_cases hl12:q<12
         ·have n2:(q:Int)<12:=by omega
          have hw:IntKind.i64.wrap ((q:Int)+1)=((q+1:Nat):Int):=by rw[w64 (by omega) (by omega)];omega
          obtain⟨v,hv⟩:∃v,Y[q]?=some v:=⟨_,List.getElem?_eq_getElem hly⟩
          have hsm:(Y.map Vc.enc)[q]?=some (Vc.enc v):=by rw[List.getElem?_map,hv];rfl
          have hgs:goVs i j Y (q+1)=goVs i j Y q++[goV i j v]:=goVs_s hv;have a1:=ia7 v.t;have a2:=ia3 v.rep;unfold goV at hgs;generalize hd1:iand .i64 v.t 7=x1 at a1 hgs;generalize hd2:iand .i64 v.rep 3=x2 at a2 hgs;have u1:IntKind.i64.wrap (1+x2)=1+x2:=w64 (by omega) (by omega);have u7:¬(j:Int)=0:=by omega
          have hsr:(goVs i j Y (q+1)).map Vc.enc=(goVs i j Y q).map Vc.enc++[[.int .i64 (x1.tmod j),.str (goC v i),.int .i64 (1+x2)]]:=by rw[hgs,List.map_append];rfl
          by_cases hk:q=0
          ·subst hk;have e1:(goVs i j Y 0).map Vc.enc=[]:=rfl;rw[e1]at hsr⊢;simp only[List.nil_append]at hsr;simp only[grV_nil,grH_nil]
           (repeat first|simp only[ww]|(apply xa;simp+decide only[go_sem,n1,n2,hjp,hly,hsm,b43,List.length_map,hS1,hS2,hT1,hT2];rfl;kernel_rfl))
           refine xp_loop3 (σ:=Nat) kp9_6 (λk=>[(1,.ptr 0 0 0),(2,.ptr 1 0 0),(3,.ptr 2 0 0),(11,.int .i64 (0:Nat)),(12,.ptr 5 0 0),(13,.str (goC v k)),(14,.int .i64 (k:Nat))]) (λk=>[some (.row 3 [[sl r0 (N.map stR),sl r1 (X.map Tm.enc),sl r2 (Y.map Vc.enc)]]),some (.row 3 [[.nilslice,.nilslice,.nilslice]]),some (.row 3 [[.slice 3 0 i none,.slice 4 0 j none,.nilslice]]),some (.row 2 SR),some (.row 6 TR),some (.row 3 [Vc.enc v])]) (λk=>i-k) (λk=>k≤i) 0 ?_ (Nat.zero_le _) ?_
           ·have e0:goC v 0=[]:=rfl
            (simp+decide only[go_sem,gcD_eq,gcIds_eq,e0,hS1,hS2,hT1,hT2]<;>rfl)
           ·intro k hkn;by_cases hlk:k<i
            ·have k1:(k:Int)<i:=by omega
             have hwk:IntKind.i64.wrap ((k:Int)+1)=((k+1:Nat):Int):=by rw[w64 (by omega) (by omega)];omega
             have hcl:=goC_len v k;have hkk:k+1≤4611686018427387904:=by omega
             have hgc:=goC_s v k;by_cases hce:v.cells=[]
             ·have c5:¬(0:Int)<v.cells.length:=by rw[hce];decide
              have hrc:rawC v k=0:=if_pos hce;have q0:IntKind.u8.wrap (0+1)=1:=by decide
              have e04:(0:Int).tmod 4=0:=rfl;have e03:(0:Int).tmod 3=0:=rfl;have s4:∀h,aslice L.env h 9 (.str [48,49,88,80]) (some (.int .u8 0)) (some (.int .u8 1)) none=some (.str [l4 0]):=λh=>by kernel_rfl
              have s3:∀h,aslice L.env h 9 (.str [76,72,88]) (some (.int .u8 0)) (some (.int .u8 1)) none=some (.str [l3 0]):=λh=>by kernel_rfl
              generalize goC v k=G at hcl hgc⊢;by_cases hev:k%2=0
              ·have m2:(k:Int).tmod 2=0:=by rw[show(2:Int)=((2:Nat):Int)from rfl,tmodN,hev];rfl
               have hca:cellAt v k=l4 0:=by unfold cellAt;rw[if_pos hev,hrc]
               rw[hca]at hgc
               (repeat first|simp only[ww]|(apply xa;simp+decide only[go_sem,k1,c5,m2,q0,e04,e03,s4,s3,hcl,hkk,hwk,Nat.zero_add,List.length_cons,List.length_nil,hS1,hS2,hT1,hT2];rfl;kernel_rfl))
               refine lp_n (k+1) ?_ (by omega) (by omega)
               (simp+decide only[go_sem,gcD_eq,gcIds_eq,hgc,hS1,hS2,hT1,hT2]<;>rfl)
              ·have m2:(k:Int).tmod 2=1:=by rw[show(2:Int)=((2:Nat):Int)from rfl,tmodN,show k%2=1 by omega];rfl
               have hca:cellAt v k=l3 0:=by unfold cellAt;rw[if_neg hev,hrc]
               rw[hca]at hgc
               (repeat first|simp only[ww]|(apply xa;simp+decide only[go_sem,k1,c5,m2,q0,e04,e03,s4,s3,hcl,hkk,hwk,Nat.zero_add,List.length_cons,List.length_nil,hS1,hS2,hT1,hT2];rfl;kernel_rfl))
               refine lp_n (k+1) ?_ (by omega) (by omega)
               (simp+decide only[go_sem,gcD_eq,gcIds_eq,hgc,hS1,hS2,hT1,hT2]<;>rfl)
             ·have hcp:0<v.cells.length:=List.length_pos_iff.2 hce;have c5:(0:Int)<v.cells.length:=by omega
              have c6:¬(v.cells.length:Int)=0:=by omega
              have hil:k%v.cells.length<v.cells.length:=Nat.mod_lt _ hcp;obtain⟨c,hc⟩:∃c,v.cells[k%v.cells.length]?=some c:=⟨_,List.getElem?_eq_getElem hil⟩
              have hrc:rawC v k=c.toNat:=by unfold rawC;rw[if_neg hce,hc];rfl
              have hmk:=tmodN k v.cells.length;have m4:(c.toNat:Int).tmod 4=((c.toNat%4:Nat):Int):=tmodN _ 4;have m3:(c.toNat:Int).tmod 3=((c.toNat%3:Nat):Int):=tmodN _ 3;have w4:=u8s (c.toNat%4) (by omega);have w3:=u8s (c.toNat%3) (by omega);have s4:=λh=>let4 h (c.toNat%4) (by omega);have s3:=λh=>let3 h (c.toNat%3) (by omega);generalize goC v k=G at hcl hgc⊢;by_cases hev:k%2=0
              ·have m2:(k:Int).tmod 2=0:=by rw[show(2:Int)=((2:Nat):Int)from rfl,tmodN,hev];rfl
               have hca:cellAt v k=l4 (c.toNat%4):=by unfold cellAt;rw[if_pos hev,hrc]
               rw[hca]at hgc
               (repeat first|simp only[ww]|(apply xa;simp+decide only[go_sem,k1,c5,c6,hmk,hil,hc,m2,m4,m3,w4,w3,s4,s3,hcl,hkk,hwk,Nat.zero_add,List.length_cons,List.length_nil,hS1,hS2,hT1,hT2];rfl;kernel_rfl))
               refine lp_n (k+1) ?_ (by omega) (by omega)
               (simp+decide only[go_sem,gcD_eq,gcIds_eq,hgc,hS1,hS2,hT1,hT2]<;>rfl)
              ·have m2:(k:Int).tmod 2=1:=by rw[show(2:Int)=((2:Nat):Int)from rfl,tmodN,show k%2=1 by omega];rfl
               have hca:cellAt v k=l3 (c.toNat%3):=by unfold cellAt;rw[if_neg hev,hrc]
               rw[hca]at hgc
               (repeat first|simp only[ww]|(apply xa;simp+decide only[go_sem,k1,c5,c6,hmk,hil,hc,m2,m4,m3,w4,w3,s4,s3,hcl,hkk,hwk,Nat.zero_add,List.length_cons,List.length_nil,hS1,hS2,hT1,hT2];rfl;kernel_rfl))
               refine lp_n (k+1) ?_ (by omega) (by omega)
               (simp+decide only[go_sem,gcD_eq,gcIds_eq,hgc,hS1,hS2,hT1,hT2]<;>rfl)
            ·have hkn2:k=i:=by omega
             rw[hkn2];have k1:¬(i:Int)<i:=by omega
             (repeat first|simp only[ww]|(apply xa;simp+decide only[go_sem,k1,hd1,hd2,u1,u7,hw,List.length_map,hS1,hS2,hT1,hT2];rfl;kernel_rfl))
             refine lp_n (0+1) ?_ (by omega) ⟨by omega,by omega⟩
             (simp+decide only[go_sem,gcD_eq,gcIds_eq,hsr,grV_cons,grH_cons,List.length_nil,hS1,hS2,hT1,hT2]<;>rfl)
          ·have hlen:((goVs i j Y q).map Vc.enc).length=q:=by rw[List.length_map,goVs_len i j Y q hq]
           have hne:(goVs i j Y q).map Vc.enc≠[]:=by intro e;rw[e]at hlen;simp at hlen;omega
           have h5:=refs_flatR (vcE_flat (goVs i j Y (q+1)));have h6:=λπ=>renR_flat π (vcE_flat (goVs i j Y (q+1)));have h7:=refs_flatR (vcE_flat (goVs i j Y q));have h8:=λπ=>renR_flat π (vcE_flat (goVs i j Y q));have hrm:q+1≤1000000000:=by omega
           rw[grV_ne 5 hne,grH_ne 3 hne,hlen];rw[hsr]at h5 h6;generalize(goVs i j Y q).map Vc.enc=R at hsr hlen h5 h6 h7 h8 hne⊢
           (repeat first|simp only[ww]|(apply xa;simp+decide only[go_sem,n1,n2,hjp,hly,hsm,b43,List.length_map,hS1,hS2,hT1,hT2];rfl;kernel_rfl))
           refine xp_loop3 (σ:=Nat) kp9_6 (λk=>[(1,.ptr 0 0 0),(2,.ptr 1 0 0),(3,.ptr 2 0 0),(11,.int .i64 (q:Nat)),(12,.ptr 6 0 0),(13,.str (goC v k)),(14,.int .i64 (k:Nat))]) (λk=>[some (.row 3 [[sl r0 (N.map stR),sl r1 (X.map Tm.enc),sl r2 (Y.map Vc.enc)]]),some (.row 3 [[.nilslice,.nilslice,.nilslice]]),some (.row 3 [[.slice 3 0 i none,.slice 4 0 j none,.slice 5 0 q none]]),some (.row 2 SR),some (.row 6 TR),some (.row 3 R),some (.row 3 [Vc.enc v])]) (λk=>i-k) (λk=>k≤i) 0 ?_ (Nat.zero_le _) ?_
           ·have e0:goC v 0=[]:=rfl
            (simp+decide only[go_sem,gcD_eq,gcIds_eq,e0,hS1,hS2,hT1,hT2,h7,h8]<;>rfl)
           ·intro k hkn;by_cases hlk:k<i
            ·have k1:(k:Int)<i:=by omega
             have hwk:IntKind.i64.wrap ((k:Int)+1)=((k+1:Nat):Int):=by rw[w64 (by omega) (by omega)];omega
             have hcl:=goC_len v k;have hkk:k+1≤4611686018427387904:=by omega
             have hgc:=goC_s v k;by_cases hce:v.cells=[]
             ·have c5:¬(0:Int)<v.cells.length:=by rw[hce];decide
              have hrc:rawC v k=0:=if_pos hce;have q0:IntKind.u8.wrap (0+1)=1:=by decide
              have e04:(0:Int).tmod 4=0:=rfl;have e03:(0:Int).tmod 3=0:=rfl;have s4:∀h,aslice L.env h 9 (.str [48,49,88,80]) (some (.int .u8 0)) (some (.int .u8 1)) none=some (.str [l4 0]):=λh=>by kernel_rfl
              have s3:∀h,aslice L.env h 9 (.str [76,72,88]) (some (.int .u8 0)) (some (.int .u8 1)) none=some (.str [l3 0]):=λh=>by kernel_rfl
              generalize goC v k=G at hcl hgc⊢;by_cases hev:k%2=0
              ·have m2:(k:Int).tmod 2=0:=by rw[show(2:Int)=((2:Nat):Int)from rfl,tmodN,hev];rfl
               have hca:cellAt v k=l4 0:=by unfold cellAt;rw[if_pos hev,hrc]
               rw[hca]at hgc
               (repeat first|simp only[ww]|(apply xa;simp+decide only[go_sem,k1,c5,m2,q0,e04,e03,s4,s3,hcl,hkk,hwk,Nat.zero_add,List.length_cons,List.length_nil,hS1,hS2,hT1,hT2,h7,h8];rfl;kernel_rfl))
               refine lp_n (k+1) ?_ (by omega) (by omega)
               (simp+decide only[go_sem,gcD_eq,gcIds_eq,hgc,hS1,hS2,hT1,hT2,h7,h8]<;>rfl)
              ·have m2:(k:Int).tmod 2=1:=by rw[show(2:Int)=((2:Nat):Int)from rfl,tmodN,show k%2=1 by omega];rfl
               have hca:cellAt v k=l3 0:=by unfold cellAt;rw[if_neg hev,hrc]
               rw[hca]at hgc
               (repeat first|simp only[ww]|(apply xa;simp+decide only[go_sem,k1,c5,m2,q0,e04,e03,s4,s3,hcl,hkk,hwk,Nat.zero_add,List.length_cons,List.length_nil,hS1,hS2,hT1,hT2,h7,h8];rfl;kernel_rfl))
               refine lp_n (k+1) ?_ (by omega) (by omega)
               (simp+decide only[go_sem,gcD_eq,gcIds_eq,hgc,hS1,hS2,hT1,hT2,h7,h8]<;>rfl)
             ·have hcp:0<v.cells.length:=List.length_pos_iff.2 hce;have c5:(0:Int)<v.cells.length:=by omega
              have c6:¬(v.cells.length:Int)=0:=by omega
              have hil:k%v.cells.length<v.cells.length:=Nat.mod_lt _ hcp;obtain⟨c,hc⟩:∃c,v.cells[k%v.cells.length]?=some c:=⟨_,List.getElem?_eq_getElem hil⟩
              have hrc:rawC v k=c.toNat:=by unfold rawC;rw[if_neg hce,hc];rfl
              have hmk:=tmodN k v.cells.length;have m4:(c.toNat:Int).tmod 4=((c.toNat%4:Nat):Int):=tmodN _ 4;have m3:(c.toNat:Int).tmod 3=((c.toNat%3:Nat):Int):=tmodN _ 3;have w4:=u8s (c.toNat%4) (by omega);have w3:=u8s (c.toNat%3) (by omega);have s4:=λh=>let4 h (c.toNat%4) (by omega);have s3:=λh=>let3 h (c.toNat%3) (by omega);generalize goC v k=G at hcl hgc⊢;by_cases hev:k%2=0
              ·have m2:(k:Int).tmod 2=0:=by rw[show(2:Int)=((2:Nat):Int)from rfl,tmodN,hev];rfl
               have hca:cellAt v k=l4 (c.toNat%4):=by unfold cellAt;rw[if_pos hev,hrc]
               rw[hca]at hgc
               (repeat first|simp only[ww]|(apply xa;simp+decide only[go_sem,k1,c5,c6,hmk,hil,hc,m2,m4,m3,w4,w3,s4,s3,hcl,hkk,hwk,Nat.zero_add,List.length_cons,List.length_nil,hS1,hS2,hT1,hT2,h7,h8];rfl;kernel_rfl))
               refine lp_n (k+1) ?_ (by omega) (by omega)
               (simp+decide only[go_sem,gcD_eq,gcIds_eq,hgc,hS1,hS2,hT1,hT2,h7,h8]<;>rfl)
              ·have m2:(k:Int).tmod 2=1:=by rw[show(2:Int)=((2:Nat):Int)from rfl,tmodN,show k%2=1 by omega];rfl
               have hca:cellAt v k=l3 (c.toNat%3):=by unfold cellAt;rw[if_neg hev,hrc]
               rw[hca]at hgc
               (repeat first|simp only[ww]|(apply xa;simp+decide only[go_sem,k1,c5,c6,hmk,hil,hc,m2,m4,m3,w4,w3,s4,s3,hcl,hkk,hwk,Nat.zero_add,List.length_cons,List.length_nil,hS1,hS2,hT1,hT2,h7,h8];rfl;kernel_rfl))
               refine lp_n (k+1) ?_ (by omega) (by omega)
               (simp+decide only[go_sem,gcD_eq,gcIds_eq,hgc,hS1,hS2,hT1,hT2,h7,h8]<;>rfl)
            ·have hkn2:k=i:=by omega
             rw[hkn2];have k1:¬(i:Int)<i:=by omega
             (repeat first|simp only[ww]|(apply xa;simp+decide only[go_sem,k1,hd1,hd2,u1,u7,hw,hlen,hrm,List.length_map,hS1,hS2,hT1,hT2,h7,h8];rfl;kernel_rfl))
             refine lp_n (q+1) ?_ (by omega) ⟨by omega,by omega⟩
             (simp+decide only[go_sem,gcD_eq,gcIds_eq,hsr,grV_snoc,grH_snoc,hlen,h5,h6,hS1,hS2,hT1,hT2]<;>rfl)
         ·have n2:¬(q:Int)<12:=by omega
          have hnV:q=min Y.length 12:=by omega
          rw[←hnV];by_cases hk:q=0
          ·have e1:(goVs i j Y q).map Vc.enc=[]:=by rw[hk];rfl
           rw[e1];simp only[grV_nil,grH_nil]
           (repeat first|simp only[ww]|(apply xa;simp+decide only[go_sem,n1,n2,hjp,List.length_map,hS1,hS2,hT1,hT2];rfl;kernel_rfl))
           (apply fqEb;(·simp+decide only[go_sem,sl_none_nil,hS3,hlS,hS4,hT3,hlT,hT4,hS1,hS2,hT1,hT2]<;>rfl))
           rfl
          ·have hlen:((goVs i j Y q).map Vc.enc).length=q:=by rw[List.length_map,goVs_len i j Y q hq]
           have hne:(goVs i j Y q).map Vc.enc≠[]:=by intro e;rw[e]at hlen;simp at hlen;omega
           have h9:=λq' d=>frzR_flat q' d (vcE_flat (goVs i j Y q));have h7:=refs_flatR (vcE_flat (goVs i j Y q));have h8:=λπ=>renR_flat π (vcE_flat (goVs i j Y q));rw[sl_none_ne hne,grV_ne 5 hne,grH_ne 3 hne,hlen];generalize(goVs i j Y q).map Vc.enc=R at hlen h7 h8 h9 hne⊢;have h10:R.take q=R:=List.take_of_length_le (by omega)
           (repeat first|simp only[ww]|(apply xa;simp+decide only[go_sem,n1,n2,hjp,List.length_map,h7,h8,hS1,hS2,hT1,hT2];rfl;kernel_rfl))
           (apply fqEb;(·simp+decide only[go_sem,sl_none_nil,hS3,hlS,hS4,hT3,hlT,hT4,h7,h8,h9,hlen,h10,hS1,hS2,hT1,hT2]<;>rfl))
           rfl
        ·have n1:¬(q:Int)<Y.length:=by omega
         have hnV:q=min Y.length 12:=by omega
         rw[←hnV];by_cases hk:q=0
         ·have e1:(goVs i j Y q).map Vc.enc=[]:=by rw[hk];rfl
          rw[e1];simp only[grV_nil,grH_nil]
          (repeat first|simp only[ww]|(apply xa;simp+decide only[go_sem,n1,List.length_map,hS1,hS2,hT1,hT2];rfl;kernel_rfl))
          (apply fqEb;(·simp+decide only[go_sem,sl_none_nil,hS3,hlS,hS4,hT3,hlT,hT4,hS1,hS2,hT1,hT2]<;>rfl))
          rfl
         ·have hlen:((goVs i j Y q).map Vc.enc).length=q:=by rw[List.length_map,goVs_len i j Y q hq]
          have hne:(goVs i j Y q).map Vc.enc≠[]:=by intro e;rw[e]at hlen;simp at hlen;omega
          have h9:=λq' d=>frzR_flat q' d (vcE_flat (goVs i j Y q));have h7:=refs_flatR (vcE_flat (goVs i j Y q));have h8:=λπ=>renR_flat π (vcE_flat (goVs i j Y q));rw[sl_none_ne hne,grV_ne 5 hne,grH_ne 3 hne,hlen];generalize(goVs i j Y q).map Vc.enc=R at hlen h7 h8 h9 hne⊢;have h10:R.take q=R:=List.take_of_length_le (by omega)
          (repeat first|simp only[ww]|(apply xa;simp+decide only[go_sem,n1,List.length_map,h7,h8,hS1,hS2,hT1,hT2];rfl;kernel_rfl))
          (apply fqEb;(·simp+decide only[go_sem,sl_none_nil,hS3,hlS,hS4,hT3,hlT,hT4,h7,h8,h9,hlen,h10,hS1,hS2,hT1,hT2]<;>rfl))
          rfl
end Go.RInst
namespace Go.RInst
open Go.Proofs Go.Ax Go.Pc
variable [PR]
set_option maxRecDepth 100000
theorem goS_ok:∀i:Nat,i<8→sgOk (goS i)=true:=by decide
theorem goSs_nd:∀n:Nat,n<9→((goSs n).map Sg.name).Nodup:=by decide
theorem tnm_ok:∀i:Nat,i<3→nameB [116,(48+i).toUInt8]=true:=by decide
theorem tnm_nd:∀n:Nat,n<4→((List.range n).map λi=>([116,(48+i).toUInt8]:List UInt8)).Nodup:=by decide
theorem goTs_nm(X:List Tm):∀j,j≤X.length→(goTs X j).map Tm.name=(List.range j).map λi=>([116,(48+i).toUInt8]:List UInt8)
 |0,_=>rfl
 |j+1,h=>by
  obtain⟨t,ht⟩:∃t,X[j]?=some t:=⟨_,List.getElem?_eq_getElem (by omega)⟩
  rw[goTs_s ht,List.map_append,goTs_nm X j (by omega),List.range_succ,List.map_append];rfl
theorem goT_ok(i:Nat)(hi:i<3)(t:Tm):tmOk (goT i t)=true:=by
 have a1:=ia15 t.dr;have a2:=ia15 t.ri;have a3:=ia15 t.fa;have a4:=ia15 t.per;have a5:=ia63 t.st;unfold goT;generalize iand .i64 t.dr 15=x1 at a1⊢;generalize iand .i64 t.ri 15=x2 at a2⊢;generalize iand .i64 t.fa 15=x3 at a3⊢;generalize iand .i64 t.per 15=x4 at a4⊢;generalize iand .i64 t.st 63=x5 at a5⊢;obtain⟨p,hp⟩:∃p,x1+1+x2+1+x3+1+x4=p:=⟨_,rfl⟩
 have hm:0≤x5.tmod p∧x5.tmod p<p:=by rw[Int.tmod_eq_emod_of_nonneg a5.1];exact⟨Int.emod_nonneg _ (by omega),Int.emod_lt_of_pos _ (by omega)⟩
 simp only[tmOk,tnm_ok i hi,Bool.true_and,Bool.and_eq_true,decide_eq_true_eq,hp];refine⟨by omega,by omega,by omega,by omega,by omega,by omega,hm.1,hm.2⟩
theorem goTs_all(X:List Tm):∀j,j≤X.length→j≤3→∀t∈goTs X j,tmOk t=true
 |0,_,_=>λt h=>by simp[goTs]at h
 |j+1,h,h3=>by
  obtain⟨t,ht⟩:∃t,X[j]?=some t:=⟨_,List.getElem?_eq_getElem (by omega)⟩
  rw[goTs_s ht];intro u hu;rcases List.mem_append.1 hu with hu|hu
  ·exact goTs_all X j (by omega) (by omega) u hu
  ·rw[List.mem_singleton.1 hu];exact goT_ok j (by omega) t
theorem l4_ok:∀c:Nat,c<4→(letters 0).contains (l4 c)=true:=by decide
theorem l3_ok:∀c:Nat,c<3→(letters 1).contains (l3 c)=true:=by decide
theorem cellAt_ok(v:Vc)(k:Nat):(letters (k%2)).contains (cellAt v k)=true:=by
 unfold cellAt;by_cases h:k%2=0
 ·rw[if_pos h,h];exact l4_ok _ (Nat.mod_lt _ (by decide))
 ·rw[if_neg h,show k%2=1 by omega];exact l3_ok _ (Nat.mod_lt _ (by decide))
theorem goC_ok(v:Vc)(n:Nat):cellsOk (goSs n) (goC v n)=true:=by
 refine cells_true _ _ (by rw[goSs_len,goC_len]) ?_;intro i s c h1 h2;simp only[goSs,goC,List.getElem?_map]at h1 h2;cases hr:(List.range n)[i]? with
 |none=>rw[hr]at h1;cases h1
 |some j=>rw[hr]at h1 h2;cases h1;cases h2;exact cellAt_ok v j
theorem goV_ok(n m:Nat)(hm:0<m)(v:Vc):vcOk (goV n m v) (goSs n) m=true∧(goV n m v).rep≤4∧0≤(goV n m v).rep:=by
 have a1:=ia7 v.t;have a2:=ia3 v.rep;unfold goV;generalize iand .i64 v.t 7=x1 at a1⊢;generalize iand .i64 v.rep 3=x2 at a2⊢;have hm1:0≤x1.tmod m∧x1.tmod m<m:=by rw[Int.tmod_eq_emod_of_nonneg a1.1];exact⟨Int.emod_nonneg _ (by omega),Int.emod_lt_of_pos _ (by omega)⟩
 refine⟨?_,by simp only;omega,by simp only;omega⟩;simp only[vcOk,goC_ok,Bool.and_true,Bool.and_eq_true,decide_eq_true_eq];exact⟨hm1.1,hm1.2,by omega,by omega⟩
theorem repSum_4:∀(V:List Vc),(∀v∈V,v.rep≤4)→repSum V≤4*V.length
 | [],_=>by simp[repSum]
 |v::V,h=>by have h1:=repSum_4 V λx hx=>h x (by simp[hx]);have h2:=h v (by simp);unfold repSum at h1⊢;rw[List.map_cons,List.sum_cons,List.length_cons];omega
theorem good_valid(n:Nat)(hn:n≤8)(X:List Tm)(Y:List Vc):Valid (goSs n) (goTs X (min X.length 3)) (if X=[]then[]else goVs n (min X.length 3) Y (min Y.length 12)):=by
 have hlS:=goSs_len n;have hlT:=goTs_len X (min X.length 3) (by omega);have hV:∀v∈(if X=[]then[]else goVs n (min X.length 3) Y (min Y.length 12)),vcOk v (goSs n) (goTs X (min X.length 3)).length=true∧v.rep≤4∧0≤v.rep:=by
  intro v hv;by_cases hX:X=[]
  ·rw[if_pos hX]at hv;cases hv
  ·rw[if_neg hX]at hv;have hp:=List.length_pos_iff.2 hX;simp only[goVs,List.mem_map]at hv;obtain⟨u,_,rfl⟩:=hv;rw[hlT];exact goV_ok n (min X.length 3) (by omega) u
 have hVl:(if X=[]then[]else goVs n (min X.length 3) Y (min Y.length 12)).length≤12:=by
  split
  ·simp
  ·rw[goVs_len _ _ _ _ (by omega)];omega
 have h4:=repSum_4 _ λv hv=>(hV v hv).2.1;refine⟨by omega,by omega,by omega,?_,goTs_all X _ (by omega) (by omega),λv hv=>(hV v hv).1,goSs_nd n (by omega),?_,by omega⟩
 ·intro s hs;simp only[goSs,List.mem_map,List.mem_range]at hs;obtain⟨i,hi,rfl⟩:=hs;exact goS_ok i (by omega)
 ·rw[goTs_nm X _ (by omega)];exact tnm_nd _ (by omega)
end Go.RInst
namespace Go.RInst
open Go.Proofs Go.Ax Go.Pc
variable [PR]
set_option maxRecDepth 100000
theorem flatV_at(V:List Vc){k:Nat}{v:Vc}(h:V[k]?=some v)(m:Nat)(hm:m<v.rep.toNat):(flatV V)[(flatV (V.take k)).length+m]?=some ⟨v.t,v.cells,1⟩:=by
 have e:flatV V=flatV (V.take (k+1))++flatV (V.drop (k+1)):=by rw[←flatV_app,List.take_append_drop]
 rw[e,flatV_s V h,List.append_assoc,List.getElem?_append_right (by omega),Nat.add_sub_cancel_left,List.getElem?_append_left (by simpa using hm)];simp[hm]
theorem vneq0(a a' c c':Int)(b b':List UInt8)(z:Bool):abin L.env .neq 43 (.agg [.int .i64 a,.str b,.int .i64 c]) (.agg [.int .i64 a',.str b',.int .i64 c']) z=some (.bool (!((a==a')&&((b==b')&&((c==c')&&true))))):=by kernel_rfl
theorem vneq(a c:Int)(b:List UInt8)(z:Bool):abin L.env .neq 43 (.agg [.int .i64 a,.str b,.int .i64 c]) (.agg [.int .i64 a,.str b,.int .i64 c]) z=some (.bool false):=by rw[vneq0];simp
section
variable (hso:PR.pr [.str soT]=some (soV,[]))(xs:List AV)(hxr:refsL xs=[])(hxs:xs.all AV.storable=true)(hxl:xs.length=3)(S:List Sg)(T:List Tm)(V:List Vc)(h:Valid S T V)
 (hgood:∀d H,callV L.env d (sem L.env Mf) (.func (.func 9) [] []) [.agg xs] H=some (.agg [sl none (S.map Sg.enc),sl none (T.map Tm.enc),sl none (V.map Vc.enc)],H,[]))
include hso hxr hxs hxl h hgood
set_option maxHeartbeats 4000000 in
theorem pack_law0:sem L.env Mf 7 [.agg xs] []=some (.bool true,[]):=by
 have hnn:∀v∈V,0≤v.rep:=λv hv=>by have:=(h.rep v hv).1;omega
 have hpos:∀v∈V,0<v.rep:=λv hv=>by have:=(h.rep v hv).1;omega
 have hI:=pkI V hpos;have hq:=pk_valid h;have hqq:=pk_pk (pk V) hI.ne;have hfl:=flatV_len V hnn;have hsum:=h.sum;have hV:=h.hV;have hS:=h.hS;have hT:=h.hT;have hqV:=hq.hV;have hnn0:=repSum_nn V hnn;obtain⟨r,⟨qa,qb,qc,rfl⟩,hpk⟩:=pack_ok none none none S T V h;obtain⟨r,⟨ra,rb,rc,rfl⟩,hpq⟩:=pack_ok qa qb qc S T (pk V) hq;rw[hqq]at hpq;have hcy:=λd H=>cycles_call (d:=d) H none none none S T V h;have hft:=λd H=>flat_call (d:=d) H none none none S T V h (repSum V) (Int.le_refl _);have hfq:=λd H=>flat_call (d:=d) H qa qb qc S T (pk V) hq (repSum V) (by rw[hI.rs];exact Int.le_refl _);have hfm:=λd H=>flatl_call (d:=d) H none none none S T V h (repSum V-1) (by omega);have hp1:=λd H=>callV_flat (E:=L.env) (draw:=d) (call:=sem L.env Mf) (g:=26) (fs:=[]) (cs:=[]) (ar:=[.agg [sl none (S.map Sg.enc),sl none (T.map Tm.enc),sl none (V.map Vc.enc)]]) (H:=H) (by kernel_rfl) (by kernel_rfl) rfl (by simp+decide only[go_sem]<;>rfl) hpk (by simp+decide only[go_sem]);have hp2:=λd H=>callV_flat (E:=L.env) (draw:=d) (call:=sem L.env Mf) (g:=26) (fs:=[]) (cs:=[]) (ar:=[.agg [sl qa (S.map Sg.enc),sl qb (T.map Tm.enc),sl qc ((pk V).map Vc.enc)]]) (H:=H) (by kernel_rfl) (by kernel_rfl) rfl (by simp+decide only[go_sem]<;>rfl) hpq (by simp+decide only[go_sem]);have hsame:=λd H=>callV_flat (E:=L.env) (draw:=d) (call:=sem L.env Mf) (g:=20) (fs:=[]) (cs:=[]) (ar:=[.agg [sl qa (S.map Sg.enc),sl qb (T.map Tm.enc),sl qc ((pk V).map Vc.enc)],.agg [sl ra (S.map Sg.enc),sl rb (T.map Tm.enc),sl rc ((pk V).map Vc.enc)]]) (H:=H) (by kernel_rfl) (by kernel_rfl) rfl (by simp+decide only[go_sem]<;>rfl) (same_ok qa ra qb rb qc rc S T (pk V) (by omega) (by omega) (by omega)) rfl;rw[hI.fl]at hfq;have hlv:=λd H=>lives_call hso (d:=d) H;have hwn:IntKind.i64.wrap (repSum V-1)=repSum V-1:=w64 (by omega) (by omega);obtain⟨x1,x2,x3,rfl⟩:∃a b c,xs=[a,b,c]:=by
  match xs,hxl with
  | [a,b,c],_=>exact⟨a,b,c,rfl⟩
 simp only[List.all_cons,List.all_nil,Bool.and_true,Bool.and_eq_true]at hxs;obtain⟨s1,s2,s3⟩:=hxs;have hat:=λk v (hk:V[k]?=some v) m hm=>flatV_at V hk m hm;have hfk:=λk v (hk:V[k]?=some v)=>flatV_s V hk;have hft0:(flatV (V.take 0)).length=0:=rfl;have hftl:(flatV (V.take V.length)).length=(flatV V).length:=by rw[List.take_length]
 have hWb:(flatV V).length≤1000000:=by omega
 have hne:=hI.ne;generalize hWW:flatV V=W at *;rw[←hfl]at hcy hft hfq hfm hwn;generalize hQQ:pk V=Q at *;have hat0:∀k v,V[k]?=some v→∀m:Nat,m<v.rep.toNat→(W.map Vc.enc)[(flatV (V.take k)).length+m]?=some [.int .i64 v.t,.str v.cells,.int .i64 1]:=by intro k v hk m hm;rw[List.getElem?_map,hat k v hk m hm];rfl
 (refine sv Tryz.f7 ?_;simp only[Tryz.f7,gS])
 (repeat first|simp only[ww]|(apply xa;simp+decide only[go_sem,hgood,hcy,hft,hfq,hfm,hp1,hp2,hsame,hwn,s1,s2,s3,List.length_map];rfl;kernel_rfl))
 refine xp_loop3 (σ:=Nat) kp7_0 (λk=>[(3,.ptr 0 0 0),(4,.int .i64 W.length),(6,.islice (W.map Vc.enc) (some W.length)),(8,.ptr 1 0 0),(10,.islice (W.map Vc.enc) (some W.length)),(16,.int .i64 (flatV (V.take k)).length),(17,.int .i64 (k:Nat))]) (λk=>[some (.row 3 [[sl none (S.map Sg.enc),sl none (T.map Tm.enc),sl none (V.map Vc.enc)]]),some (.row 3 [[sl qa (S.map Sg.enc),sl qb (T.map Tm.enc),sl qc (Q.map Vc.enc)]])]) (λk=>V.length-k) (λk=>k≤V.length) 0 ?_ (Nat.zero_le _) ?_
 ·(simp+decide only[go_sem,gcD_eq,gcIds_eq,hft0]<;>rfl)
 ·intro k hk;by_cases hlt:k<V.length
  ·have l1:(k:Int)<V.length:=by omega
   obtain⟨v,hs⟩:∃v,V[k]?=some v:=⟨_,List.getElem?_eq_getElem hlt⟩
   have hsm:(V.map Vc.enc)[k]?=some (Vc.enc v):=by rw[List.getElem?_map,hs];rfl
   have hw:IntKind.i64.wrap ((k:Int)+1)=((k+1:Nat):Int):=by rw[w64 (by omega) (by omega)];omega
   have hrp:=h.rep v (List.mem_of_getElem? hs);obtain⟨r,hr⟩:∃r:Nat,v.rep=r:=⟨v.rep.toNat,by omega⟩
   have hrt:v.rep.toNat=r:=by omega
   have ha:=hat0 k v hs;have hal:=λm hm=>(List.getElem?_eq_some_iff.1 (hat k v hs m hm)).1;rw[hrt]at ha hal;have hfs:=congrArg List.length (hfk k v hs);rw[hrt,List.length_append,List.length_replicate]at hfs;generalize hB:(flatV (V.take k)).length=B at *
   (repeat first|simp only[ww]|(apply xa;simp+decide only[go_sem,l1,hlt,hsm,List.length_map];rfl;kernel_rfl))
   refine xp_loop3 (σ:=Nat) kp7_2 (λm=>[(3,.ptr 0 0 0),(4,.int .i64 W.length),(6,.islice (W.map Vc.enc) (some W.length)),(8,.ptr 1 0 0),(10,.islice (W.map Vc.enc) (some W.length)),(16,.int .i64 ((B+m:Nat):Int)),(17,.int .i64 (k:Nat)),(18,.int .i64 (m:Nat))]) (λ_=>[some (.row 3 [[sl none (S.map Sg.enc),sl none (T.map Tm.enc),sl none (V.map Vc.enc)]]),some (.row 3 [[sl qa (S.map Sg.enc),sl qb (T.map Tm.enc),sl qc (Q.map Vc.enc)]])]) (λm=>r-m) (λm=>m≤r) 0 ?_ (Nat.zero_le _) ?_
   ·(simp+decide only[go_sem,gcD_eq,gcIds_eq,Nat.add_zero]<;>rfl)
   ·intro m hm;by_cases hmt:m<r
    ·have l2:(m:Int)<r:=by omega
     have a1:=ha m hmt;have a2:=hal m hmt;have l3:¬(W.length:Int)≤((B+m:Nat):Int):=by omega
     have hw2:IntKind.i64.wrap ((m:Int)+1)=((m+1:Nat):Int):=by rw[w64 (by omega) (by omega)];omega
     have hw3:IntKind.i64.wrap (((B+m:Nat):Int)+1)=((B+(m+1):Nat):Int):=by rw[w64 (by omega) (by omega)];omega
     (repeat first|simp only[ww]|(apply xa;simp+decide only[go_sem,l1,hlt,hsm,l2,hr,l3,a1,a2,hw2,hw3,vneq,List.length_map];rfl;kernel_rfl))
     refine lp_n (m+1) ?_ (by omega) (by omega)
     (simp+decide only[go_sem,gcD_eq,gcIds_eq]<;>rfl)
    ·obtain rfl:m=r:=by omega
     have l2:¬(m:Int)<m:=by omega
     (repeat first|simp only[ww]|(apply xa;simp+decide only[go_sem,l1,hlt,hsm,l2,hr,hw,List.length_map];rfl;kernel_rfl))
     refine lp_n (k+1) ?_ (by omega) (by omega)
     (simp+decide only[go_sem,gcD_eq,gcIds_eq,hfs]<;>rfl)
  ·obtain rfl:k=V.length:=by omega
   have l1:¬(V.length:Int)<V.length:=by omega
   rw[hftl]
   (repeat first|simp only[ww]|(apply xa;simp+decide only[go_sem,l1,List.length_map];rfl;kernel_rfl))
   refine xp_loop3 (σ:=Nat) kp7_4 (λj=>[(4,.int .i64 W.length),(8,.ptr 0 0 0),(16,.int .i64 W.length),(19,.int .i64 (j:Nat))]) (λ_=>[some (.row 3 [[sl qa (S.map Sg.enc),sl qb (T.map Tm.enc),sl qc (Q.map Vc.enc)]])]) (λj=>Q.length-j) (λj=>1≤j) 1 ?_ (Nat.le_refl _) ?_
   ·(simp+decide only[go_sem,gcD_eq,gcIds_eq]<;>rfl)
   ·intro j hj;by_cases hjt:j<Q.length
    ·have l2:(j:Int)<Q.length:=by omega
     obtain⟨b,hb⟩:∃b,Q[j]?=some b:=⟨_,List.getElem?_eq_getElem hjt⟩
     obtain⟨a,ha⟩:∃a,Q[j-1]?=some a:=⟨_,List.getElem?_eq_getElem (by omega)⟩
     have g1:(Q.map Vc.enc)[j]?=some (Vc.enc b):=by rw[List.getElem?_map,hb];rfl
     have g2:(Q.map Vc.enc)[j-1]?=some (Vc.enc a):=by rw[List.getElem?_map,ha];rfl
     have hn:=hne (j-1) a b ha (by rw[show j-1+1=j by omega];exact hb);have hw4:IntKind.i64.wrap ((j:Int)+1)=((j+1:Nat):Int):=by rw[w64 (by omega) (by omega)];omega
     have hw5:IntKind.i64.wrap ((j:Int)-1)=((j-1:Nat):Int):=by rw[w64 (by omega) (by omega)];omega
     have l6:j-1<Q.length:=by omega
     by_cases ht:a.t=b.t
     ·have hc:¬a.cells=b.cells:=λe=>hn ⟨ht,e⟩;have ht':b.t=a.t:=ht.symm;have hc':¬b.cells=a.cells:=λe=>hc e.symm
      (repeat first|simp only[ww]|(apply xa;simp+decide only[go_sem,l2,hjt,l6,g1,g2,hw4,hw5,ht',hc',List.length_map];rfl;kernel_rfl))
      refine lp_n (j+1) ?_ (by omega) (by omega)
      (simp+decide only[go_sem,gcD_eq,gcIds_eq]<;>rfl)
     ·have ht':¬b.t=a.t:=λe=>ht e.symm
      (repeat first|simp only[ww]|(apply xa;simp+decide only[go_sem,l2,hjt,l6,g1,g2,hw4,hw5,ht',List.length_map];rfl;kernel_rfl))
      refine lp_n (j+1) ?_ (by omega) (by omega)
      (simp+decide only[go_sem,gcD_eq,gcIds_eq]<;>rfl)
    ·have l2:¬(j:Int)<Q.length:=by omega
     (repeat first|simp only[ww]|(apply xa;simp+decide only[go_sem,l2,hlv,List.length_map];rfl;kernel_rfl))
     (apply fqb;simp+decide only[go_sem]<;>rfl)
end
/-- The law. -/
theorem pack_law(hso:PR.pr [.str soT]=some (soV,[]))(r0 r1 r2:Option (Option Nat))(N:List (List UInt8))(X:List Tm)(Y:List Vc)(hN:N.length<9223372036854775808)(hX:X.length<9223372036854775808)(hY:Y.length<9223372036854775808) :
 sem L.env Mf 7 [.agg [sl r0 (N.map stR),sl r1 (X.map Tm.enc),sl r2 (Y.map Vc.enc)]] []=some (.bool true,[]):=by
 obtain⟨r,rfl,hg⟩:=good_ok r0 r1 r2 N X Y hN hX hY;have hv:=good_valid (min N.length 8) (by omega) X Y;have hgood:=λd H=>callV_flat (E:=L.env) (draw:=d) (call:=sem L.env Mf) (g:=9) (fs:=[]) (cs:=[]) (ar:=[.agg [sl r0 (N.map stR),sl r1 (X.map Tm.enc),sl r2 (Y.map Vc.enc)]]) (H:=H) (by kernel_rfl) (by kernel_rfl) rfl (by simp+decide only[go_sem]<;>rfl) hg (by simp+decide only[go_sem]<;>rfl);have hxr:refsL [sl r0 (N.map stR),sl r1 (X.map Tm.enc),sl r2 (Y.map Vc.enc)]=[]:=by simp+decide only[go_sem]
 have hxs:[sl r0 (N.map stR),sl r1 (X.map Tm.enc),sl r2 (Y.map Vc.enc)].all AV.storable=true:=by simp+decide only[go_sem,List.all_cons,List.all_nil]
 exact pack_law0 hso _ hxr hxs rfl _ _ _ hv hgood
end Go.RInst
