/- Part of a proof. No condition. -/
import Derived.Test.YtmbmjfjagololaaGreatDoorRPg
import Derived.Test.YtmbmjfjagololaaGreatDoorPcB
set_option linter.unusedSectionVars false
set_option linter.unusedSimpArgs false
set_option linter.unusedVariables false
namespace Go.RInst
set_option maxHeartbeats 200000000
open Go.Proofs Go.Ax Go.Pc
variable [PR]
set_option maxRecDepth 100000
theorem c18(a:Int)(b:Nat)(hb:b<4294967296):0≤a3s .i64 a b∧a3s .i64 a b≤b:=by
 unfold a3s;have h1:(BitVec.ofInt (IntKind.i64.bits) a&&&BitVec.ofInt (IntKind.i64.bits) (b:Int)).toNat≤b:=by rw[BitVec.toNat_and];refine Nat.le_trans Nat.and_le_right ?_;rw[BitVec.ofInt_natCast,BitVec.toNat_ofNat];exact Nat.mod_le _ _
 rw[w64 (by omega) (by omega)];omega
theorem b9c(a:Int):0≤a3s .i64 a 15∧a3s .i64 a 15≤15:=c18 a 15 (by decide)
theorem d8x(a:Int):0≤a3s .i64 a 63∧a3s .i64 a 63≤63:=c18 a 63 (by decide)
theorem ia7(a:Int):0≤a3s .i64 a 7∧a3s .i64 a 7≤7:=c18 a 7 (by decide)
theorem ia3(a:Int):0≤a3s .i64 a 3∧a3s .i64 a 3≤3:=c18 a 3 (by decide)
def goS(i:Nat):Sg:=⟨[115,(48+i).toUInt8],i%2⟩
def a6t(n:Nat):List Sg:=(List.range n).map goS
theorem d6g(n:Nat):a6t (n+1)=a6t n++[goS n]:=by unfold a6t;rw[List.range_succ,List.map_append];rfl
theorem a9q(n:Nat):(a6t n).length=n:=by simp[a6t]
def goT(i:Nat)(t:Tm):Tm:=⟨[116,(48+i).toUInt8],a3s .i64 t.dr 15+1+a3s .i64 t.ri 15+1+a3s .i64 t.fa 15+1+a3s .i64 t.per 15,a3s .i64 t.dr 15,a3s .i64 t.dr 15+1+a3s .i64 t.ri 15,a3s .i64 t.dr 15+1+a3s .i64 t.ri 15+1+a3s .i64 t.fa 15,(a3s .i64 t.st 63).tmod (a3s .i64 t.dr 15+1+a3s .i64 t.ri 15+1+a3s .i64 t.fa 15+1+a3s .i64 t.per 15)⟩
def a2m(X:List Tm):Nat→List Tm
 |0=>[]
 |j+1=>match X[j]? with
  |some t=>a2m X j++[goT j t]
  |none=>a2m X j
theorem b5l{X:List Tm}{j:Nat}{t:Tm}(h:X[j]?=some t):a2m X (j+1)=a2m X j++[goT j t]:=by simp only[a2m,h]
theorem a45(X:List Tm):∀j,j≤X.length→(a2m X j).length=j
 |0,_=>rfl
 |j+1,h=>by
  obtain⟨t,ht⟩:∃t,X[j]?=some t:=⟨_,z9e (by omega)⟩
  rw[b5l ht,List.length_append,a45 X j (by omega)];rfl
def l4(c:Nat):UInt8:=if c=0 then 48 else if c=1 then 49 else if c=2 then 88 else 80
def l3(c:Nat):UInt8:=if c=0 then 76 else if c=1 then 72 else 88
def b1g(v:Vc)(k:Nat):Nat:=if v.cells=[]then 0 else((v.cells)[k%v.cells.length]?.getD 0).toNat
def a18(v:Vc)(k:Nat):UInt8:=if k%2=0 then l4 (b1g v k%4)else l3 (b1g v k%3)
def goC(v:Vc)(n:Nat):List UInt8:=(List.range n).map (a18 v)
theorem b8k(v:Vc)(n:Nat):goC v (n+1)=goC v n++[a18 v n]:=by unfold goC;rw[List.range_succ,List.map_append];rfl
theorem a6u(v:Vc)(n:Nat):(goC v n).length=n:=by simp[goC]
def goV(n m:Nat)(v:Vc):Vc:=⟨(a3s .i64 v.t 7).tmod m,goC v n,1+a3s .i64 v.rep 3⟩
def a1e(n m:Nat)(Y:List Vc)(q:Nat):List Vc:=(Y.take q).map (goV n m)
theorem b5k{n m:Nat}{Y:List Vc}{q:Nat}{v:Vc}(h:Y[q]?=some v):a1e n m Y (q+1)=a1e n m Y q++[goV n m v]:=by unfold a1e;rw[a59 h,List.map_append];rfl
theorem a28(n m:Nat)(Y:List Vc)(q:Nat)(h:q≤Y.length):(a1e n m Y q).length=q:=by simp[a1e];omega
theorem e4n(h:FHeap):∀i:Nat,i<8→a1v L.env h 9 (.str [48,49,50,51,52,53,54,55]) (some (.int .i64 (i:Nat))) (some (.int .i64 (i+1:Nat))) none=some (.str [(48+i).toUInt8])
 |0,_=>by kernel_rfl
 |1,_=>by kernel_rfl
 |2,_=>by kernel_rfl
 |3,_=>by kernel_rfl
 |4,_=>by kernel_rfl
 |5,_=>by kernel_rfl
 |6,_=>by kernel_rfl
 |7,_=>by kernel_rfl
 |n+8,h=>by omega
theorem e1e(h:FHeap):∀i:Nat,i<3→a1v L.env h 9 (.str [48,49,50]) (some (.int .i64 (i:Nat))) (some (.int .i64 (i+1:Nat))) none=some (.str [(48+i).toUInt8])
 |0,_=>by kernel_rfl
 |1,_=>by kernel_rfl
 |2,_=>by kernel_rfl
 |n+3,h=>by omega
theorem e3t(i:Nat):IntKind.u8.wrap ((i%2:Nat):Int)=((i%2:Nat):Int):=by
 have h:i%2=0∨i%2=1:=by omega
 rcases h with h|h<;>rw[h]<;>decide
theorem c9g(h:FHeap):∀c:Nat,c<4→a1v L.env h 9 (.str [48,49,88,80]) (some (.int .u8 (c:Nat))) (some (.int .u8 (c+1:Nat))) none=some (.str [l4 c])
 |0,_=>by kernel_rfl
 |1,_=>by kernel_rfl
 |2,_=>by kernel_rfl
 |3,_=>by kernel_rfl
 |n+4,h=>by omega
theorem c9h(h:FHeap):∀c:Nat,c<3→a1v L.env h 9 (.str [76,72,88]) (some (.int .u8 (c:Nat))) (some (.int .u8 (c+1:Nat))) none=some (.str [l3 c])
 |0,_=>by kernel_rfl
 |1,_=>by kernel_rfl
 |2,_=>by kernel_rfl
 |n+3,h=>by omega
theorem u8s:∀c:Nat,c<4→IntKind.u8.wrap ((c:Int)+1)=((c+1:Nat):Int)
 |0,_=>by decide
 |1,_=>by decide
 |2,_=>by decide
 |3,_=>by decide
 |n+4,h=>by omega
theorem a21(a b:Nat):(a:Int).tmod b=((a%b:Nat):Int):=by rw[Int.tmod_eq_emod_of_nonneg (by omega)];omega
theorem d1r(r0 r1 r2:Option (Option Nat))(N:List (List UInt8))(X:List Tm)(Y:List Vc)(hN:N.length<9223372036854775808)(hX:X.length<9223372036854775808)(hY:Y.length<9223372036854775808):∃r:AV×a08,(r=(.agg [sl none ((a6t (min N.length 8)).map Sg.enc),sl none ((a2m X (min X.length 3)).map Tm.enc),sl none ((if X=[]then[]else a1e (min N.length 8) (min X.length 3) Y (min Y.length 12)).map Vc.enc)],[]))∧sem L.env Mf 9 [.agg [sl r0 (N.map stR),sl r1 (X.map Tm.enc),sl r2 (Y.map Vc.enc)]] []=some r:=by
 have b29:Nat.beq 29 82=false:=by rfl
 have b41:Nat.beq 41 82=false:=by rfl
 have b43:Nat.beq 43 82=false:=by rfl
 (refine svE Tryz.f9 ?_;simp only[Tryz.f9,gS])
 (repeat first|simp only[ww]|(apply xa;simp+decide only[go_sem,b29];rfl;kernel_rfl))
 refine a0p (σ:=Nat) kp9_0 (λi=>[(1,.ptr 0 0 0),(2,.ptr 1 0 0),(3,.ptr 2 0 0),(4,.int .i64 (i:Nat))]) (λi=>some (.row 3 [[sl r0 (N.map stR),sl r1 (X.map Tm.enc),sl r2 (Y.map Vc.enc)]])::some (.row 3 [[.nilslice,.nilslice,.nilslice]])::some (.row 3 [[grV 3 ((a6t i).map Sg.enc),.nilslice,.nilslice]])::grH 2 ((a6t i).map Sg.enc)) (λi=>8-i) (λi=>i≤N.length∧i≤8) 0 ?_ ⟨Nat.zero_le _,Nat.zero_le _⟩ ?_
 ·have e1:a6t 0=[]:=rfl
  (simp+decide only[go_sem,a09,a05,e1,List.map_nil,a0a,a0c]<;>rfl)
 ·rintro i ⟨hi,hi8⟩
  by_cases hlt:i<N.length
  ·have l1:(i:Int)<N.length:=by omega
   by_cases hl8:i<8
   ·have l2:(i:Int)<8:=by omega
    have hw:IntKind.i64.wrap ((i:Int)+1)=((i+1:Nat):Int):=by rw[w64 (by omega) (by omega)];omega
    by_cases hk:i=0
    ·subst hk;have e1:a6t 0=[]:=rfl;rw[e1]
     (repeat first|simp only[ww]|(apply xa;simp+decide only[go_sem,l1,l2,hw,List.length_map,List.map_nil,a0a,a0c];rfl;kernel_rfl))
     refine a22 (0+1) ?_ (by omega) ⟨by omega,by omega⟩;have e2:(a6t (0+1)).map Sg.enc=[[.str [115,48],.int .u8 0]]:=rfl
     (simp+decide only[go_sem,a09,a05,e2,a1q,a1k,List.length_nil]<;>rfl)
    ·have hlen:((a6t i).map Sg.enc).length=i:=by rw[List.length_map,a9q]
     have hne:(a6t i).map Sg.enc≠[]:=by intro e;rw[e]at hlen;simp at hlen;omega
     have hsr:(a6t (i+1)).map Sg.enc=(a6t i).map Sg.enc++[[.str [115,(48+i).toUInt8],.int .u8 (i%2:Nat)]]:=by rw[d6g,List.map_append];rfl
     have h5:=a01 (a0z (a6t (i+1)));have h6:=λπ=>a02 π (a0z (a6t (i+1)));have hrm:i+1≤1000000000:=by omega
     have hmod:(i:Int).tmod 2=((i%2:Nat):Int):=by rw[Int.tmod_eq_emod_of_nonneg (by omega)];omega
     have hdg:=λh=>e4n h i hl8;have hu:=e3t i;rw[a0k 3 hne,a0n 2 hne,hlen];rw[hsr]at h5 h6;generalize(a6t i).map Sg.enc=R at hsr hlen h5 h6 hne⊢
     (repeat first|simp only[ww]|(apply xa;simp+decide only[go_sem,l1,l2,hw,hlen,hrm,hmod,hdg,hu,List.length_map,List.cons_append,List.nil_append];rfl;kernel_rfl))
     refine a22 (i+1) ?_ (by omega) ⟨by omega,by omega⟩
     (simp+decide only[go_sem,a09,a05,hsr,a2h,a2i,hlen,h5,h6]<;>rfl)
   ·have l2:¬(i:Int)<8:=by omega
    have hnS:i=min N.length 8:=by omega
    rw[←hnS];have hlS:((a6t i).map Sg.enc).length=i:=by rw[List.length_map,a9q]
    have hneS:(a6t i).map Sg.enc≠[]:=by intro e;rw[e]at hlS;simp at hlS;omega
    have hS1:=a01 (a0z (a6t i));have hS2:=λπ=>a02 π (a0z (a6t i));have hS3:=λq d=>a15 q d (a0z (a6t i));rw[a1n hneS,a0k 3 hneS,a0n 2 hneS,hlS];generalize(a6t i).map Sg.enc=SR at hlS hneS hS1 hS2 hS3⊢;have hS4:SR.take i=SR:=List.take_of_length_le (by omega)
    (repeat first|simp only[ww]|(apply xa;simp+decide only[go_sem,l1,l2,List.length_map];rfl;kernel_rfl))
    refine a0p (σ:=Nat) kp9_2 (λj=>[(1,.ptr 0 0 0),(2,.ptr 1 0 0),(3,.ptr 2 0 0),(5,.int .i64 (j:Nat))]) (λj=>some (.row 3 [[sl r0 (N.map stR),sl r1 (X.map Tm.enc),sl r2 (Y.map Vc.enc)]])::some (.row 3 [[.nilslice,.nilslice,.nilslice]])::some (.row 3 [[.slice 3 0 i none,grV 4 ((a2m X j).map Tm.enc),.nilslice]])::some (.row 2 SR)::grH 6 ((a2m X j).map Tm.enc)) (λj=>3-j) (λj=>j≤X.length∧j≤3) 0 ?_ ⟨Nat.zero_le _,Nat.zero_le _⟩ ?_
    ·have e1:a2m X 0=[]:=rfl
     (simp+decide only[go_sem,a09,a05,e1,List.map_nil,a0a,a0c,hS1,hS2]<;>rfl)
    ·rintro j ⟨hj,hj3⟩
     by_cases hlj:j<X.length
     ·have m1:(j:Int)<X.length:=by omega
      by_cases hl3:j<3
      ·have m2:(j:Int)<3:=by omega
       have hw:IntKind.i64.wrap ((j:Int)+1)=((j+1:Nat):Int):=by rw[w64 (by omega) (by omega)];omega
       obtain⟨t,ht⟩:∃t,X[j]?=some t:=⟨_,z9e hlj⟩
       have hsm:(X.map Tm.enc)[j]?=some (Tm.enc t):=by rw[List.getElem?_map,ht];rfl
       have hgs:=b5l ht;have hdg:=λh=>e1e h j hl3;have a1:=b9c t.dr;have a2:=b9c t.ri;have a3:=b9c t.fa;have a4:=b9c t.per;have a5:=d8x t.st;have hgt:Tm.enc (goT j t)=Tm.enc (goT j t):=rfl;unfold goT at hgt;unfold goT at hgs;generalize hd1:a3s .i64 t.dr 15=x1 at a1 hgs;generalize hd2:a3s .i64 t.ri 15=x2 at a2 hgs;generalize hd3:a3s .i64 t.fa 15=x3 at a3 hgs;generalize hd4:a3s .i64 t.per 15=x4 at a4 hgs;generalize hd5:a3s .i64 t.st 63=x5 at a5 hgs;have u1:IntKind.i64.wrap (x1+1)=x1+1:=w64 (by omega) (by omega);have u2:IntKind.i64.wrap (x1+1+x2)=x1+1+x2:=w64 (by omega) (by omega);have u3:IntKind.i64.wrap (x1+1+x2+1)=x1+1+x2+1:=w64 (by omega) (by omega);have u4:IntKind.i64.wrap (x1+1+x2+1+x3)=x1+1+x2+1+x3:=w64 (by omega) (by omega);have u5:IntKind.i64.wrap (x1+1+x2+1+x3+1)=x1+1+x2+1+x3+1:=w64 (by omega) (by omega);have u6:IntKind.i64.wrap (x1+1+x2+1+x3+1+x4)=x1+1+x2+1+x3+1+x4:=w64 (by omega) (by omega);have u7:¬x1+1+x2+1+x3+1+x4=0:=by omega
       have hsr:(a2m X (j+1)).map Tm.enc=(a2m X j).map Tm.enc++[[.str [116,(48+j).toUInt8],.int .i64 (x1+1+x2+1+x3+1+x4),.int .i64 x1,.int .i64 (x1+1+x2),.int .i64 (x1+1+x2+1+x3),.int .i64 (x5.tmod (x1+1+x2+1+x3+1+x4))]]:=by rw[hgs,List.map_append];rfl
       by_cases hk:j=0
       ·subst hk;have e1:(a2m X 0).map Tm.enc=[]:=rfl;rw[e1]at hsr⊢;simp only[List.nil_append]at hsr
        (repeat first|simp only[ww]|(apply xa;simp+decide only[go_sem,m1,m2,hlj,hsm,hw,hdg,hd1,hd2,hd3,hd4,hd5,u1,u2,u3,u4,u5,u6,u7,b41,List.length_map,List.cons_append,List.nil_append,a0a,a0c,hS1,hS2];rfl;kernel_rfl))
        refine a22 (0+1) ?_ (by omega) ⟨by omega,by omega⟩
        (simp+decide only[go_sem,a09,a05,hsr,a1q,a1k,List.length_nil,hS1,hS2]<;>rfl)
       ·have hlen:((a2m X j).map Tm.enc).length=j:=by rw[List.length_map,a45 X j hj]
        have hne:(a2m X j).map Tm.enc≠[]:=by intro e;rw[e]at hlen;simp at hlen;omega
        have h5:=a01 (a0g (a2m X (j+1)));have h6:=λπ=>a02 π (a0g (a2m X (j+1)));have hrm:j+1≤1000000000:=by omega
        rw[a0k 4 hne,a0n 6 hne,hlen];rw[hsr]at h5 h6;generalize(a2m X j).map Tm.enc=R at hsr hlen h5 h6 hne⊢
        (repeat first|simp only[ww]|(apply xa;simp+decide only[go_sem,m1,m2,hlj,hsm,hw,hlen,hrm,hdg,hd1,hd2,hd3,hd4,hd5,u1,u2,u3,u4,u5,u6,u7,b41,List.length_map,List.cons_append,List.nil_append,hS1,hS2];rfl;kernel_rfl))
        refine a22 (j+1) ?_ (by omega) ⟨by omega,by omega⟩
        (simp+decide only[go_sem,a09,a05,hsr,a2h,a2i,hlen,h5,h6,hS1,hS2]<;>rfl)
      ·have m2:¬(j:Int)<3:=by omega
       have hnT:j=min X.length 3:=by omega
       rw[←hnT];have hX0:¬X=[]:=by intro e;rw[e]at hj;simp at hj;omega
       have hlT:((a2m X j).map Tm.enc).length=j:=by rw[List.length_map,a45 X j hj]
       have hneT:(a2m X j).map Tm.enc≠[]:=by intro e;rw[e]at hlT;simp at hlT;omega
       have hT1:=a01 (a0g (a2m X j));have hT2:=λπ=>a02 π (a0g (a2m X j));have hT3:=λq d=>a15 q d (a0g (a2m X j));rw[a1n hneT,a0k 4 hneT,a0n 6 hneT,hlT,if_neg hX0];generalize(a2m X j).map Tm.enc=TR at hlT hneT hT1 hT2 hT3⊢;have hT4:TR.take j=TR:=List.take_of_length_le (by omega)
       (repeat first|simp only[ww]|(apply xa;simp+decide only[go_sem,m1,m2,List.length_map,hS1,hS2];rfl;kernel_rfl))
       have hjp:(0:Int)<j:=by omega
       have hj9:j<1000:=by omega
       refine a0p (σ:=Nat) kp9_4 (λq=>[(1,.ptr 0 0 0),(2,.ptr 1 0 0),(3,.ptr 2 0 0),(11,.int .i64 (q:Nat))]) (λq=>some (.row 3 [[sl r0 (N.map stR),sl r1 (X.map Tm.enc),sl r2 (Y.map Vc.enc)]])::some (.row 3 [[.nilslice,.nilslice,.nilslice]])::some (.row 3 [[.slice 3 0 i none,.slice 4 0 j none,grV 5 ((a1e i j Y q).map Vc.enc)]])::some (.row 2 SR)::some (.row 6 TR)::grH 3 ((a1e i j Y q).map Vc.enc)) (λq=>12-q) (λq=>q≤Y.length∧q≤12) 0 ?_ ⟨Nat.zero_le _,Nat.zero_le _⟩ ?_
       ·have e1:a1e i j Y 0=[]:=rfl
        (simp+decide only[go_sem,a09,a05,e1,List.map_nil,a0a,a0c,hS1,hS2,hT1,hT2]<;>rfl)
       ·rintro q ⟨hq,hq12⟩
        by_cases hly:q<Y.length
        ·have n1:(q:Int)<Y.length:=by omega
         by_cases hl12:q<12
         ·have n2:(q:Int)<12:=by omega
          have hw:IntKind.i64.wrap ((q:Int)+1)=((q+1:Nat):Int):=by rw[w64 (by omega) (by omega)];omega
          obtain⟨v,hv⟩:∃v,Y[q]?=some v:=⟨_,z9e hly⟩
          have hsm:(Y.map Vc.enc)[q]?=some (Vc.enc v):=by rw[List.getElem?_map,hv];rfl
          have hgs:a1e i j Y (q+1)=a1e i j Y q++[goV i j v]:=b5k hv;have a1:=ia7 v.t;have a2:=ia3 v.rep;unfold goV at hgs;generalize hd1:a3s .i64 v.t 7=x1 at a1 hgs;generalize hd2:a3s .i64 v.rep 3=x2 at a2 hgs;have u1:IntKind.i64.wrap (1+x2)=1+x2:=w64 (by omega) (by omega);have u7:¬(j:Int)=0:=by omega
          have hsr:(a1e i j Y (q+1)).map Vc.enc=(a1e i j Y q).map Vc.enc++[[.int .i64 (x1.tmod j),.str (goC v i),.int .i64 (1+x2)]]:=by rw[hgs,List.map_append];rfl
          by_cases hk:q=0
          ·subst hk;have e1:(a1e i j Y 0).map Vc.enc=[]:=rfl;rw[e1]at hsr⊢;simp only[List.nil_append]at hsr;simp only[a0a,a0c]
           (repeat first|simp only[ww]|(apply xa;simp+decide only[go_sem,n1,n2,hjp,hly,hsm,b43,List.length_map,hS1,hS2,hT1,hT2];rfl;kernel_rfl))
           refine a0p (σ:=Nat) kp9_6 (λk=>[(1,.ptr 0 0 0),(2,.ptr 1 0 0),(3,.ptr 2 0 0),(11,.int .i64 (0:Nat)),(12,.ptr 5 0 0),(13,.str (goC v k)),(14,.int .i64 (k:Nat))]) (λk=>[some (.row 3 [[sl r0 (N.map stR),sl r1 (X.map Tm.enc),sl r2 (Y.map Vc.enc)]]),some (.row 3 [[.nilslice,.nilslice,.nilslice]]),some (.row 3 [[.slice 3 0 i none,.slice 4 0 j none,.nilslice]]),some (.row 2 SR),some (.row 6 TR),some (.row 3 [Vc.enc v])]) (λk=>i-k) (λk=>k≤i) 0 ?_ (Nat.zero_le _) ?_
           ·have e0:goC v 0=[]:=rfl
            (simp+decide only[go_sem,a09,a05,e0,hS1,hS2,hT1,hT2]<;>rfl)
           ·intro k hkn;by_cases hlk:k<i
            ·have k1:(k:Int)<i:=by omega
             have hwk:IntKind.i64.wrap ((k:Int)+1)=((k+1:Nat):Int):=by rw[w64 (by omega) (by omega)];omega
             have hcl:=a6u v k;have hkk:k+1≤4611686018427387904:=by omega
             have hgc:=b8k v k;by_cases hce:v.cells=[]
             ·have c5:¬(0:Int)<v.cells.length:=by rw[hce];decide
              have hrc:b1g v k=0:=if_pos hce;have q0:IntKind.u8.wrap (0+1)=1:=by decide
              have e04:(0:Int).tmod 4=0:=rfl;have e03:(0:Int).tmod 3=0:=rfl;have s4:∀h,a1v L.env h 9 (.str [48,49,88,80]) (some (.int .u8 0)) (some (.int .u8 1)) none=some (.str [l4 0]):=λh=>by kernel_rfl
              have s3:∀h,a1v L.env h 9 (.str [76,72,88]) (some (.int .u8 0)) (some (.int .u8 1)) none=some (.str [l3 0]):=λh=>by kernel_rfl
              generalize goC v k=G at hcl hgc⊢;by_cases hev:k%2=0
              ·have m2:(k:Int).tmod 2=0:=by rw[show(2:Int)=((2:Nat):Int)from rfl,a21,hev];rfl
               have hca:a18 v k=l4 0:=by unfold a18;rw[if_pos hev,hrc]
               rw[hca]at hgc
               (repeat first|simp only[ww]|(apply xa;simp+decide only[go_sem,k1,c5,m2,q0,e04,e03,s4,s3,hcl,hkk,hwk,Nat.zero_add,List.length_cons,List.length_nil,hS1,hS2,hT1,hT2];rfl;kernel_rfl))
               refine a22 (k+1) ?_ (by omega) (by omega)
               (simp+decide only[go_sem,a09,a05,hgc,hS1,hS2,hT1,hT2]<;>rfl)
              ·have m2:(k:Int).tmod 2=1:=by rw[show(2:Int)=((2:Nat):Int)from rfl,a21,show k%2=1 by omega];rfl
               have hca:a18 v k=l3 0:=by unfold a18;rw[if_neg hev,hrc]
               rw[hca]at hgc
               (repeat first|simp only[ww]|(apply xa;simp+decide only[go_sem,k1,c5,m2,q0,e04,e03,s4,s3,hcl,hkk,hwk,Nat.zero_add,List.length_cons,List.length_nil,hS1,hS2,hT1,hT2];rfl;kernel_rfl))
               refine a22 (k+1) ?_ (by omega) (by omega)
               (simp+decide only[go_sem,a09,a05,hgc,hS1,hS2,hT1,hT2]<;>rfl)
             ·have hcp:0<v.cells.length:=List.length_pos_iff.2 hce;have c5:(0:Int)<v.cells.length:=by omega
              have c6:¬(v.cells.length:Int)=0:=by omega
              have hil:k%v.cells.length<v.cells.length:=Nat.mod_lt _ hcp;obtain⟨c,hc⟩:∃c,v.cells[k%v.cells.length]?=some c:=⟨_,z9e hil⟩
              have hrc:b1g v k=c.toNat:=by unfold b1g;rw[if_neg hce,hc];rfl
              have hmk:=a21 k v.cells.length;have m4:(c.toNat:Int).tmod 4=((c.toNat%4:Nat):Int):=a21 _ 4;have m3:(c.toNat:Int).tmod 3=((c.toNat%3:Nat):Int):=a21 _ 3;have w4:=u8s (c.toNat%4) (by omega);have w3:=u8s (c.toNat%3) (by omega);have s4:=λh=>c9g h (c.toNat%4) (by omega);have s3:=λh=>c9h h (c.toNat%3) (by omega);generalize goC v k=G at hcl hgc⊢;by_cases hev:k%2=0
              ·have m2:(k:Int).tmod 2=0:=by rw[show(2:Int)=((2:Nat):Int)from rfl,a21,hev];rfl
               have hca:a18 v k=l4 (c.toNat%4):=by unfold a18;rw[if_pos hev,hrc]
               rw[hca]at hgc
               (repeat first|simp only[ww]|(apply xa;simp+decide only[go_sem,k1,c5,c6,hmk,hil,hc,m2,m4,m3,w4,w3,s4,s3,hcl,hkk,hwk,Nat.zero_add,List.length_cons,List.length_nil,hS1,hS2,hT1,hT2];rfl;kernel_rfl))
               refine a22 (k+1) ?_ (by omega) (by omega)
               (simp+decide only[go_sem,a09,a05,hgc,hS1,hS2,hT1,hT2]<;>rfl)
              ·have m2:(k:Int).tmod 2=1:=by rw[show(2:Int)=((2:Nat):Int)from rfl,a21,show k%2=1 by omega];rfl
               have hca:a18 v k=l3 (c.toNat%3):=by unfold a18;rw[if_neg hev,hrc]
               rw[hca]at hgc
               (repeat first|simp only[ww]|(apply xa;simp+decide only[go_sem,k1,c5,c6,hmk,hil,hc,m2,m4,m3,w4,w3,s4,s3,hcl,hkk,hwk,Nat.zero_add,List.length_cons,List.length_nil,hS1,hS2,hT1,hT2];rfl;kernel_rfl))
               refine a22 (k+1) ?_ (by omega) (by omega)
               (simp+decide only[go_sem,a09,a05,hgc,hS1,hS2,hT1,hT2]<;>rfl)
            ·have hkn2:k=i:=by omega
             rw[hkn2];have k1:¬(i:Int)<i:=by omega
             (repeat first|simp only[ww]|(apply xa;simp+decide only[go_sem,k1,hd1,hd2,u1,u7,hw,List.length_map,hS1,hS2,hT1,hT2];rfl;kernel_rfl))
             refine a22 (0+1) ?_ (by omega) ⟨by omega,by omega⟩
             (simp+decide only[go_sem,a09,a05,hsr,a1q,a1k,List.length_nil,hS1,hS2,hT1,hT2]<;>rfl)
          ·have hlen:((a1e i j Y q).map Vc.enc).length=q:=by rw[List.length_map,a28 i j Y q hq]
           have hne:(a1e i j Y q).map Vc.enc≠[]:=by intro e;rw[e]at hlen;simp at hlen;omega
           have h5:=a01 (a0b (a1e i j Y (q+1)));have h6:=λπ=>a02 π (a0b (a1e i j Y (q+1)));have h7:=a01 (a0b (a1e i j Y q));have h8:=λπ=>a02 π (a0b (a1e i j Y q));have hrm:q+1≤1000000000:=by omega
           rw[a0k 5 hne,a0n 3 hne,hlen];rw[hsr]at h5 h6;generalize(a1e i j Y q).map Vc.enc=R at hsr hlen h5 h6 h7 h8 hne⊢
           (repeat first|simp only[ww]|(apply xa;simp+decide only[go_sem,n1,n2,hjp,hly,hsm,b43,List.length_map,hS1,hS2,hT1,hT2];rfl;kernel_rfl))
           refine a0p (σ:=Nat) kp9_6 (λk=>[(1,.ptr 0 0 0),(2,.ptr 1 0 0),(3,.ptr 2 0 0),(11,.int .i64 (q:Nat)),(12,.ptr 6 0 0),(13,.str (goC v k)),(14,.int .i64 (k:Nat))]) (λk=>[some (.row 3 [[sl r0 (N.map stR),sl r1 (X.map Tm.enc),sl r2 (Y.map Vc.enc)]]),some (.row 3 [[.nilslice,.nilslice,.nilslice]]),some (.row 3 [[.slice 3 0 i none,.slice 4 0 j none,.slice 5 0 q none]]),some (.row 2 SR),some (.row 6 TR),some (.row 3 R),some (.row 3 [Vc.enc v])]) (λk=>i-k) (λk=>k≤i) 0 ?_ (Nat.zero_le _) ?_
           ·have e0:goC v 0=[]:=rfl
            (simp+decide only[go_sem,a09,a05,e0,hS1,hS2,hT1,hT2,h7,h8]<;>rfl)
           ·intro k hkn;by_cases hlk:k<i
            ·have k1:(k:Int)<i:=by omega
             have hwk:IntKind.i64.wrap ((k:Int)+1)=((k+1:Nat):Int):=by rw[w64 (by omega) (by omega)];omega
             have hcl:=a6u v k;have hkk:k+1≤4611686018427387904:=by omega
             have hgc:=b8k v k;by_cases hce:v.cells=[]
             ·have c5:¬(0:Int)<v.cells.length:=by rw[hce];decide
              have hrc:b1g v k=0:=if_pos hce;have q0:IntKind.u8.wrap (0+1)=1:=by decide
              have e04:(0:Int).tmod 4=0:=rfl;have e03:(0:Int).tmod 3=0:=rfl;have s4:∀h,a1v L.env h 9 (.str [48,49,88,80]) (some (.int .u8 0)) (some (.int .u8 1)) none=some (.str [l4 0]):=λh=>by kernel_rfl
              have s3:∀h,a1v L.env h 9 (.str [76,72,88]) (some (.int .u8 0)) (some (.int .u8 1)) none=some (.str [l3 0]):=λh=>by kernel_rfl
              generalize goC v k=G at hcl hgc⊢;by_cases hev:k%2=0
              ·have m2:(k:Int).tmod 2=0:=by rw[show(2:Int)=((2:Nat):Int)from rfl,a21,hev];rfl
               have hca:a18 v k=l4 0:=by unfold a18;rw[if_pos hev,hrc]
               rw[hca]at hgc
               (repeat first|simp only[ww]|(apply xa;simp+decide only[go_sem,k1,c5,m2,q0,e04,e03,s4,s3,hcl,hkk,hwk,Nat.zero_add,List.length_cons,List.length_nil,hS1,hS2,hT1,hT2,h7,h8];rfl;kernel_rfl))
               refine a22 (k+1) ?_ (by omega) (by omega)
               (simp+decide only[go_sem,a09,a05,hgc,hS1,hS2,hT1,hT2,h7,h8]<;>rfl)
              ·have m2:(k:Int).tmod 2=1:=by rw[show(2:Int)=((2:Nat):Int)from rfl,a21,show k%2=1 by omega];rfl
               have hca:a18 v k=l3 0:=by unfold a18;rw[if_neg hev,hrc]
               rw[hca]at hgc
               (repeat first|simp only[ww]|(apply xa;simp+decide only[go_sem,k1,c5,m2,q0,e04,e03,s4,s3,hcl,hkk,hwk,Nat.zero_add,List.length_cons,List.length_nil,hS1,hS2,hT1,hT2,h7,h8];rfl;kernel_rfl))
               refine a22 (k+1) ?_ (by omega) (by omega)
               (simp+decide only[go_sem,a09,a05,hgc,hS1,hS2,hT1,hT2,h7,h8]<;>rfl)
             ·have hcp:0<v.cells.length:=List.length_pos_iff.2 hce;have c5:(0:Int)<v.cells.length:=by omega
              have c6:¬(v.cells.length:Int)=0:=by omega
              have hil:k%v.cells.length<v.cells.length:=Nat.mod_lt _ hcp;obtain⟨c,hc⟩:∃c,v.cells[k%v.cells.length]?=some c:=⟨_,z9e hil⟩
              have hrc:b1g v k=c.toNat:=by unfold b1g;rw[if_neg hce,hc];rfl
              have hmk:=a21 k v.cells.length;have m4:(c.toNat:Int).tmod 4=((c.toNat%4:Nat):Int):=a21 _ 4;have m3:(c.toNat:Int).tmod 3=((c.toNat%3:Nat):Int):=a21 _ 3;have w4:=u8s (c.toNat%4) (by omega);have w3:=u8s (c.toNat%3) (by omega);have s4:=λh=>c9g h (c.toNat%4) (by omega);have s3:=λh=>c9h h (c.toNat%3) (by omega);generalize goC v k=G at hcl hgc⊢;by_cases hev:k%2=0
              ·have m2:(k:Int).tmod 2=0:=by rw[show(2:Int)=((2:Nat):Int)from rfl,a21,hev];rfl
               have hca:a18 v k=l4 (c.toNat%4):=by unfold a18;rw[if_pos hev,hrc]
               rw[hca]at hgc
               (repeat first|simp only[ww]|(apply xa;simp+decide only[go_sem,k1,c5,c6,hmk,hil,hc,m2,m4,m3,w4,w3,s4,s3,hcl,hkk,hwk,Nat.zero_add,List.length_cons,List.length_nil,hS1,hS2,hT1,hT2,h7,h8];rfl;kernel_rfl))
               refine a22 (k+1) ?_ (by omega) (by omega)
               (simp+decide only[go_sem,a09,a05,hgc,hS1,hS2,hT1,hT2,h7,h8]<;>rfl)
              ·have m2:(k:Int).tmod 2=1:=by rw[show(2:Int)=((2:Nat):Int)from rfl,a21,show k%2=1 by omega];rfl
               have hca:a18 v k=l3 (c.toNat%3):=by unfold a18;rw[if_neg hev,hrc]
               rw[hca]at hgc
               (repeat first|simp only[ww]|(apply xa;simp+decide only[go_sem,k1,c5,c6,hmk,hil,hc,m2,m4,m3,w4,w3,s4,s3,hcl,hkk,hwk,Nat.zero_add,List.length_cons,List.length_nil,hS1,hS2,hT1,hT2,h7,h8];rfl;kernel_rfl))
               refine a22 (k+1) ?_ (by omega) (by omega)
               (simp+decide only[go_sem,a09,a05,hgc,hS1,hS2,hT1,hT2,h7,h8]<;>rfl)
            ·have hkn2:k=i:=by omega
             rw[hkn2];have k1:¬(i:Int)<i:=by omega
             (repeat first|simp only[ww]|(apply xa;simp+decide only[go_sem,k1,hd1,hd2,u1,u7,hw,hlen,hrm,List.length_map,hS1,hS2,hT1,hT2,h7,h8];rfl;kernel_rfl))
             refine a22 (q+1) ?_ (by omega) ⟨by omega,by omega⟩
             (simp+decide only[go_sem,a09,a05,hsr,a2h,a2i,hlen,h5,h6,hS1,hS2,hT1,hT2]<;>rfl)
         ·have n2:¬(q:Int)<12:=by omega
          have hnV:q=min Y.length 12:=by omega
          rw[←hnV];by_cases hk:q=0
          ·have e1:(a1e i j Y q).map Vc.enc=[]:=by rw[hk];rfl
           rw[e1];simp only[a0a,a0c]
           (repeat first|simp only[ww]|(apply xa;simp+decide only[go_sem,n1,n2,hjp,List.length_map,hS1,hS2,hT1,hT2];rfl;kernel_rfl))
           (apply a2v;(·simp+decide only[go_sem,a0y,hS3,hlS,hS4,hT3,hlT,hT4,hS1,hS2,hT1,hT2]<;>rfl))
           rfl
          ·have hlen:((a1e i j Y q).map Vc.enc).length=q:=by rw[List.length_map,a28 i j Y q hq]
           have hne:(a1e i j Y q).map Vc.enc≠[]:=by intro e;rw[e]at hlen;simp at hlen;omega
           have h9:=λq' d=>a15 q' d (a0b (a1e i j Y q));have h7:=a01 (a0b (a1e i j Y q));have h8:=λπ=>a02 π (a0b (a1e i j Y q));rw[a1n hne,a0k 5 hne,a0n 3 hne,hlen];generalize(a1e i j Y q).map Vc.enc=R at hlen h7 h8 h9 hne⊢;have h10:R.take q=R:=List.take_of_length_le (by omega)
           (repeat first|simp only[ww]|(apply xa;simp+decide only[go_sem,n1,n2,hjp,List.length_map,h7,h8,hS1,hS2,hT1,hT2];rfl;kernel_rfl))
           (apply a2v;(·simp+decide only[go_sem,a0y,hS3,hlS,hS4,hT3,hlT,hT4,h7,h8,h9,hlen,h10,hS1,hS2,hT1,hT2]<;>rfl))
           rfl
        ·have n1:¬(q:Int)<Y.length:=by omega
         have hnV:q=min Y.length 12:=by omega
         rw[←hnV];by_cases hk:q=0
         ·have e1:(a1e i j Y q).map Vc.enc=[]:=by rw[hk];rfl
          rw[e1];simp only[a0a,a0c]
          (repeat first|simp only[ww]|(apply xa;simp+decide only[go_sem,n1,List.length_map,hS1,hS2,hT1,hT2];rfl;kernel_rfl))
          (apply a2v;(·simp+decide only[go_sem,a0y,hS3,hlS,hS4,hT3,hlT,hT4,hS1,hS2,hT1,hT2]<;>rfl))
          rfl
         ·have hlen:((a1e i j Y q).map Vc.enc).length=q:=by rw[List.length_map,a28 i j Y q hq]
          have hne:(a1e i j Y q).map Vc.enc≠[]:=by intro e;rw[e]at hlen;simp at hlen;omega
          have h9:=λq' d=>a15 q' d (a0b (a1e i j Y q));have h7:=a01 (a0b (a1e i j Y q));have h8:=λπ=>a02 π (a0b (a1e i j Y q));rw[a1n hne,a0k 5 hne,a0n 3 hne,hlen];generalize(a1e i j Y q).map Vc.enc=R at hlen h7 h8 h9 hne⊢;have h10:R.take q=R:=List.take_of_length_le (by omega)
          (repeat first|simp only[ww]|(apply xa;simp+decide only[go_sem,n1,List.length_map,h7,h8,hS1,hS2,hT1,hT2];rfl;kernel_rfl))
          (apply a2v;(·simp+decide only[go_sem,a0y,hS3,hlS,hS4,hT3,hlT,hT4,h7,h8,h9,hlen,h10,hS1,hS2,hT1,hT2]<;>rfl))
          rfl
     ·have m1:¬(j:Int)<X.length:=by omega
      by_cases hzj:j=0
      ·have hnT:j=min X.length 3:=by omega
       rw[←hnT];have eT:(a2m X j).map Tm.enc=[]:=by rw[hzj];rfl
       have hX0:X=[]:=List.eq_nil_of_length_eq_zero (by omega);rw[eT,if_pos hX0];simp only[a0a,a0c,List.map_nil]
       (repeat first|simp only[ww]|(apply xa;simp+decide only[go_sem,m1,List.length_map,hS1,hS2];rfl;kernel_rfl))
       refine c70 kp9_4 (λz F H=>F=[(1,.ptr 0 0 0),(2,.ptr 1 0 0),(3,.ptr 2 0 0),(11,.int .i64 0)]∧H=some (.row 3 [[sl r0 (N.map stR),sl r1 (X.map Tm.enc),sl r2 (Y.map Vc.enc)]])::some (.row 3 [[.nilslice,.nilslice,.nilslice]])::some (.row 3 [[.slice 3 0 i none,.nilslice,.nilslice]])::[some (.row 2 SR)]) 0 ⟨_,_,by(simp+decide only[go_sem,a09,a05,hS1,hS2]<;>rfl),rfl,rfl⟩ ?_
       rintro z F H ⟨rfl,rfl⟩
       have hz9:(0:Int)<12:=by decide
       by_cases hy0:(0:Int)<Y.length
       ·(repeat first|simp only[ww]|(apply xa;simp+decide only[go_sem,hy0,hz9,List.length_map,hS1,hS2];rfl;kernel_rfl))
        (apply a2v;(·simp+decide only[go_sem,a0y,hS3,hlS,hS4,hS1,hS2]<;>rfl))
        rfl
       ·(repeat first|simp only[ww]|(apply xa;simp+decide only[go_sem,hy0,hz9,List.length_map,hS1,hS2];rfl;kernel_rfl))
        (apply a2v;(·simp+decide only[go_sem,a0y,hS3,hlS,hS4,hS1,hS2]<;>rfl))
        rfl
      ·have hnT:j=min X.length 3:=by omega
       rw[←hnT];have hX0:¬X=[]:=by intro e;rw[e]at hj;simp at hj;omega
       have hlT:((a2m X j).map Tm.enc).length=j:=by rw[List.length_map,a45 X j hj]
       have hneT:(a2m X j).map Tm.enc≠[]:=by intro e;rw[e]at hlT;simp at hlT;omega
       have hT1:=a01 (a0g (a2m X j));have hT2:=λπ=>a02 π (a0g (a2m X j));have hT3:=λq d=>a15 q d (a0g (a2m X j));rw[a1n hneT,a0k 4 hneT,a0n 6 hneT,hlT,if_neg hX0];generalize(a2m X j).map Tm.enc=TR at hlT hneT hT1 hT2 hT3⊢;have hT4:TR.take j=TR:=List.take_of_length_le (by omega)
       (repeat first|simp only[ww]|(apply xa;simp+decide only[go_sem,m1,List.length_map,hS1,hS2];rfl;kernel_rfl))
       have hjp:(0:Int)<j:=by omega
       have hj9:j<1000:=by omega
       refine a0p (σ:=Nat) kp9_4 (λq=>[(1,.ptr 0 0 0),(2,.ptr 1 0 0),(3,.ptr 2 0 0),(11,.int .i64 (q:Nat))]) (λq=>some (.row 3 [[sl r0 (N.map stR),sl r1 (X.map Tm.enc),sl r2 (Y.map Vc.enc)]])::some (.row 3 [[.nilslice,.nilslice,.nilslice]])::some (.row 3 [[.slice 3 0 i none,.slice 4 0 j none,grV 5 ((a1e i j Y q).map Vc.enc)]])::some (.row 2 SR)::some (.row 6 TR)::grH 3 ((a1e i j Y q).map Vc.enc)) (λq=>12-q) (λq=>q≤Y.length∧q≤12) 0 ?_ ⟨Nat.zero_le _,Nat.zero_le _⟩ ?_
       ·have e1:a1e i j Y 0=[]:=rfl
        (simp+decide only[go_sem,a09,a05,e1,List.map_nil,a0a,a0c,hS1,hS2,hT1,hT2]<;>rfl)
       ·rintro q ⟨hq,hq12⟩
        by_cases hly:q<Y.length
        ·have n1:(q:Int)<Y.length:=by omega
         by_cases hl12:q<12
         ·have n2:(q:Int)<12:=by omega
          have hw:IntKind.i64.wrap ((q:Int)+1)=((q+1:Nat):Int):=by rw[w64 (by omega) (by omega)];omega
          obtain⟨v,hv⟩:∃v,Y[q]?=some v:=⟨_,z9e hly⟩
          have hsm:(Y.map Vc.enc)[q]?=some (Vc.enc v):=by rw[List.getElem?_map,hv];rfl
          have hgs:a1e i j Y (q+1)=a1e i j Y q++[goV i j v]:=b5k hv;have a1:=ia7 v.t;have a2:=ia3 v.rep;unfold goV at hgs;generalize hd1:a3s .i64 v.t 7=x1 at a1 hgs;generalize hd2:a3s .i64 v.rep 3=x2 at a2 hgs;have u1:IntKind.i64.wrap (1+x2)=1+x2:=w64 (by omega) (by omega);have u7:¬(j:Int)=0:=by omega
          have hsr:(a1e i j Y (q+1)).map Vc.enc=(a1e i j Y q).map Vc.enc++[[.int .i64 (x1.tmod j),.str (goC v i),.int .i64 (1+x2)]]:=by rw[hgs,List.map_append];rfl
          by_cases hk:q=0
          ·subst hk;have e1:(a1e i j Y 0).map Vc.enc=[]:=rfl;rw[e1]at hsr⊢;simp only[List.nil_append]at hsr;simp only[a0a,a0c]
           (repeat first|simp only[ww]|(apply xa;simp+decide only[go_sem,n1,n2,hjp,hly,hsm,b43,List.length_map,hS1,hS2,hT1,hT2];rfl;kernel_rfl))
           refine a0p (σ:=Nat) kp9_6 (λk=>[(1,.ptr 0 0 0),(2,.ptr 1 0 0),(3,.ptr 2 0 0),(11,.int .i64 (0:Nat)),(12,.ptr 5 0 0),(13,.str (goC v k)),(14,.int .i64 (k:Nat))]) (λk=>[some (.row 3 [[sl r0 (N.map stR),sl r1 (X.map Tm.enc),sl r2 (Y.map Vc.enc)]]),some (.row 3 [[.nilslice,.nilslice,.nilslice]]),some (.row 3 [[.slice 3 0 i none,.slice 4 0 j none,.nilslice]]),some (.row 2 SR),some (.row 6 TR),some (.row 3 [Vc.enc v])]) (λk=>i-k) (λk=>k≤i) 0 ?_ (Nat.zero_le _) ?_
           ·have e0:goC v 0=[]:=rfl
            (simp+decide only[go_sem,a09,a05,e0,hS1,hS2,hT1,hT2]<;>rfl)
           ·intro k hkn;by_cases hlk:k<i
            ·have k1:(k:Int)<i:=by omega
             have hwk:IntKind.i64.wrap ((k:Int)+1)=((k+1:Nat):Int):=by rw[w64 (by omega) (by omega)];omega
             have hcl:=a6u v k;have hkk:k+1≤4611686018427387904:=by omega
             have hgc:=b8k v k;by_cases hce:v.cells=[]
             ·have c5:¬(0:Int)<v.cells.length:=by rw[hce];decide
              have hrc:b1g v k=0:=if_pos hce;have q0:IntKind.u8.wrap (0+1)=1:=by decide
              have e04:(0:Int).tmod 4=0:=rfl;have e03:(0:Int).tmod 3=0:=rfl;have s4:∀h,a1v L.env h 9 (.str [48,49,88,80]) (some (.int .u8 0)) (some (.int .u8 1)) none=some (.str [l4 0]):=λh=>by kernel_rfl
              have s3:∀h,a1v L.env h 9 (.str [76,72,88]) (some (.int .u8 0)) (some (.int .u8 1)) none=some (.str [l3 0]):=λh=>by kernel_rfl
              generalize goC v k=G at hcl hgc⊢;by_cases hev:k%2=0
              ·have m2:(k:Int).tmod 2=0:=by rw[show(2:Int)=((2:Nat):Int)from rfl,a21,hev];rfl
               have hca:a18 v k=l4 0:=by unfold a18;rw[if_pos hev,hrc]
               rw[hca]at hgc
               (repeat first|simp only[ww]|(apply xa;simp+decide only[go_sem,k1,c5,m2,q0,e04,e03,s4,s3,hcl,hkk,hwk,Nat.zero_add,List.length_cons,List.length_nil,hS1,hS2,hT1,hT2];rfl;kernel_rfl))
               refine a22 (k+1) ?_ (by omega) (by omega)
               (simp+decide only[go_sem,a09,a05,hgc,hS1,hS2,hT1,hT2]<;>rfl)
              ·have m2:(k:Int).tmod 2=1:=by rw[show(2:Int)=((2:Nat):Int)from rfl,a21,show k%2=1 by omega];rfl
               have hca:a18 v k=l3 0:=by unfold a18;rw[if_neg hev,hrc]
               rw[hca]at hgc
               (repeat first|simp only[ww]|(apply xa;simp+decide only[go_sem,k1,c5,m2,q0,e04,e03,s4,s3,hcl,hkk,hwk,Nat.zero_add,List.length_cons,List.length_nil,hS1,hS2,hT1,hT2];rfl;kernel_rfl))
               refine a22 (k+1) ?_ (by omega) (by omega)
               (simp+decide only[go_sem,a09,a05,hgc,hS1,hS2,hT1,hT2]<;>rfl)
             ·have hcp:0<v.cells.length:=List.length_pos_iff.2 hce;have c5:(0:Int)<v.cells.length:=by omega
              have c6:¬(v.cells.length:Int)=0:=by omega
              have hil:k%v.cells.length<v.cells.length:=Nat.mod_lt _ hcp;obtain⟨c,hc⟩:∃c,v.cells[k%v.cells.length]?=some c:=⟨_,z9e hil⟩
              have hrc:b1g v k=c.toNat:=by unfold b1g;rw[if_neg hce,hc];rfl
              have hmk:=a21 k v.cells.length;have m4:(c.toNat:Int).tmod 4=((c.toNat%4:Nat):Int):=a21 _ 4;have m3:(c.toNat:Int).tmod 3=((c.toNat%3:Nat):Int):=a21 _ 3;have w4:=u8s (c.toNat%4) (by omega);have w3:=u8s (c.toNat%3) (by omega);have s4:=λh=>c9g h (c.toNat%4) (by omega);have s3:=λh=>c9h h (c.toNat%3) (by omega);generalize goC v k=G at hcl hgc⊢;by_cases hev:k%2=0
              ·have m2:(k:Int).tmod 2=0:=by rw[show(2:Int)=((2:Nat):Int)from rfl,a21,hev];rfl
               have hca:a18 v k=l4 (c.toNat%4):=by unfold a18;rw[if_pos hev,hrc]
               rw[hca]at hgc
               (repeat first|simp only[ww]|(apply xa;simp+decide only[go_sem,k1,c5,c6,hmk,hil,hc,m2,m4,m3,w4,w3,s4,s3,hcl,hkk,hwk,Nat.zero_add,List.length_cons,List.length_nil,hS1,hS2,hT1,hT2];rfl;kernel_rfl))
               refine a22 (k+1) ?_ (by omega) (by omega)
               (simp+decide only[go_sem,a09,a05,hgc,hS1,hS2,hT1,hT2]<;>rfl)
              ·have m2:(k:Int).tmod 2=1:=by rw[show(2:Int)=((2:Nat):Int)from rfl,a21,show k%2=1 by omega];rfl
               have hca:a18 v k=l3 (c.toNat%3):=by unfold a18;rw[if_neg hev,hrc]
               rw[hca]at hgc
               (repeat first|simp only[ww]|(apply xa;simp+decide only[go_sem,k1,c5,c6,hmk,hil,hc,m2,m4,m3,w4,w3,s4,s3,hcl,hkk,hwk,Nat.zero_add,List.length_cons,List.length_nil,hS1,hS2,hT1,hT2];rfl;kernel_rfl))
               refine a22 (k+1) ?_ (by omega) (by omega)
               (simp+decide only[go_sem,a09,a05,hgc,hS1,hS2,hT1,hT2]<;>rfl)
            ·have hkn2:k=i:=by omega
             rw[hkn2];have k1:¬(i:Int)<i:=by omega
             (repeat first|simp only[ww]|(apply xa;simp+decide only[go_sem,k1,hd1,hd2,u1,u7,hw,List.length_map,hS1,hS2,hT1,hT2];rfl;kernel_rfl))
             refine a22 (0+1) ?_ (by omega) ⟨by omega,by omega⟩
             (simp+decide only[go_sem,a09,a05,hsr,a1q,a1k,List.length_nil,hS1,hS2,hT1,hT2]<;>rfl)
          ·have hlen:((a1e i j Y q).map Vc.enc).length=q:=by rw[List.length_map,a28 i j Y q hq]
           have hne:(a1e i j Y q).map Vc.enc≠[]:=by intro e;rw[e]at hlen;simp at hlen;omega
           have h5:=a01 (a0b (a1e i j Y (q+1)));have h6:=λπ=>a02 π (a0b (a1e i j Y (q+1)));have h7:=a01 (a0b (a1e i j Y q));have h8:=λπ=>a02 π (a0b (a1e i j Y q));have hrm:q+1≤1000000000:=by omega
           rw[a0k 5 hne,a0n 3 hne,hlen];rw[hsr]at h5 h6;generalize(a1e i j Y q).map Vc.enc=R at hsr hlen h5 h6 h7 h8 hne⊢
           (repeat first|simp only[ww]|(apply xa;simp+decide only[go_sem,n1,n2,hjp,hly,hsm,b43,List.length_map,hS1,hS2,hT1,hT2];rfl;kernel_rfl))
           refine a0p (σ:=Nat) kp9_6 (λk=>[(1,.ptr 0 0 0),(2,.ptr 1 0 0),(3,.ptr 2 0 0),(11,.int .i64 (q:Nat)),(12,.ptr 6 0 0),(13,.str (goC v k)),(14,.int .i64 (k:Nat))]) (λk=>[some (.row 3 [[sl r0 (N.map stR),sl r1 (X.map Tm.enc),sl r2 (Y.map Vc.enc)]]),some (.row 3 [[.nilslice,.nilslice,.nilslice]]),some (.row 3 [[.slice 3 0 i none,.slice 4 0 j none,.slice 5 0 q none]]),some (.row 2 SR),some (.row 6 TR),some (.row 3 R),some (.row 3 [Vc.enc v])]) (λk=>i-k) (λk=>k≤i) 0 ?_ (Nat.zero_le _) ?_
           ·have e0:goC v 0=[]:=rfl
            (simp+decide only[go_sem,a09,a05,e0,hS1,hS2,hT1,hT2,h7,h8]<;>rfl)
           ·intro k hkn;by_cases hlk:k<i
            ·have k1:(k:Int)<i:=by omega
             have hwk:IntKind.i64.wrap ((k:Int)+1)=((k+1:Nat):Int):=by rw[w64 (by omega) (by omega)];omega
             have hcl:=a6u v k;have hkk:k+1≤4611686018427387904:=by omega
             have hgc:=b8k v k;by_cases hce:v.cells=[]
             ·have c5:¬(0:Int)<v.cells.length:=by rw[hce];decide
              have hrc:b1g v k=0:=if_pos hce;have q0:IntKind.u8.wrap (0+1)=1:=by decide
              have e04:(0:Int).tmod 4=0:=rfl;have e03:(0:Int).tmod 3=0:=rfl;have s4:∀h,a1v L.env h 9 (.str [48,49,88,80]) (some (.int .u8 0)) (some (.int .u8 1)) none=some (.str [l4 0]):=λh=>by kernel_rfl
              have s3:∀h,a1v L.env h 9 (.str [76,72,88]) (some (.int .u8 0)) (some (.int .u8 1)) none=some (.str [l3 0]):=λh=>by kernel_rfl
              generalize goC v k=G at hcl hgc⊢;by_cases hev:k%2=0
              ·have m2:(k:Int).tmod 2=0:=by rw[show(2:Int)=((2:Nat):Int)from rfl,a21,hev];rfl
               have hca:a18 v k=l4 0:=by unfold a18;rw[if_pos hev,hrc]
               rw[hca]at hgc
               (repeat first|simp only[ww]|(apply xa;simp+decide only[go_sem,k1,c5,m2,q0,e04,e03,s4,s3,hcl,hkk,hwk,Nat.zero_add,List.length_cons,List.length_nil,hS1,hS2,hT1,hT2,h7,h8];rfl;kernel_rfl))
               refine a22 (k+1) ?_ (by omega) (by omega)
               (simp+decide only[go_sem,a09,a05,hgc,hS1,hS2,hT1,hT2,h7,h8]<;>rfl)
              ·have m2:(k:Int).tmod 2=1:=by rw[show(2:Int)=((2:Nat):Int)from rfl,a21,show k%2=1 by omega];rfl
               have hca:a18 v k=l3 0:=by unfold a18;rw[if_neg hev,hrc]
               rw[hca]at hgc
               (repeat first|simp only[ww]|(apply xa;simp+decide only[go_sem,k1,c5,m2,q0,e04,e03,s4,s3,hcl,hkk,hwk,Nat.zero_add,List.length_cons,List.length_nil,hS1,hS2,hT1,hT2,h7,h8];rfl;kernel_rfl))
               refine a22 (k+1) ?_ (by omega) (by omega)
               (simp+decide only[go_sem,a09,a05,hgc,hS1,hS2,hT1,hT2,h7,h8]<;>rfl)
             ·have hcp:0<v.cells.length:=List.length_pos_iff.2 hce;have c5:(0:Int)<v.cells.length:=by omega
              have c6:¬(v.cells.length:Int)=0:=by omega
              have hil:k%v.cells.length<v.cells.length:=Nat.mod_lt _ hcp;obtain⟨c,hc⟩:∃c,v.cells[k%v.cells.length]?=some c:=⟨_,z9e hil⟩
              have hrc:b1g v k=c.toNat:=by unfold b1g;rw[if_neg hce,hc];rfl
              have hmk:=a21 k v.cells.length;have m4:(c.toNat:Int).tmod 4=((c.toNat%4:Nat):Int):=a21 _ 4;have m3:(c.toNat:Int).tmod 3=((c.toNat%3:Nat):Int):=a21 _ 3;have w4:=u8s (c.toNat%4) (by omega);have w3:=u8s (c.toNat%3) (by omega);have s4:=λh=>c9g h (c.toNat%4) (by omega);have s3:=λh=>c9h h (c.toNat%3) (by omega);generalize goC v k=G at hcl hgc⊢;by_cases hev:k%2=0
              ·have m2:(k:Int).tmod 2=0:=by rw[show(2:Int)=((2:Nat):Int)from rfl,a21,hev];rfl
               have hca:a18 v k=l4 (c.toNat%4):=by unfold a18;rw[if_pos hev,hrc]
               rw[hca]at hgc
               (repeat first|simp only[ww]|(apply xa;simp+decide only[go_sem,k1,c5,c6,hmk,hil,hc,m2,m4,m3,w4,w3,s4,s3,hcl,hkk,hwk,Nat.zero_add,List.length_cons,List.length_nil,hS1,hS2,hT1,hT2,h7,h8];rfl;kernel_rfl))
               refine a22 (k+1) ?_ (by omega) (by omega)
               (simp+decide only[go_sem,a09,a05,hgc,hS1,hS2,hT1,hT2,h7,h8]<;>rfl)
              ·have m2:(k:Int).tmod 2=1:=by rw[show(2:Int)=((2:Nat):Int)from rfl,a21,show k%2=1 by omega];rfl
               have hca:a18 v k=l3 (c.toNat%3):=by unfold a18;rw[if_neg hev,hrc]
               rw[hca]at hgc
               (repeat first|simp only[ww]|(apply xa;simp+decide only[go_sem,k1,c5,c6,hmk,hil,hc,m2,m4,m3,w4,w3,s4,s3,hcl,hkk,hwk,Nat.zero_add,List.length_cons,List.length_nil,hS1,hS2,hT1,hT2,h7,h8];rfl;kernel_rfl))
               refine a22 (k+1) ?_ (by omega) (by omega)
               (simp+decide only[go_sem,a09,a05,hgc,hS1,hS2,hT1,hT2,h7,h8]<;>rfl)
            ·have hkn2:k=i:=by omega
             rw[hkn2];have k1:¬(i:Int)<i:=by omega
             (repeat first|simp only[ww]|(apply xa;simp+decide only[go_sem,k1,hd1,hd2,u1,u7,hw,hlen,hrm,List.length_map,hS1,hS2,hT1,hT2,h7,h8];rfl;kernel_rfl))
             refine a22 (q+1) ?_ (by omega) ⟨by omega,by omega⟩
             (simp+decide only[go_sem,a09,a05,hsr,a2h,a2i,hlen,h5,h6,hS1,hS2,hT1,hT2]<;>rfl)
         ·have n2:¬(q:Int)<12:=by omega
          have hnV:q=min Y.length 12:=by omega
          rw[←hnV];by_cases hk:q=0
          ·have e1:(a1e i j Y q).map Vc.enc=[]:=by rw[hk];rfl
           rw[e1];simp only[a0a,a0c]
           (repeat first|simp only[ww]|(apply xa;simp+decide only[go_sem,n1,n2,hjp,List.length_map,hS1,hS2,hT1,hT2];rfl;kernel_rfl))
           (apply a2v;(·simp+decide only[go_sem,a0y,hS3,hlS,hS4,hT3,hlT,hT4,hS1,hS2,hT1,hT2]<;>rfl))
           rfl
          ·have hlen:((a1e i j Y q).map Vc.enc).length=q:=by rw[List.length_map,a28 i j Y q hq]
           have hne:(a1e i j Y q).map Vc.enc≠[]:=by intro e;rw[e]at hlen;simp at hlen;omega
           have h9:=λq' d=>a15 q' d (a0b (a1e i j Y q));have h7:=a01 (a0b (a1e i j Y q));have h8:=λπ=>a02 π (a0b (a1e i j Y q));rw[a1n hne,a0k 5 hne,a0n 3 hne,hlen];generalize(a1e i j Y q).map Vc.enc=R at hlen h7 h8 h9 hne⊢;have h10:R.take q=R:=List.take_of_length_le (by omega)
           (repeat first|simp only[ww]|(apply xa;simp+decide only[go_sem,n1,n2,hjp,List.length_map,h7,h8,hS1,hS2,hT1,hT2];rfl;kernel_rfl))
           (apply a2v;(·simp+decide only[go_sem,a0y,hS3,hlS,hS4,hT3,hlT,hT4,h7,h8,h9,hlen,h10,hS1,hS2,hT1,hT2]<;>rfl))
           rfl
        ·have n1:¬(q:Int)<Y.length:=by omega
         have hnV:q=min Y.length 12:=by omega
         rw[←hnV];by_cases hk:q=0
         ·have e1:(a1e i j Y q).map Vc.enc=[]:=by rw[hk];rfl
          rw[e1];simp only[a0a,a0c]
          (repeat first|simp only[ww]|(apply xa;simp+decide only[go_sem,n1,List.length_map,hS1,hS2,hT1,hT2];rfl;kernel_rfl))
          (apply a2v;(·simp+decide only[go_sem,a0y,hS3,hlS,hS4,hT3,hlT,hT4,hS1,hS2,hT1,hT2]<;>rfl))
          rfl
         ·have hlen:((a1e i j Y q).map Vc.enc).length=q:=by rw[List.length_map,a28 i j Y q hq]
          have hne:(a1e i j Y q).map Vc.enc≠[]:=by intro e;rw[e]at hlen;simp at hlen;omega
          have h9:=λq' d=>a15 q' d (a0b (a1e i j Y q));have h7:=a01 (a0b (a1e i j Y q));have h8:=λπ=>a02 π (a0b (a1e i j Y q));rw[a1n hne,a0k 5 hne,a0n 3 hne,hlen];generalize(a1e i j Y q).map Vc.enc=R at hlen h7 h8 h9 hne⊢;have h10:R.take q=R:=List.take_of_length_le (by omega)
          (repeat first|simp only[ww]|(apply xa;simp+decide only[go_sem,n1,List.length_map,h7,h8,hS1,hS2,hT1,hT2];rfl;kernel_rfl))
          (apply a2v;(·simp+decide only[go_sem,a0y,hS3,hlS,hS4,hT3,hlT,hT4,h7,h8,h9,hlen,h10,hS1,hS2,hT1,hT2]<;>rfl))
          rfl
  ·have l1:¬(i:Int)<N.length:=by omega
   by_cases hz0:i=0
   ·have hnS:i=min N.length 8:=by omega
    rw[←hnS];have eS:(a6t i).map Sg.enc=[]:=by rw[hz0];rfl
    rw[eS];simp only[a0a,a0c]
    (repeat first|simp only[ww]|(apply xa;simp+decide only[go_sem,l1,List.length_map];rfl;kernel_rfl))
    refine a0p (σ:=Nat) kp9_2 (λj=>[(1,.ptr 0 0 0),(2,.ptr 1 0 0),(3,.ptr 2 0 0),(5,.int .i64 (j:Nat))]) (λj=>some (.row 3 [[sl r0 (N.map stR),sl r1 (X.map Tm.enc),sl r2 (Y.map Vc.enc)]])::some (.row 3 [[.nilslice,.nilslice,.nilslice]])::some (.row 3 [[.nilslice,grV 3 ((a2m X j).map Tm.enc),.nilslice]])::grH 6 ((a2m X j).map Tm.enc)) (λj=>3-j) (λj=>j≤X.length∧j≤3) 0 ?_ ⟨Nat.zero_le _,Nat.zero_le _⟩ ?_
    ·have e1:a2m X 0=[]:=rfl
     (simp+decide only[go_sem,a09,a05,e1,List.map_nil,a0a,a0c]<;>rfl)
    ·rintro j ⟨hj,hj3⟩
     by_cases hlj:j<X.length
     ·have m1:(j:Int)<X.length:=by omega
      by_cases hl3:j<3
      ·have m2:(j:Int)<3:=by omega
       have hw:IntKind.i64.wrap ((j:Int)+1)=((j+1:Nat):Int):=by rw[w64 (by omega) (by omega)];omega
       obtain⟨t,ht⟩:∃t,X[j]?=some t:=⟨_,z9e hlj⟩
       have hsm:(X.map Tm.enc)[j]?=some (Tm.enc t):=by rw[List.getElem?_map,ht];rfl
       have hgs:=b5l ht;have hdg:=λh=>e1e h j hl3;have a1:=b9c t.dr;have a2:=b9c t.ri;have a3:=b9c t.fa;have a4:=b9c t.per;have a5:=d8x t.st;have hgt:Tm.enc (goT j t)=Tm.enc (goT j t):=rfl;unfold goT at hgt;unfold goT at hgs;generalize hd1:a3s .i64 t.dr 15=x1 at a1 hgs;generalize hd2:a3s .i64 t.ri 15=x2 at a2 hgs;generalize hd3:a3s .i64 t.fa 15=x3 at a3 hgs;generalize hd4:a3s .i64 t.per 15=x4 at a4 hgs;generalize hd5:a3s .i64 t.st 63=x5 at a5 hgs;have u1:IntKind.i64.wrap (x1+1)=x1+1:=w64 (by omega) (by omega);have u2:IntKind.i64.wrap (x1+1+x2)=x1+1+x2:=w64 (by omega) (by omega);have u3:IntKind.i64.wrap (x1+1+x2+1)=x1+1+x2+1:=w64 (by omega) (by omega);have u4:IntKind.i64.wrap (x1+1+x2+1+x3)=x1+1+x2+1+x3:=w64 (by omega) (by omega);have u5:IntKind.i64.wrap (x1+1+x2+1+x3+1)=x1+1+x2+1+x3+1:=w64 (by omega) (by omega);have u6:IntKind.i64.wrap (x1+1+x2+1+x3+1+x4)=x1+1+x2+1+x3+1+x4:=w64 (by omega) (by omega);have u7:¬x1+1+x2+1+x3+1+x4=0:=by omega
       have hsr:(a2m X (j+1)).map Tm.enc=(a2m X j).map Tm.enc++[[.str [116,(48+j).toUInt8],.int .i64 (x1+1+x2+1+x3+1+x4),.int .i64 x1,.int .i64 (x1+1+x2),.int .i64 (x1+1+x2+1+x3),.int .i64 (x5.tmod (x1+1+x2+1+x3+1+x4))]]:=by rw[hgs,List.map_append];rfl
       by_cases hk:j=0
       ·subst hk;have e1:(a2m X 0).map Tm.enc=[]:=rfl;rw[e1]at hsr⊢;simp only[List.nil_append]at hsr
        (repeat first|simp only[ww]|(apply xa;simp+decide only[go_sem,m1,m2,hlj,hsm,hw,hdg,hd1,hd2,hd3,hd4,hd5,u1,u2,u3,u4,u5,u6,u7,b41,List.length_map,List.cons_append,List.nil_append,a0a,a0c];rfl;kernel_rfl))
        refine a22 (0+1) ?_ (by omega) ⟨by omega,by omega⟩
        (simp+decide only[go_sem,a09,a05,hsr,a1q,a1k,List.length_nil]<;>rfl)
       ·have hlen:((a2m X j).map Tm.enc).length=j:=by rw[List.length_map,a45 X j hj]
        have hne:(a2m X j).map Tm.enc≠[]:=by intro e;rw[e]at hlen;simp at hlen;omega
        have h5:=a01 (a0g (a2m X (j+1)));have h6:=λπ=>a02 π (a0g (a2m X (j+1)));have hrm:j+1≤1000000000:=by omega
        rw[a0k 3 hne,a0n 6 hne,hlen];rw[hsr]at h5 h6;generalize(a2m X j).map Tm.enc=R at hsr hlen h5 h6 hne⊢
        (repeat first|simp only[ww]|(apply xa;simp+decide only[go_sem,m1,m2,hlj,hsm,hw,hlen,hrm,hdg,hd1,hd2,hd3,hd4,hd5,u1,u2,u3,u4,u5,u6,u7,b41,List.length_map,List.cons_append,List.nil_append];rfl;kernel_rfl))
        refine a22 (j+1) ?_ (by omega) ⟨by omega,by omega⟩
        (simp+decide only[go_sem,a09,a05,hsr,a2h,a2i,hlen,h5,h6]<;>rfl)
      ·have m2:¬(j:Int)<3:=by omega
       have hnT:j=min X.length 3:=by omega
       rw[←hnT];have hX0:¬X=[]:=by intro e;rw[e]at hj;simp at hj;omega
       have hlT:((a2m X j).map Tm.enc).length=j:=by rw[List.length_map,a45 X j hj]
       have hneT:(a2m X j).map Tm.enc≠[]:=by intro e;rw[e]at hlT;simp at hlT;omega
       have hT1:=a01 (a0g (a2m X j));have hT2:=λπ=>a02 π (a0g (a2m X j));have hT3:=λq d=>a15 q d (a0g (a2m X j));rw[a1n hneT,a0k 3 hneT,a0n 6 hneT,hlT,if_neg hX0];generalize(a2m X j).map Tm.enc=TR at hlT hneT hT1 hT2 hT3⊢;have hT4:TR.take j=TR:=List.take_of_length_le (by omega)
       (repeat first|simp only[ww]|(apply xa;simp+decide only[go_sem,m1,m2,List.length_map];rfl;kernel_rfl))
       have hjp:(0:Int)<j:=by omega
       have hj9:j<1000:=by omega
       refine a0p (σ:=Nat) kp9_4 (λq=>[(1,.ptr 0 0 0),(2,.ptr 1 0 0),(3,.ptr 2 0 0),(11,.int .i64 (q:Nat))]) (λq=>some (.row 3 [[sl r0 (N.map stR),sl r1 (X.map Tm.enc),sl r2 (Y.map Vc.enc)]])::some (.row 3 [[.nilslice,.nilslice,.nilslice]])::some (.row 3 [[.nilslice,.slice 3 0 j none,grV 4 ((a1e i j Y q).map Vc.enc)]])::some (.row 6 TR)::grH 3 ((a1e i j Y q).map Vc.enc)) (λq=>12-q) (λq=>q≤Y.length∧q≤12) 0 ?_ ⟨Nat.zero_le _,Nat.zero_le _⟩ ?_
       ·have e1:a1e i j Y 0=[]:=rfl
        (simp+decide only[go_sem,a09,a05,e1,List.map_nil,a0a,a0c,hT1,hT2]<;>rfl)
       ·rintro q ⟨hq,hq12⟩
        by_cases hly:q<Y.length
        ·have n1:(q:Int)<Y.length:=by omega
         by_cases hl12:q<12
         ·have n2:(q:Int)<12:=by omega
          have hw:IntKind.i64.wrap ((q:Int)+1)=((q+1:Nat):Int):=by rw[w64 (by omega) (by omega)];omega
          obtain⟨v,hv⟩:∃v,Y[q]?=some v:=⟨_,z9e hly⟩
          have hsm:(Y.map Vc.enc)[q]?=some (Vc.enc v):=by rw[List.getElem?_map,hv];rfl
          have hgs:a1e i j Y (q+1)=a1e i j Y q++[goV i j v]:=b5k hv;have a1:=ia7 v.t;have a2:=ia3 v.rep;unfold goV at hgs;generalize hd1:a3s .i64 v.t 7=x1 at a1 hgs;generalize hd2:a3s .i64 v.rep 3=x2 at a2 hgs;have u1:IntKind.i64.wrap (1+x2)=1+x2:=w64 (by omega) (by omega);have u7:¬(j:Int)=0:=by omega
          have hsr:(a1e i j Y (q+1)).map Vc.enc=(a1e i j Y q).map Vc.enc++[[.int .i64 (x1.tmod j),.str (goC v i),.int .i64 (1+x2)]]:=by rw[hgs,List.map_append];rfl
          by_cases hk:q=0
          ·subst hk;have e1:(a1e i j Y 0).map Vc.enc=[]:=rfl;rw[e1]at hsr⊢;simp only[List.nil_append]at hsr;simp only[a0a,a0c]
           (repeat first|simp only[ww]|(apply xa;simp+decide only[go_sem,n1,n2,hjp,hly,hsm,b43,List.length_map,hT1,hT2];rfl;kernel_rfl))
           refine a0p (σ:=Nat) kp9_6 (λk=>[(1,.ptr 0 0 0),(2,.ptr 1 0 0),(3,.ptr 2 0 0),(11,.int .i64 (0:Nat)),(12,.ptr 4 0 0),(13,.str (goC v k)),(14,.int .i64 (k:Nat))]) (λk=>[some (.row 3 [[sl r0 (N.map stR),sl r1 (X.map Tm.enc),sl r2 (Y.map Vc.enc)]]),some (.row 3 [[.nilslice,.nilslice,.nilslice]]),some (.row 3 [[.nilslice,.slice 3 0 j none,.nilslice]]),some (.row 6 TR),some (.row 3 [Vc.enc v])]) (λk=>i-k) (λk=>k≤i) 0 ?_ (Nat.zero_le _) ?_
           ·have e0:goC v 0=[]:=rfl
            (simp+decide only[go_sem,a09,a05,e0,hT1,hT2]<;>rfl)
           ·intro k hkn;by_cases hlk:k<i
            ·omega
            ·have hkn2:k=i:=by omega
             rw[hkn2];have k1:¬(i:Int)<i:=by omega
             have k2:¬(i:Int)<0:=by omega
             (repeat first|simp only[ww]|(apply xa;simp+decide only[go_sem,k1,k2,hd1,hd2,u1,u7,hw,List.length_map,hT1,hT2];rfl;kernel_rfl))
             refine a22 (0+1) ?_ (by omega) ⟨by omega,by omega⟩
             (simp+decide only[go_sem,a09,a05,hsr,a1q,a1k,List.length_nil,hT1,hT2]<;>rfl)
          ·have hlen:((a1e i j Y q).map Vc.enc).length=q:=by rw[List.length_map,a28 i j Y q hq]
           have hne:(a1e i j Y q).map Vc.enc≠[]:=by intro e;rw[e]at hlen;simp at hlen;omega
           have h5:=a01 (a0b (a1e i j Y (q+1)));have h6:=λπ=>a02 π (a0b (a1e i j Y (q+1)));have h7:=a01 (a0b (a1e i j Y q));have h8:=λπ=>a02 π (a0b (a1e i j Y q));have hrm:q+1≤1000000000:=by omega
           rw[a0k 4 hne,a0n 3 hne,hlen];rw[hsr]at h5 h6;generalize(a1e i j Y q).map Vc.enc=R at hsr hlen h5 h6 h7 h8 hne⊢
           (repeat first|simp only[ww]|(apply xa;simp+decide only[go_sem,n1,n2,hjp,hly,hsm,b43,List.length_map,hT1,hT2];rfl;kernel_rfl))
           refine a0p (σ:=Nat) kp9_6 (λk=>[(1,.ptr 0 0 0),(2,.ptr 1 0 0),(3,.ptr 2 0 0),(11,.int .i64 (q:Nat)),(12,.ptr 5 0 0),(13,.str (goC v k)),(14,.int .i64 (k:Nat))]) (λk=>[some (.row 3 [[sl r0 (N.map stR),sl r1 (X.map Tm.enc),sl r2 (Y.map Vc.enc)]]),some (.row 3 [[.nilslice,.nilslice,.nilslice]]),some (.row 3 [[.nilslice,.slice 3 0 j none,.slice 4 0 q none]]),some (.row 6 TR),some (.row 3 R),some (.row 3 [Vc.enc v])]) (λk=>i-k) (λk=>k≤i) 0 ?_ (Nat.zero_le _) ?_
           ·have e0:goC v 0=[]:=rfl
            (simp+decide only[go_sem,a09,a05,e0,hT1,hT2,h7,h8]<;>rfl)
           ·intro k hkn;by_cases hlk:k<i
            ·omega
            ·have hkn2:k=i:=by omega
             rw[hkn2];have k1:¬(i:Int)<i:=by omega
             have k2:¬(i:Int)<0:=by omega
             (repeat first|simp only[ww]|(apply xa;simp+decide only[go_sem,k1,k2,hd1,hd2,u1,u7,hw,hlen,hrm,List.length_map,hT1,hT2,h7,h8];rfl;kernel_rfl))
             refine a22 (q+1) ?_ (by omega) ⟨by omega,by omega⟩
             (simp+decide only[go_sem,a09,a05,hsr,a2h,a2i,hlen,h5,h6,hT1,hT2]<;>rfl)
         ·have n2:¬(q:Int)<12:=by omega
          have hnV:q=min Y.length 12:=by omega
          rw[←hnV];by_cases hk:q=0
          ·have e1:(a1e i j Y q).map Vc.enc=[]:=by rw[hk];rfl
           rw[e1];simp only[a0a,a0c]
           (repeat first|simp only[ww]|(apply xa;simp+decide only[go_sem,n1,n2,hjp,List.length_map,hT1,hT2];rfl;kernel_rfl))
           (apply a2v;(·simp+decide only[go_sem,a0y,hT3,hlT,hT4,hT1,hT2]<;>rfl))
           rfl
          ·have hlen:((a1e i j Y q).map Vc.enc).length=q:=by rw[List.length_map,a28 i j Y q hq]
           have hne:(a1e i j Y q).map Vc.enc≠[]:=by intro e;rw[e]at hlen;simp at hlen;omega
           have h9:=λq' d=>a15 q' d (a0b (a1e i j Y q));have h7:=a01 (a0b (a1e i j Y q));have h8:=λπ=>a02 π (a0b (a1e i j Y q));rw[a1n hne,a0k 4 hne,a0n 3 hne,hlen];generalize(a1e i j Y q).map Vc.enc=R at hlen h7 h8 h9 hne⊢;have h10:R.take q=R:=List.take_of_length_le (by omega)
           (repeat first|simp only[ww]|(apply xa;simp+decide only[go_sem,n1,n2,hjp,List.length_map,h7,h8,hT1,hT2];rfl;kernel_rfl))
           (apply a2v;(·simp+decide only[go_sem,a0y,hT3,hlT,hT4,h7,h8,h9,hlen,h10,hT1,hT2]<;>rfl))
           rfl
        ·have n1:¬(q:Int)<Y.length:=by omega
         have hnV:q=min Y.length 12:=by omega
         rw[←hnV];by_cases hk:q=0
         ·have e1:(a1e i j Y q).map Vc.enc=[]:=by rw[hk];rfl
          rw[e1];simp only[a0a,a0c]
          (repeat first|simp only[ww]|(apply xa;simp+decide only[go_sem,n1,List.length_map,hT1,hT2];rfl;kernel_rfl))
          (apply a2v;(·simp+decide only[go_sem,a0y,hT3,hlT,hT4,hT1,hT2]<;>rfl))
          rfl
         ·have hlen:((a1e i j Y q).map Vc.enc).length=q:=by rw[List.length_map,a28 i j Y q hq]
          have hne:(a1e i j Y q).map Vc.enc≠[]:=by intro e;rw[e]at hlen;simp at hlen;omega
          have h9:=λq' d=>a15 q' d (a0b (a1e i j Y q));have h7:=a01 (a0b (a1e i j Y q));have h8:=λπ=>a02 π (a0b (a1e i j Y q));rw[a1n hne,a0k 4 hne,a0n 3 hne,hlen];generalize(a1e i j Y q).map Vc.enc=R at hlen h7 h8 h9 hne⊢;have h10:R.take q=R:=List.take_of_length_le (by omega)
          (repeat first|simp only[ww]|(apply xa;simp+decide only[go_sem,n1,List.length_map,h7,h8,hT1,hT2];rfl;kernel_rfl))
          (apply a2v;(·simp+decide only[go_sem,a0y,hT3,hlT,hT4,h7,h8,h9,hlen,h10,hT1,hT2]<;>rfl))
          rfl
     ·have m1:¬(j:Int)<X.length:=by omega
      by_cases hzj:j=0
      ·have hnT:j=min X.length 3:=by omega
       rw[←hnT];have eT:(a2m X j).map Tm.enc=[]:=by rw[hzj];rfl
       have hX0:X=[]:=List.eq_nil_of_length_eq_zero (by omega);rw[eT,if_pos hX0];simp only[a0a,a0c,List.map_nil]
       (repeat first|simp only[ww]|(apply xa;simp+decide only[go_sem,m1,List.length_map];rfl;kernel_rfl))
       refine c70 kp9_4 (λz F H=>F=[(1,.ptr 0 0 0),(2,.ptr 1 0 0),(3,.ptr 2 0 0),(11,.int .i64 0)]∧H=some (.row 3 [[sl r0 (N.map stR),sl r1 (X.map Tm.enc),sl r2 (Y.map Vc.enc)]])::some (.row 3 [[.nilslice,.nilslice,.nilslice]])::some (.row 3 [[.nilslice,.nilslice,.nilslice]])::[]) 0 ⟨_,_,by(simp+decide only[go_sem,a09,a05]<;>rfl),rfl,rfl⟩ ?_
       rintro z F H ⟨rfl,rfl⟩
       have hz9:(0:Int)<12:=by decide
       by_cases hy0:(0:Int)<Y.length
       ·(repeat first|simp only[ww]|(apply xa;simp+decide only[go_sem,hy0,hz9,List.length_map];rfl;kernel_rfl))
        (apply a2v;(·simp+decide only[go_sem,a0y]<;>rfl))
        rfl
       ·(repeat first|simp only[ww]|(apply xa;simp+decide only[go_sem,hy0,hz9,List.length_map];rfl;kernel_rfl))
        (apply a2v;(·simp+decide only[go_sem,a0y]<;>rfl))
        rfl
      ·have hnT:j=min X.length 3:=by omega
       rw[←hnT];have hX0:¬X=[]:=by intro e;rw[e]at hj;simp at hj;omega
       have hlT:((a2m X j).map Tm.enc).length=j:=by rw[List.length_map,a45 X j hj]
       have hneT:(a2m X j).map Tm.enc≠[]:=by intro e;rw[e]at hlT;simp at hlT;omega
       have hT1:=a01 (a0g (a2m X j));have hT2:=λπ=>a02 π (a0g (a2m X j));have hT3:=λq d=>a15 q d (a0g (a2m X j));rw[a1n hneT,a0k 3 hneT,a0n 6 hneT,hlT,if_neg hX0];generalize(a2m X j).map Tm.enc=TR at hlT hneT hT1 hT2 hT3⊢;have hT4:TR.take j=TR:=List.take_of_length_le (by omega)
       (repeat first|simp only[ww]|(apply xa;simp+decide only[go_sem,m1,List.length_map];rfl;kernel_rfl))
       have hjp:(0:Int)<j:=by omega
       have hj9:j<1000:=by omega
       refine a0p (σ:=Nat) kp9_4 (λq=>[(1,.ptr 0 0 0),(2,.ptr 1 0 0),(3,.ptr 2 0 0),(11,.int .i64 (q:Nat))]) (λq=>some (.row 3 [[sl r0 (N.map stR),sl r1 (X.map Tm.enc),sl r2 (Y.map Vc.enc)]])::some (.row 3 [[.nilslice,.nilslice,.nilslice]])::some (.row 3 [[.nilslice,.slice 3 0 j none,grV 4 ((a1e i j Y q).map Vc.enc)]])::some (.row 6 TR)::grH 3 ((a1e i j Y q).map Vc.enc)) (λq=>12-q) (λq=>q≤Y.length∧q≤12) 0 ?_ ⟨Nat.zero_le _,Nat.zero_le _⟩ ?_
       ·have e1:a1e i j Y 0=[]:=rfl
        (simp+decide only[go_sem,a09,a05,e1,List.map_nil,a0a,a0c,hT1,hT2]<;>rfl)
       ·rintro q ⟨hq,hq12⟩
        by_cases hly:q<Y.length
        ·have n1:(q:Int)<Y.length:=by omega
         by_cases hl12:q<12
         ·have n2:(q:Int)<12:=by omega
          have hw:IntKind.i64.wrap ((q:Int)+1)=((q+1:Nat):Int):=by rw[w64 (by omega) (by omega)];omega
          obtain⟨v,hv⟩:∃v,Y[q]?=some v:=⟨_,z9e hly⟩
          have hsm:(Y.map Vc.enc)[q]?=some (Vc.enc v):=by rw[List.getElem?_map,hv];rfl
          have hgs:a1e i j Y (q+1)=a1e i j Y q++[goV i j v]:=b5k hv;have a1:=ia7 v.t;have a2:=ia3 v.rep;unfold goV at hgs;generalize hd1:a3s .i64 v.t 7=x1 at a1 hgs;generalize hd2:a3s .i64 v.rep 3=x2 at a2 hgs;have u1:IntKind.i64.wrap (1+x2)=1+x2:=w64 (by omega) (by omega);have u7:¬(j:Int)=0:=by omega
          have hsr:(a1e i j Y (q+1)).map Vc.enc=(a1e i j Y q).map Vc.enc++[[.int .i64 (x1.tmod j),.str (goC v i),.int .i64 (1+x2)]]:=by rw[hgs,List.map_append];rfl
          by_cases hk:q=0
          ·subst hk;have e1:(a1e i j Y 0).map Vc.enc=[]:=rfl;rw[e1]at hsr⊢;simp only[List.nil_append]at hsr;simp only[a0a,a0c]
           (repeat first|simp only[ww]|(apply xa;simp+decide only[go_sem,n1,n2,hjp,hly,hsm,b43,List.length_map,hT1,hT2];rfl;kernel_rfl))
           refine a0p (σ:=Nat) kp9_6 (λk=>[(1,.ptr 0 0 0),(2,.ptr 1 0 0),(3,.ptr 2 0 0),(11,.int .i64 (0:Nat)),(12,.ptr 4 0 0),(13,.str (goC v k)),(14,.int .i64 (k:Nat))]) (λk=>[some (.row 3 [[sl r0 (N.map stR),sl r1 (X.map Tm.enc),sl r2 (Y.map Vc.enc)]]),some (.row 3 [[.nilslice,.nilslice,.nilslice]]),some (.row 3 [[.nilslice,.slice 3 0 j none,.nilslice]]),some (.row 6 TR),some (.row 3 [Vc.enc v])]) (λk=>i-k) (λk=>k≤i) 0 ?_ (Nat.zero_le _) ?_
           ·have e0:goC v 0=[]:=rfl
            (simp+decide only[go_sem,a09,a05,e0,hT1,hT2]<;>rfl)
           ·intro k hkn;by_cases hlk:k<i
            ·omega
            ·have hkn2:k=i:=by omega
             rw[hkn2];have k1:¬(i:Int)<i:=by omega
             have k2:¬(i:Int)<0:=by omega
             (repeat first|simp only[ww]|(apply xa;simp+decide only[go_sem,k1,k2,hd1,hd2,u1,u7,hw,List.length_map,hT1,hT2];rfl;kernel_rfl))
             refine a22 (0+1) ?_ (by omega) ⟨by omega,by omega⟩
             (simp+decide only[go_sem,a09,a05,hsr,a1q,a1k,List.length_nil,hT1,hT2]<;>rfl)
          ·have hlen:((a1e i j Y q).map Vc.enc).length=q:=by rw[List.length_map,a28 i j Y q hq]
           have hne:(a1e i j Y q).map Vc.enc≠[]:=by intro e;rw[e]at hlen;simp at hlen;omega
           have h5:=a01 (a0b (a1e i j Y (q+1)));have h6:=λπ=>a02 π (a0b (a1e i j Y (q+1)));have h7:=a01 (a0b (a1e i j Y q));have h8:=λπ=>a02 π (a0b (a1e i j Y q));have hrm:q+1≤1000000000:=by omega
           rw[a0k 4 hne,a0n 3 hne,hlen];rw[hsr]at h5 h6;generalize(a1e i j Y q).map Vc.enc=R at hsr hlen h5 h6 h7 h8 hne⊢
           (repeat first|simp only[ww]|(apply xa;simp+decide only[go_sem,n1,n2,hjp,hly,hsm,b43,List.length_map,hT1,hT2];rfl;kernel_rfl))
           refine a0p (σ:=Nat) kp9_6 (λk=>[(1,.ptr 0 0 0),(2,.ptr 1 0 0),(3,.ptr 2 0 0),(11,.int .i64 (q:Nat)),(12,.ptr 5 0 0),(13,.str (goC v k)),(14,.int .i64 (k:Nat))]) (λk=>[some (.row 3 [[sl r0 (N.map stR),sl r1 (X.map Tm.enc),sl r2 (Y.map Vc.enc)]]),some (.row 3 [[.nilslice,.nilslice,.nilslice]]),some (.row 3 [[.nilslice,.slice 3 0 j none,.slice 4 0 q none]]),some (.row 6 TR),some (.row 3 R),some (.row 3 [Vc.enc v])]) (λk=>i-k) (λk=>k≤i) 0 ?_ (Nat.zero_le _) ?_
           ·have e0:goC v 0=[]:=rfl
            (simp+decide only[go_sem,a09,a05,e0,hT1,hT2,h7,h8]<;>rfl)
           ·intro k hkn;by_cases hlk:k<i
            ·omega
            ·have hkn2:k=i:=by omega
             rw[hkn2];have k1:¬(i:Int)<i:=by omega
             have k2:¬(i:Int)<0:=by omega
             (repeat first|simp only[ww]|(apply xa;simp+decide only[go_sem,k1,k2,hd1,hd2,u1,u7,hw,hlen,hrm,List.length_map,hT1,hT2,h7,h8];rfl;kernel_rfl))
             refine a22 (q+1) ?_ (by omega) ⟨by omega,by omega⟩
             (simp+decide only[go_sem,a09,a05,hsr,a2h,a2i,hlen,h5,h6,hT1,hT2]<;>rfl)
         ·have n2:¬(q:Int)<12:=by omega
          have hnV:q=min Y.length 12:=by omega
          rw[←hnV];by_cases hk:q=0
          ·have e1:(a1e i j Y q).map Vc.enc=[]:=by rw[hk];rfl
           rw[e1];simp only[a0a,a0c]
           (repeat first|simp only[ww]|(apply xa;simp+decide only[go_sem,n1,n2,hjp,List.length_map,hT1,hT2];rfl;kernel_rfl))
           (apply a2v;(·simp+decide only[go_sem,a0y,hT3,hlT,hT4,hT1,hT2]<;>rfl))
           rfl
          ·have hlen:((a1e i j Y q).map Vc.enc).length=q:=by rw[List.length_map,a28 i j Y q hq]
           have hne:(a1e i j Y q).map Vc.enc≠[]:=by intro e;rw[e]at hlen;simp at hlen;omega
           have h9:=λq' d=>a15 q' d (a0b (a1e i j Y q));have h7:=a01 (a0b (a1e i j Y q));have h8:=λπ=>a02 π (a0b (a1e i j Y q));rw[a1n hne,a0k 4 hne,a0n 3 hne,hlen];generalize(a1e i j Y q).map Vc.enc=R at hlen h7 h8 h9 hne⊢;have h10:R.take q=R:=List.take_of_length_le (by omega)
           (repeat first|simp only[ww]|(apply xa;simp+decide only[go_sem,n1,n2,hjp,List.length_map,h7,h8,hT1,hT2];rfl;kernel_rfl))
           (apply a2v;(·simp+decide only[go_sem,a0y,hT3,hlT,hT4,h7,h8,h9,hlen,h10,hT1,hT2]<;>rfl))
           rfl
        ·have n1:¬(q:Int)<Y.length:=by omega
         have hnV:q=min Y.length 12:=by omega
         rw[←hnV];by_cases hk:q=0
         ·have e1:(a1e i j Y q).map Vc.enc=[]:=by rw[hk];rfl
          rw[e1];simp only[a0a,a0c]
          (repeat first|simp only[ww]|(apply xa;simp+decide only[go_sem,n1,List.length_map,hT1,hT2];rfl;kernel_rfl))
          (apply a2v;(·simp+decide only[go_sem,a0y,hT3,hlT,hT4,hT1,hT2]<;>rfl))
          rfl
         ·have hlen:((a1e i j Y q).map Vc.enc).length=q:=by rw[List.length_map,a28 i j Y q hq]
          have hne:(a1e i j Y q).map Vc.enc≠[]:=by intro e;rw[e]at hlen;simp at hlen;omega
          have h9:=λq' d=>a15 q' d (a0b (a1e i j Y q));have h7:=a01 (a0b (a1e i j Y q));have h8:=λπ=>a02 π (a0b (a1e i j Y q));rw[a1n hne,a0k 4 hne,a0n 3 hne,hlen];generalize(a1e i j Y q).map Vc.enc=R at hlen h7 h8 h9 hne⊢;have h10:R.take q=R:=List.take_of_length_le (by omega)
          (repeat first|simp only[ww]|(apply xa;simp+decide only[go_sem,n1,List.length_map,h7,h8,hT1,hT2];rfl;kernel_rfl))
          (apply a2v;(·simp+decide only[go_sem,a0y,hT3,hlT,hT4,h7,h8,h9,hlen,h10,hT1,hT2]<;>rfl))
          rfl
   ·have hnS:i=min N.length 8:=by omega
    rw[←hnS];have hlS:((a6t i).map Sg.enc).length=i:=by rw[List.length_map,a9q]
    have hneS:(a6t i).map Sg.enc≠[]:=by intro e;rw[e]at hlS;simp at hlS;omega
    have hS1:=a01 (a0z (a6t i));have hS2:=λπ=>a02 π (a0z (a6t i));have hS3:=λq d=>a15 q d (a0z (a6t i));rw[a1n hneS,a0k 3 hneS,a0n 2 hneS,hlS];generalize(a6t i).map Sg.enc=SR at hlS hneS hS1 hS2 hS3⊢;have hS4:SR.take i=SR:=List.take_of_length_le (by omega)
    (repeat first|simp only[ww]|(apply xa;simp+decide only[go_sem,l1,List.length_map];rfl;kernel_rfl))
    refine a0p (σ:=Nat) kp9_2 (λj=>[(1,.ptr 0 0 0),(2,.ptr 1 0 0),(3,.ptr 2 0 0),(5,.int .i64 (j:Nat))]) (λj=>some (.row 3 [[sl r0 (N.map stR),sl r1 (X.map Tm.enc),sl r2 (Y.map Vc.enc)]])::some (.row 3 [[.nilslice,.nilslice,.nilslice]])::some (.row 3 [[.slice 3 0 i none,grV 4 ((a2m X j).map Tm.enc),.nilslice]])::some (.row 2 SR)::grH 6 ((a2m X j).map Tm.enc)) (λj=>3-j) (λj=>j≤X.length∧j≤3) 0 ?_ ⟨Nat.zero_le _,Nat.zero_le _⟩ ?_
    ·have e1:a2m X 0=[]:=rfl
     (simp+decide only[go_sem,a09,a05,e1,List.map_nil,a0a,a0c,hS1,hS2]<;>rfl)
    ·rintro j ⟨hj,hj3⟩
     by_cases hlj:j<X.length
     ·have m1:(j:Int)<X.length:=by omega
      by_cases hl3:j<3
      ·have m2:(j:Int)<3:=by omega
       have hw:IntKind.i64.wrap ((j:Int)+1)=((j+1:Nat):Int):=by rw[w64 (by omega) (by omega)];omega
       obtain⟨t,ht⟩:∃t,X[j]?=some t:=⟨_,z9e hlj⟩
       have hsm:(X.map Tm.enc)[j]?=some (Tm.enc t):=by rw[List.getElem?_map,ht];rfl
       have hgs:=b5l ht;have hdg:=λh=>e1e h j hl3;have a1:=b9c t.dr;have a2:=b9c t.ri;have a3:=b9c t.fa;have a4:=b9c t.per;have a5:=d8x t.st;have hgt:Tm.enc (goT j t)=Tm.enc (goT j t):=rfl;unfold goT at hgt;unfold goT at hgs;generalize hd1:a3s .i64 t.dr 15=x1 at a1 hgs;generalize hd2:a3s .i64 t.ri 15=x2 at a2 hgs;generalize hd3:a3s .i64 t.fa 15=x3 at a3 hgs;generalize hd4:a3s .i64 t.per 15=x4 at a4 hgs;generalize hd5:a3s .i64 t.st 63=x5 at a5 hgs;have u1:IntKind.i64.wrap (x1+1)=x1+1:=w64 (by omega) (by omega);have u2:IntKind.i64.wrap (x1+1+x2)=x1+1+x2:=w64 (by omega) (by omega);have u3:IntKind.i64.wrap (x1+1+x2+1)=x1+1+x2+1:=w64 (by omega) (by omega);have u4:IntKind.i64.wrap (x1+1+x2+1+x3)=x1+1+x2+1+x3:=w64 (by omega) (by omega);have u5:IntKind.i64.wrap (x1+1+x2+1+x3+1)=x1+1+x2+1+x3+1:=w64 (by omega) (by omega);have u6:IntKind.i64.wrap (x1+1+x2+1+x3+1+x4)=x1+1+x2+1+x3+1+x4:=w64 (by omega) (by omega);have u7:¬x1+1+x2+1+x3+1+x4=0:=by omega
       have hsr:(a2m X (j+1)).map Tm.enc=(a2m X j).map Tm.enc++[[.str [116,(48+j).toUInt8],.int .i64 (x1+1+x2+1+x3+1+x4),.int .i64 x1,.int .i64 (x1+1+x2),.int .i64 (x1+1+x2+1+x3),.int .i64 (x5.tmod (x1+1+x2+1+x3+1+x4))]]:=by rw[hgs,List.map_append];rfl
       by_cases hk:j=0
       ·subst hk;have e1:(a2m X 0).map Tm.enc=[]:=rfl;rw[e1]at hsr⊢;simp only[List.nil_append]at hsr
        (repeat first|simp only[ww]|(apply xa;simp+decide only[go_sem,m1,m2,hlj,hsm,hw,hdg,hd1,hd2,hd3,hd4,hd5,u1,u2,u3,u4,u5,u6,u7,b41,List.length_map,List.cons_append,List.nil_append,a0a,a0c,hS1,hS2];rfl;kernel_rfl))
        refine a22 (0+1) ?_ (by omega) ⟨by omega,by omega⟩
        (simp+decide only[go_sem,a09,a05,hsr,a1q,a1k,List.length_nil,hS1,hS2]<;>rfl)
       ·have hlen:((a2m X j).map Tm.enc).length=j:=by rw[List.length_map,a45 X j hj]
        have hne:(a2m X j).map Tm.enc≠[]:=by intro e;rw[e]at hlen;simp at hlen;omega
        have h5:=a01 (a0g (a2m X (j+1)));have h6:=λπ=>a02 π (a0g (a2m X (j+1)));have hrm:j+1≤1000000000:=by omega
        rw[a0k 4 hne,a0n 6 hne,hlen];rw[hsr]at h5 h6;generalize(a2m X j).map Tm.enc=R at hsr hlen h5 h6 hne⊢
        (repeat first|simp only[ww]|(apply xa;simp+decide only[go_sem,m1,m2,hlj,hsm,hw,hlen,hrm,hdg,hd1,hd2,hd3,hd4,hd5,u1,u2,u3,u4,u5,u6,u7,b41,List.length_map,List.cons_append,List.nil_append,hS1,hS2];rfl;kernel_rfl))
        refine a22 (j+1) ?_ (by omega) ⟨by omega,by omega⟩
        (simp+decide only[go_sem,a09,a05,hsr,a2h,a2i,hlen,h5,h6,hS1,hS2]<;>rfl)
      ·have m2:¬(j:Int)<3:=by omega
       have hnT:j=min X.length 3:=by omega
       rw[←hnT];have hX0:¬X=[]:=by intro e;rw[e]at hj;simp at hj;omega
       have hlT:((a2m X j).map Tm.enc).length=j:=by rw[List.length_map,a45 X j hj]
       have hneT:(a2m X j).map Tm.enc≠[]:=by intro e;rw[e]at hlT;simp at hlT;omega
       have hT1:=a01 (a0g (a2m X j));have hT2:=λπ=>a02 π (a0g (a2m X j));have hT3:=λq d=>a15 q d (a0g (a2m X j));rw[a1n hneT,a0k 4 hneT,a0n 6 hneT,hlT,if_neg hX0];generalize(a2m X j).map Tm.enc=TR at hlT hneT hT1 hT2 hT3⊢;have hT4:TR.take j=TR:=List.take_of_length_le (by omega)
       (repeat first|simp only[ww]|(apply xa;simp+decide only[go_sem,m1,m2,List.length_map,hS1,hS2];rfl;kernel_rfl))
       have hjp:(0:Int)<j:=by omega
       have hj9:j<1000:=by omega
       refine a0p (σ:=Nat) kp9_4 (λq=>[(1,.ptr 0 0 0),(2,.ptr 1 0 0),(3,.ptr 2 0 0),(11,.int .i64 (q:Nat))]) (λq=>some (.row 3 [[sl r0 (N.map stR),sl r1 (X.map Tm.enc),sl r2 (Y.map Vc.enc)]])::some (.row 3 [[.nilslice,.nilslice,.nilslice]])::some (.row 3 [[.slice 3 0 i none,.slice 4 0 j none,grV 5 ((a1e i j Y q).map Vc.enc)]])::some (.row 2 SR)::some (.row 6 TR)::grH 3 ((a1e i j Y q).map Vc.enc)) (λq=>12-q) (λq=>q≤Y.length∧q≤12) 0 ?_ ⟨Nat.zero_le _,Nat.zero_le _⟩ ?_
       ·have e1:a1e i j Y 0=[]:=rfl
        (simp+decide only[go_sem,a09,a05,e1,List.map_nil,a0a,a0c,hS1,hS2,hT1,hT2]<;>rfl)
       ·rintro q ⟨hq,hq12⟩
        by_cases hly:q<Y.length
        ·have n1:(q:Int)<Y.length:=by omega
         by_cases hl12:q<12
         ·have n2:(q:Int)<12:=by omega
          have hw:IntKind.i64.wrap ((q:Int)+1)=((q+1:Nat):Int):=by rw[w64 (by omega) (by omega)];omega
          obtain⟨v,hv⟩:∃v,Y[q]?=some v:=⟨_,z9e hly⟩
          have hsm:(Y.map Vc.enc)[q]?=some (Vc.enc v):=by rw[List.getElem?_map,hv];rfl
          have hgs:a1e i j Y (q+1)=a1e i j Y q++[goV i j v]:=b5k hv;have a1:=ia7 v.t;have a2:=ia3 v.rep;unfold goV at hgs;generalize hd1:a3s .i64 v.t 7=x1 at a1 hgs;generalize hd2:a3s .i64 v.rep 3=x2 at a2 hgs;have u1:IntKind.i64.wrap (1+x2)=1+x2:=w64 (by omega) (by omega);have u7:¬(j:Int)=0:=by omega
          have hsr:(a1e i j Y (q+1)).map Vc.enc=(a1e i j Y q).map Vc.enc++[[.int .i64 (x1.tmod j),.str (goC v i),.int .i64 (1+x2)]]:=by rw[hgs,List.map_append];rfl
          by_cases hk:q=0
          ·subst hk;have e1:(a1e i j Y 0).map Vc.enc=[]:=rfl;rw[e1]at hsr⊢;simp only[List.nil_append]at hsr;simp only[a0a,a0c]
           (repeat first|simp only[ww]|(apply xa;simp+decide only[go_sem,n1,n2,hjp,hly,hsm,b43,List.length_map,hS1,hS2,hT1,hT2];rfl;kernel_rfl))
           refine a0p (σ:=Nat) kp9_6 (λk=>[(1,.ptr 0 0 0),(2,.ptr 1 0 0),(3,.ptr 2 0 0),(11,.int .i64 (0:Nat)),(12,.ptr 5 0 0),(13,.str (goC v k)),(14,.int .i64 (k:Nat))]) (λk=>[some (.row 3 [[sl r0 (N.map stR),sl r1 (X.map Tm.enc),sl r2 (Y.map Vc.enc)]]),some (.row 3 [[.nilslice,.nilslice,.nilslice]]),some (.row 3 [[.slice 3 0 i none,.slice 4 0 j none,.nilslice]]),some (.row 2 SR),some (.row 6 TR),some (.row 3 [Vc.enc v])]) (λk=>i-k) (λk=>k≤i) 0 ?_ (Nat.zero_le _) ?_
           ·have e0:goC v 0=[]:=rfl
            (simp+decide only[go_sem,a09,a05,e0,hS1,hS2,hT1,hT2]<;>rfl)
           ·intro k hkn;by_cases hlk:k<i
            ·have k1:(k:Int)<i:=by omega
             have hwk:IntKind.i64.wrap ((k:Int)+1)=((k+1:Nat):Int):=by rw[w64 (by omega) (by omega)];omega
             have hcl:=a6u v k;have hkk:k+1≤4611686018427387904:=by omega
             have hgc:=b8k v k;by_cases hce:v.cells=[]
             ·have c5:¬(0:Int)<v.cells.length:=by rw[hce];decide
              have hrc:b1g v k=0:=if_pos hce;have q0:IntKind.u8.wrap (0+1)=1:=by decide
              have e04:(0:Int).tmod 4=0:=rfl;have e03:(0:Int).tmod 3=0:=rfl;have s4:∀h,a1v L.env h 9 (.str [48,49,88,80]) (some (.int .u8 0)) (some (.int .u8 1)) none=some (.str [l4 0]):=λh=>by kernel_rfl
              have s3:∀h,a1v L.env h 9 (.str [76,72,88]) (some (.int .u8 0)) (some (.int .u8 1)) none=some (.str [l3 0]):=λh=>by kernel_rfl
              generalize goC v k=G at hcl hgc⊢;by_cases hev:k%2=0
              ·have m2:(k:Int).tmod 2=0:=by rw[show(2:Int)=((2:Nat):Int)from rfl,a21,hev];rfl
               have hca:a18 v k=l4 0:=by unfold a18;rw[if_pos hev,hrc]
               rw[hca]at hgc
               (repeat first|simp only[ww]|(apply xa;simp+decide only[go_sem,k1,c5,m2,q0,e04,e03,s4,s3,hcl,hkk,hwk,Nat.zero_add,List.length_cons,List.length_nil,hS1,hS2,hT1,hT2];rfl;kernel_rfl))
               refine a22 (k+1) ?_ (by omega) (by omega)
               (simp+decide only[go_sem,a09,a05,hgc,hS1,hS2,hT1,hT2]<;>rfl)
              ·have m2:(k:Int).tmod 2=1:=by rw[show(2:Int)=((2:Nat):Int)from rfl,a21,show k%2=1 by omega];rfl
               have hca:a18 v k=l3 0:=by unfold a18;rw[if_neg hev,hrc]
               rw[hca]at hgc
               (repeat first|simp only[ww]|(apply xa;simp+decide only[go_sem,k1,c5,m2,q0,e04,e03,s4,s3,hcl,hkk,hwk,Nat.zero_add,List.length_cons,List.length_nil,hS1,hS2,hT1,hT2];rfl;kernel_rfl))
               refine a22 (k+1) ?_ (by omega) (by omega)
               (simp+decide only[go_sem,a09,a05,hgc,hS1,hS2,hT1,hT2]<;>rfl)
             ·have hcp:0<v.cells.length:=List.length_pos_iff.2 hce;have c5:(0:Int)<v.cells.length:=by omega
              have c6:¬(v.cells.length:Int)=0:=by omega
              have hil:k%v.cells.length<v.cells.length:=Nat.mod_lt _ hcp;obtain⟨c,hc⟩:∃c,v.cells[k%v.cells.length]?=some c:=⟨_,z9e hil⟩
              have hrc:b1g v k=c.toNat:=by unfold b1g;rw[if_neg hce,hc];rfl
              have hmk:=a21 k v.cells.length;have m4:(c.toNat:Int).tmod 4=((c.toNat%4:Nat):Int):=a21 _ 4;have m3:(c.toNat:Int).tmod 3=((c.toNat%3:Nat):Int):=a21 _ 3;have w4:=u8s (c.toNat%4) (by omega);have w3:=u8s (c.toNat%3) (by omega);have s4:=λh=>c9g h (c.toNat%4) (by omega);have s3:=λh=>c9h h (c.toNat%3) (by omega);generalize goC v k=G at hcl hgc⊢;by_cases hev:k%2=0
              ·have m2:(k:Int).tmod 2=0:=by rw[show(2:Int)=((2:Nat):Int)from rfl,a21,hev];rfl
               have hca:a18 v k=l4 (c.toNat%4):=by unfold a18;rw[if_pos hev,hrc]
               rw[hca]at hgc
               (repeat first|simp only[ww]|(apply xa;simp+decide only[go_sem,k1,c5,c6,hmk,hil,hc,m2,m4,m3,w4,w3,s4,s3,hcl,hkk,hwk,Nat.zero_add,List.length_cons,List.length_nil,hS1,hS2,hT1,hT2];rfl;kernel_rfl))
               refine a22 (k+1) ?_ (by omega) (by omega)
               (simp+decide only[go_sem,a09,a05,hgc,hS1,hS2,hT1,hT2]<;>rfl)
              ·have m2:(k:Int).tmod 2=1:=by rw[show(2:Int)=((2:Nat):Int)from rfl,a21,show k%2=1 by omega];rfl
               have hca:a18 v k=l3 (c.toNat%3):=by unfold a18;rw[if_neg hev,hrc]
               rw[hca]at hgc
               (repeat first|simp only[ww]|(apply xa;simp+decide only[go_sem,k1,c5,c6,hmk,hil,hc,m2,m4,m3,w4,w3,s4,s3,hcl,hkk,hwk,Nat.zero_add,List.length_cons,List.length_nil,hS1,hS2,hT1,hT2];rfl;kernel_rfl))
               refine a22 (k+1) ?_ (by omega) (by omega)
               (simp+decide only[go_sem,a09,a05,hgc,hS1,hS2,hT1,hT2]<;>rfl)
            ·have hkn2:k=i:=by omega
             rw[hkn2];have k1:¬(i:Int)<i:=by omega
             (repeat first|simp only[ww]|(apply xa;simp+decide only[go_sem,k1,hd1,hd2,u1,u7,hw,List.length_map,hS1,hS2,hT1,hT2];rfl;kernel_rfl))
             refine a22 (0+1) ?_ (by omega) ⟨by omega,by omega⟩
             (simp+decide only[go_sem,a09,a05,hsr,a1q,a1k,List.length_nil,hS1,hS2,hT1,hT2]<;>rfl)
          ·have hlen:((a1e i j Y q).map Vc.enc).length=q:=by rw[List.length_map,a28 i j Y q hq]
           have hne:(a1e i j Y q).map Vc.enc≠[]:=by intro e;rw[e]at hlen;simp at hlen;omega
           have h5:=a01 (a0b (a1e i j Y (q+1)));have h6:=λπ=>a02 π (a0b (a1e i j Y (q+1)));have h7:=a01 (a0b (a1e i j Y q));have h8:=λπ=>a02 π (a0b (a1e i j Y q));have hrm:q+1≤1000000000:=by omega
           rw[a0k 5 hne,a0n 3 hne,hlen];rw[hsr]at h5 h6;generalize(a1e i j Y q).map Vc.enc=R at hsr hlen h5 h6 h7 h8 hne⊢
           (repeat first|simp only[ww]|(apply xa;simp+decide only[go_sem,n1,n2,hjp,hly,hsm,b43,List.length_map,hS1,hS2,hT1,hT2];rfl;kernel_rfl))
           refine a0p (σ:=Nat) kp9_6 (λk=>[(1,.ptr 0 0 0),(2,.ptr 1 0 0),(3,.ptr 2 0 0),(11,.int .i64 (q:Nat)),(12,.ptr 6 0 0),(13,.str (goC v k)),(14,.int .i64 (k:Nat))]) (λk=>[some (.row 3 [[sl r0 (N.map stR),sl r1 (X.map Tm.enc),sl r2 (Y.map Vc.enc)]]),some (.row 3 [[.nilslice,.nilslice,.nilslice]]),some (.row 3 [[.slice 3 0 i none,.slice 4 0 j none,.slice 5 0 q none]]),some (.row 2 SR),some (.row 6 TR),some (.row 3 R),some (.row 3 [Vc.enc v])]) (λk=>i-k) (λk=>k≤i) 0 ?_ (Nat.zero_le _) ?_
           ·have e0:goC v 0=[]:=rfl
            (simp+decide only[go_sem,a09,a05,e0,hS1,hS2,hT1,hT2,h7,h8]<;>rfl)
           ·intro k hkn;by_cases hlk:k<i
            ·have k1:(k:Int)<i:=by omega
             have hwk:IntKind.i64.wrap ((k:Int)+1)=((k+1:Nat):Int):=by rw[w64 (by omega) (by omega)];omega
             have hcl:=a6u v k;have hkk:k+1≤4611686018427387904:=by omega
             have hgc:=b8k v k;by_cases hce:v.cells=[]
             ·have c5:¬(0:Int)<v.cells.length:=by rw[hce];decide
              have hrc:b1g v k=0:=if_pos hce;have q0:IntKind.u8.wrap (0+1)=1:=by decide
              have e04:(0:Int).tmod 4=0:=rfl;have e03:(0:Int).tmod 3=0:=rfl;have s4:∀h,a1v L.env h 9 (.str [48,49,88,80]) (some (.int .u8 0)) (some (.int .u8 1)) none=some (.str [l4 0]):=λh=>by kernel_rfl
              have s3:∀h,a1v L.env h 9 (.str [76,72,88]) (some (.int .u8 0)) (some (.int .u8 1)) none=some (.str [l3 0]):=λh=>by kernel_rfl
              generalize goC v k=G at hcl hgc⊢;by_cases hev:k%2=0
              ·have m2:(k:Int).tmod 2=0:=by rw[show(2:Int)=((2:Nat):Int)from rfl,a21,hev];rfl
               have hca:a18 v k=l4 0:=by unfold a18;rw[if_pos hev,hrc]
               rw[hca]at hgc
               (repeat first|simp only[ww]|(apply xa;simp+decide only[go_sem,k1,c5,m2,q0,e04,e03,s4,s3,hcl,hkk,hwk,Nat.zero_add,List.length_cons,List.length_nil,hS1,hS2,hT1,hT2,h7,h8];rfl;kernel_rfl))
               refine a22 (k+1) ?_ (by omega) (by omega)
               (simp+decide only[go_sem,a09,a05,hgc,hS1,hS2,hT1,hT2,h7,h8]<;>rfl)
              ·have m2:(k:Int).tmod 2=1:=by rw[show(2:Int)=((2:Nat):Int)from rfl,a21,show k%2=1 by omega];rfl
               have hca:a18 v k=l3 0:=by unfold a18;rw[if_neg hev,hrc]
               rw[hca]at hgc
               (repeat first|simp only[ww]|(apply xa;simp+decide only[go_sem,k1,c5,m2,q0,e04,e03,s4,s3,hcl,hkk,hwk,Nat.zero_add,List.length_cons,List.length_nil,hS1,hS2,hT1,hT2,h7,h8];rfl;kernel_rfl))
               refine a22 (k+1) ?_ (by omega) (by omega)
               (simp+decide only[go_sem,a09,a05,hgc,hS1,hS2,hT1,hT2,h7,h8]<;>rfl)
             ·have hcp:0<v.cells.length:=List.length_pos_iff.2 hce;have c5:(0:Int)<v.cells.length:=by omega
              have c6:¬(v.cells.length:Int)=0:=by omega
              have hil:k%v.cells.length<v.cells.length:=Nat.mod_lt _ hcp;obtain⟨c,hc⟩:∃c,v.cells[k%v.cells.length]?=some c:=⟨_,z9e hil⟩
              have hrc:b1g v k=c.toNat:=by unfold b1g;rw[if_neg hce,hc];rfl
              have hmk:=a21 k v.cells.length;have m4:(c.toNat:Int).tmod 4=((c.toNat%4:Nat):Int):=a21 _ 4;have m3:(c.toNat:Int).tmod 3=((c.toNat%3:Nat):Int):=a21 _ 3;have w4:=u8s (c.toNat%4) (by omega);have w3:=u8s (c.toNat%3) (by omega);have s4:=λh=>c9g h (c.toNat%4) (by omega);have s3:=λh=>c9h h (c.toNat%3) (by omega);generalize goC v k=G at hcl hgc⊢;by_cases hev:k%2=0
              ·have m2:(k:Int).tmod 2=0:=by rw[show(2:Int)=((2:Nat):Int)from rfl,a21,hev];rfl
               have hca:a18 v k=l4 (c.toNat%4):=by unfold a18;rw[if_pos hev,hrc]
               rw[hca]at hgc
               (repeat first|simp only[ww]|(apply xa;simp+decide only[go_sem,k1,c5,c6,hmk,hil,hc,m2,m4,m3,w4,w3,s4,s3,hcl,hkk,hwk,Nat.zero_add,List.length_cons,List.length_nil,hS1,hS2,hT1,hT2,h7,h8];rfl;kernel_rfl))
               refine a22 (k+1) ?_ (by omega) (by omega)
               (simp+decide only[go_sem,a09,a05,hgc,hS1,hS2,hT1,hT2,h7,h8]<;>rfl)
              ·have m2:(k:Int).tmod 2=1:=by rw[show(2:Int)=((2:Nat):Int)from rfl,a21,show k%2=1 by omega];rfl
               have hca:a18 v k=l3 (c.toNat%3):=by unfold a18;rw[if_neg hev,hrc]
               rw[hca]at hgc
               (repeat first|simp only[ww]|(apply xa;simp+decide only[go_sem,k1,c5,c6,hmk,hil,hc,m2,m4,m3,w4,w3,s4,s3,hcl,hkk,hwk,Nat.zero_add,List.length_cons,List.length_nil,hS1,hS2,hT1,hT2,h7,h8];rfl;kernel_rfl))
               refine a22 (k+1) ?_ (by omega) (by omega)
               (simp+decide only[go_sem,a09,a05,hgc,hS1,hS2,hT1,hT2,h7,h8]<;>rfl)
            ·have hkn2:k=i:=by omega
             rw[hkn2];have k1:¬(i:Int)<i:=by omega
             (repeat first|simp only[ww]|(apply xa;simp+decide only[go_sem,k1,hd1,hd2,u1,u7,hw,hlen,hrm,List.length_map,hS1,hS2,hT1,hT2,h7,h8];rfl;kernel_rfl))
             refine a22 (q+1) ?_ (by omega) ⟨by omega,by omega⟩
             (simp+decide only[go_sem,a09,a05,hsr,a2h,a2i,hlen,h5,h6,hS1,hS2,hT1,hT2]<;>rfl)
         ·have n2:¬(q:Int)<12:=by omega
          have hnV:q=min Y.length 12:=by omega
          rw[←hnV];by_cases hk:q=0
          ·have e1:(a1e i j Y q).map Vc.enc=[]:=by rw[hk];rfl
           rw[e1];simp only[a0a,a0c]
           (repeat first|simp only[ww]|(apply xa;simp+decide only[go_sem,n1,n2,hjp,List.length_map,hS1,hS2,hT1,hT2];rfl;kernel_rfl))
           (apply a2v;(·simp+decide only[go_sem,a0y,hS3,hlS,hS4,hT3,hlT,hT4,hS1,hS2,hT1,hT2]<;>rfl))
           rfl
          ·have hlen:((a1e i j Y q).map Vc.enc).length=q:=by rw[List.length_map,a28 i j Y q hq]
           have hne:(a1e i j Y q).map Vc.enc≠[]:=by intro e;rw[e]at hlen;simp at hlen;omega
           have h9:=λq' d=>a15 q' d (a0b (a1e i j Y q));have h7:=a01 (a0b (a1e i j Y q));have h8:=λπ=>a02 π (a0b (a1e i j Y q));rw[a1n hne,a0k 5 hne,a0n 3 hne,hlen];generalize(a1e i j Y q).map Vc.enc=R at hlen h7 h8 h9 hne⊢;have h10:R.take q=R:=List.take_of_length_le (by omega)
           (repeat first|simp only[ww]|(apply xa;simp+decide only[go_sem,n1,n2,hjp,List.length_map,h7,h8,hS1,hS2,hT1,hT2];rfl;kernel_rfl))
           (apply a2v;(·simp+decide only[go_sem,a0y,hS3,hlS,hS4,hT3,hlT,hT4,h7,h8,h9,hlen,h10,hS1,hS2,hT1,hT2]<;>rfl))
           rfl
        ·have n1:¬(q:Int)<Y.length:=by omega
         have hnV:q=min Y.length 12:=by omega
         rw[←hnV];by_cases hk:q=0
         ·have e1:(a1e i j Y q).map Vc.enc=[]:=by rw[hk];rfl
          rw[e1];simp only[a0a,a0c]
          (repeat first|simp only[ww]|(apply xa;simp+decide only[go_sem,n1,List.length_map,hS1,hS2,hT1,hT2];rfl;kernel_rfl))
          (apply a2v;(·simp+decide only[go_sem,a0y,hS3,hlS,hS4,hT3,hlT,hT4,hS1,hS2,hT1,hT2]<;>rfl))
          rfl
         ·have hlen:((a1e i j Y q).map Vc.enc).length=q:=by rw[List.length_map,a28 i j Y q hq]
          have hne:(a1e i j Y q).map Vc.enc≠[]:=by intro e;rw[e]at hlen;simp at hlen;omega
          have h9:=λq' d=>a15 q' d (a0b (a1e i j Y q));have h7:=a01 (a0b (a1e i j Y q));have h8:=λπ=>a02 π (a0b (a1e i j Y q));rw[a1n hne,a0k 5 hne,a0n 3 hne,hlen];generalize(a1e i j Y q).map Vc.enc=R at hlen h7 h8 h9 hne⊢;have h10:R.take q=R:=List.take_of_length_le (by omega)
          (repeat first|simp only[ww]|(apply xa;simp+decide only[go_sem,n1,List.length_map,h7,h8,hS1,hS2,hT1,hT2];rfl;kernel_rfl))
          (apply a2v;(·simp+decide only[go_sem,a0y,hS3,hlS,hS4,hT3,hlT,hT4,h7,h8,h9,hlen,h10,hS1,hS2,hT1,hT2]<;>rfl))
          rfl
     ·have m1:¬(j:Int)<X.length:=by omega
      by_cases hzj:j=0
      ·have hnT:j=min X.length 3:=by omega
       rw[←hnT];have eT:(a2m X j).map Tm.enc=[]:=by rw[hzj];rfl
       have hX0:X=[]:=List.eq_nil_of_length_eq_zero (by omega);rw[eT,if_pos hX0];simp only[a0a,a0c,List.map_nil]
       (repeat first|simp only[ww]|(apply xa;simp+decide only[go_sem,m1,List.length_map,hS1,hS2];rfl;kernel_rfl))
       refine c70 kp9_4 (λz F H=>F=[(1,.ptr 0 0 0),(2,.ptr 1 0 0),(3,.ptr 2 0 0),(11,.int .i64 0)]∧H=some (.row 3 [[sl r0 (N.map stR),sl r1 (X.map Tm.enc),sl r2 (Y.map Vc.enc)]])::some (.row 3 [[.nilslice,.nilslice,.nilslice]])::some (.row 3 [[.slice 3 0 i none,.nilslice,.nilslice]])::[some (.row 2 SR)]) 0 ⟨_,_,by(simp+decide only[go_sem,a09,a05,hS1,hS2]<;>rfl),rfl,rfl⟩ ?_
       rintro z F H ⟨rfl,rfl⟩
       have hz9:(0:Int)<12:=by decide
       by_cases hy0:(0:Int)<Y.length
       ·(repeat first|simp only[ww]|(apply xa;simp+decide only[go_sem,hy0,hz9,List.length_map,hS1,hS2];rfl;kernel_rfl))
        (apply a2v;(·simp+decide only[go_sem,a0y,hS3,hlS,hS4,hS1,hS2]<;>rfl))
        rfl
       ·(repeat first|simp only[ww]|(apply xa;simp+decide only[go_sem,hy0,hz9,List.length_map,hS1,hS2];rfl;kernel_rfl))
        (apply a2v;(·simp+decide only[go_sem,a0y,hS3,hlS,hS4,hS1,hS2]<;>rfl))
        rfl
      ·have hnT:j=min X.length 3:=by omega
       rw[←hnT];have hX0:¬X=[]:=by intro e;rw[e]at hj;simp at hj;omega
       have hlT:((a2m X j).map Tm.enc).length=j:=by rw[List.length_map,a45 X j hj]
       have hneT:(a2m X j).map Tm.enc≠[]:=by intro e;rw[e]at hlT;simp at hlT;omega
       have hT1:=a01 (a0g (a2m X j));have hT2:=λπ=>a02 π (a0g (a2m X j));have hT3:=λq d=>a15 q d (a0g (a2m X j));rw[a1n hneT,a0k 4 hneT,a0n 6 hneT,hlT,if_neg hX0];generalize(a2m X j).map Tm.enc=TR at hlT hneT hT1 hT2 hT3⊢;have hT4:TR.take j=TR:=List.take_of_length_le (by omega)
       (repeat first|simp only[ww]|(apply xa;simp+decide only[go_sem,m1,List.length_map,hS1,hS2];rfl;kernel_rfl))
       have hjp:(0:Int)<j:=by omega
       have hj9:j<1000:=by omega
       refine a0p (σ:=Nat) kp9_4 (λq=>[(1,.ptr 0 0 0),(2,.ptr 1 0 0),(3,.ptr 2 0 0),(11,.int .i64 (q:Nat))]) (λq=>some (.row 3 [[sl r0 (N.map stR),sl r1 (X.map Tm.enc),sl r2 (Y.map Vc.enc)]])::some (.row 3 [[.nilslice,.nilslice,.nilslice]])::some (.row 3 [[.slice 3 0 i none,.slice 4 0 j none,grV 5 ((a1e i j Y q).map Vc.enc)]])::some (.row 2 SR)::some (.row 6 TR)::grH 3 ((a1e i j Y q).map Vc.enc)) (λq=>12-q) (λq=>q≤Y.length∧q≤12) 0 ?_ ⟨Nat.zero_le _,Nat.zero_le _⟩ ?_
       ·have e1:a1e i j Y 0=[]:=rfl
        (simp+decide only[go_sem,a09,a05,e1,List.map_nil,a0a,a0c,hS1,hS2,hT1,hT2]<;>rfl)
       ·rintro q ⟨hq,hq12⟩
        by_cases hly:q<Y.length
        ·have n1:(q:Int)<Y.length:=by omega
         by_cases hl12:q<12
         ·have n2:(q:Int)<12:=by omega
          have hw:IntKind.i64.wrap ((q:Int)+1)=((q+1:Nat):Int):=by rw[w64 (by omega) (by omega)];omega
          obtain⟨v,hv⟩:∃v,Y[q]?=some v:=⟨_,z9e hly⟩
          have hsm:(Y.map Vc.enc)[q]?=some (Vc.enc v):=by rw[List.getElem?_map,hv];rfl
          have hgs:a1e i j Y (q+1)=a1e i j Y q++[goV i j v]:=b5k hv;have a1:=ia7 v.t;have a2:=ia3 v.rep;unfold goV at hgs;generalize hd1:a3s .i64 v.t 7=x1 at a1 hgs;generalize hd2:a3s .i64 v.rep 3=x2 at a2 hgs;have u1:IntKind.i64.wrap (1+x2)=1+x2:=w64 (by omega) (by omega);have u7:¬(j:Int)=0:=by omega
          have hsr:(a1e i j Y (q+1)).map Vc.enc=(a1e i j Y q).map Vc.enc++[[.int .i64 (x1.tmod j),.str (goC v i),.int .i64 (1+x2)]]:=by rw[hgs,List.map_append];rfl
          by_cases hk:q=0
          ·subst hk;have e1:(a1e i j Y 0).map Vc.enc=[]:=rfl;rw[e1]at hsr⊢;simp only[List.nil_append]at hsr;simp only[a0a,a0c]
           (repeat first|simp only[ww]|(apply xa;simp+decide only[go_sem,n1,n2,hjp,hly,hsm,b43,List.length_map,hS1,hS2,hT1,hT2];rfl;kernel_rfl))
           refine a0p (σ:=Nat) kp9_6 (λk=>[(1,.ptr 0 0 0),(2,.ptr 1 0 0),(3,.ptr 2 0 0),(11,.int .i64 (0:Nat)),(12,.ptr 5 0 0),(13,.str (goC v k)),(14,.int .i64 (k:Nat))]) (λk=>[some (.row 3 [[sl r0 (N.map stR),sl r1 (X.map Tm.enc),sl r2 (Y.map Vc.enc)]]),some (.row 3 [[.nilslice,.nilslice,.nilslice]]),some (.row 3 [[.slice 3 0 i none,.slice 4 0 j none,.nilslice]]),some (.row 2 SR),some (.row 6 TR),some (.row 3 [Vc.enc v])]) (λk=>i-k) (λk=>k≤i) 0 ?_ (Nat.zero_le _) ?_
           ·have e0:goC v 0=[]:=rfl
            (simp+decide only[go_sem,a09,a05,e0,hS1,hS2,hT1,hT2]<;>rfl)
           ·intro k hkn;by_cases hlk:k<i
            ·have k1:(k:Int)<i:=by omega
             have hwk:IntKind.i64.wrap ((k:Int)+1)=((k+1:Nat):Int):=by rw[w64 (by omega) (by omega)];omega
             have hcl:=a6u v k;have hkk:k+1≤4611686018427387904:=by omega
             have hgc:=b8k v k;by_cases hce:v.cells=[]
             ·have c5:¬(0:Int)<v.cells.length:=by rw[hce];decide
              have hrc:b1g v k=0:=if_pos hce;have q0:IntKind.u8.wrap (0+1)=1:=by decide
              have e04:(0:Int).tmod 4=0:=rfl;have e03:(0:Int).tmod 3=0:=rfl;have s4:∀h,a1v L.env h 9 (.str [48,49,88,80]) (some (.int .u8 0)) (some (.int .u8 1)) none=some (.str [l4 0]):=λh=>by kernel_rfl
              have s3:∀h,a1v L.env h 9 (.str [76,72,88]) (some (.int .u8 0)) (some (.int .u8 1)) none=some (.str [l3 0]):=λh=>by kernel_rfl
              generalize goC v k=G at hcl hgc⊢;by_cases hev:k%2=0
              ·have m2:(k:Int).tmod 2=0:=by rw[show(2:Int)=((2:Nat):Int)from rfl,a21,hev];rfl
               have hca:a18 v k=l4 0:=by unfold a18;rw[if_pos hev,hrc]
               rw[hca]at hgc
               (repeat first|simp only[ww]|(apply xa;simp+decide only[go_sem,k1,c5,m2,q0,e04,e03,s4,s3,hcl,hkk,hwk,Nat.zero_add,List.length_cons,List.length_nil,hS1,hS2,hT1,hT2];rfl;kernel_rfl))
               refine a22 (k+1) ?_ (by omega) (by omega)
               (simp+decide only[go_sem,a09,a05,hgc,hS1,hS2,hT1,hT2]<;>rfl)
              ·have m2:(k:Int).tmod 2=1:=by rw[show(2:Int)=((2:Nat):Int)from rfl,a21,show k%2=1 by omega];rfl
               have hca:a18 v k=l3 0:=by unfold a18;rw[if_neg hev,hrc]
               rw[hca]at hgc
               (repeat first|simp only[ww]|(apply xa;simp+decide only[go_sem,k1,c5,m2,q0,e04,e03,s4,s3,hcl,hkk,hwk,Nat.zero_add,List.length_cons,List.length_nil,hS1,hS2,hT1,hT2];rfl;kernel_rfl))
               refine a22 (k+1) ?_ (by omega) (by omega)
               (simp+decide only[go_sem,a09,a05,hgc,hS1,hS2,hT1,hT2]<;>rfl)
             ·have hcp:0<v.cells.length:=List.length_pos_iff.2 hce;have c5:(0:Int)<v.cells.length:=by omega
              have c6:¬(v.cells.length:Int)=0:=by omega
              have hil:k%v.cells.length<v.cells.length:=Nat.mod_lt _ hcp;obtain⟨c,hc⟩:∃c,v.cells[k%v.cells.length]?=some c:=⟨_,z9e hil⟩
              have hrc:b1g v k=c.toNat:=by unfold b1g;rw[if_neg hce,hc];rfl
              have hmk:=a21 k v.cells.length;have m4:(c.toNat:Int).tmod 4=((c.toNat%4:Nat):Int):=a21 _ 4;have m3:(c.toNat:Int).tmod 3=((c.toNat%3:Nat):Int):=a21 _ 3;have w4:=u8s (c.toNat%4) (by omega);have w3:=u8s (c.toNat%3) (by omega);have s4:=λh=>c9g h (c.toNat%4) (by omega);have s3:=λh=>c9h h (c.toNat%3) (by omega);generalize goC v k=G at hcl hgc⊢;by_cases hev:k%2=0
              ·have m2:(k:Int).tmod 2=0:=by rw[show(2:Int)=((2:Nat):Int)from rfl,a21,hev];rfl
               have hca:a18 v k=l4 (c.toNat%4):=by unfold a18;rw[if_pos hev,hrc]
               rw[hca]at hgc
               (repeat first|simp only[ww]|(apply xa;simp+decide only[go_sem,k1,c5,c6,hmk,hil,hc,m2,m4,m3,w4,w3,s4,s3,hcl,hkk,hwk,Nat.zero_add,List.length_cons,List.length_nil,hS1,hS2,hT1,hT2];rfl;kernel_rfl))
               refine a22 (k+1) ?_ (by omega) (by omega)
               (simp+decide only[go_sem,a09,a05,hgc,hS1,hS2,hT1,hT2]<;>rfl)
              ·have m2:(k:Int).tmod 2=1:=by rw[show(2:Int)=((2:Nat):Int)from rfl,a21,show k%2=1 by omega];rfl
               have hca:a18 v k=l3 (c.toNat%3):=by unfold a18;rw[if_neg hev,hrc]
               rw[hca]at hgc
               (repeat first|simp only[ww]|(apply xa;simp+decide only[go_sem,k1,c5,c6,hmk,hil,hc,m2,m4,m3,w4,w3,s4,s3,hcl,hkk,hwk,Nat.zero_add,List.length_cons,List.length_nil,hS1,hS2,hT1,hT2];rfl;kernel_rfl))
               refine a22 (k+1) ?_ (by omega) (by omega)
               (simp+decide only[go_sem,a09,a05,hgc,hS1,hS2,hT1,hT2]<;>rfl)
            ·have hkn2:k=i:=by omega
             rw[hkn2];have k1:¬(i:Int)<i:=by omega
             (repeat first|simp only[ww]|(apply xa;simp+decide only[go_sem,k1,hd1,hd2,u1,u7,hw,List.length_map,hS1,hS2,hT1,hT2];rfl;kernel_rfl))
             refine a22 (0+1) ?_ (by omega) ⟨by omega,by omega⟩
             (simp+decide only[go_sem,a09,a05,hsr,a1q,a1k,List.length_nil,hS1,hS2,hT1,hT2]<;>rfl)
          ·have hlen:((a1e i j Y q).map Vc.enc).length=q:=by rw[List.length_map,a28 i j Y q hq]
           have hne:(a1e i j Y q).map Vc.enc≠[]:=by intro e;rw[e]at hlen;simp at hlen;omega
           have h5:=a01 (a0b (a1e i j Y (q+1)));have h6:=λπ=>a02 π (a0b (a1e i j Y (q+1)));have h7:=a01 (a0b (a1e i j Y q));have h8:=λπ=>a02 π (a0b (a1e i j Y q));have hrm:q+1≤1000000000:=by omega
           rw[a0k 5 hne,a0n 3 hne,hlen];rw[hsr]at h5 h6;generalize(a1e i j Y q).map Vc.enc=R at hsr hlen h5 h6 h7 h8 hne⊢
           (repeat first|simp only[ww]|(apply xa;simp+decide only[go_sem,n1,n2,hjp,hly,hsm,b43,List.length_map,hS1,hS2,hT1,hT2];rfl;kernel_rfl))
           refine a0p (σ:=Nat) kp9_6 (λk=>[(1,.ptr 0 0 0),(2,.ptr 1 0 0),(3,.ptr 2 0 0),(11,.int .i64 (q:Nat)),(12,.ptr 6 0 0),(13,.str (goC v k)),(14,.int .i64 (k:Nat))]) (λk=>[some (.row 3 [[sl r0 (N.map stR),sl r1 (X.map Tm.enc),sl r2 (Y.map Vc.enc)]]),some (.row 3 [[.nilslice,.nilslice,.nilslice]]),some (.row 3 [[.slice 3 0 i none,.slice 4 0 j none,.slice 5 0 q none]]),some (.row 2 SR),some (.row 6 TR),some (.row 3 R),some (.row 3 [Vc.enc v])]) (λk=>i-k) (λk=>k≤i) 0 ?_ (Nat.zero_le _) ?_
           ·have e0:goC v 0=[]:=rfl
            (simp+decide only[go_sem,a09,a05,e0,hS1,hS2,hT1,hT2,h7,h8]<;>rfl)
           ·intro k hkn;by_cases hlk:k<i
            ·have k1:(k:Int)<i:=by omega
             have hwk:IntKind.i64.wrap ((k:Int)+1)=((k+1:Nat):Int):=by rw[w64 (by omega) (by omega)];omega
             have hcl:=a6u v k;have hkk:k+1≤4611686018427387904:=by omega
             have hgc:=b8k v k;by_cases hce:v.cells=[]
             ·have c5:¬(0:Int)<v.cells.length:=by rw[hce];decide
              have hrc:b1g v k=0:=if_pos hce;have q0:IntKind.u8.wrap (0+1)=1:=by decide
              have e04:(0:Int).tmod 4=0:=rfl;have e03:(0:Int).tmod 3=0:=rfl;have s4:∀h,a1v L.env h 9 (.str [48,49,88,80]) (some (.int .u8 0)) (some (.int .u8 1)) none=some (.str [l4 0]):=λh=>by kernel_rfl
              have s3:∀h,a1v L.env h 9 (.str [76,72,88]) (some (.int .u8 0)) (some (.int .u8 1)) none=some (.str [l3 0]):=λh=>by kernel_rfl
              generalize goC v k=G at hcl hgc⊢;by_cases hev:k%2=0
              ·have m2:(k:Int).tmod 2=0:=by rw[show(2:Int)=((2:Nat):Int)from rfl,a21,hev];rfl
               have hca:a18 v k=l4 0:=by unfold a18;rw[if_pos hev,hrc]
               rw[hca]at hgc
               (repeat first|simp only[ww]|(apply xa;simp+decide only[go_sem,k1,c5,m2,q0,e04,e03,s4,s3,hcl,hkk,hwk,Nat.zero_add,List.length_cons,List.length_nil,hS1,hS2,hT1,hT2,h7,h8];rfl;kernel_rfl))
               refine a22 (k+1) ?_ (by omega) (by omega)
               (simp+decide only[go_sem,a09,a05,hgc,hS1,hS2,hT1,hT2,h7,h8]<;>rfl)
              ·have m2:(k:Int).tmod 2=1:=by rw[show(2:Int)=((2:Nat):Int)from rfl,a21,show k%2=1 by omega];rfl
               have hca:a18 v k=l3 0:=by unfold a18;rw[if_neg hev,hrc]
               rw[hca]at hgc
               (repeat first|simp only[ww]|(apply xa;simp+decide only[go_sem,k1,c5,m2,q0,e04,e03,s4,s3,hcl,hkk,hwk,Nat.zero_add,List.length_cons,List.length_nil,hS1,hS2,hT1,hT2,h7,h8];rfl;kernel_rfl))
               refine a22 (k+1) ?_ (by omega) (by omega)
               (simp+decide only[go_sem,a09,a05,hgc,hS1,hS2,hT1,hT2,h7,h8]<;>rfl)
             ·have hcp:0<v.cells.length:=List.length_pos_iff.2 hce;have c5:(0:Int)<v.cells.length:=by omega
              have c6:¬(v.cells.length:Int)=0:=by omega
              have hil:k%v.cells.length<v.cells.length:=Nat.mod_lt _ hcp;obtain⟨c,hc⟩:∃c,v.cells[k%v.cells.length]?=some c:=⟨_,z9e hil⟩
              have hrc:b1g v k=c.toNat:=by unfold b1g;rw[if_neg hce,hc];rfl
              have hmk:=a21 k v.cells.length;have m4:(c.toNat:Int).tmod 4=((c.toNat%4:Nat):Int):=a21 _ 4;have m3:(c.toNat:Int).tmod 3=((c.toNat%3:Nat):Int):=a21 _ 3;have w4:=u8s (c.toNat%4) (by omega);have w3:=u8s (c.toNat%3) (by omega);have s4:=λh=>c9g h (c.toNat%4) (by omega);have s3:=λh=>c9h h (c.toNat%3) (by omega);generalize goC v k=G at hcl hgc⊢;by_cases hev:k%2=0
              ·have m2:(k:Int).tmod 2=0:=by rw[show(2:Int)=((2:Nat):Int)from rfl,a21,hev];rfl
               have hca:a18 v k=l4 (c.toNat%4):=by unfold a18;rw[if_pos hev,hrc]
               rw[hca]at hgc
               (repeat first|simp only[ww]|(apply xa;simp+decide only[go_sem,k1,c5,c6,hmk,hil,hc,m2,m4,m3,w4,w3,s4,s3,hcl,hkk,hwk,Nat.zero_add,List.length_cons,List.length_nil,hS1,hS2,hT1,hT2,h7,h8];rfl;kernel_rfl))
               refine a22 (k+1) ?_ (by omega) (by omega)
               (simp+decide only[go_sem,a09,a05,hgc,hS1,hS2,hT1,hT2,h7,h8]<;>rfl)
              ·have m2:(k:Int).tmod 2=1:=by rw[show(2:Int)=((2:Nat):Int)from rfl,a21,show k%2=1 by omega];rfl
               have hca:a18 v k=l3 (c.toNat%3):=by unfold a18;rw[if_neg hev,hrc]
               rw[hca]at hgc
               (repeat first|simp only[ww]|(apply xa;simp+decide only[go_sem,k1,c5,c6,hmk,hil,hc,m2,m4,m3,w4,w3,s4,s3,hcl,hkk,hwk,Nat.zero_add,List.length_cons,List.length_nil,hS1,hS2,hT1,hT2,h7,h8];rfl;kernel_rfl))
               refine a22 (k+1) ?_ (by omega) (by omega)
               (simp+decide only[go_sem,a09,a05,hgc,hS1,hS2,hT1,hT2,h7,h8]<;>rfl)
            ·have hkn2:k=i:=by omega
             rw[hkn2];have k1:¬(i:Int)<i:=by omega
             (repeat first|simp only[ww]|(apply xa;simp+decide only[go_sem,k1,hd1,hd2,u1,u7,hw,hlen,hrm,List.length_map,hS1,hS2,hT1,hT2,h7,h8];rfl;kernel_rfl))
             refine a22 (q+1) ?_ (by omega) ⟨by omega,by omega⟩
             (simp+decide only[go_sem,a09,a05,hsr,a2h,a2i,hlen,h5,h6,hS1,hS2,hT1,hT2]<;>rfl)
         ·have n2:¬(q:Int)<12:=by omega
          have hnV:q=min Y.length 12:=by omega
          rw[←hnV];by_cases hk:q=0
          ·have e1:(a1e i j Y q).map Vc.enc=[]:=by rw[hk];rfl
           rw[e1];simp only[a0a,a0c]
           (repeat first|simp only[ww]|(apply xa;simp+decide only[go_sem,n1,n2,hjp,List.length_map,hS1,hS2,hT1,hT2];rfl;kernel_rfl))
           (apply a2v;(·simp+decide only[go_sem,a0y,hS3,hlS,hS4,hT3,hlT,hT4,hS1,hS2,hT1,hT2]<;>rfl))
           rfl
          ·have hlen:((a1e i j Y q).map Vc.enc).length=q:=by rw[List.length_map,a28 i j Y q hq]
           have hne:(a1e i j Y q).map Vc.enc≠[]:=by intro e;rw[e]at hlen;simp at hlen;omega
           have h9:=λq' d=>a15 q' d (a0b (a1e i j Y q));have h7:=a01 (a0b (a1e i j Y q));have h8:=λπ=>a02 π (a0b (a1e i j Y q));rw[a1n hne,a0k 5 hne,a0n 3 hne,hlen];generalize(a1e i j Y q).map Vc.enc=R at hlen h7 h8 h9 hne⊢;have h10:R.take q=R:=List.take_of_length_le (by omega)
           (repeat first|simp only[ww]|(apply xa;simp+decide only[go_sem,n1,n2,hjp,List.length_map,h7,h8,hS1,hS2,hT1,hT2];rfl;kernel_rfl))
           (apply a2v;(·simp+decide only[go_sem,a0y,hS3,hlS,hS4,hT3,hlT,hT4,h7,h8,h9,hlen,h10,hS1,hS2,hT1,hT2]<;>rfl))
           rfl
        ·have n1:¬(q:Int)<Y.length:=by omega
         have hnV:q=min Y.length 12:=by omega
         rw[←hnV];by_cases hk:q=0
         ·have e1:(a1e i j Y q).map Vc.enc=[]:=by rw[hk];rfl
          rw[e1];simp only[a0a,a0c]
          (repeat first|simp only[ww]|(apply xa;simp+decide only[go_sem,n1,List.length_map,hS1,hS2,hT1,hT2];rfl;kernel_rfl))
          (apply a2v;(·simp+decide only[go_sem,a0y,hS3,hlS,hS4,hT3,hlT,hT4,hS1,hS2,hT1,hT2]<;>rfl))
          rfl
         ·have hlen:((a1e i j Y q).map Vc.enc).length=q:=by rw[List.length_map,a28 i j Y q hq]
          have hne:(a1e i j Y q).map Vc.enc≠[]:=by intro e;rw[e]at hlen;simp at hlen;omega
          have h9:=λq' d=>a15 q' d (a0b (a1e i j Y q));have h7:=a01 (a0b (a1e i j Y q));have h8:=λπ=>a02 π (a0b (a1e i j Y q));rw[a1n hne,a0k 5 hne,a0n 3 hne,hlen];generalize(a1e i j Y q).map Vc.enc=R at hlen h7 h8 h9 hne⊢;have h10:R.take q=R:=List.take_of_length_le (by omega)
          (repeat first|simp only[ww]|(apply xa;simp+decide only[go_sem,n1,List.length_map,h7,h8,hS1,hS2,hT1,hT2];rfl;kernel_rfl))
          (apply a2v;(·simp+decide only[go_sem,a0y,hS3,hlS,hS4,hT3,hlT,hT4,h7,h8,h9,hlen,h10,hS1,hS2,hT1,hT2]<;>rfl))
          rfl
end Go.RInst
namespace Go.RInst
open Go.Proofs Go.Ax Go.Pc
variable [PR]
set_option maxRecDepth 100000
theorem d6h:∀i:Nat,i<8→b1r (goS i)=true:=by decide
theorem d1s:∀n:Nat,n<9→((a6t n).map Sg.name).Nodup:=by decide
theorem d4q:∀i:Nat,i<3→a43 [116,(48+i).toUInt8]=true:=by decide
theorem d4r:∀n:Nat,n<4→((List.range n).map λi=>([116,(48+i).toUInt8]:List UInt8)).Nodup:=by decide
theorem c5f(X:List Tm):∀j,j≤X.length→(a2m X j).map Tm.name=(List.range j).map λi=>([116,(48+i).toUInt8]:List UInt8)
 |0,_=>rfl
 |j+1,h=>by
  obtain⟨t,ht⟩:∃t,X[j]?=some t:=⟨_,z9e (by omega)⟩
  rw[b5l ht,List.map_append,c5f X j (by omega),List.range_succ,List.map_append];rfl
theorem d6f(i:Nat)(hi:i<3)(t:Tm):a5j (goT i t)=true:=by
 have a1:=b9c t.dr;have a2:=b9c t.ri;have a3:=b9c t.fa;have a4:=b9c t.per;have a5:=d8x t.st;unfold goT;generalize a3s .i64 t.dr 15=x1 at a1⊢;generalize a3s .i64 t.ri 15=x2 at a2⊢;generalize a3s .i64 t.fa 15=x3 at a3⊢;generalize a3s .i64 t.per 15=x4 at a4⊢;generalize a3s .i64 t.st 63=x5 at a5⊢;obtain⟨p,hp⟩:∃p,x1+1+x2+1+x3+1+x4=p:=⟨_,rfl⟩
 have hm:0≤x5.tmod p∧x5.tmod p<p:=by rw[Int.tmod_eq_emod_of_nonneg a5.1];exact⟨Int.emod_nonneg _ (by omega),Int.emod_lt_of_pos _ (by omega)⟩
 simp only[a5j,d4q i hi,Bool.true_and,Bool.and_eq_true,decide_eq_true_eq,hp];refine⟨by omega,by omega,by omega,by omega,by omega,by omega,hm.1,hm.2⟩
theorem c19(X:List Tm):∀j,j≤X.length→j≤3→∀t∈a2m X j,a5j t=true
 |0,_,_=>λt h=>by simp[a2m]at h
 |j+1,h,h3=>by
  obtain⟨t,ht⟩:∃t,X[j]?=some t:=⟨_,z9e (by omega)⟩
  rw[b5l ht];intro u hu;rcases List.mem_append.1 hu with hu|hu
  ·exact c19 X j (by omega) (by omega) u hu
  ·rw[List.mem_singleton.1 hu];exact d6f j (by omega) t
theorem e0v:∀c:Nat,c<4→(a23 0).contains (l4 c)=true:=by decide
theorem e0w:∀c:Nat,c<3→(a23 1).contains (l3 c)=true:=by decide
theorem c5y(v:Vc)(k:Nat):(a23 (k%2)).contains (a18 v k)=true:=by
 unfold a18;by_cases h:k%2=0
 ·rw[if_pos h,h];exact e0v _ (Nat.mod_lt _ (by decide))
 ·rw[if_neg h,show k%2=1 by omega];exact e0w _ (Nat.mod_lt _ (by decide))
theorem d6i(v:Vc)(n:Nat):a29 (a6t n) (goC v n)=true:=by
 refine b15 _ _ (by rw[a9q,a6u]) ?_;intro i s c h1 h2;simp only[a6t,goC,List.getElem?_map]at h1 h2;cases hr:(List.range n)[i]? with
 |none=>rw[hr]at h1;cases h1
 |some j=>rw[hr]at h1 h2;cases h1;cases h2;exact c5y v j
theorem d6e(n m:Nat)(hm:0<m)(v:Vc):a55 (goV n m v) (a6t n) m=true∧(goV n m v).rep≤4∧0≤(goV n m v).rep:=by
 have a1:=ia7 v.t;have a2:=ia3 v.rep;unfold goV;generalize a3s .i64 v.t 7=x1 at a1⊢;generalize a3s .i64 v.rep 3=x2 at a2⊢;have hm1:0≤x1.tmod m∧x1.tmod m<m:=by rw[Int.tmod_eq_emod_of_nonneg a1.1];exact⟨Int.emod_nonneg _ (by omega),Int.emod_lt_of_pos _ (by omega)⟩
 refine⟨?_,by simp only;omega,by simp only;omega⟩;simp only[a55,d6i,Bool.and_true,Bool.and_eq_true,decide_eq_true_eq];exact⟨hm1.1,hm1.2,by omega,by omega⟩
theorem c0t:∀(V:List Vc),(∀v∈V,v.rep≤4)→a1d V≤4*V.length
 | [],_=>by simp[a1d]
 |v::V,h=>by have h1:=c0t V λx hx=>h x (by simp[hx]);have h2:=h v (by simp);unfold a1d at h1⊢;rw[List.map_cons,List.sum_cons,List.length_cons];omega
theorem c2n(n:Nat)(hn:n≤8)(X:List Tm)(Y:List Vc):Valid (a6t n) (a2m X (min X.length 3)) (if X=[]then[]else a1e n (min X.length 3) Y (min Y.length 12)):=by
 have hlS:=a9q n;have hlT:=a45 X (min X.length 3) (by omega);have hV:∀v∈(if X=[]then[]else a1e n (min X.length 3) Y (min Y.length 12)),a55 v (a6t n) (a2m X (min X.length 3)).length=true∧v.rep≤4∧0≤v.rep:=by
  intro v hv;by_cases hX:X=[]
  ·rw[if_pos hX]at hv;cases hv
  ·rw[if_neg hX]at hv;have hp:=List.length_pos_iff.2 hX;simp only[a1e,List.mem_map]at hv;obtain⟨u,_,rfl⟩:=hv;rw[hlT];exact d6e n (min X.length 3) (by omega) u
 have hVl:(if X=[]then[]else a1e n (min X.length 3) Y (min Y.length 12)).length≤12:=by
  split
  ·simp
  ·rw[a28 _ _ _ _ (by omega)];omega
 have h4:=c0t _ λv hv=>(hV v hv).2.1;refine⟨by omega,by omega,by omega,?_,c19 X _ (by omega) (by omega),λv hv=>(hV v hv).1,d1s n (by omega),?_,by omega⟩
 ·intro s hs;simp only[a6t,List.mem_map,List.mem_range]at hs;obtain⟨i,hi,rfl⟩:=hs;exact d6h i (by omega)
 ·rw[c5f X _ (by omega)];exact d4r _ (by omega)
end Go.RInst
