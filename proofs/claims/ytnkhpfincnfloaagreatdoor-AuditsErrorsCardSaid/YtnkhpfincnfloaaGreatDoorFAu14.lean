/- Part of a proof. No condition. -/
import Derived.Test.YtnkhpfincnfloaaGreatDoorFAd
import Derived.Test.YtnkhpfincnfloaaGreatDoorFOfM0
import Derived.Test.YtnkhpfincnfloaaGreatDoorFOfM1
import Derived.Test.YtnkhpfincnfloaaGreatDoorFOfM2
import Derived.Test.YtnkhpfincnfloaaGreatDoorFOfP
import Derived.Test.YtnkhpfincnfloaaGreatDoorPcB
import Derived.Test.YtnkhpfincnfloaaGreatDoorAxD
set_option linter.unusedSimpArgs false
set_option linter.unusedVariables false
namespace Go.FInst
open Go.Proofs Go.Ax Go.Pc
set_option maxRecDepth 100000
/-- The ports of a circuit's memory. -/
structure Ports(x:CX):Prop where
 p0:x.p0<256
 p1:x.p1<256
 p2:x.p2<256
 p3:x.p3<256
theorem ofM_ok(x:CX)(hx:x.ok)(hp:Ports x)(hm:x.mem=true):sem L.env Mf 15 [.agg x.enc] []=some (.agg (encM x.cirM x.memA),[]):=by
 have h3:x.d<3:=Nat.mod_lt _ (by omega);have h:x.d=0∨x.d=1∨x.d=2:=by omega
 rcases h with h|h|h
 ·exact ofM_ok0 x hx hp.1 hp.2 hp.3 hp.4 hm h
 ·exact ofM_ok1 x hx hp.1 hp.2 hp.3 hp.4 hm h
 ·exact ofM_ok2 x hx hp.1 hp.2 hp.3 hp.4 hm h
theorem refs_encM(c:Cir)(mm:Mm):refsL (encM c mm)=[]:=by simp only[go_sem,encM,memV]
theorem ofM_call{d:Bool}(H:Heap)(x:CX)(hx:x.ok)(hp:Ports x)(hm:x.mem=true):callV L.env d (sem L.env Mf) (.func (.func 15) [] []) [.agg x.enc] H=some (.agg (encM x.cirM x.memA),H,[]):=callV_flat (by kernel_rfl) (by kernel_rfl) rfl (by simp only[go_sem]) (ofM_ok x hx hp hm) (refs_encM _ _)
def mpN:Nat→AObj
 |2=>.map [.str [99,104,97,105,110,115]] [.bool true] [0] 1
 |3=>.map [.str [99,104,97,105,110,115],.str [102,97,117,108,116,115]] [.bool true,.bool true] [0,1] 2
 |4=>.map [.str [99,104,97,105,110,115],.str [102,97,117,108,116,115],.str [116,101,115,116,115]] [.bool true,.bool true,.bool true] [0,1,2] 3
 |5=>.map [.str [99,104,97,105,110,115],.str [102,97,117,108,116,115],.str [116,101,115,116,115],.str [115,101,101,100,115]] [.bool true,.bool true,.bool true,.bool true] [0,1,2,3] 4
 |6=>.map [.str [99,104,97,105,110,115],.str [102,97,117,108,116,115],.str [116,101,115,116,115],.str [115,101,101,100,115],.str [100,101,116,101,99,116,105,111,110,115]] [.bool true,.bool true,.bool true,.bool true,.bool true] [0,1,2,3,4] 5
 |7=>.map [.str [99,104,97,105,110,115],.str [102,97,117,108,116,115],.str [116,101,115,116,115],.str [115,101,101,100,115],.str [100,101,116,101,99,116,105,111,110,115],.str [112,114,111,111,102,115]] [.bool true,.bool true,.bool true,.bool true,.bool true,.bool true] [0,1,2,3,4,5] 6
 |8=>.map [.str [99,104,97,105,110,115],.str [102,97,117,108,116,115],.str [116,101,115,116,115],.str [115,101,101,100,115],.str [100,101,116,101,99,116,105,111,110,115],.str [112,114,111,111,102,115],.str [112,114,111,103,114,97,109]] [.bool true,.bool true,.bool true,.bool true,.bool true,.bool true,.bool true] [0,1,2,3,4,5,6] 7
 |_=>.map [] [] [] 0
set_option maxHeartbeats 8000000 in
theorem lawAudM_ok(hlv:∀(d:Bool) H,callV L.env d (sem L.env Mf) (.func (.func 21) [] []) [] H=some (.bool true,H,[]))(x:CX)(hx:x.ok)(hp:Ports x)(hm:x.mem=true)(n:Int)(k:Nat)(hk:k<256) :
 sem L.env Mf 4 [.agg x.enc,.int .i64 n,.int .u8 k] []=some (.bool true,[]):=by
 have hof:=λ(d:Bool) (H:Heap)=>ofM_call (d:=d) H x hx hp hm;have hc:wfM x.cirM x.memA:=CX.wfM x;generalize x.cirM=c at hof hc;generalize x.memA=mm at hof hc;have hb:=λ(d:Bool) (H:Heap)=>balM_call (d:=d) H c mm hc n;have hau:=λ(d:Bool) (H:Heap)=>auditM_call c mm hc n d H;have hpv:=λ(d:Bool) (H:Heap)=>pvM_call c mm hc d H;have hck:=λ(d:Bool) (H:Heap)=>ncheck_callM (d:=d) H c mm hc;have hnm:=λ(d:Bool) (H:Heap) (j:Nat) (hj:j<8)=>callV_flat (E:=L.env) (draw:=d) (call:=sem L.env Mf) (g:=20) (fs:=[]) (cs:=[]) (ar:=[.int .u8 j]) (H:=H) (by kernel_rfl) (by kernel_rfl) rfl rfl (name7_ok j hj) rfl;simp only[encM,memV,CX.enc]at hof hb hau hpv hck⊢
 (refine sv Tryz.f4 ?_;simp only[Tryz.f4,gS])
 (repeat first|simp only[ww]|(apply xa;simp+decide only[go_sem,hof,hb,hau,hpv,hck];rfl;kernel_rfl))
 refine xp_loop3 (σ:=Nat) kp4_0 (λi=>[(2,.int .u8 k),(14,.map 0),(15,.int .i64 i)]) (λi=>[some (mpN i)]) (λi=>8-i) (λi=>1≤i∧i≤8) 1 ?_ ⟨Nat.le_refl _,by decide⟩ ?_
 ·(simp+decide only[go_sem,gcD_eq,gcIds_eq,mpN]<;>rfl)
 ·rintro i ⟨h1,h2⟩
  have:i=1∨i=2∨i=3∨i=4∨i=5∨i=6∨i=7∨i=8:=by omega
  rcases this with rfl|rfl|rfl|rfl|rfl|rfl|rfl|rfl
  ·have g1:=λH=>hnm false H 1 (by decide);have w1:IntKind.u8.wrap ((1:Nat):Int)=((1:Nat):Int):=rfl;have w2:=wI1 (n:=1) (by decide);have hcc:constCell (Value.bool false) = .bool false:=rfl;simp only[nmS]at g1;simp only[mpN]
   (repeat first|simp only[ww]|(apply xa;simp+decide only[go_sem,g1,w1,w2,hcc];rfl;kernel_rfl))
   refine lp_n 2 ?_ (by omega) ⟨by omega,by omega⟩
   (simp+decide only[go_sem,gcD_eq,gcIds_eq,mpN]<;>rfl)
  ·have g1:=λH=>hnm false H 2 (by decide);have w1:IntKind.u8.wrap ((2:Nat):Int)=((2:Nat):Int):=rfl;have w2:=wI1 (n:=2) (by decide);have hcc:constCell (Value.bool false) = .bool false:=rfl;simp only[nmS]at g1;simp only[mpN]
   (repeat first|simp only[ww]|(apply xa;simp+decide only[go_sem,g1,w1,w2,hcc];rfl;kernel_rfl))
   refine lp_n 3 ?_ (by omega) ⟨by omega,by omega⟩
   (simp+decide only[go_sem,gcD_eq,gcIds_eq,mpN]<;>rfl)
  ·have g1:=λH=>hnm false H 3 (by decide);have w1:IntKind.u8.wrap ((3:Nat):Int)=((3:Nat):Int):=rfl;have w2:=wI1 (n:=3) (by decide);have hcc:constCell (Value.bool false) = .bool false:=rfl;simp only[nmS]at g1;simp only[mpN]
   (repeat first|simp only[ww]|(apply xa;simp+decide only[go_sem,g1,w1,w2,hcc];rfl;kernel_rfl))
   refine lp_n 4 ?_ (by omega) ⟨by omega,by omega⟩
   (simp+decide only[go_sem,gcD_eq,gcIds_eq,mpN]<;>rfl)
  ·have g1:=λH=>hnm false H 4 (by decide);have w1:IntKind.u8.wrap ((4:Nat):Int)=((4:Nat):Int):=rfl;have w2:=wI1 (n:=4) (by decide);have hcc:constCell (Value.bool false) = .bool false:=rfl;simp only[nmS]at g1;simp only[mpN]
   (repeat first|simp only[ww]|(apply xa;simp+decide only[go_sem,g1,w1,w2,hcc];rfl;kernel_rfl))
   refine lp_n 5 ?_ (by omega) ⟨by omega,by omega⟩
   (simp+decide only[go_sem,gcD_eq,gcIds_eq,mpN]<;>rfl)
  ·have g1:=λH=>hnm false H 5 (by decide);have w1:IntKind.u8.wrap ((5:Nat):Int)=((5:Nat):Int):=rfl;have w2:=wI1 (n:=5) (by decide);have hcc:constCell (Value.bool false) = .bool false:=rfl;simp only[nmS]at g1;simp only[mpN]
   (repeat first|simp only[ww]|(apply xa;simp+decide only[go_sem,g1,w1,w2,hcc];rfl;kernel_rfl))
   refine lp_n 6 ?_ (by omega) ⟨by omega,by omega⟩
   (simp+decide only[go_sem,gcD_eq,gcIds_eq,mpN]<;>rfl)
  ·have g1:=λH=>hnm false H 6 (by decide);have w1:IntKind.u8.wrap ((6:Nat):Int)=((6:Nat):Int):=rfl;have w2:=wI1 (n:=6) (by decide);have hcc:constCell (Value.bool false) = .bool false:=rfl;simp only[nmS]at g1;simp only[mpN]
   (repeat first|simp only[ww]|(apply xa;simp+decide only[go_sem,g1,w1,w2,hcc];rfl;kernel_rfl))
   refine lp_n 7 ?_ (by omega) ⟨by omega,by omega⟩
   (simp+decide only[go_sem,gcD_eq,gcIds_eq,mpN]<;>rfl)
  ·have g1:=λH=>hnm false H 7 (by decide);have w1:IntKind.u8.wrap ((7:Nat):Int)=((7:Nat):Int):=rfl;have w2:=wI1 (n:=7) (by decide);have hcc:constCell (Value.bool false) = .bool false:=rfl;simp only[nmS]at g1;simp only[mpN]
   (repeat first|simp only[ww]|(apply xa;simp+decide only[go_sem,g1,w1,w2,hcc];rfl;kernel_rfl))
   refine lp_n 8 ?_ (by omega) ⟨by omega,by omega⟩
   (simp+decide only[go_sem,gcD_eq,gcIds_eq,mpN]<;>rfl)
  ·by_cases hk8:k<8
   ·have g1:=λH=>hnm false H k hk8;have:k=0∨k=1∨k=2∨k=3∨k=4∨k=5∨k=6∨k=7:=by omega
    rcases this with hkk|hkk|hkk|hkk|hkk|hkk|hkk|hkk
    ·have e:nmS k=[63]:=by rw[hkk];rfl
     have c1:((k:Int)=0)=True:=eq_true (by omega);have c2:¬(7:Int)<k:=by omega
     have hst:astr BinOp.eql [63] [63]=some (.bool true):=rfl;rw[e]at g1;simp only[mpN]
     (repeat first|simp only[ww]|(apply xa;simp+decide only[go_sem,g1,hlv,c1,c2,hst];rfl;kernel_rfl))
     (apply fqb;simp+decide only[go_sem]<;>rfl)
    ·have e:nmS k=[99,104,97,105,110,115]:=by rw[hkk];rfl
     have c1:¬(k:Int)=0:=by omega
     have c2:¬(7:Int)<k:=by omega
     have hst:astr BinOp.eql [99,104,97,105,110,115] [63]=some (.bool false):=rfl;rw[e]at g1;simp only[mpN]
     (repeat first|simp only[ww]|(apply xa;simp+decide only[go_sem,g1,hlv,c1,c2,hst];rfl;kernel_rfl))
     (apply fqb;simp+decide only[go_sem]<;>rfl)
    ·have e:nmS k=[102,97,117,108,116,115]:=by rw[hkk];rfl
     have c1:¬(k:Int)=0:=by omega
     have c2:¬(7:Int)<k:=by omega
     have hst:astr BinOp.eql [102,97,117,108,116,115] [63]=some (.bool false):=rfl;rw[e]at g1;simp only[mpN]
     (repeat first|simp only[ww]|(apply xa;simp+decide only[go_sem,g1,hlv,c1,c2,hst];rfl;kernel_rfl))
     (apply fqb;simp+decide only[go_sem]<;>rfl)
    ·have e:nmS k=[116,101,115,116,115]:=by rw[hkk];rfl
     have c1:¬(k:Int)=0:=by omega
     have c2:¬(7:Int)<k:=by omega
     have hst:astr BinOp.eql [116,101,115,116,115] [63]=some (.bool false):=rfl;rw[e]at g1;simp only[mpN]
     (repeat first|simp only[ww]|(apply xa;simp+decide only[go_sem,g1,hlv,c1,c2,hst];rfl;kernel_rfl))
     (apply fqb;simp+decide only[go_sem]<;>rfl)
    ·have e:nmS k=[115,101,101,100,115]:=by rw[hkk];rfl
     have c1:¬(k:Int)=0:=by omega
     have c2:¬(7:Int)<k:=by omega
     have hst:astr BinOp.eql [115,101,101,100,115] [63]=some (.bool false):=rfl;rw[e]at g1;simp only[mpN]
     (repeat first|simp only[ww]|(apply xa;simp+decide only[go_sem,g1,hlv,c1,c2,hst];rfl;kernel_rfl))
     (apply fqb;simp+decide only[go_sem]<;>rfl)
    ·have e:nmS k=[100,101,116,101,99,116,105,111,110,115]:=by rw[hkk];rfl
     have c1:¬(k:Int)=0:=by omega
     have c2:¬(7:Int)<k:=by omega
     have hst:astr BinOp.eql [100,101,116,101,99,116,105,111,110,115] [63]=some (.bool false):=rfl;rw[e]at g1;simp only[mpN]
     (repeat first|simp only[ww]|(apply xa;simp+decide only[go_sem,g1,hlv,c1,c2,hst];rfl;kernel_rfl))
     (apply fqb;simp+decide only[go_sem]<;>rfl)
    ·have e:nmS k=[112,114,111,111,102,115]:=by rw[hkk];rfl
     have c1:¬(k:Int)=0:=by omega
     have c2:¬(7:Int)<k:=by omega
     have hst:astr BinOp.eql [112,114,111,111,102,115] [63]=some (.bool false):=rfl;rw[e]at g1;simp only[mpN]
     (repeat first|simp only[ww]|(apply xa;simp+decide only[go_sem,g1,hlv,c1,c2,hst];rfl;kernel_rfl))
     (apply fqb;simp+decide only[go_sem]<;>rfl)
    ·have e:nmS k=[112,114,111,103,114,97,109]:=by rw[hkk];rfl
     have c1:¬(k:Int)=0:=by omega
     have c2:¬(7:Int)<k:=by omega
     have hst:astr BinOp.eql [112,114,111,103,114,97,109] [63]=some (.bool false):=rfl;rw[e]at g1;simp only[mpN]
     (repeat first|simp only[ww]|(apply xa;simp+decide only[go_sem,g1,hlv,c1,c2,hst];rfl;kernel_rfl))
     (apply fqb;simp+decide only[go_sem]<;>rfl)
   ·have c1:¬(k:Int)=0:=by omega
    have c2:(7:Int)<k:=by omega
    have g1:=λH=>callV_flat (E:=L.env) (draw:=false) (call:=sem L.env Mf) (g:=20) (fs:=[]) (cs:=[]) (ar:=[.int .u8 k]) (H:=H) (by kernel_rfl) (by kernel_rfl) rfl rfl (name8_ok k (by omega) (by omega)) rfl;have hst:astr BinOp.eql [63] [63]=some (.bool true):=rfl;simp only[mpN]
    (repeat first|simp only[ww]|(apply xa;simp+decide only[go_sem,g1,hlv,c1,c2,hst];rfl;kernel_rfl))
    (apply fqb;simp+decide only[go_sem]<;>rfl)
set_option maxHeartbeats 8000000 in
theorem lawAud0_ok(hlv:∀(d:Bool) H,callV L.env d (sem L.env Mf) (.func (.func 21) [] []) [] H=some (.bool true,H,[]))(x:CX)(hx:x.ok)(hm:x.mem=false)(n:Int)(k:Nat)(hk:k<256) :
 sem L.env Mf 4 [.agg x.enc,.int .i64 n,.int .u8 k] []=some (.bool true,[]):=by
 have hof:=λ(d:Bool) (H:Heap)=>of_call (d:=d) H x hx hm;have hc:x.cir.wf:=CX.wf x;generalize x.cir=c at hof hc;obtain⟨v,e,hv,hb⟩:=bal_call c hc n;obtain⟨V,hV,hVr,hau⟩:=audit_call c hc n e v hv hb;have hal:=λ(d:Bool) (H:Heap)=>all_call (d:=d) H c hc;have hpv:=λ(d:Bool) (H:Heap)=>pv_call c hc d H;have hck:=λ(d:Bool) (H:Heap)=>ncheck_call (d:=d) H c hc;have hnm:=λ(d:Bool) (H:Heap) (j:Nat) (hj:j<8)=>callV_flat (E:=L.env) (draw:=d) (call:=sem L.env Mf) (g:=20) (fs:=[]) (cs:=[]) (ar:=[.int .u8 j]) (H:=H) (by kernel_rfl) (by kernel_rfl) rfl rfl (name7_ok j hj) rfl;simp only[Cir.enc,CX.enc]at hof hb hau hal hpv hck⊢;by_cases he:e=0
 ·subst he
  (refine sv Tryz.f4 ?_;simp only[Tryz.f4,gS])
  (repeat first|simp only[ww]|(apply xa;simp+decide only[go_sem,hof,hb,hal,hau,hpv,hck];rfl;kernel_rfl))
  refine xp_loop3 (σ:=Nat) kp4_0 (λi=>[(2,.int .u8 k),(14,.map 0),(15,.int .i64 i)]) (λi=>[some (mpN i)]) (λi=>8-i) (λi=>1≤i∧i≤8) 1 ?_ ⟨Nat.le_refl _,by decide⟩ ?_
  ·(simp+decide only[go_sem,gcD_eq,gcIds_eq,mpN]<;>rfl)
  ·rintro i ⟨h1,h2⟩
   have:i=1∨i=2∨i=3∨i=4∨i=5∨i=6∨i=7∨i=8:=by omega
   rcases this with rfl|rfl|rfl|rfl|rfl|rfl|rfl|rfl
   ·have g1:=λH=>hnm false H 1 (by decide);have w1:IntKind.u8.wrap ((1:Nat):Int)=((1:Nat):Int):=rfl;have w2:=wI1 (n:=1) (by decide);have hcc:constCell (Value.bool false) = .bool false:=rfl;simp only[nmS]at g1;simp only[mpN]
    (repeat first|simp only[ww]|(apply xa;simp+decide only[go_sem,g1,w1,w2,hcc];rfl;kernel_rfl))
    refine lp_n 2 ?_ (by omega) ⟨by omega,by omega⟩
    (simp+decide only[go_sem,gcD_eq,gcIds_eq,mpN]<;>rfl)
   ·have g1:=λH=>hnm false H 2 (by decide);have w1:IntKind.u8.wrap ((2:Nat):Int)=((2:Nat):Int):=rfl;have w2:=wI1 (n:=2) (by decide);have hcc:constCell (Value.bool false) = .bool false:=rfl;simp only[nmS]at g1;simp only[mpN]
    (repeat first|simp only[ww]|(apply xa;simp+decide only[go_sem,g1,w1,w2,hcc];rfl;kernel_rfl))
    refine lp_n 3 ?_ (by omega) ⟨by omega,by omega⟩
    (simp+decide only[go_sem,gcD_eq,gcIds_eq,mpN]<;>rfl)
   ·have g1:=λH=>hnm false H 3 (by decide);have w1:IntKind.u8.wrap ((3:Nat):Int)=((3:Nat):Int):=rfl;have w2:=wI1 (n:=3) (by decide);have hcc:constCell (Value.bool false) = .bool false:=rfl;simp only[nmS]at g1;simp only[mpN]
    (repeat first|simp only[ww]|(apply xa;simp+decide only[go_sem,g1,w1,w2,hcc];rfl;kernel_rfl))
    refine lp_n 4 ?_ (by omega) ⟨by omega,by omega⟩
    (simp+decide only[go_sem,gcD_eq,gcIds_eq,mpN]<;>rfl)
   ·have g1:=λH=>hnm false H 4 (by decide);have w1:IntKind.u8.wrap ((4:Nat):Int)=((4:Nat):Int):=rfl;have w2:=wI1 (n:=4) (by decide);have hcc:constCell (Value.bool false) = .bool false:=rfl;simp only[nmS]at g1;simp only[mpN]
    (repeat first|simp only[ww]|(apply xa;simp+decide only[go_sem,g1,w1,w2,hcc];rfl;kernel_rfl))
    refine lp_n 5 ?_ (by omega) ⟨by omega,by omega⟩
    (simp+decide only[go_sem,gcD_eq,gcIds_eq,mpN]<;>rfl)
   ·have g1:=λH=>hnm false H 5 (by decide);have w1:IntKind.u8.wrap ((5:Nat):Int)=((5:Nat):Int):=rfl;have w2:=wI1 (n:=5) (by decide);have hcc:constCell (Value.bool false) = .bool false:=rfl;simp only[nmS]at g1;simp only[mpN]
    (repeat first|simp only[ww]|(apply xa;simp+decide only[go_sem,g1,w1,w2,hcc];rfl;kernel_rfl))
    refine lp_n 6 ?_ (by omega) ⟨by omega,by omega⟩
    (simp+decide only[go_sem,gcD_eq,gcIds_eq,mpN]<;>rfl)
   ·have g1:=λH=>hnm false H 6 (by decide);have w1:IntKind.u8.wrap ((6:Nat):Int)=((6:Nat):Int):=rfl;have w2:=wI1 (n:=6) (by decide);have hcc:constCell (Value.bool false) = .bool false:=rfl;simp only[nmS]at g1;simp only[mpN]
    (repeat first|simp only[ww]|(apply xa;simp+decide only[go_sem,g1,w1,w2,hcc];rfl;kernel_rfl))
    refine lp_n 7 ?_ (by omega) ⟨by omega,by omega⟩
    (simp+decide only[go_sem,gcD_eq,gcIds_eq,mpN]<;>rfl)
   ·have g1:=λH=>hnm false H 7 (by decide);have w1:IntKind.u8.wrap ((7:Nat):Int)=((7:Nat):Int):=rfl;have w2:=wI1 (n:=7) (by decide);have hcc:constCell (Value.bool false) = .bool false:=rfl;simp only[nmS]at g1;simp only[mpN]
    (repeat first|simp only[ww]|(apply xa;simp+decide only[go_sem,g1,w1,w2,hcc];rfl;kernel_rfl))
    refine lp_n 8 ?_ (by omega) ⟨by omega,by omega⟩
    (simp+decide only[go_sem,gcD_eq,gcIds_eq,mpN]<;>rfl)
   ·by_cases hk8:k<8
    ·have g1:=λH=>hnm false H k hk8;have:k=0∨k=1∨k=2∨k=3∨k=4∨k=5∨k=6∨k=7:=by omega
     rcases this with hkk|hkk|hkk|hkk|hkk|hkk|hkk|hkk
     ·have e:nmS k=[63]:=by rw[hkk];rfl
      have c1:((k:Int)=0)=True:=eq_true (by omega);have c2:¬(7:Int)<k:=by omega
      have hst:astr BinOp.eql [63] [63]=some (.bool true):=rfl;rw[e]at g1;simp only[mpN]
      (repeat first|simp only[ww]|(apply xa;simp+decide only[go_sem,g1,hlv,c1,c2,hst];rfl;kernel_rfl))
      (apply fqb;simp+decide only[go_sem]<;>rfl)
     ·have e:nmS k=[99,104,97,105,110,115]:=by rw[hkk];rfl
      have c1:¬(k:Int)=0:=by omega
      have c2:¬(7:Int)<k:=by omega
      have hst:astr BinOp.eql [99,104,97,105,110,115] [63]=some (.bool false):=rfl;rw[e]at g1;simp only[mpN]
      (repeat first|simp only[ww]|(apply xa;simp+decide only[go_sem,g1,hlv,c1,c2,hst];rfl;kernel_rfl))
      (apply fqb;simp+decide only[go_sem]<;>rfl)
     ·have e:nmS k=[102,97,117,108,116,115]:=by rw[hkk];rfl
      have c1:¬(k:Int)=0:=by omega
      have c2:¬(7:Int)<k:=by omega
      have hst:astr BinOp.eql [102,97,117,108,116,115] [63]=some (.bool false):=rfl;rw[e]at g1;simp only[mpN]
      (repeat first|simp only[ww]|(apply xa;simp+decide only[go_sem,g1,hlv,c1,c2,hst];rfl;kernel_rfl))
      (apply fqb;simp+decide only[go_sem]<;>rfl)
     ·have e:nmS k=[116,101,115,116,115]:=by rw[hkk];rfl
      have c1:¬(k:Int)=0:=by omega
      have c2:¬(7:Int)<k:=by omega
      have hst:astr BinOp.eql [116,101,115,116,115] [63]=some (.bool false):=rfl;rw[e]at g1;simp only[mpN]
      (repeat first|simp only[ww]|(apply xa;simp+decide only[go_sem,g1,hlv,c1,c2,hst];rfl;kernel_rfl))
      (apply fqb;simp+decide only[go_sem]<;>rfl)
     ·have e:nmS k=[115,101,101,100,115]:=by rw[hkk];rfl
      have c1:¬(k:Int)=0:=by omega
      have c2:¬(7:Int)<k:=by omega
      have hst:astr BinOp.eql [115,101,101,100,115] [63]=some (.bool false):=rfl;rw[e]at g1;simp only[mpN]
      (repeat first|simp only[ww]|(apply xa;simp+decide only[go_sem,g1,hlv,c1,c2,hst];rfl;kernel_rfl))
      (apply fqb;simp+decide only[go_sem]<;>rfl)
     ·have e:nmS k=[100,101,116,101,99,116,105,111,110,115]:=by rw[hkk];rfl
      have c1:¬(k:Int)=0:=by omega
      have c2:¬(7:Int)<k:=by omega
      have hst:astr BinOp.eql [100,101,116,101,99,116,105,111,110,115] [63]=some (.bool false):=rfl;rw[e]at g1;simp only[mpN]
      (repeat first|simp only[ww]|(apply xa;simp+decide only[go_sem,g1,hlv,c1,c2,hst];rfl;kernel_rfl))
      (apply fqb;simp+decide only[go_sem]<;>rfl)
     ·have e:nmS k=[112,114,111,111,102,115]:=by rw[hkk];rfl
      have c1:¬(k:Int)=0:=by omega
      have c2:¬(7:Int)<k:=by omega
      have hst:astr BinOp.eql [112,114,111,111,102,115] [63]=some (.bool false):=rfl;rw[e]at g1;simp only[mpN]
      (repeat first|simp only[ww]|(apply xa;simp+decide only[go_sem,g1,hlv,c1,c2,hst];rfl;kernel_rfl))
      (apply fqb;simp+decide only[go_sem]<;>rfl)
     ·have e:nmS k=[112,114,111,103,114,97,109]:=by rw[hkk];rfl
      have c1:¬(k:Int)=0:=by omega
      have c2:¬(7:Int)<k:=by omega
      have hst:astr BinOp.eql [112,114,111,103,114,97,109] [63]=some (.bool false):=rfl;rw[e]at g1;simp only[mpN]
      (repeat first|simp only[ww]|(apply xa;simp+decide only[go_sem,g1,hlv,c1,c2,hst];rfl;kernel_rfl))
      (apply fqb;simp+decide only[go_sem]<;>rfl)
    ·have c1:¬(k:Int)=0:=by omega
     have c2:(7:Int)<k:=by omega
     have g1:=λH=>callV_flat (E:=L.env) (draw:=false) (call:=sem L.env Mf) (g:=20) (fs:=[]) (cs:=[]) (ar:=[.int .u8 k]) (H:=H) (by kernel_rfl) (by kernel_rfl) rfl rfl (name8_ok k (by omega) (by omega)) rfl;have hst:astr BinOp.eql [63] [63]=some (.bool true):=rfl;simp only[mpN]
     (repeat first|simp only[ww]|(apply xa;simp+decide only[go_sem,g1,hlv,c1,c2,hst];rfl;kernel_rfl))
     (apply fqb;simp+decide only[go_sem]<;>rfl)
 ·obtain rfl:=hV he
  (refine sv Tryz.f4 ?_;simp only[Tryz.f4,gS])
  (repeat first|simp only[ww]|(apply xa;simp+decide only[go_sem,hof,hb,hal,hau,hpv,hck,he];rfl;kernel_rfl))
  refine xp_loop3 (σ:=Nat) kp4_0 (λi=>[(2,.int .u8 k),(14,.map 0),(15,.int .i64 i)]) (λi=>[some (mpN i)]) (λi=>8-i) (λi=>1≤i∧i≤8) 1 ?_ ⟨Nat.le_refl _,by decide⟩ ?_
  ·(simp+decide only[go_sem,gcD_eq,gcIds_eq,mpN]<;>rfl)
  ·rintro i ⟨h1,h2⟩
   have:i=1∨i=2∨i=3∨i=4∨i=5∨i=6∨i=7∨i=8:=by omega
   rcases this with rfl|rfl|rfl|rfl|rfl|rfl|rfl|rfl
   ·have g1:=λH=>hnm false H 1 (by decide);have w1:IntKind.u8.wrap ((1:Nat):Int)=((1:Nat):Int):=rfl;have w2:=wI1 (n:=1) (by decide);have hcc:constCell (Value.bool false) = .bool false:=rfl;simp only[nmS]at g1;simp only[mpN]
    (repeat first|simp only[ww]|(apply xa;simp+decide only[go_sem,g1,w1,w2,hcc];rfl;kernel_rfl))
    refine lp_n 2 ?_ (by omega) ⟨by omega,by omega⟩
    (simp+decide only[go_sem,gcD_eq,gcIds_eq,mpN]<;>rfl)
   ·have g1:=λH=>hnm false H 2 (by decide);have w1:IntKind.u8.wrap ((2:Nat):Int)=((2:Nat):Int):=rfl;have w2:=wI1 (n:=2) (by decide);have hcc:constCell (Value.bool false) = .bool false:=rfl;simp only[nmS]at g1;simp only[mpN]
    (repeat first|simp only[ww]|(apply xa;simp+decide only[go_sem,g1,w1,w2,hcc];rfl;kernel_rfl))
    refine lp_n 3 ?_ (by omega) ⟨by omega,by omega⟩
    (simp+decide only[go_sem,gcD_eq,gcIds_eq,mpN]<;>rfl)
   ·have g1:=λH=>hnm false H 3 (by decide);have w1:IntKind.u8.wrap ((3:Nat):Int)=((3:Nat):Int):=rfl;have w2:=wI1 (n:=3) (by decide);have hcc:constCell (Value.bool false) = .bool false:=rfl;simp only[nmS]at g1;simp only[mpN]
    (repeat first|simp only[ww]|(apply xa;simp+decide only[go_sem,g1,w1,w2,hcc];rfl;kernel_rfl))
    refine lp_n 4 ?_ (by omega) ⟨by omega,by omega⟩
    (simp+decide only[go_sem,gcD_eq,gcIds_eq,mpN]<;>rfl)
   ·have g1:=λH=>hnm false H 4 (by decide);have w1:IntKind.u8.wrap ((4:Nat):Int)=((4:Nat):Int):=rfl;have w2:=wI1 (n:=4) (by decide);have hcc:constCell (Value.bool false) = .bool false:=rfl;simp only[nmS]at g1;simp only[mpN]
    (repeat first|simp only[ww]|(apply xa;simp+decide only[go_sem,g1,w1,w2,hcc];rfl;kernel_rfl))
    refine lp_n 5 ?_ (by omega) ⟨by omega,by omega⟩
    (simp+decide only[go_sem,gcD_eq,gcIds_eq,mpN]<;>rfl)
   ·have g1:=λH=>hnm false H 5 (by decide);have w1:IntKind.u8.wrap ((5:Nat):Int)=((5:Nat):Int):=rfl;have w2:=wI1 (n:=5) (by decide);have hcc:constCell (Value.bool false) = .bool false:=rfl;simp only[nmS]at g1;simp only[mpN]
    (repeat first|simp only[ww]|(apply xa;simp+decide only[go_sem,g1,w1,w2,hcc];rfl;kernel_rfl))
    refine lp_n 6 ?_ (by omega) ⟨by omega,by omega⟩
    (simp+decide only[go_sem,gcD_eq,gcIds_eq,mpN]<;>rfl)
   ·have g1:=λH=>hnm false H 6 (by decide);have w1:IntKind.u8.wrap ((6:Nat):Int)=((6:Nat):Int):=rfl;have w2:=wI1 (n:=6) (by decide);have hcc:constCell (Value.bool false) = .bool false:=rfl;simp only[nmS]at g1;simp only[mpN]
    (repeat first|simp only[ww]|(apply xa;simp+decide only[go_sem,g1,w1,w2,hcc];rfl;kernel_rfl))
    refine lp_n 7 ?_ (by omega) ⟨by omega,by omega⟩
    (simp+decide only[go_sem,gcD_eq,gcIds_eq,mpN]<;>rfl)
   ·have g1:=λH=>hnm false H 7 (by decide);have w1:IntKind.u8.wrap ((7:Nat):Int)=((7:Nat):Int):=rfl;have w2:=wI1 (n:=7) (by decide);have hcc:constCell (Value.bool false) = .bool false:=rfl;simp only[nmS]at g1;simp only[mpN]
    (repeat first|simp only[ww]|(apply xa;simp+decide only[go_sem,g1,w1,w2,hcc];rfl;kernel_rfl))
    refine lp_n 8 ?_ (by omega) ⟨by omega,by omega⟩
    (simp+decide only[go_sem,gcD_eq,gcIds_eq,mpN]<;>rfl)
   ·by_cases hk8:k<8
    ·have g1:=λH=>hnm false H k hk8;have:k=0∨k=1∨k=2∨k=3∨k=4∨k=5∨k=6∨k=7:=by omega
     rcases this with hkk|hkk|hkk|hkk|hkk|hkk|hkk|hkk
     ·have e:nmS k=[63]:=by rw[hkk];rfl
      have c1:((k:Int)=0)=True:=eq_true (by omega);have c2:¬(7:Int)<k:=by omega
      have hst:astr BinOp.eql [63] [63]=some (.bool true):=rfl;rw[e]at g1;simp only[mpN]
      (repeat first|simp only[ww]|(apply xa;simp+decide only[go_sem,g1,hlv,c1,c2,hst];rfl;kernel_rfl))
      (apply fqb;simp+decide only[go_sem]<;>rfl)
     ·have e:nmS k=[99,104,97,105,110,115]:=by rw[hkk];rfl
      have c1:¬(k:Int)=0:=by omega
      have c2:¬(7:Int)<k:=by omega
      have hst:astr BinOp.eql [99,104,97,105,110,115] [63]=some (.bool false):=rfl;rw[e]at g1;simp only[mpN]
      (repeat first|simp only[ww]|(apply xa;simp+decide only[go_sem,g1,hlv,c1,c2,hst];rfl;kernel_rfl))
      (apply fqb;simp+decide only[go_sem]<;>rfl)
     ·have e:nmS k=[102,97,117,108,116,115]:=by rw[hkk];rfl
      have c1:¬(k:Int)=0:=by omega
      have c2:¬(7:Int)<k:=by omega
      have hst:astr BinOp.eql [102,97,117,108,116,115] [63]=some (.bool false):=rfl;rw[e]at g1;simp only[mpN]
      (repeat first|simp only[ww]|(apply xa;simp+decide only[go_sem,g1,hlv,c1,c2,hst];rfl;kernel_rfl))
      (apply fqb;simp+decide only[go_sem]<;>rfl)
     ·have e:nmS k=[116,101,115,116,115]:=by rw[hkk];rfl
      have c1:¬(k:Int)=0:=by omega
      have c2:¬(7:Int)<k:=by omega
      have hst:astr BinOp.eql [116,101,115,116,115] [63]=some (.bool false):=rfl;rw[e]at g1;simp only[mpN]
      (repeat first|simp only[ww]|(apply xa;simp+decide only[go_sem,g1,hlv,c1,c2,hst];rfl;kernel_rfl))
      (apply fqb;simp+decide only[go_sem]<;>rfl)
     ·have e:nmS k=[115,101,101,100,115]:=by rw[hkk];rfl
      have c1:¬(k:Int)=0:=by omega
      have c2:¬(7:Int)<k:=by omega
      have hst:astr BinOp.eql [115,101,101,100,115] [63]=some (.bool false):=rfl;rw[e]at g1;simp only[mpN]
      (repeat first|simp only[ww]|(apply xa;simp+decide only[go_sem,g1,hlv,c1,c2,hst];rfl;kernel_rfl))
      (apply fqb;simp+decide only[go_sem]<;>rfl)
     ·have e:nmS k=[100,101,116,101,99,116,105,111,110,115]:=by rw[hkk];rfl
      have c1:¬(k:Int)=0:=by omega
      have c2:¬(7:Int)<k:=by omega
      have hst:astr BinOp.eql [100,101,116,101,99,116,105,111,110,115] [63]=some (.bool false):=rfl;rw[e]at g1;simp only[mpN]
      (repeat first|simp only[ww]|(apply xa;simp+decide only[go_sem,g1,hlv,c1,c2,hst];rfl;kernel_rfl))
      (apply fqb;simp+decide only[go_sem]<;>rfl)
     ·have e:nmS k=[112,114,111,111,102,115]:=by rw[hkk];rfl
      have c1:¬(k:Int)=0:=by omega
      have c2:¬(7:Int)<k:=by omega
      have hst:astr BinOp.eql [112,114,111,111,102,115] [63]=some (.bool false):=rfl;rw[e]at g1;simp only[mpN]
      (repeat first|simp only[ww]|(apply xa;simp+decide only[go_sem,g1,hlv,c1,c2,hst];rfl;kernel_rfl))
      (apply fqb;simp+decide only[go_sem]<;>rfl)
     ·have e:nmS k=[112,114,111,103,114,97,109]:=by rw[hkk];rfl
      have c1:¬(k:Int)=0:=by omega
      have c2:¬(7:Int)<k:=by omega
      have hst:astr BinOp.eql [112,114,111,103,114,97,109] [63]=some (.bool false):=rfl;rw[e]at g1;simp only[mpN]
      (repeat first|simp only[ww]|(apply xa;simp+decide only[go_sem,g1,hlv,c1,c2,hst];rfl;kernel_rfl))
      (apply fqb;simp+decide only[go_sem]<;>rfl)
    ·have c1:¬(k:Int)=0:=by omega
     have c2:(7:Int)<k:=by omega
     have g1:=λH=>callV_flat (E:=L.env) (draw:=false) (call:=sem L.env Mf) (g:=20) (fs:=[]) (cs:=[]) (ar:=[.int .u8 k]) (H:=H) (by kernel_rfl) (by kernel_rfl) rfl rfl (name8_ok k (by omega) (by omega)) rfl;have hst:astr BinOp.eql [63] [63]=some (.bool true):=rfl;simp only[mpN]
     (repeat first|simp only[ww]|(apply xa;simp+decide only[go_sem,g1,hlv,c1,c2,hst];rfl;kernel_rfl))
     (apply fqb;simp+decide only[go_sem]<;>rfl)
theorem lawAud_ok(hlv:∀(d:Bool) H,callV L.env d (sem L.env Mf) (.func (.func 21) [] []) [] H=some (.bool true,H,[]))(x:CX)(hx:x.ok)(hp:Ports x)(n:Int)(k:Nat)(hk:k<256) :
 sem L.env Mf 4 [.agg x.enc,.int .i64 n,.int .u8 k] []=some (.bool true,[]):=by
 cases hm:x.mem with
 |true=>exact lawAudM_ok hlv x hx hp hm n k hk
 |false=>exact lawAud0_ok hlv x hx hm n k hk
theorem lives_call{d:Bool}(H:Heap):callV L.env d (sem L.env Mf) (.func (.func 21) [] []) [] H=some (.bool true,H,[]):=callV_flat (by kernel_rfl) (by kernel_rfl) rfl rfl lives_sem rfl
end Go.FInst
