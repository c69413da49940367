/- Part of a proof. No condition. -/
import Derived.Test.YtlldffjabagdbaaGreatDoorTGa
set_option linter.unusedSimpArgs false
set_option linter.unusedVariables false
namespace Go.TInst
set_option maxHeartbeats 200000000
open Go.Proofs Go.Ax Go.Pc
set_option maxRecDepth 100000
theorem e1h (x:CX) (hx:x.ok) (hm:x.mem = false) (hd:x.d = 0) :
 sem L.env Mf 47 [.agg x.enc] [] = some (.agg x.cir.enc,[]):=by
 obtain ⟨x1,x2,x3,x4,x5,x6⟩:=hx
 have hk1:x.inn % 4 + 1 = x.k:=rfl
 have hd':x.dffs % 3 = 0:=hd
 have kk:x.k ≤ 4:=by unfold CX.k;omega
 have kp:0 < x.k:=by unfold CX.k;omega
 have gl:x.gs.length ≤ 8:=by unfold CX.gs;rw [List.length_take];omega
 have w4:=wI (n:=x.inn % 4) (by omega)
 have w3:=wI (n:=x.dffs % 3) (by omega)
 obtain ⟨k',hk'⟩:∃ k',x.k = k' + 1:=⟨x.k - 1,by omega⟩
 (refine sv Tryz.f47 ?_;simp only [Tryz.f47,gS])
 (repeat first|simp only [ww]|(apply xa;simp +decide only [go_sem];rfl;kernel_rfl))
 -- the inputs
 refine a1i (σ:=Nat) kp47_0 (fun i=>[(1,.ptr 0 0 0),(2,.ptr 1 0 0),(3,.ptr 2 0 0),(4,.int .i64 i)])
  (fun i=>[xh x,rh,some (.row 4 [[nV i,.nilslice,.nilslice,.nilslice]])] ++ nH i) (fun i=>x.k - i) (fun i=>i ≤ x.k) 0 ?_ (Nat.zero_le _) ?_ ?_
 ·(simp +decide only [go_sem,a02,a00,nV0,nH0]<;>rfl)
 ·intro i _
  cases i with
  | zero=>((simp +decide only [go_sem,a02,a00,nV0,nH0]<;>rfl))
  | succ i=>((simp +decide only [go_sem,a02,a00,nVs,nHs]<;>rfl))
 ·intro i hi
  by_cases hlt:i < x.k
  ·have c1:(i:Int) ≤ ((x.inn % 4:Nat):Int):=by omega
   have hw:=wI1 (n:=i) (by omega)
   cases i with
   | zero=>
    (repeat first|simp only [ww]|(apply xa;simp +decide only [go_sem,w4,c1,hw,nV0,nH0];rfl;kernel_rfl))
    refine a1y 1 ?_ (by omega) (by omega)
    ((simp +decide only [go_sem,a02,a00,nVs,nHs]<;>rfl))
   | succ i=>
    have hrm:i + 1 + 1 ≤ 1000000000:=by omega
    (repeat first|simp only [ww]|(apply xa;simp +decide only [go_sem,w4,c1,hw,nVs,nHs,hrm,a5l];rfl;kernel_rfl))
    refine a1y (i + 1 + 1) ?_ (by omega) (by omega)
    ((simp +decide only [go_sem,a02,a00,nVs,nHs,a5l]<;>rfl))
  have hik:i = x.k:=by omega
  subst hik
  have c1:¬ ((x.k:Nat):Int) ≤ ((x.inn % 4:Nat):Int):=by omega
  have nVk:nV x.k = .slice 3 0 x.k none:=by rw [hk'];rfl
  have nHk:nH x.k = [some (.row 4 (List.replicate x.k a4j))]:=by rw [hk'];rfl
  rw [nVk,nHk]
  (repeat first|simp only [ww]|(apply xa;simp +decide only [go_sem,w4,w3,c1,hd'];rfl;kernel_rfl))
  -- the flip-flops
  refine a1i (σ:=Nat) kp47_2 (fun i=>[(1,.ptr 0 0 0),(2,.ptr 1 0 0),(3,.ptr 2 0 0),(5,.int .i64 x.k),(6,.int .i64 0),(7,.int .i64 i)])
   (fun i=>match i with|_=>[xh x,rh,some (.row 4 [[.slice 3 0 (x.k + 0) none,.nilslice,.nilslice,.nilslice]]),some (.row 4 (List.replicate x.k a4j ++ []))] ++ []) (fun i=>0 - i) (fun i=>i ≤ 0) 0 ?_ (Nat.zero_le _) ?_ ?_
  ·(simp +decide only [go_sem,a02,a00]<;>rfl)
  ·intro i hi
   obtain rfl:i = 0:=by omega
   ((simp +decide only [go_sem,a02,a00]<;>rfl))
  ·intro i hi
   obtain rfl:i = 0:=by omega
   (repeat first|simp only [ww]|(apply xa;simp +decide only [go_sem,hm];rfl;kernel_rfl))
   -- the gates
   refine a1i (σ:=Nat) kp47_4 (fun i=>[(1,.ptr 0 0 0),(2,.ptr 1 0 0),(3,.ptr 2 0 0),(5,.int .i64 x.k),(6,.int .i64 0),(8,.int .i64 i)])
    (fun i=>[xh x,rh,some (.row 4 [[.slice 3 0 (x.k + 0 + i) none,.nilslice,.nilslice,.nilslice]]),some (.row 4 (List.replicate x.k a4j ++ [] ++ (gN x.bus x.base (x.gates.take i)).map Nd.enc))] ++ []) (fun i=>x.gs.length - i) (fun i=>i ≤ x.gs.length) 0 ?_ (Nat.zero_le _) ?_ ?_
   ·(simp +decide only [go_sem,a02,a00,hm,List.take_zero,c96,List.append_assoc]<;>rfl)
   ·intro i _
    (simp +decide only [go_sem,a02,a00,hm,a06,a09,List.append_assoc]<;>rfl)
   ·intro i hi
    have hgl:x.gs.length = min 8 x.gates.length:=by unfold CX.gs;rw [List.length_take]
    by_cases hlt:i < x.gs.length
    ·obtain ⟨g,hg⟩:∃ g,x.gates[i]? = some g:=⟨_,z9e (by omega)⟩
     have c1:(i:Int) < x.gates.length:=by omega
     have c1':i < x.gates.length:=by omega
     have c2:(i:Int) < 8:=by omega
     have hw:=wI1 (n:=i) (by omega)
     have hgok:g.ok:=x5 g (List.mem_of_getElem? hg)
     have hgn:(gN x.bus x.base (x.gates.take i)).length = i:=by rw [a5b,List.length_take];omega
     have hs:=b8e x.bus g (x.gates.take i) x.base
     rw [← a14 hg] at hs
     have hcall:=c5s (d:=true) x g hgok (gN x.bus x.base (x.gates.take i)) x.k (x.k + 0 + i) kp (by rw [hgn]) (by omega) (xh x) rh (some (.row 4 [[.slice 3 0 (x.k + 0 + i) none,.nilslice,.nilslice,.nilslice]]))
     rw [show List.replicate x.k 0 ++ List.replicate 0 14 ++ (gN x.bus x.base (x.gates.take i)).map Nd.kind = x.base ++ (gN x.bus x.base (x.gates.take i)).map Nd.kind by unfold CX.base;rw [hd]] at hcall
     generalize a0i x.bus g (x.base ++ (gN x.bus x.base (x.gates.take i)).map Nd.kind) = nd at hcall hs
     simp +decide only [go_sem,hm,List.append_assoc] at hcall
     have hrm:x.k + i + 1 ≤ 1000000000:=by omega
     have hlen:decide (x.k + i = x.k + (i)) = true:=decide_eq_true (by omega)
     (repeat first|simp only [ww]|(apply xa;simp +decide only [go_sem,hm,c1,c1',c2,hw,hg,hcall,hrm,hlen,List.append_assoc,hgn];rfl;kernel_rfl))
     refine a1y (i + 1) ?_ (by omega) (by omega)
     rw [hs]
     (simp +decide only [go_sem,a02,a00,hm,a06,a09,List.append_assoc]<;>rfl)
    have hie:i = x.gs.length:=by omega
    subst hie
    rw [x.gs_take]
    have hgn:(gN x.bus x.base x.gs).length = x.gs.length:=a5b _ _ _
    have hnn:x.n = x.k + 0 + x.gs.length:=by unfold CX.n;rw [hd]
    rw [← hnn]
    generalize hG:gN x.bus x.base x.gs = gg at hgn
    have hnp:0 < x.n:=by omega
    have hnl:x.n ≤ 14:=by omega
    have hn0:¬ (x.n:Int) = 0:=by omega
    have hstop:¬ ((x.gs.length:Int) < x.gates.length ∧ (x.gs.length:Int) < 8):=by omega
    -- the guard of the loop's end is decided in either case
    have hfin:∀ F,F = [(1,AV.ptr 0 0 0),(2,.ptr 1 0 0),(3,.ptr 2 0 0),(5,.int .i64 x.k),(6,.int .i64 0),(8,.int .i64 x.gs.length)] → True:=fun _ _=>trivial
    by_cases g1:x.gs.length < x.gates.length
    ·have c1:(x.gs.length:Int) < x.gates.length:=by omega
     have c2:¬ (x.gs.length:Int) < 8:=by omega
     (repeat first|simp only [ww]|(apply xa;simp +decide only [go_sem,c1,c2,hm];rfl;kernel_rfl))
     -- the flip-flops' data
     refine a1i (σ:=Nat) kp47_6 (fun i=>[(1,.ptr 0 0 0),(2,.ptr 1 0 0),(3,.ptr 2 0 0),(5,.int .i64 x.k),(6,.int .i64 0),(9,.int .i64 x.n),(10,.int .i64 i)])
      (fun i=>match i with|_=>[xh x,rh,some (.row 4 [[.slice 3 0 x.n none,.nilslice,.nilslice,.nilslice]]),some (.row 4 (List.replicate x.k a4j ++ [] ++ gg.map Nd.enc))] ++ []) (fun i=>0 - i) (fun i=>i ≤ 0) 0 ?_ (Nat.zero_le _) ?_ ?_
     ·(simp +decide only [go_sem,a02,a00,hm,a06,a09,List.append_assoc]<;>rfl)
     ·intro i hi
      obtain rfl:i = 0:=by omega
      (simp +decide only [go_sem,a02,a00,hm,a06,a09,List.append_assoc]<;>rfl)
     ·intro i hi
      obtain rfl:i = 0:=by omega
      (repeat first|simp only [ww]|(apply xa;simp +decide only [go_sem,hm];rfl;kernel_rfl))
      -- the names
      refine a1i (σ:=Nat) kp47_8 (fun i=>[(1,.ptr 0 0 0),(2,.ptr 1 0 0),(3,.ptr 2 0 0),(9,.int .i64 x.n),(11,.int .i64 i)])
       (fun i=>[xh x,rh,some (.row 4 [[.slice 3 0 x.n none,slN 4 i,.nilslice,.nilslice]]),some (.row 4 (List.replicate x.k a4j ++ [] ++ gg.map Nd.enc))] ++ [] ++ nmH i) (fun i=>x.n - i) (fun i=>i ≤ x.n) 0 ?_ (Nat.zero_le _) ?_ ?_
      ·(simp +decide only [go_sem,a02,a00,hm,a6s,b94,a06,a09,List.append_assoc]<;>rfl)
      ·intro i _
       cases i with
       | zero=>(simp +decide only [go_sem,a02,a00,hm,a6s,b94,a06,a09,List.append_assoc]<;>rfl)
       | succ i=>(simp +decide only [go_sem,a02,a00,hm,a47,b2u,a06,a09,a0w,a19,List.append_assoc]<;>rfl)
      ·intro i hi
       by_cases hlt:i < x.n
       ·have c1:(i:Int) < x.n:=by omega
        have hw:=wI1 (n:=i) (by omega)
        have hcall:=fun H=>a72 (d:=true) H i (by omega)
        have hrm:i + 1 ≤ 1000000000:=by omega
        cases i with
        | zero=>
         (repeat first|simp only [ww]|(apply xa;simp +decide only [go_sem,hm,c1,hw,hcall,a6s,b94];rfl;kernel_rfl))
         refine a1y 1 ?_ (by omega) (by omega)
         (simp +decide only [go_sem,a02,a00,hm,a47,b2u,a06,a09,nm1,List.append_assoc]<;>rfl)
        | succ i=>
         have hrm:i + 1 + 1 ≤ 1000000000:=by omega
         (repeat first|simp only [ww]|(apply xa;simp +decide only [go_sem,hm,c1,hw,hcall,a47,b2u,hrm,List.length_range];rfl;kernel_rfl))
         refine a1y (i + 1 + 1) ?_ (by omega) (by omega)
         (simp +decide only [go_sem,a02,a00,hm,a47,b2u,a06,a09,a0w,a19,b1f,List.append_assoc]<;>rfl)
       have hie:i = x.n:=by omega
       subst hie
       have c1:¬ (x.n:Int) < x.n:=by omega
       obtain ⟨n',hn'⟩:∃ n',x.n = n' + 1:=⟨x.n - 1,by omega⟩
       have e1:slN 4 x.n = .slice 4 0 x.n none:=by rw [hn'];rfl
       have e2:nmH x.n = [some (.row 1 ((List.range x.n).map nmR))]:=by rw [hn'];rfl
       rw [e1,e2]
       (repeat first|simp only [ww]|(apply xa;simp +decide only [go_sem,hm,c1];rfl;kernel_rfl))
       -- the outputs
       refine a1i (σ:=Nat) kp47_10 (fun i=>[(1,.ptr 0 0 0),(2,.ptr 1 0 0),(3,.ptr 2 0 0),(9,.int .i64 x.n),(12,.int .i64 i)])
        (fun i=>[xh x,rh,some (.row 4 [[.slice 3 0 x.n none,.slice 4 0 x.n none,.nilslice,slN 5 i]]),some (.row 4 (List.replicate x.k a4j ++ [] ++ gg.map Nd.enc))] ++ [] ++ [some (.row 1 ((List.range x.n).map nmR))] ++ otH x i) (fun i=>3 - i) (fun i=>i ≤ 3 ∧ i ≤ x.outs.length) 0 ?_ ⟨by omega,by omega⟩ ?_ ?_
       ·(simp +decide only [go_sem,a02,a00,hm,a6s,b2s,a06,a09,a0w,a19,List.append_assoc]<;>rfl)
       ·intro i _
        cases i with
        | zero=>(simp +decide only [go_sem,a02,a00,hm,a6s,b2s,a06,a09,a0w,a19,List.append_assoc]<;>rfl)
        | succ i=>(simp +decide only [go_sem,a02,a00,hm,a47,a83,a06,a09,a0w,a19,a5i,a7y,List.append_assoc]<;>rfl)
       ·intro i hi
        by_cases hlt:i < 3 ∧ i < x.outs.length
        ·obtain ⟨o,ho⟩:∃ o,x.outs[i]? = some o:=⟨_,z9e hlt.2⟩
         have hol:=x6 o (List.mem_of_getElem? ho)
         have wo:=wI (n:=o) (by omega)
         have c1:(i:Int) < x.outs.length:=by omega
         have c1':i < x.outs.length:=by omega
         have c2:(i:Int) < 3:=by omega
         have hw:=wI1 (n:=i) (by omega)
         have ht:=a14 ho
         have htl:(x.outs.take i).length = i:=by rw [List.length_take];omega
         cases i with
         | zero=>
          (repeat first|simp only [ww]|(apply xa;simp +decide only [go_sem,hm,c1,c1',c2,hw,ho,wo,hn0,a6s,b2s];rfl;kernel_rfl))
          refine a1y 1 ?_ (by omega) ⟨by omega,by omega⟩
          (simp +decide only [go_sem,a02,a00,hm,a47,a83,a06,a09,a0w,a19,ht,List.take_zero,List.append_assoc]<;>rfl)
         | succ i=>
          have hrm:i + 1 + 1 ≤ 1000000000:=by omega
          (repeat first|simp only [ww]|(apply xa;simp +decide only [go_sem,hm,c1,c1',c2,hw,ho,wo,hn0,a47,a83,hrm,htl];rfl;kernel_rfl))
          refine a1y (i + 1 + 1) ?_ (by omega) ⟨by omega,by omega⟩
          (simp +decide only [go_sem,a02,a00,hm,a47,a83,a06,a09,a0w,a19,a5i,a7y,ht,List.append_assoc]<;>rfl)
        have hio:x.outs.take i = x.outs.take 3:=by
         by_cases h3:i = 3
         ·rw [h3]
         ·rw [List.take_of_length_le (by omega),List.take_of_length_le (by omega)]
        have hil:(x.outs.take i).length = i:=by rw [List.length_take];omega
        have hwn:IntKind.i64.wrap ((x.n:Int) - 1) = ((x.n - 1:Nat):Int):=by rw [w64 (by omega) (by omega)];omega
        have hres:x.cir = ⟨some none,List.replicate x.k b02 ++ [] ++ gg,some none,(List.range x.n).map a37,some none,(x.outs.take i).map (·% x.n) ++ [x.n - 1]⟩:=by
         rw [hio,← hG];simp [CX.cir,CX.nodes,CX.dn,CX.names,CX.outN,hd]
        rw [hres]
        have hle1:x.n ≤ x.k + gg.length:=by omega
        have hle2:x.k + gg.length ≤ x.n:=by omega
        by_cases g1:i < x.outs.length
        ·have c1:(i:Int) < x.outs.length:=by omega
         have c2:¬ (i:Int) < 3:=by omega
         have hrm:i + 1 ≤ 1000000000:=by omega
         cases i with
         | zero=>omega
         | succ i=>
          have hrm:i + 1 + 1 ≤ 1000000000:=by omega
          (repeat first|simp only [ww]|(apply xa;simp +decide only [go_sem,hm,c1,c2,a47,a83,hrm,hwn,hil];rfl;kernel_rfl))
          (apply fqb;simp +decide only [go_sem,hm,a2x,a4q,a4p,a4o,a11,List.map_map,hil,b02,a45,a4n,Cir.enc,a1x,hle1,hle2,List.length_range,Nat.le_refl,a4m]<;>rfl)
        ·have c1:¬ (i:Int) < x.outs.length:=by omega
         cases i with
         | zero=>
          (repeat first|simp only [ww]|(apply xa;simp +decide only [go_sem,hm,c1,a6s,b2s,hwn,hil];rfl;kernel_rfl))
          (apply fqb;simp +decide only [go_sem,hm,a2x,a4q,a4p,a4o,a11,List.map_map,hil,b02,a45,a4n,Cir.enc,a1x,hle1,hle2,List.length_range,Nat.le_refl,a4m,List.take_zero]<;>rfl)
         | succ i=>
          have hrm:i + 1 + 1 ≤ 1000000000:=by omega
          (repeat first|simp only [ww]|(apply xa;simp +decide only [go_sem,hm,c1,a47,a83,hrm,hwn,hil];rfl;kernel_rfl))
          (apply fqb;simp +decide only [go_sem,hm,a2x,a4q,a4p,a4o,a11,List.map_map,hil,b02,a45,a4n,Cir.enc,a1x,hle1,hle2,List.length_range,Nat.le_refl,a4m]<;>rfl)
    ·have c1:¬ (x.gs.length:Int) < x.gates.length:=by omega
     (repeat first|simp only [ww]|(apply xa;simp +decide only [go_sem,c1,hm];rfl;kernel_rfl))
     -- the flip-flops' data
     refine a1i (σ:=Nat) kp47_6 (fun i=>[(1,.ptr 0 0 0),(2,.ptr 1 0 0),(3,.ptr 2 0 0),(5,.int .i64 x.k),(6,.int .i64 0),(9,.int .i64 x.n),(10,.int .i64 i)])
      (fun i=>match i with|_=>[xh x,rh,some (.row 4 [[.slice 3 0 x.n none,.nilslice,.nilslice,.nilslice]]),some (.row 4 (List.replicate x.k a4j ++ [] ++ gg.map Nd.enc))] ++ []) (fun i=>0 - i) (fun i=>i ≤ 0) 0 ?_ (Nat.zero_le _) ?_ ?_
     ·(simp +decide only [go_sem,a02,a00,hm,a06,a09,List.append_assoc]<;>rfl)
     ·intro i hi
      obtain rfl:i = 0:=by omega
      (simp +decide only [go_sem,a02,a00,hm,a06,a09,List.append_assoc]<;>rfl)
     ·intro i hi
      obtain rfl:i = 0:=by omega
      (repeat first|simp only [ww]|(apply xa;simp +decide only [go_sem,hm];rfl;kernel_rfl))
      -- the names
      refine a1i (σ:=Nat) kp47_8 (fun i=>[(1,.ptr 0 0 0),(2,.ptr 1 0 0),(3,.ptr 2 0 0),(9,.int .i64 x.n),(11,.int .i64 i)])
       (fun i=>[xh x,rh,some (.row 4 [[.slice 3 0 x.n none,slN 4 i,.nilslice,.nilslice]]),some (.row 4 (List.replicate x.k a4j ++ [] ++ gg.map Nd.enc))] ++ [] ++ nmH i) (fun i=>x.n - i) (fun i=>i ≤ x.n) 0 ?_ (Nat.zero_le _) ?_ ?_
      ·(simp +decide only [go_sem,a02,a00,hm,a6s,b94,a06,a09,List.append_assoc]<;>rfl)
      ·intro i _
       cases i with
       | zero=>(simp +decide only [go_sem,a02,a00,hm,a6s,b94,a06,a09,List.append_assoc]<;>rfl)
       | succ i=>(simp +decide only [go_sem,a02,a00,hm,a47,b2u,a06,a09,a0w,a19,List.append_assoc]<;>rfl)
      ·intro i hi
       by_cases hlt:i < x.n
       ·have c1:(i:Int) < x.n:=by omega
        have hw:=wI1 (n:=i) (by omega)
        have hcall:=fun H=>a72 (d:=true) H i (by omega)
        have hrm:i + 1 ≤ 1000000000:=by omega
        cases i with
        | zero=>
         (repeat first|simp only [ww]|(apply xa;simp +decide only [go_sem,hm,c1,hw,hcall,a6s,b94];rfl;kernel_rfl))
         refine a1y 1 ?_ (by omega) (by omega)
         (simp +decide only [go_sem,a02,a00,hm,a47,b2u,a06,a09,nm1,List.append_assoc]<;>rfl)
        | succ i=>
         have hrm:i + 1 + 1 ≤ 1000000000:=by omega
         (repeat first|simp only [ww]|(apply xa;simp +decide only [go_sem,hm,c1,hw,hcall,a47,b2u,hrm,List.length_range];rfl;kernel_rfl))
         refine a1y (i + 1 + 1) ?_ (by omega) (by omega)
         (simp +decide only [go_sem,a02,a00,hm,a47,b2u,a06,a09,a0w,a19,b1f,List.append_assoc]<;>rfl)
       have hie:i = x.n:=by omega
       subst hie
       have c1:¬ (x.n:Int) < x.n:=by omega
       obtain ⟨n',hn'⟩:∃ n',x.n = n' + 1:=⟨x.n - 1,by omega⟩
       have e1:slN 4 x.n = .slice 4 0 x.n none:=by rw [hn'];rfl
       have e2:nmH x.n = [some (.row 1 ((List.range x.n).map nmR))]:=by rw [hn'];rfl
       rw [e1,e2]
       (repeat first|simp only [ww]|(apply xa;simp +decide only [go_sem,hm,c1];rfl;kernel_rfl))
       -- the outputs
       refine a1i (σ:=Nat) kp47_10 (fun i=>[(1,.ptr 0 0 0),(2,.ptr 1 0 0),(3,.ptr 2 0 0),(9,.int .i64 x.n),(12,.int .i64 i)])
        (fun i=>[xh x,rh,some (.row 4 [[.slice 3 0 x.n none,.slice 4 0 x.n none,.nilslice,slN 5 i]]),some (.row 4 (List.replicate x.k a4j ++ [] ++ gg.map Nd.enc))] ++ [] ++ [some (.row 1 ((List.range x.n).map nmR))] ++ otH x i) (fun i=>3 - i) (fun i=>i ≤ 3 ∧ i ≤ x.outs.length) 0 ?_ ⟨by omega,by omega⟩ ?_ ?_
       ·(simp +decide only [go_sem,a02,a00,hm,a6s,b2s,a06,a09,a0w,a19,List.append_assoc]<;>rfl)
       ·intro i _
        cases i with
        | zero=>(simp +decide only [go_sem,a02,a00,hm,a6s,b2s,a06,a09,a0w,a19,List.append_assoc]<;>rfl)
        | succ i=>(simp +decide only [go_sem,a02,a00,hm,a47,a83,a06,a09,a0w,a19,a5i,a7y,List.append_assoc]<;>rfl)
       ·intro i hi
        by_cases hlt:i < 3 ∧ i < x.outs.length
        ·obtain ⟨o,ho⟩:∃ o,x.outs[i]? = some o:=⟨_,z9e hlt.2⟩
         have hol:=x6 o (List.mem_of_getElem? ho)
         have wo:=wI (n:=o) (by omega)
         have c1:(i:Int) < x.outs.length:=by omega
         have c1':i < x.outs.length:=by omega
         have c2:(i:Int) < 3:=by omega
         have hw:=wI1 (n:=i) (by omega)
         have ht:=a14 ho
         have htl:(x.outs.take i).length = i:=by rw [List.length_take];omega
         cases i with
         | zero=>
          (repeat first|simp only [ww]|(apply xa;simp +decide only [go_sem,hm,c1,c1',c2,hw,ho,wo,hn0,a6s,b2s];rfl;kernel_rfl))
          refine a1y 1 ?_ (by omega) ⟨by omega,by omega⟩
          (simp +decide only [go_sem,a02,a00,hm,a47,a83,a06,a09,a0w,a19,ht,List.take_zero,List.append_assoc]<;>rfl)
         | succ i=>
          have hrm:i + 1 + 1 ≤ 1000000000:=by omega
          (repeat first|simp only [ww]|(apply xa;simp +decide only [go_sem,hm,c1,c1',c2,hw,ho,wo,hn0,a47,a83,hrm,htl];rfl;kernel_rfl))
          refine a1y (i + 1 + 1) ?_ (by omega) ⟨by omega,by omega⟩
          (simp +decide only [go_sem,a02,a00,hm,a47,a83,a06,a09,a0w,a19,a5i,a7y,ht,List.append_assoc]<;>rfl)
        have hio:x.outs.take i = x.outs.take 3:=by
         by_cases h3:i = 3
         ·rw [h3]
         ·rw [List.take_of_length_le (by omega),List.take_of_length_le (by omega)]
        have hil:(x.outs.take i).length = i:=by rw [List.length_take];omega
        have hwn:IntKind.i64.wrap ((x.n:Int) - 1) = ((x.n - 1:Nat):Int):=by rw [w64 (by omega) (by omega)];omega
        have hres:x.cir = ⟨some none,List.replicate x.k b02 ++ [] ++ gg,some none,(List.range x.n).map a37,some none,(x.outs.take i).map (·% x.n) ++ [x.n - 1]⟩:=by
         rw [hio,← hG];simp [CX.cir,CX.nodes,CX.dn,CX.names,CX.outN,hd]
        rw [hres]
        have hle1:x.n ≤ x.k + gg.length:=by omega
        have hle2:x.k + gg.length ≤ x.n:=by omega
        by_cases g1:i < x.outs.length
        ·have c1:(i:Int) < x.outs.length:=by omega
         have c2:¬ (i:Int) < 3:=by omega
         have hrm:i + 1 ≤ 1000000000:=by omega
         cases i with
         | zero=>omega
         | succ i=>
          have hrm:i + 1 + 1 ≤ 1000000000:=by omega
          (repeat first|simp only [ww]|(apply xa;simp +decide only [go_sem,hm,c1,c2,a47,a83,hrm,hwn,hil];rfl;kernel_rfl))
          (apply fqb;simp +decide only [go_sem,hm,a2x,a4q,a4p,a4o,a11,List.map_map,hil,b02,a45,a4n,Cir.enc,a1x,hle1,hle2,List.length_range,Nat.le_refl,a4m]<;>rfl)
        ·have c1:¬ (i:Int) < x.outs.length:=by omega
         cases i with
         | zero=>
          (repeat first|simp only [ww]|(apply xa;simp +decide only [go_sem,hm,c1,a6s,b2s,hwn,hil];rfl;kernel_rfl))
          (apply fqb;simp +decide only [go_sem,hm,a2x,a4q,a4p,a4o,a11,List.map_map,hil,b02,a45,a4n,Cir.enc,a1x,hle1,hle2,List.length_range,Nat.le_refl,a4m,List.take_zero]<;>rfl)
         | succ i=>
          have hrm:i + 1 + 1 ≤ 1000000000:=by omega
          (repeat first|simp only [ww]|(apply xa;simp +decide only [go_sem,hm,c1,a47,a83,hrm,hwn,hil];rfl;kernel_rfl))
          (apply fqb;simp +decide only [go_sem,hm,a2x,a4q,a4p,a4o,a11,List.map_map,hil,b02,a45,a4n,Cir.enc,a1x,hle1,hle2,List.length_range,Nat.le_refl,a4m]<;>rfl)
theorem e1g (x:CX) (hx:x.ok) (hm:x.mem = false) (hd:x.d = 1) :
 sem L.env Mf 47 [.agg x.enc] [] = some (.agg x.cir.enc,[]):=by
 obtain ⟨x1,x2,x3,x4,x5,x6⟩:=hx
 have hk1:x.inn % 4 + 1 = x.k:=rfl
 have hd':x.dffs % 3 = 1:=hd
 have kk:x.k ≤ 4:=by unfold CX.k;omega
 have kp:0 < x.k:=by unfold CX.k;omega
 have gl:x.gs.length ≤ 8:=by unfold CX.gs;rw [List.length_take];omega
 have w4:=wI (n:=x.inn % 4) (by omega)
 have w3:=wI (n:=x.dffs % 3) (by omega)
 obtain ⟨k',hk'⟩:∃ k',x.k = k' + 1:=⟨x.k - 1,by omega⟩
 (refine sv Tryz.f47 ?_;simp only [Tryz.f47,gS])
 (repeat first|simp only [ww]|(apply xa;simp +decide only [go_sem];rfl;kernel_rfl))
 -- the inputs
 refine a1i (σ:=Nat) kp47_0 (fun i=>[(1,.ptr 0 0 0),(2,.ptr 1 0 0),(3,.ptr 2 0 0),(4,.int .i64 i)])
  (fun i=>[xh x,rh,some (.row 4 [[nV i,.nilslice,.nilslice,.nilslice]])] ++ nH i) (fun i=>x.k - i) (fun i=>i ≤ x.k) 0 ?_ (Nat.zero_le _) ?_ ?_
 ·(simp +decide only [go_sem,a02,a00,nV0,nH0]<;>rfl)
 ·intro i _
  cases i with
  | zero=>((simp +decide only [go_sem,a02,a00,nV0,nH0]<;>rfl))
  | succ i=>((simp +decide only [go_sem,a02,a00,nVs,nHs]<;>rfl))
 ·intro i hi
  by_cases hlt:i < x.k
  ·have c1:(i:Int) ≤ ((x.inn % 4:Nat):Int):=by omega
   have hw:=wI1 (n:=i) (by omega)
   cases i with
   | zero=>
    (repeat first|simp only [ww]|(apply xa;simp +decide only [go_sem,w4,c1,hw,nV0,nH0];rfl;kernel_rfl))
    refine a1y 1 ?_ (by omega) (by omega)
    ((simp +decide only [go_sem,a02,a00,nVs,nHs]<;>rfl))
   | succ i=>
    have hrm:i + 1 + 1 ≤ 1000000000:=by omega
    (repeat first|simp only [ww]|(apply xa;simp +decide only [go_sem,w4,c1,hw,nVs,nHs,hrm,a5l];rfl;kernel_rfl))
    refine a1y (i + 1 + 1) ?_ (by omega) (by omega)
    ((simp +decide only [go_sem,a02,a00,nVs,nHs,a5l]<;>rfl))
  have hik:i = x.k:=by omega
  subst hik
  have c1:¬ ((x.k:Nat):Int) ≤ ((x.inn % 4:Nat):Int):=by omega
  have nVk:nV x.k = .slice 3 0 x.k none:=by rw [hk'];rfl
  have nHk:nH x.k = [some (.row 4 (List.replicate x.k a4j))]:=by rw [hk'];rfl
  rw [nVk,nHk]
  (repeat first|simp only [ww]|(apply xa;simp +decide only [go_sem,w4,w3,c1,hd'];rfl;kernel_rfl))
  -- the flip-flops
  refine a1i (σ:=Nat) kp47_2 (fun i=>[(1,.ptr 0 0 0),(2,.ptr 1 0 0),(3,.ptr 2 0 0),(5,.int .i64 x.k),(6,.int .i64 1),(7,.int .i64 i)])
   (fun i=>match i with|0=>[xh x,rh,some (.row 4 [[.slice 3 0 (x.k + 0) none,.nilslice,.nilslice,.nilslice]]),some (.row 4 (List.replicate x.k a4j ++ []))] ++ []|_=>[xh x,rh,some (.row 4 [[.slice 3 0 (x.k + 1) none,.nilslice,.nilslice,.nilslice]]),some (.row 4 (List.replicate x.k a4j ++ [dR 4]))] ++ [one 0]) (fun i=>1 - i) (fun i=>i ≤ 1) 0 ?_ (Nat.zero_le _) ?_ ?_
  ·(simp +decide only [go_sem,a02,a00]<;>rfl)
  ·intro i hi
   by_cases hj0:i = 0
   ·subst hj0
    ((simp +decide only [go_sem,a02,a00]<;>rfl))
   obtain rfl:i = 1:=by omega
   ((simp +decide only [go_sem,a02,a00]<;>rfl))
  ·intro i hi
   by_cases hj0:i = 0
   ·subst hj0
    have hrm:x.k + 0 + 1 ≤ 1000000000:=by omega
    have hw:=wI1 (n:=0) (by omega)
    (repeat first|simp only [ww]|(apply xa;simp +decide only [go_sem,hrm,a5l,hw];rfl;kernel_rfl))
    refine a1y 1 ?_ (by omega) (by omega)
    ((simp +decide only [go_sem,a02,a00,List.append_assoc]<;>rfl))
   obtain rfl:i = 1:=by omega
   (repeat first|simp only [ww]|(apply xa;simp +decide only [go_sem,hm];rfl;kernel_rfl))
   -- the gates
   refine a1i (σ:=Nat) kp47_4 (fun i=>[(1,.ptr 0 0 0),(2,.ptr 1 0 0),(3,.ptr 2 0 0),(5,.int .i64 x.k),(6,.int .i64 1),(8,.int .i64 i)])
    (fun i=>[xh x,rh,some (.row 4 [[.slice 3 0 (x.k + 1 + i) none,.nilslice,.nilslice,.nilslice]]),some (.row 4 (List.replicate x.k a4j ++ [dR 4] ++ (gN x.bus x.base (x.gates.take i)).map Nd.enc))] ++ [one 0]) (fun i=>x.gs.length - i) (fun i=>i ≤ x.gs.length) 0 ?_ (Nat.zero_le _) ?_ ?_
   ·(simp +decide only [go_sem,a02,a00,hm,List.take_zero,c96,List.append_assoc]<;>rfl)
   ·intro i _
    (simp +decide only [go_sem,a02,a00,hm,a06,a09,List.append_assoc]<;>rfl)
   ·intro i hi
    have hgl:x.gs.length = min 8 x.gates.length:=by unfold CX.gs;rw [List.length_take]
    by_cases hlt:i < x.gs.length
    ·obtain ⟨g,hg⟩:∃ g,x.gates[i]? = some g:=⟨_,z9e (by omega)⟩
     have c1:(i:Int) < x.gates.length:=by omega
     have c1':i < x.gates.length:=by omega
     have c2:(i:Int) < 8:=by omega
     have hw:=wI1 (n:=i) (by omega)
     have hgok:g.ok:=x5 g (List.mem_of_getElem? hg)
     have hgn:(gN x.bus x.base (x.gates.take i)).length = i:=by rw [a5b,List.length_take];omega
     have hs:=b8e x.bus g (x.gates.take i) x.base
     rw [← a14 hg] at hs
     have hcall:=c5r (d:=true) x g hgok (gN x.bus x.base (x.gates.take i)) x.k (x.k + 1 + i) kp (by rw [hgn]) (by omega) (xh x) rh (some (.row 4 [[.slice 3 0 (x.k + 1 + i) none,.nilslice,.nilslice,.nilslice]]))
     rw [show List.replicate x.k 0 ++ List.replicate 1 14 ++ (gN x.bus x.base (x.gates.take i)).map Nd.kind = x.base ++ (gN x.bus x.base (x.gates.take i)).map Nd.kind by unfold CX.base;rw [hd]] at hcall
     generalize a0i x.bus g (x.base ++ (gN x.bus x.base (x.gates.take i)).map Nd.kind) = nd at hcall hs
     simp +decide only [go_sem,hm,List.append_assoc] at hcall
     have hrm:x.k + 1 + i + 1 ≤ 1000000000:=by omega
     have hlen:decide (x.k + 1 + i = x.k + (i + 1)) = true:=decide_eq_true (by omega)
     (repeat first|simp only [ww]|(apply xa;simp +decide only [go_sem,hm,c1,c1',c2,hw,hg,hcall,hrm,hlen,List.append_assoc,hgn];rfl;kernel_rfl))
     refine a1y (i + 1) ?_ (by omega) (by omega)
     rw [hs]
     (simp +decide only [go_sem,a02,a00,hm,a06,a09,List.append_assoc]<;>rfl)
    have hie:i = x.gs.length:=by omega
    subst hie
    rw [x.gs_take]
    have hgn:(gN x.bus x.base x.gs).length = x.gs.length:=a5b _ _ _
    have hnn:x.n = x.k + 1 + x.gs.length:=by unfold CX.n;rw [hd]
    rw [← hnn]
    generalize hG:gN x.bus x.base x.gs = gg at hgn
    have hnp:0 < x.n:=by omega
    have hnl:x.n ≤ 14:=by omega
    have hn0:¬ (x.n:Int) = 0:=by omega
    have hstop:¬ ((x.gs.length:Int) < x.gates.length ∧ (x.gs.length:Int) < 8):=by omega
    -- the guard of the loop's end is decided in either case
    have hfin:∀ F,F = [(1,AV.ptr 0 0 0),(2,.ptr 1 0 0),(3,.ptr 2 0 0),(5,.int .i64 x.k),(6,.int .i64 1),(8,.int .i64 x.gs.length)] → True:=fun _ _=>trivial
    by_cases g1:x.gs.length < x.gates.length
    ·have c1:(x.gs.length:Int) < x.gates.length:=by omega
     have c2:¬ (x.gs.length:Int) < 8:=by omega
     (repeat first|simp only [ww]|(apply xa;simp +decide only [go_sem,c1,c2,hm];rfl;kernel_rfl))
     -- the flip-flops' data
     refine a1i (σ:=Nat) kp47_6 (fun i=>[(1,.ptr 0 0 0),(2,.ptr 1 0 0),(3,.ptr 2 0 0),(5,.int .i64 x.k),(6,.int .i64 1),(9,.int .i64 x.n),(10,.int .i64 i)])
      (fun i=>match i with|0=>[xh x,rh,some (.row 4 [[.slice 3 0 x.n none,.nilslice,.nilslice,.nilslice]]),some (.row 4 (List.replicate x.k a4j ++ [dR 4] ++ gg.map Nd.enc))] ++ [one 0]|_=>[xh x,rh,some (.row 4 [[.slice 3 0 x.n none,.nilslice,.nilslice,.nilslice]]),some (.row 4 (List.replicate x.k a4j ++ [dR 4] ++ gg.map Nd.enc))] ++ [one (x.d0 % x.n)]) (fun i=>1 - i) (fun i=>i ≤ 1) 0 ?_ (Nat.zero_le _) ?_ ?_
     ·(simp +decide only [go_sem,a02,a00,hm,a06,a09,List.append_assoc]<;>rfl)
     ·intro i hi
      by_cases hj0:i = 0
      ·subst hj0
       (simp +decide only [go_sem,a02,a00,hm,a06,a09,List.append_assoc]<;>rfl)
      obtain rfl:i = 1:=by omega
      (simp +decide only [go_sem,a02,a00,hm,a06,a09,List.append_assoc]<;>rfl)
     ·intro i hi
      by_cases hj0:i = 0
      ·subst hj0
       have hw:=wI1 (n:=0) (by omega)
       have hwa:IntKind.i64.wrap ((x.k:Int) + (((0:Nat)):Int)) = ((x.k + 0:Nat):Int):=by rw [w64 (by omega) (by omega)];omega
       have hwa':IntKind.i64.wrap ((x.k:Int) + 0) = ((x.k + 0:Nat):Int):=by rw [w64 (by omega) (by omega)];omega
       have wd:=wI (n:=x.d0) (by omega)
       have hin:x.k + 0 < x.n:=by omega
       have hin':x.k < x.n:=by omega
       (repeat first|simp only [ww]|(apply xa;simp +decide only [go_sem,hm,hw,hwa,hwa',wd,hn0,hin,hin',b1o,a99,b10,a8z,List.append_assoc];rfl;kernel_rfl))
       refine a1y 1 ?_ (by omega) (by omega)
       (simp +decide only [go_sem,a02,a00,hm,a06,a09,List.append_assoc]<;>rfl)
      obtain rfl:i = 1:=by omega
      (repeat first|simp only [ww]|(apply xa;simp +decide only [go_sem,hm];rfl;kernel_rfl))
      -- the names
      refine a1i (σ:=Nat) kp47_8 (fun i=>[(1,.ptr 0 0 0),(2,.ptr 1 0 0),(3,.ptr 2 0 0),(9,.int .i64 x.n),(11,.int .i64 i)])
       (fun i=>[xh x,rh,some (.row 4 [[.slice 3 0 x.n none,slN 5 i,.nilslice,.nilslice]]),some (.row 4 (List.replicate x.k a4j ++ [dR 4] ++ gg.map Nd.enc))] ++ [one (x.d0 % x.n)] ++ nmH i) (fun i=>x.n - i) (fun i=>i ≤ x.n) 0 ?_ (Nat.zero_le _) ?_ ?_
      ·(simp +decide only [go_sem,a02,a00,hm,a6s,b94,a06,a09,List.append_assoc]<;>rfl)
      ·intro i _
       cases i with
       | zero=>(simp +decide only [go_sem,a02,a00,hm,a6s,b94,a06,a09,List.append_assoc]<;>rfl)
       | succ i=>(simp +decide only [go_sem,a02,a00,hm,a47,b2u,a06,a09,a0w,a19,List.append_assoc]<;>rfl)
      ·intro i hi
       by_cases hlt:i < x.n
       ·have c1:(i:Int) < x.n:=by omega
        have hw:=wI1 (n:=i) (by omega)
        have hcall:=fun H=>a72 (d:=true) H i (by omega)
        have hrm:i + 1 ≤ 1000000000:=by omega
        cases i with
        | zero=>
         (repeat first|simp only [ww]|(apply xa;simp +decide only [go_sem,hm,c1,hw,hcall,a6s,b94];rfl;kernel_rfl))
         refine a1y 1 ?_ (by omega) (by omega)
         (simp +decide only [go_sem,a02,a00,hm,a47,b2u,a06,a09,nm1,List.append_assoc]<;>rfl)
        | succ i=>
         have hrm:i + 1 + 1 ≤ 1000000000:=by omega
         (repeat first|simp only [ww]|(apply xa;simp +decide only [go_sem,hm,c1,hw,hcall,a47,b2u,hrm,List.length_range];rfl;kernel_rfl))
         refine a1y (i + 1 + 1) ?_ (by omega) (by omega)
         (simp +decide only [go_sem,a02,a00,hm,a47,b2u,a06,a09,a0w,a19,b1f,List.append_assoc]<;>rfl)
       have hie:i = x.n:=by omega
       subst hie
       have c1:¬ (x.n:Int) < x.n:=by omega
       obtain ⟨n',hn'⟩:∃ n',x.n = n' + 1:=⟨x.n - 1,by omega⟩
       have e1:slN 5 x.n = .slice 5 0 x.n none:=by rw [hn'];rfl
       have e2:nmH x.n = [some (.row 1 ((List.range x.n).map nmR))]:=by rw [hn'];rfl
       rw [e1,e2]
       (repeat first|simp only [ww]|(apply xa;simp +decide only [go_sem,hm,c1];rfl;kernel_rfl))
       -- the outputs
       refine a1i (σ:=Nat) kp47_10 (fun i=>[(1,.ptr 0 0 0),(2,.ptr 1 0 0),(3,.ptr 2 0 0),(9,.int .i64 x.n),(12,.int .i64 i)])
        (fun i=>[xh x,rh,some (.row 4 [[.slice 3 0 x.n none,.slice 5 0 x.n none,.nilslice,slN 6 i]]),some (.row 4 (List.replicate x.k a4j ++ [dR 4] ++ gg.map Nd.enc))] ++ [one (x.d0 % x.n)] ++ [some (.row 1 ((List.range x.n).map nmR))] ++ otH x i) (fun i=>3 - i) (fun i=>i ≤ 3 ∧ i ≤ x.outs.length) 0 ?_ ⟨by omega,by omega⟩ ?_ ?_
       ·(simp +decide only [go_sem,a02,a00,hm,a6s,b2s,a06,a09,a0w,a19,List.append_assoc]<;>rfl)
       ·intro i _
        cases i with
        | zero=>(simp +decide only [go_sem,a02,a00,hm,a6s,b2s,a06,a09,a0w,a19,List.append_assoc]<;>rfl)
        | succ i=>(simp +decide only [go_sem,a02,a00,hm,a47,a83,a06,a09,a0w,a19,a5i,a7y,List.append_assoc]<;>rfl)
       ·intro i hi
        by_cases hlt:i < 3 ∧ i < x.outs.length
        ·obtain ⟨o,ho⟩:∃ o,x.outs[i]? = some o:=⟨_,z9e hlt.2⟩
         have hol:=x6 o (List.mem_of_getElem? ho)
         have wo:=wI (n:=o) (by omega)
         have c1:(i:Int) < x.outs.length:=by omega
         have c1':i < x.outs.length:=by omega
         have c2:(i:Int) < 3:=by omega
         have hw:=wI1 (n:=i) (by omega)
         have ht:=a14 ho
         have htl:(x.outs.take i).length = i:=by rw [List.length_take];omega
         cases i with
         | zero=>
          (repeat first|simp only [ww]|(apply xa;simp +decide only [go_sem,hm,c1,c1',c2,hw,ho,wo,hn0,a6s,b2s];rfl;kernel_rfl))
          refine a1y 1 ?_ (by omega) ⟨by omega,by omega⟩
          (simp +decide only [go_sem,a02,a00,hm,a47,a83,a06,a09,a0w,a19,ht,List.take_zero,List.append_assoc]<;>rfl)
         | succ i=>
          have hrm:i + 1 + 1 ≤ 1000000000:=by omega
          (repeat first|simp only [ww]|(apply xa;simp +decide only [go_sem,hm,c1,c1',c2,hw,ho,wo,hn0,a47,a83,hrm,htl];rfl;kernel_rfl))
          refine a1y (i + 1 + 1) ?_ (by omega) ⟨by omega,by omega⟩
          (simp +decide only [go_sem,a02,a00,hm,a47,a83,a06,a09,a0w,a19,a5i,a7y,ht,List.append_assoc]<;>rfl)
        have hio:x.outs.take i = x.outs.take 3:=by
         by_cases h3:i = 3
         ·rw [h3]
         ·rw [List.take_of_length_le (by omega),List.take_of_length_le (by omega)]
        have hil:(x.outs.take i).length = i:=by rw [List.length_take];omega
        have hwn:IntKind.i64.wrap ((x.n:Int) - 1) = ((x.n - 1:Nat):Int):=by rw [w64 (by omega) (by omega)];omega
        have hres:x.cir = ⟨some none,List.replicate x.k b02 ++ [a45 (x.d0 % x.n)] ++ gg,some none,(List.range x.n).map a37,some none,(x.outs.take i).map (·% x.n) ++ [x.n - 1]⟩:=by
         rw [hio,← hG];simp [CX.cir,CX.nodes,CX.dn,CX.names,CX.outN,hd]
        rw [hres]
        have hle1:x.n ≤ x.k + 1 + gg.length:=by omega
        have hle2:x.k + 1 + gg.length ≤ x.n:=by omega
        by_cases g1:i < x.outs.length
        ·have c1:(i:Int) < x.outs.length:=by omega
         have c2:¬ (i:Int) < 3:=by omega
         have hrm:i + 1 ≤ 1000000000:=by omega
         cases i with
         | zero=>omega
         | succ i=>
          have hrm:i + 1 + 1 ≤ 1000000000:=by omega
          (repeat first|simp only [ww]|(apply xa;simp +decide only [go_sem,hm,c1,c2,a47,a83,hrm,hwn,hil];rfl;kernel_rfl))
          (apply fqb;simp +decide only [go_sem,hm,a2x,a4q,a4p,a4o,a11,List.map_map,hil,b02,a45,a4n,Cir.enc,a1x,hle1,hle2,List.length_range,Nat.le_refl,a4m]<;>rfl)
        ·have c1:¬ (i:Int) < x.outs.length:=by omega
         cases i with
         | zero=>
          (repeat first|simp only [ww]|(apply xa;simp +decide only [go_sem,hm,c1,a6s,b2s,hwn,hil];rfl;kernel_rfl))
          (apply fqb;simp +decide only [go_sem,hm,a2x,a4q,a4p,a4o,a11,List.map_map,hil,b02,a45,a4n,Cir.enc,a1x,hle1,hle2,List.length_range,Nat.le_refl,a4m,List.take_zero]<;>rfl)
         | succ i=>
          have hrm:i + 1 + 1 ≤ 1000000000:=by omega
          (repeat first|simp only [ww]|(apply xa;simp +decide only [go_sem,hm,c1,a47,a83,hrm,hwn,hil];rfl;kernel_rfl))
          (apply fqb;simp +decide only [go_sem,hm,a2x,a4q,a4p,a4o,a11,List.map_map,hil,b02,a45,a4n,Cir.enc,a1x,hle1,hle2,List.length_range,Nat.le_refl,a4m]<;>rfl)
    ·have c1:¬ (x.gs.length:Int) < x.gates.length:=by omega
     (repeat first|simp only [ww]|(apply xa;simp +decide only [go_sem,c1,hm];rfl;kernel_rfl))
     -- the flip-flops' data
     refine a1i (σ:=Nat) kp47_6 (fun i=>[(1,.ptr 0 0 0),(2,.ptr 1 0 0),(3,.ptr 2 0 0),(5,.int .i64 x.k),(6,.int .i64 1),(9,.int .i64 x.n),(10,.int .i64 i)])
      (fun i=>match i with|0=>[xh x,rh,some (.row 4 [[.slice 3 0 x.n none,.nilslice,.nilslice,.nilslice]]),some (.row 4 (List.replicate x.k a4j ++ [dR 4] ++ gg.map Nd.enc))] ++ [one 0]|_=>[xh x,rh,some (.row 4 [[.slice 3 0 x.n none,.nilslice,.nilslice,.nilslice]]),some (.row 4 (List.replicate x.k a4j ++ [dR 4] ++ gg.map Nd.enc))] ++ [one (x.d0 % x.n)]) (fun i=>1 - i) (fun i=>i ≤ 1) 0 ?_ (Nat.zero_le _) ?_ ?_
     ·(simp +decide only [go_sem,a02,a00,hm,a06,a09,List.append_assoc]<;>rfl)
     ·intro i hi
      by_cases hj0:i = 0
      ·subst hj0
       (simp +decide only [go_sem,a02,a00,hm,a06,a09,List.append_assoc]<;>rfl)
      obtain rfl:i = 1:=by omega
      (simp +decide only [go_sem,a02,a00,hm,a06,a09,List.append_assoc]<;>rfl)
     ·intro i hi
      by_cases hj0:i = 0
      ·subst hj0
       have hw:=wI1 (n:=0) (by omega)
       have hwa:IntKind.i64.wrap ((x.k:Int) + (((0:Nat)):Int)) = ((x.k + 0:Nat):Int):=by rw [w64 (by omega) (by omega)];omega
       have hwa':IntKind.i64.wrap ((x.k:Int) + 0) = ((x.k + 0:Nat):Int):=by rw [w64 (by omega) (by omega)];omega
       have wd:=wI (n:=x.d0) (by omega)
       have hin:x.k + 0 < x.n:=by omega
       have hin':x.k < x.n:=by omega
       (repeat first|simp only [ww]|(apply xa;simp +decide only [go_sem,hm,hw,hwa,hwa',wd,hn0,hin,hin',b1o,a99,b10,a8z,List.append_assoc];rfl;kernel_rfl))
       refine a1y 1 ?_ (by omega) (by omega)
       (simp +decide only [go_sem,a02,a00,hm,a06,a09,List.append_assoc]<;>rfl)
      obtain rfl:i = 1:=by omega
      (repeat first|simp only [ww]|(apply xa;simp +decide only [go_sem,hm];rfl;kernel_rfl))
      -- the names
      refine a1i (σ:=Nat) kp47_8 (fun i=>[(1,.ptr 0 0 0),(2,.ptr 1 0 0),(3,.ptr 2 0 0),(9,.int .i64 x.n),(11,.int .i64 i)])
       (fun i=>[xh x,rh,some (.row 4 [[.slice 3 0 x.n none,slN 5 i,.nilslice,.nilslice]]),some (.row 4 (List.replicate x.k a4j ++ [dR 4] ++ gg.map Nd.enc))] ++ [one (x.d0 % x.n)] ++ nmH i) (fun i=>x.n - i) (fun i=>i ≤ x.n) 0 ?_ (Nat.zero_le _) ?_ ?_
      ·(simp +decide only [go_sem,a02,a00,hm,a6s,b94,a06,a09,List.append_assoc]<;>rfl)
      ·intro i _
       cases i with
       | zero=>(simp +decide only [go_sem,a02,a00,hm,a6s,b94,a06,a09,List.append_assoc]<;>rfl)
       | succ i=>(simp +decide only [go_sem,a02,a00,hm,a47,b2u,a06,a09,a0w,a19,List.append_assoc]<;>rfl)
      ·intro i hi
       by_cases hlt:i < x.n
       ·have c1:(i:Int) < x.n:=by omega
        have hw:=wI1 (n:=i) (by omega)
        have hcall:=fun H=>a72 (d:=true) H i (by omega)
        have hrm:i + 1 ≤ 1000000000:=by omega
        cases i with
        | zero=>
         (repeat first|simp only [ww]|(apply xa;simp +decide only [go_sem,hm,c1,hw,hcall,a6s,b94];rfl;kernel_rfl))
         refine a1y 1 ?_ (by omega) (by omega)
         (simp +decide only [go_sem,a02,a00,hm,a47,b2u,a06,a09,nm1,List.append_assoc]<;>rfl)
        | succ i=>
         have hrm:i + 1 + 1 ≤ 1000000000:=by omega
         (repeat first|simp only [ww]|(apply xa;simp +decide only [go_sem,hm,c1,hw,hcall,a47,b2u,hrm,List.length_range];rfl;kernel_rfl))
         refine a1y (i + 1 + 1) ?_ (by omega) (by omega)
         (simp +decide only [go_sem,a02,a00,hm,a47,b2u,a06,a09,a0w,a19,b1f,List.append_assoc]<;>rfl)
       have hie:i = x.n:=by omega
       subst hie
       have c1:¬ (x.n:Int) < x.n:=by omega
       obtain ⟨n',hn'⟩:∃ n',x.n = n' + 1:=⟨x.n - 1,by omega⟩
       have e1:slN 5 x.n = .slice 5 0 x.n none:=by rw [hn'];rfl
       have e2:nmH x.n = [some (.row 1 ((List.range x.n).map nmR))]:=by rw [hn'];rfl
       rw [e1,e2]
       (repeat first|simp only [ww]|(apply xa;simp +decide only [go_sem,hm,c1];rfl;kernel_rfl))
       -- the outputs
       refine a1i (σ:=Nat) kp47_10 (fun i=>[(1,.ptr 0 0 0),(2,.ptr 1 0 0),(3,.ptr 2 0 0),(9,.int .i64 x.n),(12,.int .i64 i)])
        (fun i=>[xh x,rh,some (.row 4 [[.slice 3 0 x.n none,.slice 5 0 x.n none,.nilslice,slN 6 i]]),some (.row 4 (List.replicate x.k a4j ++ [dR 4] ++ gg.map Nd.enc))] ++ [one (x.d0 % x.n)] ++ [some (.row 1 ((List.range x.n).map nmR))] ++ otH x i) (fun i=>3 - i) (fun i=>i ≤ 3 ∧ i ≤ x.outs.length) 0 ?_ ⟨by omega,by omega⟩ ?_ ?_
       ·(simp +decide only [go_sem,a02,a00,hm,a6s,b2s,a06,a09,a0w,a19,List.append_assoc]<;>rfl)
       ·intro i _
        cases i with
        | zero=>(simp +decide only [go_sem,a02,a00,hm,a6s,b2s,a06,a09,a0w,a19,List.append_assoc]<;>rfl)
        | succ i=>(simp +decide only [go_sem,a02,a00,hm,a47,a83,a06,a09,a0w,a19,a5i,a7y,List.append_assoc]<;>rfl)
       ·intro i hi
        by_cases hlt:i < 3 ∧ i < x.outs.length
        ·obtain ⟨o,ho⟩:∃ o,x.outs[i]? = some o:=⟨_,z9e hlt.2⟩
         have hol:=x6 o (List.mem_of_getElem? ho)
         have wo:=wI (n:=o) (by omega)
         have c1:(i:Int) < x.outs.length:=by omega
         have c1':i < x.outs.length:=by omega
         have c2:(i:Int) < 3:=by omega
         have hw:=wI1 (n:=i) (by omega)
         have ht:=a14 ho
         have htl:(x.outs.take i).length = i:=by rw [List.length_take];omega
         cases i with
         | zero=>
          (repeat first|simp only [ww]|(apply xa;simp +decide only [go_sem,hm,c1,c1',c2,hw,ho,wo,hn0,a6s,b2s];rfl;kernel_rfl))
          refine a1y 1 ?_ (by omega) ⟨by omega,by omega⟩
          (simp +decide only [go_sem,a02,a00,hm,a47,a83,a06,a09,a0w,a19,ht,List.take_zero,List.append_assoc]<;>rfl)
         | succ i=>
          have hrm:i + 1 + 1 ≤ 1000000000:=by omega
          (repeat first|simp only [ww]|(apply xa;simp +decide only [go_sem,hm,c1,c1',c2,hw,ho,wo,hn0,a47,a83,hrm,htl];rfl;kernel_rfl))
          refine a1y (i + 1 + 1) ?_ (by omega) ⟨by omega,by omega⟩
          (simp +decide only [go_sem,a02,a00,hm,a47,a83,a06,a09,a0w,a19,a5i,a7y,ht,List.append_assoc]<;>rfl)
        have hio:x.outs.take i = x.outs.take 3:=by
         by_cases h3:i = 3
         ·rw [h3]
         ·rw [List.take_of_length_le (by omega),List.take_of_length_le (by omega)]
        have hil:(x.outs.take i).length = i:=by rw [List.length_take];omega
        have hwn:IntKind.i64.wrap ((x.n:Int) - 1) = ((x.n - 1:Nat):Int):=by rw [w64 (by omega) (by omega)];omega
        have hres:x.cir = ⟨some none,List.replicate x.k b02 ++ [a45 (x.d0 % x.n)] ++ gg,some none,(List.range x.n).map a37,some none,(x.outs.take i).map (·% x.n) ++ [x.n - 1]⟩:=by
         rw [hio,← hG];simp [CX.cir,CX.nodes,CX.dn,CX.names,CX.outN,hd]
        rw [hres]
        have hle1:x.n ≤ x.k + 1 + gg.length:=by omega
        have hle2:x.k + 1 + gg.length ≤ x.n:=by omega
        by_cases g1:i < x.outs.length
        ·have c1:(i:Int) < x.outs.length:=by omega
         have c2:¬ (i:Int) < 3:=by omega
         have hrm:i + 1 ≤ 1000000000:=by omega
         cases i with
         | zero=>omega
         | succ i=>
          have hrm:i + 1 + 1 ≤ 1000000000:=by omega
          (repeat first|simp only [ww]|(apply xa;simp +decide only [go_sem,hm,c1,c2,a47,a83,hrm,hwn,hil];rfl;kernel_rfl))
          (apply fqb;simp +decide only [go_sem,hm,a2x,a4q,a4p,a4o,a11,List.map_map,hil,b02,a45,a4n,Cir.enc,a1x,hle1,hle2,List.length_range,Nat.le_refl,a4m]<;>rfl)
        ·have c1:¬ (i:Int) < x.outs.length:=by omega
         cases i with
         | zero=>
          (repeat first|simp only [ww]|(apply xa;simp +decide only [go_sem,hm,c1,a6s,b2s,hwn,hil];rfl;kernel_rfl))
          (apply fqb;simp +decide only [go_sem,hm,a2x,a4q,a4p,a4o,a11,List.map_map,hil,b02,a45,a4n,Cir.enc,a1x,hle1,hle2,List.length_range,Nat.le_refl,a4m,List.take_zero]<;>rfl)
         | succ i=>
          have hrm:i + 1 + 1 ≤ 1000000000:=by omega
          (repeat first|simp only [ww]|(apply xa;simp +decide only [go_sem,hm,c1,a47,a83,hrm,hwn,hil];rfl;kernel_rfl))
          (apply fqb;simp +decide only [go_sem,hm,a2x,a4q,a4p,a4o,a11,List.map_map,hil,b02,a45,a4n,Cir.enc,a1x,hle1,hle2,List.length_range,Nat.le_refl,a4m]<;>rfl)
theorem e1f (x:CX) (hx:x.ok) (hm:x.mem = false) (hd:x.d = 2) :
 sem L.env Mf 47 [.agg x.enc] [] = some (.agg x.cir.enc,[]):=by
 obtain ⟨x1,x2,x3,x4,x5,x6⟩:=hx
 have hk1:x.inn % 4 + 1 = x.k:=rfl
 have hd':x.dffs % 3 = 2:=hd
 have kk:x.k ≤ 4:=by unfold CX.k;omega
 have kp:0 < x.k:=by unfold CX.k;omega
 have gl:x.gs.length ≤ 8:=by unfold CX.gs;rw [List.length_take];omega
 have w4:=wI (n:=x.inn % 4) (by omega)
 have w3:=wI (n:=x.dffs % 3) (by omega)
 obtain ⟨k',hk'⟩:∃ k',x.k = k' + 1:=⟨x.k - 1,by omega⟩
 (refine sv Tryz.f47 ?_;simp only [Tryz.f47,gS])
 (repeat first|simp only [ww]|(apply xa;simp +decide only [go_sem];rfl;kernel_rfl))
 -- the inputs
 refine a1i (σ:=Nat) kp47_0 (fun i=>[(1,.ptr 0 0 0),(2,.ptr 1 0 0),(3,.ptr 2 0 0),(4,.int .i64 i)])
  (fun i=>[xh x,rh,some (.row 4 [[nV i,.nilslice,.nilslice,.nilslice]])] ++ nH i) (fun i=>x.k - i) (fun i=>i ≤ x.k) 0 ?_ (Nat.zero_le _) ?_ ?_
 ·(simp +decide only [go_sem,a02,a00,nV0,nH0]<;>rfl)
 ·intro i _
  cases i with
  | zero=>((simp +decide only [go_sem,a02,a00,nV0,nH0]<;>rfl))
  | succ i=>((simp +decide only [go_sem,a02,a00,nVs,nHs]<;>rfl))
 ·intro i hi
  by_cases hlt:i < x.k
  ·have c1:(i:Int) ≤ ((x.inn % 4:Nat):Int):=by omega
   have hw:=wI1 (n:=i) (by omega)
   cases i with
   | zero=>
    (repeat first|simp only [ww]|(apply xa;simp +decide only [go_sem,w4,c1,hw,nV0,nH0];rfl;kernel_rfl))
    refine a1y 1 ?_ (by omega) (by omega)
    ((simp +decide only [go_sem,a02,a00,nVs,nHs]<;>rfl))
   | succ i=>
    have hrm:i + 1 + 1 ≤ 1000000000:=by omega
    (repeat first|simp only [ww]|(apply xa;simp +decide only [go_sem,w4,c1,hw,nVs,nHs,hrm,a5l];rfl;kernel_rfl))
    refine a1y (i + 1 + 1) ?_ (by omega) (by omega)
    ((simp +decide only [go_sem,a02,a00,nVs,nHs,a5l]<;>rfl))
  have hik:i = x.k:=by omega
  subst hik
  have c1:¬ ((x.k:Nat):Int) ≤ ((x.inn % 4:Nat):Int):=by omega
  have nVk:nV x.k = .slice 3 0 x.k none:=by rw [hk'];rfl
  have nHk:nH x.k = [some (.row 4 (List.replicate x.k a4j))]:=by rw [hk'];rfl
  rw [nVk,nHk]
  (repeat first|simp only [ww]|(apply xa;simp +decide only [go_sem,w4,w3,c1,hd'];rfl;kernel_rfl))
  -- the flip-flops
  refine a1i (σ:=Nat) kp47_2 (fun i=>[(1,.ptr 0 0 0),(2,.ptr 1 0 0),(3,.ptr 2 0 0),(5,.int .i64 x.k),(6,.int .i64 2),(7,.int .i64 i)])
   (fun i=>match i with|0=>[xh x,rh,some (.row 4 [[.slice 3 0 (x.k + 0) none,.nilslice,.nilslice,.nilslice]]),some (.row 4 (List.replicate x.k a4j ++ []))] ++ []|1=>[xh x,rh,some (.row 4 [[.slice 3 0 (x.k + 1) none,.nilslice,.nilslice,.nilslice]]),some (.row 4 (List.replicate x.k a4j ++ [dR 4]))] ++ [one 0]|_=>[xh x,rh,some (.row 4 [[.slice 3 0 (x.k + 2) none,.nilslice,.nilslice,.nilslice]]),some (.row 4 (List.replicate x.k a4j ++ [dR 4,dR 5]))] ++ [one 0,one 0]) (fun i=>2 - i) (fun i=>i ≤ 2) 0 ?_ (Nat.zero_le _) ?_ ?_
  ·(simp +decide only [go_sem,a02,a00]<;>rfl)
  ·intro i hi
   by_cases hj0:i = 0
   ·subst hj0
    ((simp +decide only [go_sem,a02,a00]<;>rfl))
   by_cases hj1:i = 1
   ·subst hj1
    ((simp +decide only [go_sem,a02,a00]<;>rfl))
   obtain rfl:i = 2:=by omega
   ((simp +decide only [go_sem,a02,a00]<;>rfl))
  ·intro i hi
   by_cases hj0:i = 0
   ·subst hj0
    have hrm:x.k + 0 + 1 ≤ 1000000000:=by omega
    have hw:=wI1 (n:=0) (by omega)
    (repeat first|simp only [ww]|(apply xa;simp +decide only [go_sem,hrm,a5l,hw];rfl;kernel_rfl))
    refine a1y 1 ?_ (by omega) (by omega)
    ((simp +decide only [go_sem,a02,a00,List.append_assoc]<;>rfl))
   by_cases hj1:i = 1
   ·subst hj1
    have hrm:x.k + 1 + 1 ≤ 1000000000:=by omega
    have hw:=wI1 (n:=1) (by omega)
    (repeat first|simp only [ww]|(apply xa;simp +decide only [go_sem,hrm,a5l,hw];rfl;kernel_rfl))
    refine a1y 2 ?_ (by omega) (by omega)
    ((simp +decide only [go_sem,a02,a00,List.append_assoc]<;>rfl))
   obtain rfl:i = 2:=by omega
   (repeat first|simp only [ww]|(apply xa;simp +decide only [go_sem,hm];rfl;kernel_rfl))
   -- the gates
   refine a1i (σ:=Nat) kp47_4 (fun i=>[(1,.ptr 0 0 0),(2,.ptr 1 0 0),(3,.ptr 2 0 0),(5,.int .i64 x.k),(6,.int .i64 2),(8,.int .i64 i)])
    (fun i=>[xh x,rh,some (.row 4 [[.slice 3 0 (x.k + 2 + i) none,.nilslice,.nilslice,.nilslice]]),some (.row 4 (List.replicate x.k a4j ++ [dR 4,dR 5] ++ (gN x.bus x.base (x.gates.take i)).map Nd.enc))] ++ [one 0,one 0]) (fun i=>x.gs.length - i) (fun i=>i ≤ x.gs.length) 0 ?_ (Nat.zero_le _) ?_ ?_
   ·(simp +decide only [go_sem,a02,a00,hm,List.take_zero,c96,List.append_assoc]<;>rfl)
   ·intro i _
    (simp +decide only [go_sem,a02,a00,hm,a06,a09,List.append_assoc]<;>rfl)
   ·intro i hi
    have hgl:x.gs.length = min 8 x.gates.length:=by unfold CX.gs;rw [List.length_take]
    by_cases hlt:i < x.gs.length
    ·obtain ⟨g,hg⟩:∃ g,x.gates[i]? = some g:=⟨_,z9e (by omega)⟩
     have c1:(i:Int) < x.gates.length:=by omega
     have c1':i < x.gates.length:=by omega
     have c2:(i:Int) < 8:=by omega
     have hw:=wI1 (n:=i) (by omega)
     have hgok:g.ok:=x5 g (List.mem_of_getElem? hg)
     have hgn:(gN x.bus x.base (x.gates.take i)).length = i:=by rw [a5b,List.length_take];omega
     have hs:=b8e x.bus g (x.gates.take i) x.base
     rw [← a14 hg] at hs
     have hcall:=c5q (d:=true) x g hgok (gN x.bus x.base (x.gates.take i)) x.k (x.k + 2 + i) kp (by rw [hgn]) (by omega) (xh x) rh (some (.row 4 [[.slice 3 0 (x.k + 2 + i) none,.nilslice,.nilslice,.nilslice]]))
     rw [show List.replicate x.k 0 ++ List.replicate 2 14 ++ (gN x.bus x.base (x.gates.take i)).map Nd.kind = x.base ++ (gN x.bus x.base (x.gates.take i)).map Nd.kind by unfold CX.base;rw [hd]] at hcall
     generalize a0i x.bus g (x.base ++ (gN x.bus x.base (x.gates.take i)).map Nd.kind) = nd at hcall hs
     simp +decide only [go_sem,hm,List.append_assoc] at hcall
     have hrm:x.k + 2 + i + 1 ≤ 1000000000:=by omega
     have hlen:decide (x.k + 2 + i = x.k + (i + 1 + 1)) = true:=decide_eq_true (by omega)
     (repeat first|simp only [ww]|(apply xa;simp +decide only [go_sem,hm,c1,c1',c2,hw,hg,hcall,hrm,hlen,List.append_assoc,hgn];rfl;kernel_rfl))
     refine a1y (i + 1) ?_ (by omega) (by omega)
     rw [hs]
     (simp +decide only [go_sem,a02,a00,hm,a06,a09,List.append_assoc]<;>rfl)
    have hie:i = x.gs.length:=by omega
    subst hie
    rw [x.gs_take]
    have hgn:(gN x.bus x.base x.gs).length = x.gs.length:=a5b _ _ _
    have hnn:x.n = x.k + 2 + x.gs.length:=by unfold CX.n;rw [hd]
    rw [← hnn]
    generalize hG:gN x.bus x.base x.gs = gg at hgn
    have hnp:0 < x.n:=by omega
    have hnl:x.n ≤ 14:=by omega
    have hn0:¬ (x.n:Int) = 0:=by omega
    have hstop:¬ ((x.gs.length:Int) < x.gates.length ∧ (x.gs.length:Int) < 8):=by omega
    -- the guard of the loop's end is decided in either case
    have hfin:∀ F,F = [(1,AV.ptr 0 0 0),(2,.ptr 1 0 0),(3,.ptr 2 0 0),(5,.int .i64 x.k),(6,.int .i64 2),(8,.int .i64 x.gs.length)] → True:=fun _ _=>trivial
    by_cases g1:x.gs.length < x.gates.length
    ·have c1:(x.gs.length:Int) < x.gates.length:=by omega
     have c2:¬ (x.gs.length:Int) < 8:=by omega
     (repeat first|simp only [ww]|(apply xa;simp +decide only [go_sem,c1,c2,hm];rfl;kernel_rfl))
     -- the flip-flops' data
     refine a1i (σ:=Nat) kp47_6 (fun i=>[(1,.ptr 0 0 0),(2,.ptr 1 0 0),(3,.ptr 2 0 0),(5,.int .i64 x.k),(6,.int .i64 2),(9,.int .i64 x.n),(10,.int .i64 i)])
      (fun i=>match i with|0=>[xh x,rh,some (.row 4 [[.slice 3 0 x.n none,.nilslice,.nilslice,.nilslice]]),some (.row 4 (List.replicate x.k a4j ++ [dR 4,dR 5] ++ gg.map Nd.enc))] ++ [one 0,one 0]|1=>[xh x,rh,some (.row 4 [[.slice 3 0 x.n none,.nilslice,.nilslice,.nilslice]]),some (.row 4 (List.replicate x.k a4j ++ [dR 4,dR 5] ++ gg.map Nd.enc))] ++ [one (x.d0 % x.n),one 0]|_=>[xh x,rh,some (.row 4 [[.slice 3 0 x.n none,.nilslice,.nilslice,.nilslice]]),some (.row 4 (List.replicate x.k a4j ++ [dR 4,dR 5] ++ gg.map Nd.enc))] ++ [one (x.d0 % x.n),one (x.d1 % x.n)]) (fun i=>2 - i) (fun i=>i ≤ 2) 0 ?_ (Nat.zero_le _) ?_ ?_
     ·(simp +decide only [go_sem,a02,a00,hm,a06,a09,List.append_assoc]<;>rfl)
     ·intro i hi
      by_cases hj0:i = 0
      ·subst hj0
       (simp +decide only [go_sem,a02,a00,hm,a06,a09,List.append_assoc]<;>rfl)
      by_cases hj1:i = 1
      ·subst hj1
       (simp +decide only [go_sem,a02,a00,hm,a06,a09,List.append_assoc]<;>rfl)
      obtain rfl:i = 2:=by omega
      (simp +decide only [go_sem,a02,a00,hm,a06,a09,List.append_assoc]<;>rfl)
     ·intro i hi
      by_cases hj0:i = 0
      ·subst hj0
       have hw:=wI1 (n:=0) (by omega)
       have hwa:IntKind.i64.wrap ((x.k:Int) + (((0:Nat)):Int)) = ((x.k + 0:Nat):Int):=by rw [w64 (by omega) (by omega)];omega
       have hwa':IntKind.i64.wrap ((x.k:Int) + 0) = ((x.k + 0:Nat):Int):=by rw [w64 (by omega) (by omega)];omega
       have wd:=wI (n:=x.d0) (by omega)
       have hin:x.k + 0 < x.n:=by omega
       have hin':x.k < x.n:=by omega
       (repeat first|simp only [ww]|(apply xa;simp +decide only [go_sem,hm,hw,hwa,hwa',wd,hn0,hin,hin',b1o,a99,b10,a8z,List.append_assoc];rfl;kernel_rfl))
       refine a1y 1 ?_ (by omega) (by omega)
       (simp +decide only [go_sem,a02,a00,hm,a06,a09,List.append_assoc]<;>rfl)
      by_cases hj1:i = 1
      ·subst hj1
       have hw:=wI1 (n:=1) (by omega)
       have hwa:IntKind.i64.wrap ((x.k:Int) + (((1:Nat)):Int)) = ((x.k + 1:Nat):Int):=by rw [w64 (by omega) (by omega)];omega
       have hwa':IntKind.i64.wrap ((x.k:Int) + 1) = ((x.k + 1:Nat):Int):=by rw [w64 (by omega) (by omega)];omega
       have wd:=wI (n:=x.d1) (by omega)
       have hin:x.k + 1 < x.n:=by omega
       have hin':x.k < x.n:=by omega
       (repeat first|simp only [ww]|(apply xa;simp +decide only [go_sem,hm,hw,hwa,hwa',wd,hn0,hin,hin',b1o,a99,b10,a8z,List.append_assoc];rfl;kernel_rfl))
       refine a1y 2 ?_ (by omega) (by omega)
       (simp +decide only [go_sem,a02,a00,hm,a06,a09,List.append_assoc]<;>rfl)
      obtain rfl:i = 2:=by omega
      (repeat first|simp only [ww]|(apply xa;simp +decide only [go_sem,hm];rfl;kernel_rfl))
      -- the names
      refine a1i (σ:=Nat) kp47_8 (fun i=>[(1,.ptr 0 0 0),(2,.ptr 1 0 0),(3,.ptr 2 0 0),(9,.int .i64 x.n),(11,.int .i64 i)])
       (fun i=>[xh x,rh,some (.row 4 [[.slice 3 0 x.n none,slN 6 i,.nilslice,.nilslice]]),some (.row 4 (List.replicate x.k a4j ++ [dR 4,dR 5] ++ gg.map Nd.enc))] ++ [one (x.d0 % x.n),one (x.d1 % x.n)] ++ nmH i) (fun i=>x.n - i) (fun i=>i ≤ x.n) 0 ?_ (Nat.zero_le _) ?_ ?_
      ·(simp +decide only [go_sem,a02,a00,hm,a6s,b94,a06,a09,List.append_assoc]<;>rfl)
      ·intro i _
       cases i with
       | zero=>(simp +decide only [go_sem,a02,a00,hm,a6s,b94,a06,a09,List.append_assoc]<;>rfl)
       | succ i=>(simp +decide only [go_sem,a02,a00,hm,a47,b2u,a06,a09,a0w,a19,List.append_assoc]<;>rfl)
      ·intro i hi
       by_cases hlt:i < x.n
       ·have c1:(i:Int) < x.n:=by omega
        have hw:=wI1 (n:=i) (by omega)
        have hcall:=fun H=>a72 (d:=true) H i (by omega)
        have hrm:i + 1 ≤ 1000000000:=by omega
        cases i with
        | zero=>
         (repeat first|simp only [ww]|(apply xa;simp +decide only [go_sem,hm,c1,hw,hcall,a6s,b94];rfl;kernel_rfl))
         refine a1y 1 ?_ (by omega) (by omega)
         (simp +decide only [go_sem,a02,a00,hm,a47,b2u,a06,a09,nm1,List.append_assoc]<;>rfl)
        | succ i=>
         have hrm:i + 1 + 1 ≤ 1000000000:=by omega
         (repeat first|simp only [ww]|(apply xa;simp +decide only [go_sem,hm,c1,hw,hcall,a47,b2u,hrm,List.length_range];rfl;kernel_rfl))
         refine a1y (i + 1 + 1) ?_ (by omega) (by omega)
         (simp +decide only [go_sem,a02,a00,hm,a47,b2u,a06,a09,a0w,a19,b1f,List.append_assoc]<;>rfl)
       have hie:i = x.n:=by omega
       subst hie
       have c1:¬ (x.n:Int) < x.n:=by omega
       obtain ⟨n',hn'⟩:∃ n',x.n = n' + 1:=⟨x.n - 1,by omega⟩
       have e1:slN 6 x.n = .slice 6 0 x.n none:=by rw [hn'];rfl
       have e2:nmH x.n = [some (.row 1 ((List.range x.n).map nmR))]:=by rw [hn'];rfl
       rw [e1,e2]
       (repeat first|simp only [ww]|(apply xa;simp +decide only [go_sem,hm,c1];rfl;kernel_rfl))
       -- the outputs
       refine a1i (σ:=Nat) kp47_10 (fun i=>[(1,.ptr 0 0 0),(2,.ptr 1 0 0),(3,.ptr 2 0 0),(9,.int .i64 x.n),(12,.int .i64 i)])
        (fun i=>[xh x,rh,some (.row 4 [[.slice 3 0 x.n none,.slice 6 0 x.n none,.nilslice,slN 7 i]]),some (.row 4 (List.replicate x.k a4j ++ [dR 4,dR 5] ++ gg.map Nd.enc))] ++ [one (x.d0 % x.n),one (x.d1 % x.n)] ++ [some (.row 1 ((List.range x.n).map nmR))] ++ otH x i) (fun i=>3 - i) (fun i=>i ≤ 3 ∧ i ≤ x.outs.length) 0 ?_ ⟨by omega,by omega⟩ ?_ ?_
       ·(simp +decide only [go_sem,a02,a00,hm,a6s,b2s,a06,a09,a0w,a19,List.append_assoc]<;>rfl)
       ·intro i _
        cases i with
        | zero=>(simp +decide only [go_sem,a02,a00,hm,a6s,b2s,a06,a09,a0w,a19,List.append_assoc]<;>rfl)
        | succ i=>(simp +decide only [go_sem,a02,a00,hm,a47,a83,a06,a09,a0w,a19,a5i,a7y,List.append_assoc]<;>rfl)
       ·intro i hi
        by_cases hlt:i < 3 ∧ i < x.outs.length
        ·obtain ⟨o,ho⟩:∃ o,x.outs[i]? = some o:=⟨_,z9e hlt.2⟩
         have hol:=x6 o (List.mem_of_getElem? ho)
         have wo:=wI (n:=o) (by omega)
         have c1:(i:Int) < x.outs.length:=by omega
         have c1':i < x.outs.length:=by omega
         have c2:(i:Int) < 3:=by omega
         have hw:=wI1 (n:=i) (by omega)
         have ht:=a14 ho
         have htl:(x.outs.take i).length = i:=by rw [List.length_take];omega
         cases i with
         | zero=>
          (repeat first|simp only [ww]|(apply xa;simp +decide only [go_sem,hm,c1,c1',c2,hw,ho,wo,hn0,a6s,b2s];rfl;kernel_rfl))
          refine a1y 1 ?_ (by omega) ⟨by omega,by omega⟩
          (simp +decide only [go_sem,a02,a00,hm,a47,a83,a06,a09,a0w,a19,ht,List.take_zero,List.append_assoc]<;>rfl)
         | succ i=>
          have hrm:i + 1 + 1 ≤ 1000000000:=by omega
          (repeat first|simp only [ww]|(apply xa;simp +decide only [go_sem,hm,c1,c1',c2,hw,ho,wo,hn0,a47,a83,hrm,htl];rfl;kernel_rfl))
          refine a1y (i + 1 + 1) ?_ (by omega) ⟨by omega,by omega⟩
          (simp +decide only [go_sem,a02,a00,hm,a47,a83,a06,a09,a0w,a19,a5i,a7y,ht,List.append_assoc]<;>rfl)
        have hio:x.outs.take i = x.outs.take 3:=by
         by_cases h3:i = 3
         ·rw [h3]
         ·rw [List.take_of_length_le (by omega),List.take_of_length_le (by omega)]
        have hil:(x.outs.take i).length = i:=by rw [List.length_take];omega
        have hwn:IntKind.i64.wrap ((x.n:Int) - 1) = ((x.n - 1:Nat):Int):=by rw [w64 (by omega) (by omega)];omega
        have hres:x.cir = ⟨some none,List.replicate x.k b02 ++ [a45 (x.d0 % x.n),a45 (x.d1 % x.n)] ++ gg,some none,(List.range x.n).map a37,some none,(x.outs.take i).map (·% x.n) ++ [x.n - 1]⟩:=by
         rw [hio,← hG];simp [CX.cir,CX.nodes,CX.dn,CX.names,CX.outN,hd]
        rw [hres]
        have hle1:x.n ≤ x.k + 2 + gg.length:=by omega
        have hle2:x.k + 2 + gg.length ≤ x.n:=by omega
        by_cases g1:i < x.outs.length
        ·have c1:(i:Int) < x.outs.length:=by omega
         have c2:¬ (i:Int) < 3:=by omega
         have hrm:i + 1 ≤ 1000000000:=by omega
         cases i with
         | zero=>omega
         | succ i=>
          have hrm:i + 1 + 1 ≤ 1000000000:=by omega
          (repeat first|simp only [ww]|(apply xa;simp +decide only [go_sem,hm,c1,c2,a47,a83,hrm,hwn,hil];rfl;kernel_rfl))
          (apply fqb;simp +decide only [go_sem,hm,a2x,a4q,a4p,a4o,a11,List.map_map,hil,b02,a45,a4n,Cir.enc,a1x,hle1,hle2,List.length_range,Nat.le_refl,a4m]<;>rfl)
        ·have c1:¬ (i:Int) < x.outs.length:=by omega
         cases i with
         | zero=>
          (repeat first|simp only [ww]|(apply xa;simp +decide only [go_sem,hm,c1,a6s,b2s,hwn,hil];rfl;kernel_rfl))
          (apply fqb;simp +decide only [go_sem,hm,a2x,a4q,a4p,a4o,a11,List.map_map,hil,b02,a45,a4n,Cir.enc,a1x,hle1,hle2,List.length_range,Nat.le_refl,a4m,List.take_zero]<;>rfl)
         | succ i=>
          have hrm:i + 1 + 1 ≤ 1000000000:=by omega
          (repeat first|simp only [ww]|(apply xa;simp +decide only [go_sem,hm,c1,a47,a83,hrm,hwn,hil];rfl;kernel_rfl))
          (apply fqb;simp +decide only [go_sem,hm,a2x,a4q,a4p,a4o,a11,List.map_map,hil,b02,a45,a4n,Cir.enc,a1x,hle1,hle2,List.length_range,Nat.le_refl,a4m]<;>rfl)
    ·have c1:¬ (x.gs.length:Int) < x.gates.length:=by omega
     (repeat first|simp only [ww]|(apply xa;simp +decide only [go_sem,c1,hm];rfl;kernel_rfl))
     -- the flip-flops' data
     refine a1i (σ:=Nat) kp47_6 (fun i=>[(1,.ptr 0 0 0),(2,.ptr 1 0 0),(3,.ptr 2 0 0),(5,.int .i64 x.k),(6,.int .i64 2),(9,.int .i64 x.n),(10,.int .i64 i)])
      (fun i=>match i with|0=>[xh x,rh,some (.row 4 [[.slice 3 0 x.n none,.nilslice,.nilslice,.nilslice]]),some (.row 4 (List.replicate x.k a4j ++ [dR 4,dR 5] ++ gg.map Nd.enc))] ++ [one 0,one 0]|1=>[xh x,rh,some (.row 4 [[.slice 3 0 x.n none,.nilslice,.nilslice,.nilslice]]),some (.row 4 (List.replicate x.k a4j ++ [dR 4,dR 5] ++ gg.map Nd.enc))] ++ [one (x.d0 % x.n),one 0]|_=>[xh x,rh,some (.row 4 [[.slice 3 0 x.n none,.nilslice,.nilslice,.nilslice]]),some (.row 4 (List.replicate x.k a4j ++ [dR 4,dR 5] ++ gg.map Nd.enc))] ++ [one (x.d0 % x.n),one (x.d1 % x.n)]) (fun i=>2 - i) (fun i=>i ≤ 2) 0 ?_ (Nat.zero_le _) ?_ ?_
     ·(simp +decide only [go_sem,a02,a00,hm,a06,a09,List.append_assoc]<;>rfl)
     ·intro i hi
      by_cases hj0:i = 0
      ·subst hj0
       (simp +decide only [go_sem,a02,a00,hm,a06,a09,List.append_assoc]<;>rfl)
      by_cases hj1:i = 1
      ·subst hj1
       (simp +decide only [go_sem,a02,a00,hm,a06,a09,List.append_assoc]<;>rfl)
      obtain rfl:i = 2:=by omega
      (simp +decide only [go_sem,a02,a00,hm,a06,a09,List.append_assoc]<;>rfl)
     ·intro i hi
      by_cases hj0:i = 0
      ·subst hj0
       have hw:=wI1 (n:=0) (by omega)
       have hwa:IntKind.i64.wrap ((x.k:Int) + (((0:Nat)):Int)) = ((x.k + 0:Nat):Int):=by rw [w64 (by omega) (by omega)];omega
       have hwa':IntKind.i64.wrap ((x.k:Int) + 0) = ((x.k + 0:Nat):Int):=by rw [w64 (by omega) (by omega)];omega
       have wd:=wI (n:=x.d0) (by omega)
       have hin:x.k + 0 < x.n:=by omega
       have hin':x.k < x.n:=by omega
       (repeat first|simp only [ww]|(apply xa;simp +decide only [go_sem,hm,hw,hwa,hwa',wd,hn0,hin,hin',b1o,a99,b10,a8z,List.append_assoc];rfl;kernel_rfl))
       refine a1y 1 ?_ (by omega) (by omega)
       (simp +decide only [go_sem,a02,a00,hm,a06,a09,List.append_assoc]<;>rfl)
      by_cases hj1:i = 1
      ·subst hj1
       have hw:=wI1 (n:=1) (by omega)
       have hwa:IntKind.i64.wrap ((x.k:Int) + (((1:Nat)):Int)) = ((x.k + 1:Nat):Int):=by rw [w64 (by omega) (by omega)];omega
       have hwa':IntKind.i64.wrap ((x.k:Int) + 1) = ((x.k + 1:Nat):Int):=by rw [w64 (by omega) (by omega)];omega
       have wd:=wI (n:=x.d1) (by omega)
       have hin:x.k + 1 < x.n:=by omega
       have hin':x.k < x.n:=by omega
       (repeat first|simp only [ww]|(apply xa;simp +decide only [go_sem,hm,hw,hwa,hwa',wd,hn0,hin,hin',b1o,a99,b10,a8z,List.append_assoc];rfl;kernel_rfl))
       refine a1y 2 ?_ (by omega) (by omega)
       (simp +decide only [go_sem,a02,a00,hm,a06,a09,List.append_assoc]<;>rfl)
      obtain rfl:i = 2:=by omega
      (repeat first|simp only [ww]|(apply xa;simp +decide only [go_sem,hm];rfl;kernel_rfl))
      -- the names
      refine a1i (σ:=Nat) kp47_8 (fun i=>[(1,.ptr 0 0 0),(2,.ptr 1 0 0),(3,.ptr 2 0 0),(9,.int .i64 x.n),(11,.int .i64 i)])
       (fun i=>[xh x,rh,some (.row 4 [[.slice 3 0 x.n none,slN 6 i,.nilslice,.nilslice]]),some (.row 4 (List.replicate x.k a4j ++ [dR 4,dR 5] ++ gg.map Nd.enc))] ++ [one (x.d0 % x.n),one (x.d1 % x.n)] ++ nmH i) (fun i=>x.n - i) (fun i=>i ≤ x.n) 0 ?_ (Nat.zero_le _) ?_ ?_
      ·(simp +decide only [go_sem,a02,a00,hm,a6s,b94,a06,a09,List.append_assoc]<;>rfl)
      ·intro i _
       cases i with
       | zero=>(simp +decide only [go_sem,a02,a00,hm,a6s,b94,a06,a09,List.append_assoc]<;>rfl)
       | succ i=>(simp +decide only [go_sem,a02,a00,hm,a47,b2u,a06,a09,a0w,a19,List.append_assoc]<;>rfl)
      ·intro i hi
       by_cases hlt:i < x.n
       ·have c1:(i:Int) < x.n:=by omega
        have hw:=wI1 (n:=i) (by omega)
        have hcall:=fun H=>a72 (d:=true) H i (by omega)
        have hrm:i + 1 ≤ 1000000000:=by omega
        cases i with
        | zero=>
         (repeat first|simp only [ww]|(apply xa;simp +decide only [go_sem,hm,c1,hw,hcall,a6s,b94];rfl;kernel_rfl))
         refine a1y 1 ?_ (by omega) (by omega)
         (simp +decide only [go_sem,a02,a00,hm,a47,b2u,a06,a09,nm1,List.append_assoc]<;>rfl)
        | succ i=>
         have hrm:i + 1 + 1 ≤ 1000000000:=by omega
         (repeat first|simp only [ww]|(apply xa;simp +decide only [go_sem,hm,c1,hw,hcall,a47,b2u,hrm,List.length_range];rfl;kernel_rfl))
         refine a1y (i + 1 + 1) ?_ (by omega) (by omega)
         (simp +decide only [go_sem,a02,a00,hm,a47,b2u,a06,a09,a0w,a19,b1f,List.append_assoc]<;>rfl)
       have hie:i = x.n:=by omega
       subst hie
       have c1:¬ (x.n:Int) < x.n:=by omega
       obtain ⟨n',hn'⟩:∃ n',x.n = n' + 1:=⟨x.n - 1,by omega⟩
       have e1:slN 6 x.n = .slice 6 0 x.n none:=by rw [hn'];rfl
       have e2:nmH x.n = [some (.row 1 ((List.range x.n).map nmR))]:=by rw [hn'];rfl
       rw [e1,e2]
       (repeat first|simp only [ww]|(apply xa;simp +decide only [go_sem,hm,c1];rfl;kernel_rfl))
       -- the outputs
       refine a1i (σ:=Nat) kp47_10 (fun i=>[(1,.ptr 0 0 0),(2,.ptr 1 0 0),(3,.ptr 2 0 0),(9,.int .i64 x.n),(12,.int .i64 i)])
        (fun i=>[xh x,rh,some (.row 4 [[.slice 3 0 x.n none,.slice 6 0 x.n none,.nilslice,slN 7 i]]),some (.row 4 (List.replicate x.k a4j ++ [dR 4,dR 5] ++ gg.map Nd.enc))] ++ [one (x.d0 % x.n),one (x.d1 % x.n)] ++ [some (.row 1 ((List.range x.n).map nmR))] ++ otH x i) (fun i=>3 - i) (fun i=>i ≤ 3 ∧ i ≤ x.outs.length) 0 ?_ ⟨by omega,by omega⟩ ?_ ?_
       ·(simp +decide only [go_sem,a02,a00,hm,a6s,b2s,a06,a09,a0w,a19,List.append_assoc]<;>rfl)
       ·intro i _
        cases i with
        | zero=>(simp +decide only [go_sem,a02,a00,hm,a6s,b2s,a06,a09,a0w,a19,List.append_assoc]<;>rfl)
        | succ i=>(simp +decide only [go_sem,a02,a00,hm,a47,a83,a06,a09,a0w,a19,a5i,a7y,List.append_assoc]<;>rfl)
       ·intro i hi
        by_cases hlt:i < 3 ∧ i < x.outs.length
        ·obtain ⟨o,ho⟩:∃ o,x.outs[i]? = some o:=⟨_,z9e hlt.2⟩
         have hol:=x6 o (List.mem_of_getElem? ho)
         have wo:=wI (n:=o) (by omega)
         have c1:(i:Int) < x.outs.length:=by omega
         have c1':i < x.outs.length:=by omega
         have c2:(i:Int) < 3:=by omega
         have hw:=wI1 (n:=i) (by omega)
         have ht:=a14 ho
         have htl:(x.outs.take i).length = i:=by rw [List.length_take];omega
         cases i with
         | zero=>
          (repeat first|simp only [ww]|(apply xa;simp +decide only [go_sem,hm,c1,c1',c2,hw,ho,wo,hn0,a6s,b2s];rfl;kernel_rfl))
          refine a1y 1 ?_ (by omega) ⟨by omega,by omega⟩
          (simp +decide only [go_sem,a02,a00,hm,a47,a83,a06,a09,a0w,a19,ht,List.take_zero,List.append_assoc]<;>rfl)
         | succ i=>
          have hrm:i + 1 + 1 ≤ 1000000000:=by omega
          (repeat first|simp only [ww]|(apply xa;simp +decide only [go_sem,hm,c1,c1',c2,hw,ho,wo,hn0,a47,a83,hrm,htl];rfl;kernel_rfl))
          refine a1y (i + 1 + 1) ?_ (by omega) ⟨by omega,by omega⟩
          (simp +decide only [go_sem,a02,a00,hm,a47,a83,a06,a09,a0w,a19,a5i,a7y,ht,List.append_assoc]<;>rfl)
        have hio:x.outs.take i = x.outs.take 3:=by
         by_cases h3:i = 3
         ·rw [h3]
         ·rw [List.take_of_length_le (by omega),List.take_of_length_le (by omega)]
        have hil:(x.outs.take i).length = i:=by rw [List.length_take];omega
        have hwn:IntKind.i64.wrap ((x.n:Int) - 1) = ((x.n - 1:Nat):Int):=by rw [w64 (by omega) (by omega)];omega
        have hres:x.cir = ⟨some none,List.replicate x.k b02 ++ [a45 (x.d0 % x.n),a45 (x.d1 % x.n)] ++ gg,some none,(List.range x.n).map a37,some none,(x.outs.take i).map (·% x.n) ++ [x.n - 1]⟩:=by
         rw [hio,← hG];simp [CX.cir,CX.nodes,CX.dn,CX.names,CX.outN,hd]
        rw [hres]
        have hle1:x.n ≤ x.k + 2 + gg.length:=by omega
        have hle2:x.k + 2 + gg.length ≤ x.n:=by omega
        by_cases g1:i < x.outs.length
        ·have c1:(i:Int) < x.outs.length:=by omega
         have c2:¬ (i:Int) < 3:=by omega
         have hrm:i + 1 ≤ 1000000000:=by omega
         cases i with
         | zero=>omega
         | succ i=>
          have hrm:i + 1 + 1 ≤ 1000000000:=by omega
          (repeat first|simp only [ww]|(apply xa;simp +decide only [go_sem,hm,c1,c2,a47,a83,hrm,hwn,hil];rfl;kernel_rfl))
          (apply fqb;simp +decide only [go_sem,hm,a2x,a4q,a4p,a4o,a11,List.map_map,hil,b02,a45,a4n,Cir.enc,a1x,hle1,hle2,List.length_range,Nat.le_refl,a4m]<;>rfl)
        ·have c1:¬ (i:Int) < x.outs.length:=by omega
         cases i with
         | zero=>
          (repeat first|simp only [ww]|(apply xa;simp +decide only [go_sem,hm,c1,a6s,b2s,hwn,hil];rfl;kernel_rfl))
          (apply fqb;simp +decide only [go_sem,hm,a2x,a4q,a4p,a4o,a11,List.map_map,hil,b02,a45,a4n,Cir.enc,a1x,hle1,hle2,List.length_range,Nat.le_refl,a4m,List.take_zero]<;>rfl)
         | succ i=>
          have hrm:i + 1 + 1 ≤ 1000000000:=by omega
          (repeat first|simp only [ww]|(apply xa;simp +decide only [go_sem,hm,c1,a47,a83,hrm,hwn,hil];rfl;kernel_rfl))
          (apply fqb;simp +decide only [go_sem,hm,a2x,a4q,a4p,a4o,a11,List.map_map,hil,b02,a45,a4n,Cir.enc,a1x,hle1,hle2,List.length_range,Nat.le_refl,a4m]<;>rfl)
theorem e5u (x:CX) (hx:x.ok) (hm:x.mem = false):sem L.env Mf 47 [.agg x.enc] [] = some (.agg x.cir.enc,[]):=by
 have h3:x.d < 3:=Nat.mod_lt _ (by omega)
 have h:x.d = 0 ∨ x.d = 1 ∨ x.d = 2:=by omega
 rcases h with h|h|h
 ·exact e1h x hx hm h
 ·exact e1g x hx hm h
 ·exact e1f x hx hm h
theorem b2r (c:Cir):a0j c.enc = []:=by simp only [go_sem,Cir.enc]
theorem d75 {d:Bool} (H:a03) (x:CX) (hx:x.ok) (hm:x.mem = false):a0g L.env d (sem L.env Mf) (.func (.func 47) [] []) [.agg x.enc] H = some (.agg x.cir.enc,H,[]):=
 a04 (by kernel_rfl) (by kernel_rfl) rfl (by simp only [go_sem]) (e5u x hx hm) (b2r _)
def b2l (x:CX):CX:={ x with mem:=false }
theorem c66 (x:CX) (hx:x.ok):sem L.env Mf 20 [.agg x.enc] [] = some (.agg (b2l x).cir.enc,[]):=by
 have hx':(b2l x).ok:=⟨hx.1,hx.2,hx.3,hx.4,hx.5,hx.6⟩
 have hc:=fun H=>d75 (d:=false) H (b2l x) hx' rfl
 generalize (b2l x).cir = c at hc
 simp only [go_sem,b2l] at hc
 simp only [Cir.enc] at hc
 have hfin:∀ l:List AV,a0j l = [] → l.length = 4 → a1j false 0 (.agg l) [] = some (.agg l,[]):=fun l h _=>a9w h
 (refine sv Tryz.f20 ?_;simp only [Tryz.f20,gS])
 (repeat first|simp only [ww]|(apply xa;simp +decide only [go_sem,hc];rfl;kernel_rfl))
 (apply fqb;simp +decide only [go_sem,Cir.enc]<;>rfl)
theorem c0w {d:Bool} (H:a03) (x:CX) (hx:x.ok):a0g L.env d (sem L.env Mf) (.func (.func 20) [] []) [.agg x.enc] H = some (.agg (b2l x).cir.enc,H,[]):=
 a04 (by kernel_rfl) (by kernel_rfl) rfl (by simp only [go_sem]) (c66 x hx) (b2r _)
end Go.TInst
