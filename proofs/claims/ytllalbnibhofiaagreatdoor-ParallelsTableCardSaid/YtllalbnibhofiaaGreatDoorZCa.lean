/- Part of a proof. No condition. -/
import Derived.Test.YtllalbnibhofiaaGreatDoorZPe
import Derived.Test.YtllalbnibhofiaaGreatDoorZOf
set_option linter.unusedSimpArgs false
set_option linter.unusedVariables false
namespace Go.ZInst
open Go.Proofs Go.Ax Go.Pc
set_option maxRecDepth 100000
/-- The law's argument. -/
structure CaseX where
 c:CX
 fr:Rep
 fs:List FX
 pr:Rep
 ps:List Pat
def CaseX.enc (x:CaseX):List AV:=x.c.enc ++ [sl x.fr (x.fs.map FX.enc),sl x.pr (x.ps.map Pat.enc)]
structure CaseX.ok (x:CaseX):Prop where
 c:x.c.ok
 fs:∀ f ∈ x.fs,f.ok
 ps:∀ p ∈ x.ps,PxOk p
set_option maxHeartbeats 4000000 in
theorem case_ok (x:CaseX) (hx:x.ok) (hw:(noMem x.c).cir.wf):∃ r:AV × Heap,(∃ (lr tr:Rep) (l:List Flt) (ts:List Pat),l.length ≤ 80 ∧ ts.length ≤ 100 ∧ (∀ f ∈ l,FltOk (noMem x.c).cir.nodes f) ∧ (∀ p ∈ ts,PatOk (noMem x.c).cir.nodes p) ∧ r = (.tuple [.agg (noMem x.c).cir.enc,sl lr (l.map Flt.enc),sl tr (ts.map Pat.enc)],[])) ∧ sem L.env Mf 7 [.agg x.enc] [] = some r:=by
 have hcc:=fun H=>circuit_call (d:=false) H x.c hx.c
 generalize (noMem x.c).cir = c at hcc hw ⊢
 simp only [CaseX.enc,CX.enc,List.cons_append,List.nil_append] at hcc ⊢
 simp only [Cir.enc] at hcc ⊢
 (refine sem_wpE (code:=(Tryz.f7.body).getD .skip) (N:=65) (results:=[.cell 2 37,.tmp 3,.tmp 4]) (by kernel_rfl) (no _ (by rfl)) rfl rfl ?_;simp only [Tryz.f7,Option.getD_some])
 (repeat first|simp only [ww]|((with_reducible first|apply xs|apply xI);(·simp +decide only [go_sem,hcc];rfl);with_reducible first|apply xT|apply xF|(·kernel_rfl)))
 refine xp_lp kp7_0 (fun n F H=>∃ (i:Nat) (l:List Flt),n = 81 - i ∧ i ≤ x.fs.length ∧ i ≤ 80 ∧ l.length = i ∧ (∀ f ∈ l,FltOk c.nodes f) ∧ F = [(1,.ptr 0 0 0),(2,.ptr 1 0 0),(5,.ptr 2 0 0),(6,grV 3 (l.map Flt.enc)),(7,.int .i64 i)] ∧ H = [some (.row 14 [[.int .u8 x.c.inn,.int .u8 x.c.dffs,.int .u8 x.c.d0,.int .u8 x.c.d1,.bool x.c.bus,.bool x.c.mem,.int .u8 x.c.p0,.int .u8 x.c.p1,.int .u8 x.c.p2,.int .u8 x.c.p3,sl x.c.gc (x.c.gates.map GX.enc),sl x.c.oc (x.c.outs.map u8R),sl x.fr (x.fs.map FX.enc),sl x.pr (x.ps.map Pat.enc)]]),some (.row 4 [[.nilslice,.nilslice,.nilslice,.nilslice]]),some (.row 4 [[sl c.nc (c.nodes.map Nd.enc),sl c.mc (c.names.map strR),.nilslice,sl c.oc (c.outs.map intR)]])] ++ grH 5 (l.map Flt.enc)) 81 ?_ ?_
 ·refine ⟨_,_,?_,0,[],rfl,Nat.zero_le _,by omega,rfl,fun f hf=>by simp at hf,rfl,rfl⟩
  (simp +decide only [go_sem,gcD_eq,gcIds_eq,grV_nil,grH_nil,List.map_nil]<;>rfl)<;>rfl
 ·rintro n F H ⟨i,l,rfl,hi,hi2,hl,hlf,rfl,rfl⟩
  by_cases hlt:i < x.fs.length ∧ i < 80
  ·obtain ⟨h1,h2⟩:=hlt
   obtain ⟨f,hfi⟩:∃ f,x.fs[i]? = some f:=⟨_,List.getElem?_eq_getElem h1⟩
   have hfo:=hx.fs f (List.mem_of_getElem? hfi)
   have c1:(i:Int) < x.fs.length:=by omega
   have c2:(i:Int) < 80:=by omega
   have hwi:=wI1 (n:=i) (by omega)
   have hm4:(f.model:Int).tmod 4 = ((f.model % 4:Nat):Int):=rfl
   have hll:(l.map Flt.enc).length = i:=by rw [List.length_map];exact hl
   have hfT:=flat_fR l
   generalize hT:l.map Flt.enc = T at hll hfT
   by_cases hm:f.model % 4 = 1
   ·have cm:((f.model % 4:Nat):Int) = 1:=by omega
    obtain ⟨g,hg,hgc⟩:=fof_call c hw { f with model:=0 } ⟨by show 0 < 256;omega,hfo.node,hfo.pin,hfo.other⟩ (by show 0 % 4 ≠ 1;omega)
    have hgc:=fun H=>hgc false H
    simp only [Cir.enc,FX.enc,Int.natCast_zero] at hgc
    have hT2:(l ++ [g]).map Flt.enc = T ++ [g.enc]:=by rw [List.map_append,hT];rfl
    have hl2:(l ++ [g]).length = i + 1:=by simp [hl]
    have hlf2:∀ f ∈ l ++ [g],FltOk c.nodes f:=by
     intro f hf;rcases List.mem_append.1 hf with h|h
     ·exact hlf f h
     ·rw [List.mem_singleton.1 h];exact hg
    have h1':=refs_flatR hfT
    have h2':=fun π=>renR_flat π hfT
    cases T with
    | nil=>
     simp only [Flt.enc] at hgc
     (repeat first|simp only [ww]|((with_reducible first|apply xs|apply xI);(·simp +decide only [go_sem,c1,c2,h1,hfi,hm4,cm,hgc,hwi,grV_nil,grH_nil];rfl);with_reducible first|apply xT|apply xF|(·kernel_rfl)))
     refine lpJ_n (81 - (i + 1)) (by omega) ⟨_,_,?_,i + 1,l ++ [g],rfl,h1,h2,hl2,hlf2,rfl,rfl⟩
     rw [hT2]
     (simp +decide only [go_sem,gcD_eq,gcIds_eq,grV_cons,grH_cons,List.nil_append,List.length_nil,Flt.enc]<;>rfl)<;>rfl
    | cons a r=>
     simp only [List.length_cons] at hll
     have hrm:r.length + 1 + 1 ≤ 1000000000:=by omega
     simp only [List.flatMap_cons] at h1'
     simp only [List.map_cons,List.cons.injEq] at h2'
     simp only [Flt.enc] at hgc
     (repeat first|simp only [ww]|((with_reducible first|apply xs|apply xI);(·simp +decide only [go_sem,c1,c2,h1,hfi,hm4,cm,hgc,hwi,grV_cons,grH_cons,hrm];rfl);with_reducible first|apply xT|apply xF|(·kernel_rfl)))
     refine lpJ_n (81 - (i + 1)) (by omega) ⟨_,_,?_,i + 1,l ++ [g],rfl,h1,h2,hl2,hlf2,rfl,rfl⟩
     rw [hT2]
     (simp +decide only [go_sem,gcD_eq,gcIds_eq,grV_cons,grH_cons,List.cons_append,h1',h2',Flt.enc]<;>rfl)<;>rfl
   ·have cm:¬ ((f.model % 4:Nat):Int) = 1:=by omega
    obtain ⟨g,hg,hgc⟩:=fof_call c hw f hfo hm
    have hgc:=fun H=>hgc false H
    simp only [Cir.enc,FX.enc] at hgc
    have hT2:(l ++ [g]).map Flt.enc = T ++ [g.enc]:=by rw [List.map_append,hT];rfl
    have hl2:(l ++ [g]).length = i + 1:=by simp [hl]
    have hlf2:∀ f ∈ l ++ [g],FltOk c.nodes f:=by
     intro f hf;rcases List.mem_append.1 hf with h|h
     ·exact hlf f h
     ·rw [List.mem_singleton.1 h];exact hg
    have h1':=refs_flatR hfT
    have h2':=fun π=>renR_flat π hfT
    cases T with
    | nil=>
     simp only [Flt.enc] at hgc
     (repeat first|simp only [ww]|((with_reducible first|apply xs|apply xI);(·simp +decide only [go_sem,c1,c2,h1,hfi,hm4,cm,hgc,hwi,grV_nil,grH_nil];rfl);with_reducible first|apply xT|apply xF|(·kernel_rfl)))
     refine lpJ_n (81 - (i + 1)) (by omega) ⟨_,_,?_,i + 1,l ++ [g],rfl,h1,h2,hl2,hlf2,rfl,rfl⟩
     rw [hT2]
     (simp +decide only [go_sem,gcD_eq,gcIds_eq,grV_cons,grH_cons,List.nil_append,List.length_nil,Flt.enc]<;>rfl)<;>rfl
    | cons a r=>
     simp only [List.length_cons] at hll
     have hrm:r.length + 1 + 1 ≤ 1000000000:=by omega
     simp only [List.flatMap_cons] at h1'
     simp only [List.map_cons,List.cons.injEq] at h2'
     simp only [Flt.enc] at hgc
     (repeat first|simp only [ww]|((with_reducible first|apply xs|apply xI);(·simp +decide only [go_sem,c1,c2,h1,hfi,hm4,cm,hgc,hwi,grV_cons,grH_cons,hrm];rfl);with_reducible first|apply xT|apply xF|(·kernel_rfl)))
     refine lpJ_n (81 - (i + 1)) (by omega) ⟨_,_,?_,i + 1,l ++ [g],rfl,h1,h2,hl2,hlf2,rfl,rfl⟩
     rw [hT2]
     (simp +decide only [go_sem,gcD_eq,gcIds_eq,grV_cons,grH_cons,List.cons_append,h1',h2',Flt.enc]<;>rfl)<;>rfl
  ·have hd0:(¬ (i:Int) < x.fs.length) ∨ ((i:Int) < x.fs.length ∧ ¬ (i:Int) < 80):=by omega
   have hll:(l.map Flt.enc).length = i:=by rw [List.length_map];exact hl
   have hfT:=flat_fR l
   have h1':=refs_flatR hfT
   have h2':=fun π=>renR_flat π hfT
   have hl80:l.length ≤ 80:=by omega
   clear hi hlt
   generalize hT:l.map Flt.enc = T at hll hfT h1' h2'
   cases T with
   | nil=>
    rcases hd0 with c1|⟨c1,c2⟩
    ·(repeat first|simp only [ww]|((with_reducible first|apply xs|apply xI);(·simp +decide only [go_sem,c1,grV_nil,grH_nil];rfl);with_reducible first|apply xT|apply xF|(·kernel_rfl)))
     refine xp_lp kp7_2 (fun n F H=>∃ (i:Nat) (ts:List Pat),n = 101 - i ∧ i ≤ x.ps.length ∧ i ≤ 100 ∧ ts.length = i ∧ (∀ p ∈ ts,PatOk c.nodes p) ∧ F = [(1,.ptr 0 0 0),(2,.ptr 1 0 0),(5,.ptr 2 0 0),(6,.nilslice),(9,grV 3 (ts.map Pat.enc)),(10,.int .i64 i)] ∧ H = [some (.row 14 [[.int .u8 x.c.inn,.int .u8 x.c.dffs,.int .u8 x.c.d0,.int .u8 x.c.d1,.bool x.c.bus,.bool x.c.mem,.int .u8 x.c.p0,.int .u8 x.c.p1,.int .u8 x.c.p2,.int .u8 x.c.p3,sl x.c.gc (x.c.gates.map GX.enc),sl x.c.oc (x.c.outs.map u8R),sl x.fr (x.fs.map FX.enc),sl x.pr (x.ps.map Pat.enc)]]),some (.row 4 [[.nilslice,.nilslice,.nilslice,.nilslice]]),some (.row 4 [[sl c.nc (c.nodes.map Nd.enc),sl c.mc (c.names.map strR),.nilslice,sl c.oc (c.outs.map intR)]])] ++ grH 2 (ts.map Pat.enc)) 101 ?_ ?_
     ·refine ⟨_,_,?_,0,[],rfl,Nat.zero_le _,by omega,rfl,fun f hf=>by simp at hf,rfl,rfl⟩
      (simp +decide only [go_sem,gcD_eq,gcIds_eq,grV_nil,grH_nil,List.map_nil]<;>rfl)<;>rfl
     ·rintro n F H ⟨i,ts,rfl,hi,hi2,hts,htf,rfl,rfl⟩
      have hll2:(ts.map Pat.enc).length = i:=by rw [List.length_map];exact hts
      have hfU:=flat_pR ts
      have u1:=refs_flatR hfU
      have u2:=fun π=>renR_flat π hfU
      by_cases hlt:i < x.ps.length ∧ i < 100
      ·obtain ⟨q1,q2⟩:=hlt
       obtain ⟨p,hpi⟩:∃ p,x.ps[i]? = some p:=⟨_,List.getElem?_eq_getElem q1⟩
       have d1:(i:Int) < x.ps.length:=by omega
       have d2:(i:Int) < 100:=by omega
       have hwi:=wI1 (n:=i) (by omega)
       obtain ⟨g,hg,hgc⟩:=pof_call c hw p (hx.ps p (List.mem_of_getElem? hpi))
       have hgc:=fun H=>hgc true H
       simp only [Cir.enc,Pat.enc] at hgc
       have hpe:Pat.enc p = [sl p.ic (p.ins.map u8R),sl p.sc (p.sts.map u8R)]:=rfl
       have hT2:(ts ++ [g]).map Pat.enc = ts.map Pat.enc ++ [g.enc]:=by rw [List.map_append];rfl
       have hl2:(ts ++ [g]).length = i + 1:=by simp [hts]
       have hlf2:∀ f ∈ ts ++ [g],PatOk c.nodes f:=by
        intro f hf;rcases List.mem_append.1 hf with h|h
        ·exact htf f h
        ·rw [List.mem_singleton.1 h];exact hg
       generalize ts.map Pat.enc = U at hll2 hfU u1 u2 hT2
       cases U with
       | nil=>
        (repeat first|simp only [ww]|((with_reducible first|apply xs|apply xI);(·simp +decide only [go_sem,d1,d2,q1,hpi,hpe,hgc,hwi,grV_nil,grH_nil];rfl);with_reducible first|apply xT|apply xF|(·kernel_rfl)))
        refine lpJ_n (101 - (i + 1)) (by omega) ⟨_,_,?_,i + 1,ts ++ [g],rfl,q1,q2,hl2,hlf2,rfl,rfl⟩
        rw [hT2]
        (simp +decide only [go_sem,gcD_eq,gcIds_eq,grV_cons,grH_cons,List.nil_append,List.length_nil,Pat.enc]<;>rfl)<;>rfl
       | cons a2 r2=>
        simp only [List.length_cons] at hll2
        have hrm2:r2.length + 1 + 1 ≤ 1000000000:=by omega
        simp only [List.flatMap_cons] at u1
        simp only [List.map_cons,List.cons.injEq] at u2
        (repeat first|simp only [ww]|((with_reducible first|apply xs|apply xI);(·simp +decide only [go_sem,d1,d2,q1,hpi,hpe,hgc,hwi,grV_cons,grH_cons,hrm2];rfl);with_reducible first|apply xT|apply xF|(·kernel_rfl)))
        refine lpJ_n (101 - (i + 1)) (by omega) ⟨_,_,?_,i + 1,ts ++ [g],rfl,q1,q2,hl2,hlf2,rfl,rfl⟩
        rw [hT2]
        (simp +decide only [go_sem,gcD_eq,gcIds_eq,grV_cons,grH_cons,List.cons_append,u1,u2,Pat.enc]<;>rfl)<;>rfl
      ·have hd:(¬ (i:Int) < x.ps.length) ∨ ((i:Int) < x.ps.length ∧ ¬ (i:Int) < 100):=by omega
       generalize hU:ts.map Pat.enc = U at hll2 hfU u1 u2
       cases U with
       | nil=>
        rcases hd with d1|⟨d1,d2⟩
        ·(repeat first|simp only [ww]|((with_reducible first|apply xs|apply xI);(·simp +decide only [go_sem,d1,grV_nil,grH_nil];rfl);with_reducible first|apply xT|apply xF|(·kernel_rfl)))
         refine fqE_n (vs:=_) (r:=(_,[])) (by simp +decide only [go_sem]<;>rfl) (by simp +decide only [go_sem]<;>rfl) ⟨none,none,l,ts,by omega,by omega,hlf,htf,by rw [hU,hT];rfl⟩
        ·(repeat first|simp only [ww]|((with_reducible first|apply xs|apply xI);(·simp +decide only [go_sem,d1,d2,grV_nil,grH_nil];rfl);with_reducible first|apply xT|apply xF|(·kernel_rfl)))
         refine fqE_n (vs:=_) (r:=(_,[])) (by simp +decide only [go_sem]<;>rfl) (by simp +decide only [go_sem]<;>rfl) ⟨none,none,l,ts,by omega,by omega,hlf,htf,by rw [hU,hT];rfl⟩
       | cons a2 r2=>
        have htkU:List.take (r2.length + 1) (a2 :: r2) = a2 :: r2:=List.take_length (l:=a2 :: r2)
        rcases hd with d1|⟨d1,d2⟩
        ·(repeat first|simp only [ww]|((with_reducible first|apply xs|apply xI);(·simp +decide only [go_sem,d1,grV_cons,grH_cons];rfl);with_reducible first|apply xT|apply xF|(·kernel_rfl)))
         refine fqE_n (vs:=_) (r:=(_,[])) (by simp +decide only [go_sem]<;>rfl) (by simp +decide only [go_sem,frzR_flat _ _ hfU,htkU]<;>rfl) ⟨none,none,l,ts,by omega,by omega,hlf,htf,by rw [hU,hT];rfl⟩
        ·(repeat first|simp only [ww]|((with_reducible first|apply xs|apply xI);(·simp +decide only [go_sem,d1,d2,grV_cons,grH_cons];rfl);with_reducible first|apply xT|apply xF|(·kernel_rfl)))
         refine fqE_n (vs:=_) (r:=(_,[])) (by simp +decide only [go_sem]<;>rfl) (by simp +decide only [go_sem,frzR_flat _ _ hfU,htkU]<;>rfl) ⟨none,none,l,ts,by omega,by omega,hlf,htf,by rw [hU,hT];rfl⟩
    ·(repeat first|simp only [ww]|((with_reducible first|apply xs|apply xI);(·simp +decide only [go_sem,c1,c2,grV_nil,grH_nil];rfl);with_reducible first|apply xT|apply xF|(·kernel_rfl)))
     refine xp_lp kp7_2 (fun n F H=>∃ (i:Nat) (ts:List Pat),n = 101 - i ∧ i ≤ x.ps.length ∧ i ≤ 100 ∧ ts.length = i ∧ (∀ p ∈ ts,PatOk c.nodes p) ∧ F = [(1,.ptr 0 0 0),(2,.ptr 1 0 0),(5,.ptr 2 0 0),(6,.nilslice),(9,grV 3 (ts.map Pat.enc)),(10,.int .i64 i)] ∧ H = [some (.row 14 [[.int .u8 x.c.inn,.int .u8 x.c.dffs,.int .u8 x.c.d0,.int .u8 x.c.d1,.bool x.c.bus,.bool x.c.mem,.int .u8 x.c.p0,.int .u8 x.c.p1,.int .u8 x.c.p2,.int .u8 x.c.p3,sl x.c.gc (x.c.gates.map GX.enc),sl x.c.oc (x.c.outs.map u8R),sl x.fr (x.fs.map FX.enc),sl x.pr (x.ps.map Pat.enc)]]),some (.row 4 [[.nilslice,.nilslice,.nilslice,.nilslice]]),some (.row 4 [[sl c.nc (c.nodes.map Nd.enc),sl c.mc (c.names.map strR),.nilslice,sl c.oc (c.outs.map intR)]])] ++ grH 2 (ts.map Pat.enc)) 101 ?_ ?_
     ·refine ⟨_,_,?_,0,[],rfl,Nat.zero_le _,by omega,rfl,fun f hf=>by simp at hf,rfl,rfl⟩
      (simp +decide only [go_sem,gcD_eq,gcIds_eq,grV_nil,grH_nil,List.map_nil]<;>rfl)<;>rfl
     ·rintro n F H ⟨i,ts,rfl,hi,hi2,hts,htf,rfl,rfl⟩
      have hll2:(ts.map Pat.enc).length = i:=by rw [List.length_map];exact hts
      have hfU:=flat_pR ts
      have u1:=refs_flatR hfU
      have u2:=fun π=>renR_flat π hfU
      by_cases hlt:i < x.ps.length ∧ i < 100
      ·obtain ⟨q1,q2⟩:=hlt
       obtain ⟨p,hpi⟩:∃ p,x.ps[i]? = some p:=⟨_,List.getElem?_eq_getElem q1⟩
       have d1:(i:Int) < x.ps.length:=by omega
       have d2:(i:Int) < 100:=by omega
       have hwi:=wI1 (n:=i) (by omega)
       obtain ⟨g,hg,hgc⟩:=pof_call c hw p (hx.ps p (List.mem_of_getElem? hpi))
       have hgc:=fun H=>hgc true H
       simp only [Cir.enc,Pat.enc] at hgc
       have hpe:Pat.enc p = [sl p.ic (p.ins.map u8R),sl p.sc (p.sts.map u8R)]:=rfl
       have hT2:(ts ++ [g]).map Pat.enc = ts.map Pat.enc ++ [g.enc]:=by rw [List.map_append];rfl
       have hl2:(ts ++ [g]).length = i + 1:=by simp [hts]
       have hlf2:∀ f ∈ ts ++ [g],PatOk c.nodes f:=by
        intro f hf;rcases List.mem_append.1 hf with h|h
        ·exact htf f h
        ·rw [List.mem_singleton.1 h];exact hg
       generalize ts.map Pat.enc = U at hll2 hfU u1 u2 hT2
       cases U with
       | nil=>
        (repeat first|simp only [ww]|((with_reducible first|apply xs|apply xI);(·simp +decide only [go_sem,d1,d2,q1,hpi,hpe,hgc,hwi,grV_nil,grH_nil];rfl);with_reducible first|apply xT|apply xF|(·kernel_rfl)))
        refine lpJ_n (101 - (i + 1)) (by omega) ⟨_,_,?_,i + 1,ts ++ [g],rfl,q1,q2,hl2,hlf2,rfl,rfl⟩
        rw [hT2]
        (simp +decide only [go_sem,gcD_eq,gcIds_eq,grV_cons,grH_cons,List.nil_append,List.length_nil,Pat.enc]<;>rfl)<;>rfl
       | cons a2 r2=>
        simp only [List.length_cons] at hll2
        have hrm2:r2.length + 1 + 1 ≤ 1000000000:=by omega
        simp only [List.flatMap_cons] at u1
        simp only [List.map_cons,List.cons.injEq] at u2
        (repeat first|simp only [ww]|((with_reducible first|apply xs|apply xI);(·simp +decide only [go_sem,d1,d2,q1,hpi,hpe,hgc,hwi,grV_cons,grH_cons,hrm2];rfl);with_reducible first|apply xT|apply xF|(·kernel_rfl)))
        refine lpJ_n (101 - (i + 1)) (by omega) ⟨_,_,?_,i + 1,ts ++ [g],rfl,q1,q2,hl2,hlf2,rfl,rfl⟩
        rw [hT2]
        (simp +decide only [go_sem,gcD_eq,gcIds_eq,grV_cons,grH_cons,List.cons_append,u1,u2,Pat.enc]<;>rfl)<;>rfl
      ·have hd:(¬ (i:Int) < x.ps.length) ∨ ((i:Int) < x.ps.length ∧ ¬ (i:Int) < 100):=by omega
       generalize hU:ts.map Pat.enc = U at hll2 hfU u1 u2
       cases U with
       | nil=>
        rcases hd with d1|⟨d1,d2⟩
        ·(repeat first|simp only [ww]|((with_reducible first|apply xs|apply xI);(·simp +decide only [go_sem,d1,grV_nil,grH_nil];rfl);with_reducible first|apply xT|apply xF|(·kernel_rfl)))
         refine fqE_n (vs:=_) (r:=(_,[])) (by simp +decide only [go_sem]<;>rfl) (by simp +decide only [go_sem]<;>rfl) ⟨none,none,l,ts,by omega,by omega,hlf,htf,by rw [hU,hT];rfl⟩
        ·(repeat first|simp only [ww]|((with_reducible first|apply xs|apply xI);(·simp +decide only [go_sem,d1,d2,grV_nil,grH_nil];rfl);with_reducible first|apply xT|apply xF|(·kernel_rfl)))
         refine fqE_n (vs:=_) (r:=(_,[])) (by simp +decide only [go_sem]<;>rfl) (by simp +decide only [go_sem]<;>rfl) ⟨none,none,l,ts,by omega,by omega,hlf,htf,by rw [hU,hT];rfl⟩
       | cons a2 r2=>
        have htkU:List.take (r2.length + 1) (a2 :: r2) = a2 :: r2:=List.take_length (l:=a2 :: r2)
        rcases hd with d1|⟨d1,d2⟩
        ·(repeat first|simp only [ww]|((with_reducible first|apply xs|apply xI);(·simp +decide only [go_sem,d1,grV_cons,grH_cons];rfl);with_reducible first|apply xT|apply xF|(·kernel_rfl)))
         refine fqE_n (vs:=_) (r:=(_,[])) (by simp +decide only [go_sem]<;>rfl) (by simp +decide only [go_sem,frzR_flat _ _ hfU,htkU]<;>rfl) ⟨none,none,l,ts,by omega,by omega,hlf,htf,by rw [hU,hT];rfl⟩
        ·(repeat first|simp only [ww]|((with_reducible first|apply xs|apply xI);(·simp +decide only [go_sem,d1,d2,grV_cons,grH_cons];rfl);with_reducible first|apply xT|apply xF|(·kernel_rfl)))
         refine fqE_n (vs:=_) (r:=(_,[])) (by simp +decide only [go_sem]<;>rfl) (by simp +decide only [go_sem,frzR_flat _ _ hfU,htkU]<;>rfl) ⟨none,none,l,ts,by omega,by omega,hlf,htf,by rw [hU,hT];rfl⟩
   | cons a r=>
    simp only [List.flatMap_cons] at h1'
    simp only [List.map_cons,List.cons.injEq] at h2'
    have htkT:List.take (r.length + 1) (a :: r) = a :: r:=List.take_length (l:=a :: r)
    rcases hd0 with c1|⟨c1,c2⟩
    ·(repeat first|simp only [ww]|((with_reducible first|apply xs|apply xI);(·simp +decide only [go_sem,c1,grV_cons,grH_cons];rfl);with_reducible first|apply xT|apply xF|(·kernel_rfl)))
     refine xp_lp kp7_2 (fun n F H=>∃ (i:Nat) (ts:List Pat),n = 101 - i ∧ i ≤ x.ps.length ∧ i ≤ 100 ∧ ts.length = i ∧ (∀ p ∈ ts,PatOk c.nodes p) ∧ F = [(1,.ptr 0 0 0),(2,.ptr 1 0 0),(5,.ptr 2 0 0),(6,.slice 3 0 (r.length + 1) none),(9,grV 4 (ts.map Pat.enc)),(10,.int .i64 i)] ∧ H = [some (.row 14 [[.int .u8 x.c.inn,.int .u8 x.c.dffs,.int .u8 x.c.d0,.int .u8 x.c.d1,.bool x.c.bus,.bool x.c.mem,.int .u8 x.c.p0,.int .u8 x.c.p1,.int .u8 x.c.p2,.int .u8 x.c.p3,sl x.c.gc (x.c.gates.map GX.enc),sl x.c.oc (x.c.outs.map u8R),sl x.fr (x.fs.map FX.enc),sl x.pr (x.ps.map Pat.enc)]]),some (.row 4 [[.nilslice,.nilslice,.nilslice,.nilslice]]),some (.row 4 [[sl c.nc (c.nodes.map Nd.enc),sl c.mc (c.names.map strR),.nilslice,sl c.oc (c.outs.map intR)]]),some (.row 5 (a :: r))] ++ grH 2 (ts.map Pat.enc)) 101 ?_ ?_
     ·refine ⟨_,_,?_,0,[],rfl,Nat.zero_le _,by omega,rfl,fun f hf=>by simp at hf,rfl,rfl⟩
      (simp +decide only [go_sem,gcD_eq,gcIds_eq,grV_nil,grH_nil,List.map_nil,h1',h2']<;>rfl)<;>rfl
     ·rintro n F H ⟨i,ts,rfl,hi,hi2,hts,htf,rfl,rfl⟩
      have hll2:(ts.map Pat.enc).length = i:=by rw [List.length_map];exact hts
      have hfU:=flat_pR ts
      have u1:=refs_flatR hfU
      have u2:=fun π=>renR_flat π hfU
      by_cases hlt:i < x.ps.length ∧ i < 100
      ·obtain ⟨q1,q2⟩:=hlt
       obtain ⟨p,hpi⟩:∃ p,x.ps[i]? = some p:=⟨_,List.getElem?_eq_getElem q1⟩
       have d1:(i:Int) < x.ps.length:=by omega
       have d2:(i:Int) < 100:=by omega
       have hwi:=wI1 (n:=i) (by omega)
       obtain ⟨g,hg,hgc⟩:=pof_call c hw p (hx.ps p (List.mem_of_getElem? hpi))
       have hgc:=fun H=>hgc true H
       simp only [Cir.enc,Pat.enc] at hgc
       have hpe:Pat.enc p = [sl p.ic (p.ins.map u8R),sl p.sc (p.sts.map u8R)]:=rfl
       have hT2:(ts ++ [g]).map Pat.enc = ts.map Pat.enc ++ [g.enc]:=by rw [List.map_append];rfl
       have hl2:(ts ++ [g]).length = i + 1:=by simp [hts]
       have hlf2:∀ f ∈ ts ++ [g],PatOk c.nodes f:=by
        intro f hf;rcases List.mem_append.1 hf with h|h
        ·exact htf f h
        ·rw [List.mem_singleton.1 h];exact hg
       generalize ts.map Pat.enc = U at hll2 hfU u1 u2 hT2
       cases U with
       | nil=>
        (repeat first|simp only [ww]|((with_reducible first|apply xs|apply xI);(·simp +decide only [go_sem,d1,d2,q1,hpi,hpe,hgc,hwi,grV_nil,grH_nil];rfl);with_reducible first|apply xT|apply xF|(·kernel_rfl)))
        refine lpJ_n (101 - (i + 1)) (by omega) ⟨_,_,?_,i + 1,ts ++ [g],rfl,q1,q2,hl2,hlf2,rfl,rfl⟩
        rw [hT2]
        (simp +decide only [go_sem,gcD_eq,gcIds_eq,grV_cons,grH_cons,List.nil_append,List.length_nil,Pat.enc,h1',h2']<;>rfl)<;>rfl
       | cons a2 r2=>
        simp only [List.length_cons] at hll2
        have hrm2:r2.length + 1 + 1 ≤ 1000000000:=by omega
        simp only [List.flatMap_cons] at u1
        simp only [List.map_cons,List.cons.injEq] at u2
        (repeat first|simp only [ww]|((with_reducible first|apply xs|apply xI);(·simp +decide only [go_sem,d1,d2,q1,hpi,hpe,hgc,hwi,grV_cons,grH_cons,hrm2];rfl);with_reducible first|apply xT|apply xF|(·kernel_rfl)))
        refine lpJ_n (101 - (i + 1)) (by omega) ⟨_,_,?_,i + 1,ts ++ [g],rfl,q1,q2,hl2,hlf2,rfl,rfl⟩
        rw [hT2]
        (simp +decide only [go_sem,gcD_eq,gcIds_eq,grV_cons,grH_cons,List.cons_append,u1,u2,Pat.enc,h1',h2']<;>rfl)<;>rfl
      ·have hd:(¬ (i:Int) < x.ps.length) ∨ ((i:Int) < x.ps.length ∧ ¬ (i:Int) < 100):=by omega
       generalize hU:ts.map Pat.enc = U at hll2 hfU u1 u2
       cases U with
       | nil=>
        rcases hd with d1|⟨d1,d2⟩
        ·(repeat first|simp only [ww]|((with_reducible first|apply xs|apply xI);(·simp +decide only [go_sem,d1,grV_nil,grH_nil];rfl);with_reducible first|apply xT|apply xF|(·kernel_rfl)))
         refine fqE_n (vs:=_) (r:=(_,[])) (by simp +decide only [go_sem]<;>rfl) (by simp +decide only [go_sem,frzR_flat _ _ hfT,htkT]<;>rfl) ⟨none,none,l,ts,by omega,by omega,hlf,htf,by rw [hU,hT];rfl⟩
        ·(repeat first|simp only [ww]|((with_reducible first|apply xs|apply xI);(·simp +decide only [go_sem,d1,d2,grV_nil,grH_nil];rfl);with_reducible first|apply xT|apply xF|(·kernel_rfl)))
         refine fqE_n (vs:=_) (r:=(_,[])) (by simp +decide only [go_sem]<;>rfl) (by simp +decide only [go_sem,frzR_flat _ _ hfT,htkT]<;>rfl) ⟨none,none,l,ts,by omega,by omega,hlf,htf,by rw [hU,hT];rfl⟩
       | cons a2 r2=>
        have htkU:List.take (r2.length + 1) (a2 :: r2) = a2 :: r2:=List.take_length (l:=a2 :: r2)
        rcases hd with d1|⟨d1,d2⟩
        ·(repeat first|simp only [ww]|((with_reducible first|apply xs|apply xI);(·simp +decide only [go_sem,d1,grV_cons,grH_cons];rfl);with_reducible first|apply xT|apply xF|(·kernel_rfl)))
         refine fqE_n (vs:=_) (r:=(_,[])) (by simp +decide only [go_sem]<;>rfl) (by simp +decide only [go_sem,frzR_flat _ _ hfU,htkU,frzR_flat _ _ hfT,htkT]<;>rfl) ⟨none,none,l,ts,by omega,by omega,hlf,htf,by rw [hU,hT];rfl⟩
        ·(repeat first|simp only [ww]|((with_reducible first|apply xs|apply xI);(·simp +decide only [go_sem,d1,d2,grV_cons,grH_cons];rfl);with_reducible first|apply xT|apply xF|(·kernel_rfl)))
         refine fqE_n (vs:=_) (r:=(_,[])) (by simp +decide only [go_sem]<;>rfl) (by simp +decide only [go_sem,frzR_flat _ _ hfU,htkU,frzR_flat _ _ hfT,htkT]<;>rfl) ⟨none,none,l,ts,by omega,by omega,hlf,htf,by rw [hU,hT];rfl⟩
    ·(repeat first|simp only [ww]|((with_reducible first|apply xs|apply xI);(·simp +decide only [go_sem,c1,c2,grV_cons,grH_cons];rfl);with_reducible first|apply xT|apply xF|(·kernel_rfl)))
     refine xp_lp kp7_2 (fun n F H=>∃ (i:Nat) (ts:List Pat),n = 101 - i ∧ i ≤ x.ps.length ∧ i ≤ 100 ∧ ts.length = i ∧ (∀ p ∈ ts,PatOk c.nodes p) ∧ F = [(1,.ptr 0 0 0),(2,.ptr 1 0 0),(5,.ptr 2 0 0),(6,.slice 3 0 (r.length + 1) none),(9,grV 4 (ts.map Pat.enc)),(10,.int .i64 i)] ∧ H = [some (.row 14 [[.int .u8 x.c.inn,.int .u8 x.c.dffs,.int .u8 x.c.d0,.int .u8 x.c.d1,.bool x.c.bus,.bool x.c.mem,.int .u8 x.c.p0,.int .u8 x.c.p1,.int .u8 x.c.p2,.int .u8 x.c.p3,sl x.c.gc (x.c.gates.map GX.enc),sl x.c.oc (x.c.outs.map u8R),sl x.fr (x.fs.map FX.enc),sl x.pr (x.ps.map Pat.enc)]]),some (.row 4 [[.nilslice,.nilslice,.nilslice,.nilslice]]),some (.row 4 [[sl c.nc (c.nodes.map Nd.enc),sl c.mc (c.names.map strR),.nilslice,sl c.oc (c.outs.map intR)]]),some (.row 5 (a :: r))] ++ grH 2 (ts.map Pat.enc)) 101 ?_ ?_
     ·refine ⟨_,_,?_,0,[],rfl,Nat.zero_le _,by omega,rfl,fun f hf=>by simp at hf,rfl,rfl⟩
      (simp +decide only [go_sem,gcD_eq,gcIds_eq,grV_nil,grH_nil,List.map_nil,h1',h2']<;>rfl)<;>rfl
     ·rintro n F H ⟨i,ts,rfl,hi,hi2,hts,htf,rfl,rfl⟩
      have hll2:(ts.map Pat.enc).length = i:=by rw [List.length_map];exact hts
      have hfU:=flat_pR ts
      have u1:=refs_flatR hfU
      have u2:=fun π=>renR_flat π hfU
      by_cases hlt:i < x.ps.length ∧ i < 100
      ·obtain ⟨q1,q2⟩:=hlt
       obtain ⟨p,hpi⟩:∃ p,x.ps[i]? = some p:=⟨_,List.getElem?_eq_getElem q1⟩
       have d1:(i:Int) < x.ps.length:=by omega
       have d2:(i:Int) < 100:=by omega
       have hwi:=wI1 (n:=i) (by omega)
       obtain ⟨g,hg,hgc⟩:=pof_call c hw p (hx.ps p (List.mem_of_getElem? hpi))
       have hgc:=fun H=>hgc true H
       simp only [Cir.enc,Pat.enc] at hgc
       have hpe:Pat.enc p = [sl p.ic (p.ins.map u8R),sl p.sc (p.sts.map u8R)]:=rfl
       have hT2:(ts ++ [g]).map Pat.enc = ts.map Pat.enc ++ [g.enc]:=by rw [List.map_append];rfl
       have hl2:(ts ++ [g]).length = i + 1:=by simp [hts]
       have hlf2:∀ f ∈ ts ++ [g],PatOk c.nodes f:=by
        intro f hf;rcases List.mem_append.1 hf with h|h
        ·exact htf f h
        ·rw [List.mem_singleton.1 h];exact hg
       generalize ts.map Pat.enc = U at hll2 hfU u1 u2 hT2
       cases U with
       | nil=>
        (repeat first|simp only [ww]|((with_reducible first|apply xs|apply xI);(·simp +decide only [go_sem,d1,d2,q1,hpi,hpe,hgc,hwi,grV_nil,grH_nil];rfl);with_reducible first|apply xT|apply xF|(·kernel_rfl)))
        refine lpJ_n (101 - (i + 1)) (by omega) ⟨_,_,?_,i + 1,ts ++ [g],rfl,q1,q2,hl2,hlf2,rfl,rfl⟩
        rw [hT2]
        (simp +decide only [go_sem,gcD_eq,gcIds_eq,grV_cons,grH_cons,List.nil_append,List.length_nil,Pat.enc,h1',h2']<;>rfl)<;>rfl
       | cons a2 r2=>
        simp only [List.length_cons] at hll2
        have hrm2:r2.length + 1 + 1 ≤ 1000000000:=by omega
        simp only [List.flatMap_cons] at u1
        simp only [List.map_cons,List.cons.injEq] at u2
        (repeat first|simp only [ww]|((with_reducible first|apply xs|apply xI);(·simp +decide only [go_sem,d1,d2,q1,hpi,hpe,hgc,hwi,grV_cons,grH_cons,hrm2];rfl);with_reducible first|apply xT|apply xF|(·kernel_rfl)))
        refine lpJ_n (101 - (i + 1)) (by omega) ⟨_,_,?_,i + 1,ts ++ [g],rfl,q1,q2,hl2,hlf2,rfl,rfl⟩
        rw [hT2]
        (simp +decide only [go_sem,gcD_eq,gcIds_eq,grV_cons,grH_cons,List.cons_append,u1,u2,Pat.enc,h1',h2']<;>rfl)<;>rfl
      ·have hd:(¬ (i:Int) < x.ps.length) ∨ ((i:Int) < x.ps.length ∧ ¬ (i:Int) < 100):=by omega
       generalize hU:ts.map Pat.enc = U at hll2 hfU u1 u2
       cases U with
       | nil=>
        rcases hd with d1|⟨d1,d2⟩
        ·(repeat first|simp only [ww]|((with_reducible first|apply xs|apply xI);(·simp +decide only [go_sem,d1,grV_nil,grH_nil];rfl);with_reducible first|apply xT|apply xF|(·kernel_rfl)))
         refine fqE_n (vs:=_) (r:=(_,[])) (by simp +decide only [go_sem]<;>rfl) (by simp +decide only [go_sem,frzR_flat _ _ hfT,htkT]<;>rfl) ⟨none,none,l,ts,by omega,by omega,hlf,htf,by rw [hU,hT];rfl⟩
        ·(repeat first|simp only [ww]|((with_reducible first|apply xs|apply xI);(·simp +decide only [go_sem,d1,d2,grV_nil,grH_nil];rfl);with_reducible first|apply xT|apply xF|(·kernel_rfl)))
         refine fqE_n (vs:=_) (r:=(_,[])) (by simp +decide only [go_sem]<;>rfl) (by simp +decide only [go_sem,frzR_flat _ _ hfT,htkT]<;>rfl) ⟨none,none,l,ts,by omega,by omega,hlf,htf,by rw [hU,hT];rfl⟩
       | cons a2 r2=>
        have htkU:List.take (r2.length + 1) (a2 :: r2) = a2 :: r2:=List.take_length (l:=a2 :: r2)
        rcases hd with d1|⟨d1,d2⟩
        ·(repeat first|simp only [ww]|((with_reducible first|apply xs|apply xI);(·simp +decide only [go_sem,d1,grV_cons,grH_cons];rfl);with_reducible first|apply xT|apply xF|(·kernel_rfl)))
         refine fqE_n (vs:=_) (r:=(_,[])) (by simp +decide only [go_sem]<;>rfl) (by simp +decide only [go_sem,frzR_flat _ _ hfU,htkU,frzR_flat _ _ hfT,htkT]<;>rfl) ⟨none,none,l,ts,by omega,by omega,hlf,htf,by rw [hU,hT];rfl⟩
        ·(repeat first|simp only [ww]|((with_reducible first|apply xs|apply xI);(·simp +decide only [go_sem,d1,d2,grV_cons,grH_cons];rfl);with_reducible first|apply xT|apply xF|(·kernel_rfl)))
         refine fqE_n (vs:=_) (r:=(_,[])) (by simp +decide only [go_sem]<;>rfl) (by simp +decide only [go_sem,frzR_flat _ _ hfU,htkU,frzR_flat _ _ hfT,htkT]<;>rfl) ⟨none,none,l,ts,by omega,by omega,hlf,htf,by rw [hU,hT];rfl⟩
open Go.Proofs Go.Ax Go.Pc
set_option maxRecDepth 100000
theorem refs_case (x:CaseX):refs (.agg x.enc) = []:=by
 simp only [CaseX.enc,CX.enc,List.cons_append,List.nil_append,go_sem]
theorem case_call (x:CaseX) (hx:x.ok):∃ (lr tr:Rep) (l:List Flt) (ts:List Pat),l.length ≤ 80 ∧ ts.length ≤ 100 ∧ (∀ f ∈ l,FltOk (noMem x.c).cir.nodes f) ∧ (∀ p ∈ ts,PatOk (noMem x.c).cir.nodes p) ∧
 ∀ (d:Bool) (H:Heap),callV L.env d (sem L.env Mf) (.func (.func 7) [] []) [.agg x.enc] H = some (.tuple [.agg (noMem x.c).cir.enc,sl lr (l.map Flt.enc),sl tr (ts.map Pat.enc)],H,[]):=by
 obtain ⟨r,⟨lr,tr,l,ts,h1,h2,h3,h4,rfl⟩,h⟩:=case_ok x hx (CX.wf _)
 refine ⟨lr,tr,l,ts,h1,h2,h3,h4,fun d H=>callV_flat (by kernel_rfl) (by kernel_rfl) rfl ?_ h ?_⟩
 ·simp only [List.nil_append,List.append_nil,refsL_cons,refsL_nil,refs_case]
 ·simp only [go_sem,Cir.enc]
theorem table_call {d:Bool} (H:Heap) (c:Cir) (h:c.wf) (rl rt:Rep) (l:List Flt) (tests:List Pat) (hll:l.length ≤ 1000) (htl:tests.length ≤ 4096) (hf:∀ f ∈ l,FltOk c.nodes f) (hp:∀ p ∈ tests,PatOk c.nodes p) (ord:List Nat) (hop:ord.Perm (List.range c.nodes.length))
 (hst:∀ (d:Bool) (H:Heap),callV L.env d (sem L.env Mf) (.func (.func 18) [] []) [.agg c.enc] H = some (.agg (engE c ord net0V pin0V),H,[])) :
 callV L.env d (sem L.env Mf) (.func (.func 8) [] []) [.agg c.enc,sl rl (l.map Flt.enc),sl rt (tests.map Pat.enc)] H = some (.tuple [.islice ((tabRows c ord l tests).map rowE) (some l.length),.int .i64 0],H,[]):=by
 have h1:=tableA c h rl rt l tests hll htl hf hp ord hop hst
 rw [tabRows_enc] at h1
 exact callV_flat (by kernel_rfl) (by kernel_rfl) rfl (by simp only [List.nil_append,List.append_nil,refsL_cons,refs_agg,Cir.enc,go_sem]) h1 rfl
theorem ppats_call {d:Bool} (H:Heap) (c:Cir) (h:c.wf) (rt:Rep) (f:Flt) (tests:List Pat) (htl:tests.length ≤ 4096) (hf:FltOk c.nodes f) (hp:∀ p ∈ tests,PatOk c.nodes p) (ord:List Nat) (hop:ord.Perm (List.range c.nodes.length))
 (hst:∀ (d:Bool) (H:Heap),callV L.env d (sem L.env Mf) (.func (.func 18) [] []) [.agg c.enc] H = some (.agg (engE c ord net0V pin0V),H,[])) :
 callV L.env d (sem L.env Mf) (.func (.func 9) [] []) [.agg c.enc,.agg f.enc,sl rt (tests.map Pat.enc)] H = some (.tuple [.islice (tests.map fun p=>[.bool ((simOf c ord).det f p)]) (some tests.length),.int .i64 0],H,[]):=
 callV_flat (by kernel_rfl) (by kernel_rfl) rfl (by simp only [List.nil_append,List.append_nil,refsL_cons,refs_agg,Cir.enc,Flt.enc,go_sem]) (ppats_ok c h rt f tests htl hf hp ord hop hst) rfl
theorem pfaults_call {d:Bool} (H:Heap) (c:Cir) (h:c.wf) (rl:Rep) (l:List Flt) (p:Pat) (hll:l.length ≤ 1000) (hf:∀ f ∈ l,FltOk c.nodes f) (hp:PatOk c.nodes p) (ord:List Nat) (hop:ord.Perm (List.range c.nodes.length))
 (hst:∀ (d:Bool) (H:Heap),callV L.env d (sem L.env Mf) (.func (.func 18) [] []) [.agg c.enc] H = some (.agg (engE c ord net0V pin0V),H,[])) :
 callV L.env d (sem L.env Mf) (.func (.func 11) [] []) [.agg c.enc,sl rl (l.map Flt.enc),.agg p.enc] H = some (.tuple [.islice (l.map fun f=>[.bool ((simOf c ord).det f p)]) (some l.length),.int .i64 0],H,[]):=
 callV_flat (by kernel_rfl) (by kernel_rfl) rfl (by simp only [List.nil_append,List.append_nil,refsL_cons,refs_agg,Cir.enc,Pat.enc,go_sem]) (pfaults_ok c h rl l p hll hf hp ord hop hst) rfl
open Go.Proofs Go.Ax Go.Pc
set_option maxRecDepth 100000
set_option maxHeartbeats 4000000 in
/-- The law ParallelsTable: it answers true. -/
theorem lawTable_ok (x:CaseX) (hx:x.ok):sem L.env Mf 3 [.agg x.enc] [] = some (.bool true,[]):=by
 obtain ⟨lr,tr,l,ts,hll,htl,hf,hp,hcase⟩:=case_call x hx
 have hw:(noMem x.c).cir.wf:=CX.wf _
 have hcase:=fun H=>hcase false H
 generalize (noMem x.c).cir = c at hf hp hcase hw
 obtain ⟨ord,hop,hst⟩:=start_call c hw
 have htab:=fun H=>table_call (d:=false) H c hw lr tr l ts (by omega) (by omega) hf hp ord hop hst
 have hpat:=fun (d:Bool) H f hf=>ppats_call (d:=d) H c hw tr f ts (by omega) hf hp ord hop hst
 have hflt:=fun (d:Bool) H p hp=>pfaults_call (d:=d) H c hw lr l p (by omega) hf hp ord hop hst
 have hat:=fun (d:Bool) (H:Heap) (i j:Nat) (hj:j < 100000)=>at_call (d:=d) H (some (some l.length)) (tabRows c ord l ts) i j (by omega)
 have hbt:∀ (i j:Nat) (f:Flt),l[i]? = some f → atB (tabRows c ord l ts) i j = _:=fun i j f h=>atB_tab c ord l ts hp i j f h
 have hlv:=fun H=>lives_call (d:=false) H
 have hTl:((tabRows c ord l ts).map rowE).length = l.length:=by rw [List.length_map,tabRows_len]
 have hTr:∀ (i:Nat) (f:Flt),l[i]? = some f → ∃ R:List (List AV),R.length = (ts.length + 63) / 64 ∧ ((tabRows c ord l ts).map rowE)[i]? = some [.islice R (some ((ts.length + 63) / 64))]:=by
  intro i f h
  refine ⟨((List.range ((ts.length + 63) / 64)).map fun t=>hitW c ord f (chunk ts t)).map w64R,by simp,?_⟩
  rw [List.getElem?_map]
  unfold tabRows
  rw [List.getElem?_map,tab_get h]
  rfl
 generalize hT:(tabRows c ord l ts).map rowE = T at htab hat hTl hTr
 simp only [sl_some] at hat
 obtain ⟨wd,hwd⟩:∃ wd,wd = (ts.length + 63) / 64:=⟨_,rfl⟩
 rw [← hwd] at hTr
 have hq1:IntKind.i64.wrap ((ts.length:Int) + 63) = ((ts.length + 63:Nat):Int):=by rw [w64 (by omega) (by omega)];omega
 have hq2:IntKind.i64.wrap (((ts.length + 63) / 64:Nat):Int) = (wd:Int):=by rw [w64 (by omega) (by omega),hwd]
 have hq3:IntKind.i64.wrap (64 * (wd:Int)) = ((64 * wd:Nat):Int):=by rw [w64 (by omega) (by omega)];omega
 have hce:c.enc = [sl c.nc (c.nodes.map Nd.enc),sl c.mc (c.names.map strR),.nilslice,sl c.oc (c.outs.map intR)]:=rfl
 rw [hce] at hcase htab
 simp only [hce] at hpat hflt
 have hxe:x.enc = [.int .u8 x.c.inn,.int .u8 x.c.dffs,.int .u8 x.c.d0,.int .u8 x.c.d1,.bool x.c.bus,.bool x.c.mem,.int .u8 x.c.p0,.int .u8 x.c.p1,.int .u8 x.c.p2,.int .u8 x.c.p3,sl x.c.gc (x.c.gates.map GX.enc),sl x.c.oc (x.c.outs.map u8R),sl x.fr (x.fs.map FX.enc),sl x.pr (x.ps.map Pat.enc)]:=rfl
 rw [hxe] at hcase ⊢
 (refine sem_wp (code:=(Tryz.f3.body).getD .skip) (N:=148) (results:=[.tmp 2]) (by kernel_rfl) (no _ (by rfl)) rfl rfl ?_;simp only [Tryz.f3,Option.getD_some])
 (repeat first|simp only [ww]|((with_reducible first|apply xs|apply xI);(·simp +decide only [go_sem,hcase,htab,hTl];rfl);with_reducible first|apply xT|apply xF|(·kernel_rfl)))
 refine xp_loop3 (σ:=Nat) kp3_0 (fun i=>[(3,.ptr 0 0 0),(4,sl lr (l.map Flt.enc)),(5,sl tr (ts.map Pat.enc)),(6,.islice T (some l.length)),(8,.int .i64 i)]) (fun i=>[some (.row 4 [[sl c.nc (c.nodes.map Nd.enc),sl c.mc (c.names.map strR),.nilslice,sl c.oc (c.outs.map intR)]])]) (fun i=>l.length - i) (fun i=>i ≤ l.length) 0 ?_ (Nat.zero_le _) ?_
 ·(simp +decide only [go_sem,gcD_eq,gcIds_eq]<;>rfl)<;>rfl
 ·intro i hi
  by_cases hlt:i < l.length
  ·obtain ⟨f,hfi⟩:∃ f,l[i]? = some f:=⟨_,List.getElem?_eq_getElem hlt⟩
   have c1:(i:Int) < l.length:=by omega
   have hwi:=wI1 (n:=i) (by omega)
   obtain ⟨R,hRl,hRi⟩:=hTr i f hfi
   have hpf:=fun d H=>hpat d H f (hf f (List.mem_of_getElem? hfi))
   have hfe:f.enc = [.int .u8 f.model,.int .i64 f.node,.int .i64 f.pin,.int .u8 f.value,.int .i64 f.other]:=rfl
   rw [hfe] at hpf
   have hbi:=hbt i
   (repeat first|simp only [ww]|((with_reducible first|apply xs|apply xI);(·simp +decide only [go_sem,c1,hlt,hTl,hRi,hRl,hq1,hq2,hfi,hfe,hpf];rfl);with_reducible first|apply xT|apply xF|(·kernel_rfl)))
   refine xp_loop3 (σ:=Nat) kp3_2 (fun k=>[(3,.ptr 0 0 0),(4,sl lr (l.map Flt.enc)),(5,sl tr (ts.map Pat.enc)),(6,.islice T (some l.length)),(8,.int .i64 i),(9,.islice (ts.map fun p=>[.bool ((simOf c ord).det f p)]) (some ts.length)),(11,.int .i64 k)]) (fun k=>[some (.row 4 [[sl c.nc (c.nodes.map Nd.enc),sl c.mc (c.names.map strR),.nilslice,sl c.oc (c.outs.map intR)]])]) (fun k=>64 * wd - k) (fun k=>k ≤ 64 * wd) 0 ?_ (Nat.zero_le _) ?_
   ·(simp +decide only [go_sem,gcD_eq,gcIds_eq]<;>rfl)<;>rfl
   ·intro k hk
    by_cases hlt2:k < 64 * wd
    ·have d1:(k:Int) < ((64 * wd:Nat):Int):=by omega
     have hwk:=wI1 (n:=k) (by omega)
     have ha:=fun d H=>hat d H i k (by omega)
     have hb:=hbt i k f hfi
     by_cases hkt:k < ts.length
     ·obtain ⟨p,hpk⟩:∃ p,ts[k]? = some p:=⟨_,List.getElem?_eq_getElem hkt⟩
      have d2:(k:Int) < ts.length:=by omega
      rw [hpk] at hb
      simp only at hb
      simp only [hb] at ha
      have hg:(ts.map fun p=>[AV.bool ((simOf c ord).det f p)])[k]? = some [.bool ((simOf c ord).det f p)]:=by rw [List.getElem?_map,hpk];rfl
      generalize (simOf c ord).det f p = bt at ha hg
      generalize (ts.map fun p=>[AV.bool ((simOf c ord).det f p)]) = D at hg ⊢
      (repeat first|simp only [ww]|((with_reducible first|apply xs|apply xI);(·simp +decide only [go_sem,c1,hlt,hTl,hRi,hRl,hq3,d1,d2,hkt,hg,ha,hwk];rfl);with_reducible first|apply xT|apply xF|(·kernel_rfl)))
      refine lp_n (k + 1) ?_ (by omega) (by omega)
      (simp +decide only [go_sem,gcD_eq,gcIds_eq]<;>rfl)<;>rfl
     ·have d2:¬ (k:Int) < ts.length:=by omega
      rw [List.getElem?_eq_none (by omega)] at hb
      simp only at hb
      simp only [hb] at ha
      (repeat first|simp only [ww]|((with_reducible first|apply xs|apply xI);(·simp +decide only [go_sem,c1,hlt,hTl,hRi,hRl,hq3,d1,d2,ha,hwk];rfl);with_reducible first|apply xT|apply xF|(·kernel_rfl)))
      refine lp_n (k + 1) ?_ (by omega) (by omega)
      (simp +decide only [go_sem,gcD_eq,gcIds_eq]<;>rfl)<;>rfl
    ·have d1:¬ (k:Int) < ((64 * wd:Nat):Int):=by omega
     (repeat first|simp only [ww]|((with_reducible first|apply xs|apply xI);(·simp +decide only [go_sem,c1,hlt,hTl,hRi,hRl,hq3,d1,hwi];rfl);with_reducible first|apply xT|apply xF|(·kernel_rfl)))
     refine lp_n (i + 1) ?_ (by omega) (by omega)
     (simp +decide only [go_sem,gcD_eq,gcIds_eq]<;>rfl)<;>rfl
  ·obtain rfl:i = l.length:=by omega
   have c1:¬ (l.length:Int) < l.length:=by omega
   (repeat first|simp only [ww]|((with_reducible first|apply xs|apply xI);(·simp +decide only [go_sem,c1];rfl);with_reducible first|apply xT|apply xF|(·kernel_rfl)))
   refine xp_loop3 (σ:=Nat) kp3_4 (fun k=>[(3,.ptr 0 0 0),(4,sl lr (l.map Flt.enc)),(5,sl tr (ts.map Pat.enc)),(6,.islice T (some l.length)),(13,.int .i64 k)]) (fun k=>[some (.row 4 [[sl c.nc (c.nodes.map Nd.enc),sl c.mc (c.names.map strR),.nilslice,sl c.oc (c.outs.map intR)]])]) (fun k=>ts.length - k) (fun k=>k ≤ ts.length) 0 ?_ (Nat.zero_le _) ?_
   ·(simp +decide only [go_sem,gcD_eq,gcIds_eq]<;>rfl)<;>rfl
   ·intro k hk
    by_cases hkt:k < ts.length
    ·obtain ⟨p,hpk⟩:∃ p,ts[k]? = some p:=⟨_,List.getElem?_eq_getElem hkt⟩
     have d1:(k:Int) < ts.length:=by omega
     have hwk:=wI1 (n:=k) (by omega)
     have hpe:Pat.enc p = [sl p.ic (p.ins.map u8R),sl p.sc (p.sts.map u8R)]:=rfl
     have hfl:=fun d H=>hflt d H p (hp p (List.mem_of_getElem? hpk))
     rw [hpe] at hfl
     have hD:∀ (i:Nat) (f:Flt),l[i]? = some f → (l.map fun f=>[AV.bool ((simOf c ord).det f p)])[i]? = some [.bool ((simOf c ord).det f p)]:=by intro i f h;rw [List.getElem?_map,h];rfl
     have hDl:(l.map fun f=>[AV.bool ((simOf c ord).det f p)]).length = l.length:=by simp
     generalize (l.map fun f=>[AV.bool ((simOf c ord).det f p)]) = D at hfl hD hDl
     (repeat first|simp only [ww]|((with_reducible first|apply xs|apply xI);(·simp +decide only [go_sem,d1,hkt,hpk,hpe,hfl,hDl];rfl);with_reducible first|apply xT|apply xF|(·kernel_rfl)))
     refine xp_loop3 (σ:=Nat) kp3_6 (fun i=>[(3,.ptr 0 0 0),(4,sl lr (l.map Flt.enc)),(5,sl tr (ts.map Pat.enc)),(6,.islice T (some l.length)),(13,.int .i64 k),(14,.islice D (some l.length)),(16,.int .i64 i)]) (fun i=>[some (.row 4 [[sl c.nc (c.nodes.map Nd.enc),sl c.mc (c.names.map strR),.nilslice,sl c.oc (c.outs.map intR)]])]) (fun i=>l.length - i) (fun i=>i ≤ l.length) 0 ?_ (Nat.zero_le _) ?_
     ·(simp +decide only [go_sem,gcD_eq,gcIds_eq]<;>rfl)<;>rfl
     ·intro i hi
      by_cases hlt:i < l.length
      ·obtain ⟨f,hfi⟩:∃ f,l[i]? = some f:=⟨_,List.getElem?_eq_getElem hlt⟩
       have c2:(i:Int) < l.length:=by omega
       have hwi:=wI1 (n:=i) (by omega)
       have ha:=fun d H=>hat d H i k (by omega)
       have hb:=hbt i k f hfi
       rw [hpk] at hb
       simp only at hb
       simp only [hb] at ha
       have hDi:=hD i f hfi
       generalize (simOf c ord).det f p = bt at ha hDi
       (repeat first|simp only [ww]|((with_reducible first|apply xs|apply xI);(·simp +decide only [go_sem,c2,hlt,hDl,hDi,ha,hwi];rfl);with_reducible first|apply xT|apply xF|(·kernel_rfl)))
       refine lp_n (i + 1) ?_ (by omega) (by omega)
       (simp +decide only [go_sem,gcD_eq,gcIds_eq]<;>rfl)<;>rfl
      ·obtain rfl:i = l.length:=by omega
       have c2:¬ (l.length:Int) < l.length:=by omega
       (repeat first|simp only [ww]|((with_reducible first|apply xs|apply xI);(·simp +decide only [go_sem,c2,hwk];rfl);with_reducible first|apply xT|apply xF|(·kernel_rfl)))
       refine lp_n (k + 1) ?_ (by omega) (by omega)
       (simp +decide only [go_sem,gcD_eq,gcIds_eq]<;>rfl)<;>rfl
    ·obtain rfl:k = ts.length:=by omega
     have d1:¬ (ts.length:Int) < ts.length:=by omega
     (repeat first|simp only [ww]|((with_reducible first|apply xs|apply xI);(·simp +decide only [go_sem,d1,hlv];rfl);with_reducible first|apply xT|apply xF|(·kernel_rfl)))
     (first|with_reducible apply fq_r|with_reducible apply fq_n);(·simp +decide only [go_sem]<;>rfl);(·simp +decide only [go_sem]<;>rfl)
end Go.ZInst
