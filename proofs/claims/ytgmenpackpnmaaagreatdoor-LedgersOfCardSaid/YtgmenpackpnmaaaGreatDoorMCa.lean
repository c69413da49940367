/- Part of a proof. No condition. -/
import Derived.Test.YtgmenpackpnmaaaGreatDoorMPe
import Derived.Test.YtgmenpackpnmaaaGreatDoorMOf
set_option linter.unusedSimpArgs false
set_option linter.unusedVariables false
namespace Go.MInst
set_option maxHeartbeats 200000000
open Go.Proofs Go.Ax Go.Pc
set_option maxRecDepth 100000
structure CaseX where
 c:CX
 fr:Rep
 fs:List FX
 pr:Rep
 ps:List Pat
def CaseX.enc (x:CaseX):List AV:=x.c.enc ++ [sl x.fr (x.fs.map FX.enc),sl x.pr (x.ps.map Pat.enc)]
structure CaseX.ok (x:CaseX):Prop where
 c:x.c.ok
 fs:∀ f ∈ x.fs,f.ok
 ps:∀ p ∈ x.ps,PxOk p
theorem d9o (x:CaseX) (hx:x.ok) (hw:(a8a x.c).cir.wf):∃ r:AV × a05,(∃ (lr tr:Rep) (l:List Flt) (ts:List Pat),l.length ≤ 80 ∧ ts.length ≤ 100 ∧ (∀ f ∈ l,FltOk (a8a x.c).cir.nodes f) ∧ (∀ p ∈ ts,PatOk (a8a x.c).cir.nodes p) ∧ r = (.tuple [.agg (a8a x.c).cir.enc,sl lr (l.map Flt.enc),sl tr (ts.map Pat.enc)],[])) ∧ sem L.env Mf 8 [.agg x.enc] [] = some r:=by
 have hcc:=fun H=>b9t (d:=false) H x.c hx.c
 generalize (a8a x.c).cir = c at hcc hw ⊢
 simp only [CaseX.enc,CX.enc,List.cons_append,List.nil_append] at hcc ⊢
 simp only [Cir.enc] at hcc ⊢
 (refine svE Tryz.f8 ?_;simp only [Tryz.f8,gS])
 (repeat first|simp only [ww]|(apply xa;simp +decide only [go_sem,hcc];rfl;kernel_rfl))
 refine a30 kp8_0 (fun n F H=>∃ (i:Nat) (l:List Flt),n = 81 - i ∧ i ≤ x.fs.length ∧ i ≤ 80 ∧ l.length = i ∧ (∀ f ∈ l,FltOk c.nodes f) ∧ F = [(1,.ptr 0 0 0),(2,.ptr 1 0 0),(5,.ptr 2 0 0),(6,grV 3 (l.map Flt.enc)),(7,.int .i64 i)] ∧ H = [some (.row 14 [[.int .u8 x.c.inn,.int .u8 x.c.dffs,.int .u8 x.c.d0,.int .u8 x.c.d1,.bool x.c.bus,.bool x.c.mem,.int .u8 x.c.p0,.int .u8 x.c.p1,.int .u8 x.c.p2,.int .u8 x.c.p3,sl x.c.gc (x.c.gates.map GX.enc),sl x.c.oc (x.c.outs.map u8R),sl x.fr (x.fs.map FX.enc),sl x.pr (x.ps.map Pat.enc)]]),some (.row 4 [[.nilslice,.nilslice,.nilslice,.nilslice]]),some (.row 4 [[sl c.nc (c.nodes.map Nd.enc),sl c.mc (c.names.map a1r),.nilslice,sl c.oc (c.outs.map a0d)]])] ++ grH 5 (l.map Flt.enc)) 81 ?_ ?_
 ·refine ⟨_,_,?_,0,[],rfl,Nat.zero_le _,by omega,rfl,fun f hf=>by simp at hf,rfl,rfl⟩
  (simp +decide only [go_sem,a01,a00,a0f,a0g,List.map_nil]<;>rfl)<;>rfl
 ·rintro n F H ⟨i,l,rfl,hi,hi2,hl,hlf,rfl,rfl⟩
  by_cases hlt:i < x.fs.length ∧ i < 80
  ·obtain ⟨h1,h2⟩:=hlt
   obtain ⟨f,hfi⟩:∃ f,x.fs[i]? = some f:=⟨_,List.getElem?_eq_getElem h1⟩
   have hfo:=hx.fs f (List.mem_of_getElem? hfi)
   have c1:(i:Int) < x.fs.length:=by omega
   have c2:(i:Int) < 80:=by omega
   have hwi:=wI1 (n:=i) (by omega)
   have hm4:(f.model:Int).tmod 4 = ((f.model % 4:Nat):Int):=rfl
   have hll:(l.map Flt.enc).length = i:=by rw [List.length_map];exact hl
   have hfT:=c9g l
   generalize hT:l.map Flt.enc = T at hll hfT
   by_cases hm:f.model % 4 = 1
   ·have cm:((f.model % 4:Nat):Int) = 1:=by omega
    obtain ⟨g,hg,hgc⟩:=c3a c hw { f with model:=0 } ⟨by show 0 < 256;omega,hfo.node,hfo.pin,hfo.other⟩ (by show 0 % 4 ≠ 1;omega)
    have hgc:=fun H=>hgc false H
    simp only [Cir.enc,FX.enc,Int.natCast_zero] at hgc
    have hT2:(l ++ [g]).map Flt.enc = T ++ [g.enc]:=by rw [List.map_append,hT];rfl
    have hl2:(l ++ [g]).length = i + 1:=by simp [hl]
    have hlf2:∀ f ∈ l ++ [g],FltOk c.nodes f:=by
     intro f hf;rcases List.mem_append.1 hf with h|h
     ·exact hlf f h
     ·rw [List.mem_singleton.1 h];exact hg
    have h1':=a06 hfT
    have h2':=fun π=>a04 π hfT
    cases T with
    | nil=>
     simp only [Flt.enc] at hgc
     (repeat first|simp only [ww]|(apply xa;simp +decide only [go_sem,c1,c2,h1,hfi,hm4,cm,hgc,hwi,a0f,a0g];rfl;kernel_rfl))
     refine a17 (81 - (i + 1)) (by omega) ⟨_,_,?_,i + 1,l ++ [g],rfl,h1,h2,hl2,hlf2,rfl,rfl⟩
     rw [hT2]
     (simp +decide only [go_sem,a01,a00,a07,a08,List.nil_append,List.length_nil,Flt.enc]<;>rfl)<;>rfl
    | cons a r=>
     simp only [List.length_cons] at hll
     have hrm:r.length + 1 + 1 ≤ 1000000000:=by omega
     simp only [List.flatMap_cons] at h1'
     simp only [List.map_cons,List.cons.injEq] at h2'
     simp only [Flt.enc] at hgc
     (repeat first|simp only [ww]|(apply xa;simp +decide only [go_sem,c1,c2,h1,hfi,hm4,cm,hgc,hwi,a07,a08,hrm];rfl;kernel_rfl))
     refine a17 (81 - (i + 1)) (by omega) ⟨_,_,?_,i + 1,l ++ [g],rfl,h1,h2,hl2,hlf2,rfl,rfl⟩
     rw [hT2]
     (simp +decide only [go_sem,a01,a00,a07,a08,List.cons_append,h1',h2',Flt.enc]<;>rfl)<;>rfl
   ·have cm:¬ ((f.model % 4:Nat):Int) = 1:=by omega
    obtain ⟨g,hg,hgc⟩:=c3a c hw f hfo hm
    have hgc:=fun H=>hgc false H
    simp only [Cir.enc,FX.enc] at hgc
    have hT2:(l ++ [g]).map Flt.enc = T ++ [g.enc]:=by rw [List.map_append,hT];rfl
    have hl2:(l ++ [g]).length = i + 1:=by simp [hl]
    have hlf2:∀ f ∈ l ++ [g],FltOk c.nodes f:=by
     intro f hf;rcases List.mem_append.1 hf with h|h
     ·exact hlf f h
     ·rw [List.mem_singleton.1 h];exact hg
    have h1':=a06 hfT
    have h2':=fun π=>a04 π hfT
    cases T with
    | nil=>
     simp only [Flt.enc] at hgc
     (repeat first|simp only [ww]|(apply xa;simp +decide only [go_sem,c1,c2,h1,hfi,hm4,cm,hgc,hwi,a0f,a0g];rfl;kernel_rfl))
     refine a17 (81 - (i + 1)) (by omega) ⟨_,_,?_,i + 1,l ++ [g],rfl,h1,h2,hl2,hlf2,rfl,rfl⟩
     rw [hT2]
     (simp +decide only [go_sem,a01,a00,a07,a08,List.nil_append,List.length_nil,Flt.enc]<;>rfl)<;>rfl
    | cons a r=>
     simp only [List.length_cons] at hll
     have hrm:r.length + 1 + 1 ≤ 1000000000:=by omega
     simp only [List.flatMap_cons] at h1'
     simp only [List.map_cons,List.cons.injEq] at h2'
     simp only [Flt.enc] at hgc
     (repeat first|simp only [ww]|(apply xa;simp +decide only [go_sem,c1,c2,h1,hfi,hm4,cm,hgc,hwi,a07,a08,hrm];rfl;kernel_rfl))
     refine a17 (81 - (i + 1)) (by omega) ⟨_,_,?_,i + 1,l ++ [g],rfl,h1,h2,hl2,hlf2,rfl,rfl⟩
     rw [hT2]
     (simp +decide only [go_sem,a01,a00,a07,a08,List.cons_append,h1',h2',Flt.enc]<;>rfl)<;>rfl
  ·have hd0:(¬ (i:Int) < x.fs.length) ∨ ((i:Int) < x.fs.length ∧ ¬ (i:Int) < 80):=by omega
   have hll:(l.map Flt.enc).length = i:=by rw [List.length_map];exact hl
   have hfT:=c9g l
   have h1':=a06 hfT
   have h2':=fun π=>a04 π hfT
   have hl80:l.length ≤ 80:=by omega
   clear hi hlt
   generalize hT:l.map Flt.enc = T at hll hfT h1' h2'
   cases T with
   | nil=>
    rcases hd0 with c1|⟨c1,c2⟩
    ·(repeat first|simp only [ww]|(apply xa;simp +decide only [go_sem,c1,a0f,a0g];rfl;kernel_rfl))
     refine a30 kp8_2 (fun n F H=>∃ (i:Nat) (ts:List Pat),n = 101 - i ∧ i ≤ x.ps.length ∧ i ≤ 100 ∧ ts.length = i ∧ (∀ p ∈ ts,PatOk c.nodes p) ∧ F = [(1,.ptr 0 0 0),(2,.ptr 1 0 0),(5,.ptr 2 0 0),(6,.nilslice),(9,grV 3 (ts.map Pat.enc)),(10,.int .i64 i)] ∧ H = [some (.row 14 [[.int .u8 x.c.inn,.int .u8 x.c.dffs,.int .u8 x.c.d0,.int .u8 x.c.d1,.bool x.c.bus,.bool x.c.mem,.int .u8 x.c.p0,.int .u8 x.c.p1,.int .u8 x.c.p2,.int .u8 x.c.p3,sl x.c.gc (x.c.gates.map GX.enc),sl x.c.oc (x.c.outs.map u8R),sl x.fr (x.fs.map FX.enc),sl x.pr (x.ps.map Pat.enc)]]),some (.row 4 [[.nilslice,.nilslice,.nilslice,.nilslice]]),some (.row 4 [[sl c.nc (c.nodes.map Nd.enc),sl c.mc (c.names.map a1r),.nilslice,sl c.oc (c.outs.map a0d)]])] ++ grH 2 (ts.map Pat.enc)) 101 ?_ ?_
     ·refine ⟨_,_,?_,0,[],rfl,Nat.zero_le _,by omega,rfl,fun f hf=>by simp at hf,rfl,rfl⟩
      (simp +decide only [go_sem,a01,a00,a0f,a0g,List.map_nil]<;>rfl)<;>rfl
     ·rintro n F H ⟨i,ts,rfl,hi,hi2,hts,htf,rfl,rfl⟩
      have hll2:(ts.map Pat.enc).length = i:=by rw [List.length_map];exact hts
      have hfU:=b7e ts
      have u1:=a06 hfU
      have u2:=fun π=>a04 π hfU
      by_cases hlt:i < x.ps.length ∧ i < 100
      ·obtain ⟨q1,q2⟩:=hlt
       obtain ⟨p,hpi⟩:∃ p,x.ps[i]? = some p:=⟨_,List.getElem?_eq_getElem q1⟩
       have d1:(i:Int) < x.ps.length:=by omega
       have d2:(i:Int) < 100:=by omega
       have hwi:=wI1 (n:=i) (by omega)
       obtain ⟨g,hg,hgc⟩:=b24 c hw p (hx.ps p (List.mem_of_getElem? hpi))
       have hgc:=fun H=>hgc true H
       simp only [Cir.enc,Pat.enc] at hgc
       have hpe:Pat.enc p = [sl p.ic (p.ins.map u8R),sl p.sc (p.sts.map u8R)]:=rfl
       have hT2:(ts ++ [g]).map Pat.enc = ts.map Pat.enc ++ [g.enc]:=by rw [List.map_append];rfl
       have hl2:(ts ++ [g]).length = i + 1:=by simp [hts]
       have hlf2:∀ f ∈ ts ++ [g],PatOk c.nodes f:=by
        intro f hf;rcases List.mem_append.1 hf with h|h
        ·exact htf f h
        ·rw [List.mem_singleton.1 h];exact hg
       generalize ts.map Pat.enc = U at hll2 hfU u1 u2 hT2
       cases U with
       | nil=>
        (repeat first|simp only [ww]|(apply xa;simp +decide only [go_sem,d1,d2,q1,hpi,hpe,hgc,hwi,a0f,a0g];rfl;kernel_rfl))
        refine a17 (101 - (i + 1)) (by omega) ⟨_,_,?_,i + 1,ts ++ [g],rfl,q1,q2,hl2,hlf2,rfl,rfl⟩
        rw [hT2]
        (simp +decide only [go_sem,a01,a00,a07,a08,List.nil_append,List.length_nil,Pat.enc]<;>rfl)<;>rfl
       | cons a2 r2=>
        simp only [List.length_cons] at hll2
        have hrm2:r2.length + 1 + 1 ≤ 1000000000:=by omega
        simp only [List.flatMap_cons] at u1
        simp only [List.map_cons,List.cons.injEq] at u2
        (repeat first|simp only [ww]|(apply xa;simp +decide only [go_sem,d1,d2,q1,hpi,hpe,hgc,hwi,a07,a08,hrm2];rfl;kernel_rfl))
        refine a17 (101 - (i + 1)) (by omega) ⟨_,_,?_,i + 1,ts ++ [g],rfl,q1,q2,hl2,hlf2,rfl,rfl⟩
        rw [hT2]
        (simp +decide only [go_sem,a01,a00,a07,a08,List.cons_append,u1,u2,Pat.enc]<;>rfl)<;>rfl
      ·have hd:(¬ (i:Int) < x.ps.length) ∨ ((i:Int) < x.ps.length ∧ ¬ (i:Int) < 100):=by omega
       generalize hU:ts.map Pat.enc = U at hll2 hfU u1 u2
       cases U with
       | nil=>
        rcases hd with d1|⟨d1,d2⟩
        ·(repeat first|simp only [ww]|(apply xa;simp +decide only [go_sem,d1,a0f,a0g];rfl;kernel_rfl))
         refine a5b (vs:=_) (r:=(_,[])) (by simp +decide only [go_sem]<;>rfl) (by simp +decide only [go_sem]<;>rfl) ⟨none,none,l,ts,by omega,by omega,hlf,htf,by rw [hU,hT];rfl⟩
        ·(repeat first|simp only [ww]|(apply xa;simp +decide only [go_sem,d1,d2,a0f,a0g];rfl;kernel_rfl))
         refine a5b (vs:=_) (r:=(_,[])) (by simp +decide only [go_sem]<;>rfl) (by simp +decide only [go_sem]<;>rfl) ⟨none,none,l,ts,by omega,by omega,hlf,htf,by rw [hU,hT];rfl⟩
       | cons a2 r2=>
        have htkU:List.take (r2.length + 1) (a2 :: r2) = a2 :: r2:=List.take_length (l:=a2 :: r2)
        rcases hd with d1|⟨d1,d2⟩
        ·(repeat first|simp only [ww]|(apply xa;simp +decide only [go_sem,d1,a07,a08];rfl;kernel_rfl))
         refine a5b (vs:=_) (r:=(_,[])) (by simp +decide only [go_sem]<;>rfl) (by simp +decide only [go_sem,a0r _ _ hfU,htkU]<;>rfl) ⟨none,none,l,ts,by omega,by omega,hlf,htf,by rw [hU,hT];rfl⟩
        ·(repeat first|simp only [ww]|(apply xa;simp +decide only [go_sem,d1,d2,a07,a08];rfl;kernel_rfl))
         refine a5b (vs:=_) (r:=(_,[])) (by simp +decide only [go_sem]<;>rfl) (by simp +decide only [go_sem,a0r _ _ hfU,htkU]<;>rfl) ⟨none,none,l,ts,by omega,by omega,hlf,htf,by rw [hU,hT];rfl⟩
    ·(repeat first|simp only [ww]|(apply xa;simp +decide only [go_sem,c1,c2,a0f,a0g];rfl;kernel_rfl))
     refine a30 kp8_2 (fun n F H=>∃ (i:Nat) (ts:List Pat),n = 101 - i ∧ i ≤ x.ps.length ∧ i ≤ 100 ∧ ts.length = i ∧ (∀ p ∈ ts,PatOk c.nodes p) ∧ F = [(1,.ptr 0 0 0),(2,.ptr 1 0 0),(5,.ptr 2 0 0),(6,.nilslice),(9,grV 3 (ts.map Pat.enc)),(10,.int .i64 i)] ∧ H = [some (.row 14 [[.int .u8 x.c.inn,.int .u8 x.c.dffs,.int .u8 x.c.d0,.int .u8 x.c.d1,.bool x.c.bus,.bool x.c.mem,.int .u8 x.c.p0,.int .u8 x.c.p1,.int .u8 x.c.p2,.int .u8 x.c.p3,sl x.c.gc (x.c.gates.map GX.enc),sl x.c.oc (x.c.outs.map u8R),sl x.fr (x.fs.map FX.enc),sl x.pr (x.ps.map Pat.enc)]]),some (.row 4 [[.nilslice,.nilslice,.nilslice,.nilslice]]),some (.row 4 [[sl c.nc (c.nodes.map Nd.enc),sl c.mc (c.names.map a1r),.nilslice,sl c.oc (c.outs.map a0d)]])] ++ grH 2 (ts.map Pat.enc)) 101 ?_ ?_
     ·refine ⟨_,_,?_,0,[],rfl,Nat.zero_le _,by omega,rfl,fun f hf=>by simp at hf,rfl,rfl⟩
      (simp +decide only [go_sem,a01,a00,a0f,a0g,List.map_nil]<;>rfl)<;>rfl
     ·rintro n F H ⟨i,ts,rfl,hi,hi2,hts,htf,rfl,rfl⟩
      have hll2:(ts.map Pat.enc).length = i:=by rw [List.length_map];exact hts
      have hfU:=b7e ts
      have u1:=a06 hfU
      have u2:=fun π=>a04 π hfU
      by_cases hlt:i < x.ps.length ∧ i < 100
      ·obtain ⟨q1,q2⟩:=hlt
       obtain ⟨p,hpi⟩:∃ p,x.ps[i]? = some p:=⟨_,List.getElem?_eq_getElem q1⟩
       have d1:(i:Int) < x.ps.length:=by omega
       have d2:(i:Int) < 100:=by omega
       have hwi:=wI1 (n:=i) (by omega)
       obtain ⟨g,hg,hgc⟩:=b24 c hw p (hx.ps p (List.mem_of_getElem? hpi))
       have hgc:=fun H=>hgc true H
       simp only [Cir.enc,Pat.enc] at hgc
       have hpe:Pat.enc p = [sl p.ic (p.ins.map u8R),sl p.sc (p.sts.map u8R)]:=rfl
       have hT2:(ts ++ [g]).map Pat.enc = ts.map Pat.enc ++ [g.enc]:=by rw [List.map_append];rfl
       have hl2:(ts ++ [g]).length = i + 1:=by simp [hts]
       have hlf2:∀ f ∈ ts ++ [g],PatOk c.nodes f:=by
        intro f hf;rcases List.mem_append.1 hf with h|h
        ·exact htf f h
        ·rw [List.mem_singleton.1 h];exact hg
       generalize ts.map Pat.enc = U at hll2 hfU u1 u2 hT2
       cases U with
       | nil=>
        (repeat first|simp only [ww]|(apply xa;simp +decide only [go_sem,d1,d2,q1,hpi,hpe,hgc,hwi,a0f,a0g];rfl;kernel_rfl))
        refine a17 (101 - (i + 1)) (by omega) ⟨_,_,?_,i + 1,ts ++ [g],rfl,q1,q2,hl2,hlf2,rfl,rfl⟩
        rw [hT2]
        (simp +decide only [go_sem,a01,a00,a07,a08,List.nil_append,List.length_nil,Pat.enc]<;>rfl)<;>rfl
       | cons a2 r2=>
        simp only [List.length_cons] at hll2
        have hrm2:r2.length + 1 + 1 ≤ 1000000000:=by omega
        simp only [List.flatMap_cons] at u1
        simp only [List.map_cons,List.cons.injEq] at u2
        (repeat first|simp only [ww]|(apply xa;simp +decide only [go_sem,d1,d2,q1,hpi,hpe,hgc,hwi,a07,a08,hrm2];rfl;kernel_rfl))
        refine a17 (101 - (i + 1)) (by omega) ⟨_,_,?_,i + 1,ts ++ [g],rfl,q1,q2,hl2,hlf2,rfl,rfl⟩
        rw [hT2]
        (simp +decide only [go_sem,a01,a00,a07,a08,List.cons_append,u1,u2,Pat.enc]<;>rfl)<;>rfl
      ·have hd:(¬ (i:Int) < x.ps.length) ∨ ((i:Int) < x.ps.length ∧ ¬ (i:Int) < 100):=by omega
       generalize hU:ts.map Pat.enc = U at hll2 hfU u1 u2
       cases U with
       | nil=>
        rcases hd with d1|⟨d1,d2⟩
        ·(repeat first|simp only [ww]|(apply xa;simp +decide only [go_sem,d1,a0f,a0g];rfl;kernel_rfl))
         refine a5b (vs:=_) (r:=(_,[])) (by simp +decide only [go_sem]<;>rfl) (by simp +decide only [go_sem]<;>rfl) ⟨none,none,l,ts,by omega,by omega,hlf,htf,by rw [hU,hT];rfl⟩
        ·(repeat first|simp only [ww]|(apply xa;simp +decide only [go_sem,d1,d2,a0f,a0g];rfl;kernel_rfl))
         refine a5b (vs:=_) (r:=(_,[])) (by simp +decide only [go_sem]<;>rfl) (by simp +decide only [go_sem]<;>rfl) ⟨none,none,l,ts,by omega,by omega,hlf,htf,by rw [hU,hT];rfl⟩
       | cons a2 r2=>
        have htkU:List.take (r2.length + 1) (a2 :: r2) = a2 :: r2:=List.take_length (l:=a2 :: r2)
        rcases hd with d1|⟨d1,d2⟩
        ·(repeat first|simp only [ww]|(apply xa;simp +decide only [go_sem,d1,a07,a08];rfl;kernel_rfl))
         refine a5b (vs:=_) (r:=(_,[])) (by simp +decide only [go_sem]<;>rfl) (by simp +decide only [go_sem,a0r _ _ hfU,htkU]<;>rfl) ⟨none,none,l,ts,by omega,by omega,hlf,htf,by rw [hU,hT];rfl⟩
        ·(repeat first|simp only [ww]|(apply xa;simp +decide only [go_sem,d1,d2,a07,a08];rfl;kernel_rfl))
         refine a5b (vs:=_) (r:=(_,[])) (by simp +decide only [go_sem]<;>rfl) (by simp +decide only [go_sem,a0r _ _ hfU,htkU]<;>rfl) ⟨none,none,l,ts,by omega,by omega,hlf,htf,by rw [hU,hT];rfl⟩
   | cons a r=>
    simp only [List.flatMap_cons] at h1'
    simp only [List.map_cons,List.cons.injEq] at h2'
    have htkT:List.take (r.length + 1) (a :: r) = a :: r:=List.take_length (l:=a :: r)
    rcases hd0 with c1|⟨c1,c2⟩
    ·(repeat first|simp only [ww]|(apply xa;simp +decide only [go_sem,c1,a07,a08];rfl;kernel_rfl))
     refine a30 kp8_2 (fun n F H=>∃ (i:Nat) (ts:List Pat),n = 101 - i ∧ i ≤ x.ps.length ∧ i ≤ 100 ∧ ts.length = i ∧ (∀ p ∈ ts,PatOk c.nodes p) ∧ F = [(1,.ptr 0 0 0),(2,.ptr 1 0 0),(5,.ptr 2 0 0),(6,.slice 3 0 (r.length + 1) none),(9,grV 4 (ts.map Pat.enc)),(10,.int .i64 i)] ∧ H = [some (.row 14 [[.int .u8 x.c.inn,.int .u8 x.c.dffs,.int .u8 x.c.d0,.int .u8 x.c.d1,.bool x.c.bus,.bool x.c.mem,.int .u8 x.c.p0,.int .u8 x.c.p1,.int .u8 x.c.p2,.int .u8 x.c.p3,sl x.c.gc (x.c.gates.map GX.enc),sl x.c.oc (x.c.outs.map u8R),sl x.fr (x.fs.map FX.enc),sl x.pr (x.ps.map Pat.enc)]]),some (.row 4 [[.nilslice,.nilslice,.nilslice,.nilslice]]),some (.row 4 [[sl c.nc (c.nodes.map Nd.enc),sl c.mc (c.names.map a1r),.nilslice,sl c.oc (c.outs.map a0d)]]),some (.row 5 (a :: r))] ++ grH 2 (ts.map Pat.enc)) 101 ?_ ?_
     ·refine ⟨_,_,?_,0,[],rfl,Nat.zero_le _,by omega,rfl,fun f hf=>by simp at hf,rfl,rfl⟩
      (simp +decide only [go_sem,a01,a00,a0f,a0g,List.map_nil,h1',h2']<;>rfl)<;>rfl
     ·rintro n F H ⟨i,ts,rfl,hi,hi2,hts,htf,rfl,rfl⟩
      have hll2:(ts.map Pat.enc).length = i:=by rw [List.length_map];exact hts
      have hfU:=b7e ts
      have u1:=a06 hfU
      have u2:=fun π=>a04 π hfU
      by_cases hlt:i < x.ps.length ∧ i < 100
      ·obtain ⟨q1,q2⟩:=hlt
       obtain ⟨p,hpi⟩:∃ p,x.ps[i]? = some p:=⟨_,List.getElem?_eq_getElem q1⟩
       have d1:(i:Int) < x.ps.length:=by omega
       have d2:(i:Int) < 100:=by omega
       have hwi:=wI1 (n:=i) (by omega)
       obtain ⟨g,hg,hgc⟩:=b24 c hw p (hx.ps p (List.mem_of_getElem? hpi))
       have hgc:=fun H=>hgc true H
       simp only [Cir.enc,Pat.enc] at hgc
       have hpe:Pat.enc p = [sl p.ic (p.ins.map u8R),sl p.sc (p.sts.map u8R)]:=rfl
       have hT2:(ts ++ [g]).map Pat.enc = ts.map Pat.enc ++ [g.enc]:=by rw [List.map_append];rfl
       have hl2:(ts ++ [g]).length = i + 1:=by simp [hts]
       have hlf2:∀ f ∈ ts ++ [g],PatOk c.nodes f:=by
        intro f hf;rcases List.mem_append.1 hf with h|h
        ·exact htf f h
        ·rw [List.mem_singleton.1 h];exact hg
       generalize ts.map Pat.enc = U at hll2 hfU u1 u2 hT2
       cases U with
       | nil=>
        (repeat first|simp only [ww]|(apply xa;simp +decide only [go_sem,d1,d2,q1,hpi,hpe,hgc,hwi,a0f,a0g];rfl;kernel_rfl))
        refine a17 (101 - (i + 1)) (by omega) ⟨_,_,?_,i + 1,ts ++ [g],rfl,q1,q2,hl2,hlf2,rfl,rfl⟩
        rw [hT2]
        (simp +decide only [go_sem,a01,a00,a07,a08,List.nil_append,List.length_nil,Pat.enc,h1',h2']<;>rfl)<;>rfl
       | cons a2 r2=>
        simp only [List.length_cons] at hll2
        have hrm2:r2.length + 1 + 1 ≤ 1000000000:=by omega
        simp only [List.flatMap_cons] at u1
        simp only [List.map_cons,List.cons.injEq] at u2
        (repeat first|simp only [ww]|(apply xa;simp +decide only [go_sem,d1,d2,q1,hpi,hpe,hgc,hwi,a07,a08,hrm2];rfl;kernel_rfl))
        refine a17 (101 - (i + 1)) (by omega) ⟨_,_,?_,i + 1,ts ++ [g],rfl,q1,q2,hl2,hlf2,rfl,rfl⟩
        rw [hT2]
        (simp +decide only [go_sem,a01,a00,a07,a08,List.cons_append,u1,u2,Pat.enc,h1',h2']<;>rfl)<;>rfl
      ·have hd:(¬ (i:Int) < x.ps.length) ∨ ((i:Int) < x.ps.length ∧ ¬ (i:Int) < 100):=by omega
       generalize hU:ts.map Pat.enc = U at hll2 hfU u1 u2
       cases U with
       | nil=>
        rcases hd with d1|⟨d1,d2⟩
        ·(repeat first|simp only [ww]|(apply xa;simp +decide only [go_sem,d1,a0f,a0g];rfl;kernel_rfl))
         refine a5b (vs:=_) (r:=(_,[])) (by simp +decide only [go_sem]<;>rfl) (by simp +decide only [go_sem,a0r _ _ hfT,htkT]<;>rfl) ⟨none,none,l,ts,by omega,by omega,hlf,htf,by rw [hU,hT];rfl⟩
        ·(repeat first|simp only [ww]|(apply xa;simp +decide only [go_sem,d1,d2,a0f,a0g];rfl;kernel_rfl))
         refine a5b (vs:=_) (r:=(_,[])) (by simp +decide only [go_sem]<;>rfl) (by simp +decide only [go_sem,a0r _ _ hfT,htkT]<;>rfl) ⟨none,none,l,ts,by omega,by omega,hlf,htf,by rw [hU,hT];rfl⟩
       | cons a2 r2=>
        have htkU:List.take (r2.length + 1) (a2 :: r2) = a2 :: r2:=List.take_length (l:=a2 :: r2)
        rcases hd with d1|⟨d1,d2⟩
        ·(repeat first|simp only [ww]|(apply xa;simp +decide only [go_sem,d1,a07,a08];rfl;kernel_rfl))
         refine a5b (vs:=_) (r:=(_,[])) (by simp +decide only [go_sem]<;>rfl) (by simp +decide only [go_sem,a0r _ _ hfU,htkU,a0r _ _ hfT,htkT]<;>rfl) ⟨none,none,l,ts,by omega,by omega,hlf,htf,by rw [hU,hT];rfl⟩
        ·(repeat first|simp only [ww]|(apply xa;simp +decide only [go_sem,d1,d2,a07,a08];rfl;kernel_rfl))
         refine a5b (vs:=_) (r:=(_,[])) (by simp +decide only [go_sem]<;>rfl) (by simp +decide only [go_sem,a0r _ _ hfU,htkU,a0r _ _ hfT,htkT]<;>rfl) ⟨none,none,l,ts,by omega,by omega,hlf,htf,by rw [hU,hT];rfl⟩
    ·(repeat first|simp only [ww]|(apply xa;simp +decide only [go_sem,c1,c2,a07,a08];rfl;kernel_rfl))
     refine a30 kp8_2 (fun n F H=>∃ (i:Nat) (ts:List Pat),n = 101 - i ∧ i ≤ x.ps.length ∧ i ≤ 100 ∧ ts.length = i ∧ (∀ p ∈ ts,PatOk c.nodes p) ∧ F = [(1,.ptr 0 0 0),(2,.ptr 1 0 0),(5,.ptr 2 0 0),(6,.slice 3 0 (r.length + 1) none),(9,grV 4 (ts.map Pat.enc)),(10,.int .i64 i)] ∧ H = [some (.row 14 [[.int .u8 x.c.inn,.int .u8 x.c.dffs,.int .u8 x.c.d0,.int .u8 x.c.d1,.bool x.c.bus,.bool x.c.mem,.int .u8 x.c.p0,.int .u8 x.c.p1,.int .u8 x.c.p2,.int .u8 x.c.p3,sl x.c.gc (x.c.gates.map GX.enc),sl x.c.oc (x.c.outs.map u8R),sl x.fr (x.fs.map FX.enc),sl x.pr (x.ps.map Pat.enc)]]),some (.row 4 [[.nilslice,.nilslice,.nilslice,.nilslice]]),some (.row 4 [[sl c.nc (c.nodes.map Nd.enc),sl c.mc (c.names.map a1r),.nilslice,sl c.oc (c.outs.map a0d)]]),some (.row 5 (a :: r))] ++ grH 2 (ts.map Pat.enc)) 101 ?_ ?_
     ·refine ⟨_,_,?_,0,[],rfl,Nat.zero_le _,by omega,rfl,fun f hf=>by simp at hf,rfl,rfl⟩
      (simp +decide only [go_sem,a01,a00,a0f,a0g,List.map_nil,h1',h2']<;>rfl)<;>rfl
     ·rintro n F H ⟨i,ts,rfl,hi,hi2,hts,htf,rfl,rfl⟩
      have hll2:(ts.map Pat.enc).length = i:=by rw [List.length_map];exact hts
      have hfU:=b7e ts
      have u1:=a06 hfU
      have u2:=fun π=>a04 π hfU
      by_cases hlt:i < x.ps.length ∧ i < 100
      ·obtain ⟨q1,q2⟩:=hlt
       obtain ⟨p,hpi⟩:∃ p,x.ps[i]? = some p:=⟨_,List.getElem?_eq_getElem q1⟩
       have d1:(i:Int) < x.ps.length:=by omega
       have d2:(i:Int) < 100:=by omega
       have hwi:=wI1 (n:=i) (by omega)
       obtain ⟨g,hg,hgc⟩:=b24 c hw p (hx.ps p (List.mem_of_getElem? hpi))
       have hgc:=fun H=>hgc true H
       simp only [Cir.enc,Pat.enc] at hgc
       have hpe:Pat.enc p = [sl p.ic (p.ins.map u8R),sl p.sc (p.sts.map u8R)]:=rfl
       have hT2:(ts ++ [g]).map Pat.enc = ts.map Pat.enc ++ [g.enc]:=by rw [List.map_append];rfl
       have hl2:(ts ++ [g]).length = i + 1:=by simp [hts]
       have hlf2:∀ f ∈ ts ++ [g],PatOk c.nodes f:=by
        intro f hf;rcases List.mem_append.1 hf with h|h
        ·exact htf f h
        ·rw [List.mem_singleton.1 h];exact hg
       generalize ts.map Pat.enc = U at hll2 hfU u1 u2 hT2
       cases U with
       | nil=>
        (repeat first|simp only [ww]|(apply xa;simp +decide only [go_sem,d1,d2,q1,hpi,hpe,hgc,hwi,a0f,a0g];rfl;kernel_rfl))
        refine a17 (101 - (i + 1)) (by omega) ⟨_,_,?_,i + 1,ts ++ [g],rfl,q1,q2,hl2,hlf2,rfl,rfl⟩
        rw [hT2]
        (simp +decide only [go_sem,a01,a00,a07,a08,List.nil_append,List.length_nil,Pat.enc,h1',h2']<;>rfl)<;>rfl
       | cons a2 r2=>
        simp only [List.length_cons] at hll2
        have hrm2:r2.length + 1 + 1 ≤ 1000000000:=by omega
        simp only [List.flatMap_cons] at u1
        simp only [List.map_cons,List.cons.injEq] at u2
        (repeat first|simp only [ww]|(apply xa;simp +decide only [go_sem,d1,d2,q1,hpi,hpe,hgc,hwi,a07,a08,hrm2];rfl;kernel_rfl))
        refine a17 (101 - (i + 1)) (by omega) ⟨_,_,?_,i + 1,ts ++ [g],rfl,q1,q2,hl2,hlf2,rfl,rfl⟩
        rw [hT2]
        (simp +decide only [go_sem,a01,a00,a07,a08,List.cons_append,u1,u2,Pat.enc,h1',h2']<;>rfl)<;>rfl
      ·have hd:(¬ (i:Int) < x.ps.length) ∨ ((i:Int) < x.ps.length ∧ ¬ (i:Int) < 100):=by omega
       generalize hU:ts.map Pat.enc = U at hll2 hfU u1 u2
       cases U with
       | nil=>
        rcases hd with d1|⟨d1,d2⟩
        ·(repeat first|simp only [ww]|(apply xa;simp +decide only [go_sem,d1,a0f,a0g];rfl;kernel_rfl))
         refine a5b (vs:=_) (r:=(_,[])) (by simp +decide only [go_sem]<;>rfl) (by simp +decide only [go_sem,a0r _ _ hfT,htkT]<;>rfl) ⟨none,none,l,ts,by omega,by omega,hlf,htf,by rw [hU,hT];rfl⟩
        ·(repeat first|simp only [ww]|(apply xa;simp +decide only [go_sem,d1,d2,a0f,a0g];rfl;kernel_rfl))
         refine a5b (vs:=_) (r:=(_,[])) (by simp +decide only [go_sem]<;>rfl) (by simp +decide only [go_sem,a0r _ _ hfT,htkT]<;>rfl) ⟨none,none,l,ts,by omega,by omega,hlf,htf,by rw [hU,hT];rfl⟩
       | cons a2 r2=>
        have htkU:List.take (r2.length + 1) (a2 :: r2) = a2 :: r2:=List.take_length (l:=a2 :: r2)
        rcases hd with d1|⟨d1,d2⟩
        ·(repeat first|simp only [ww]|(apply xa;simp +decide only [go_sem,d1,a07,a08];rfl;kernel_rfl))
         refine a5b (vs:=_) (r:=(_,[])) (by simp +decide only [go_sem]<;>rfl) (by simp +decide only [go_sem,a0r _ _ hfU,htkU,a0r _ _ hfT,htkT]<;>rfl) ⟨none,none,l,ts,by omega,by omega,hlf,htf,by rw [hU,hT];rfl⟩
        ·(repeat first|simp only [ww]|(apply xa;simp +decide only [go_sem,d1,d2,a07,a08];rfl;kernel_rfl))
         refine a5b (vs:=_) (r:=(_,[])) (by simp +decide only [go_sem]<;>rfl) (by simp +decide only [go_sem,a0r _ _ hfU,htkU,a0r _ _ hfT,htkT]<;>rfl) ⟨none,none,l,ts,by omega,by omega,hlf,htf,by rw [hU,hT];rfl⟩
open Go.Proofs Go.Ax Go.Pc
set_option maxRecDepth 100000
theorem c7c (x:CaseX):refs (.agg x.enc) = []:=by
 simp only [CaseX.enc,CX.enc,List.cons_append,List.nil_append,go_sem]
theorem c9y (x:CaseX) (hx:x.ok):∃ (lr tr:Rep) (l:List Flt) (ts:List Pat),l.length ≤ 80 ∧ ts.length ≤ 100 ∧ (∀ f ∈ l,FltOk (a8a x.c).cir.nodes f) ∧ (∀ p ∈ ts,PatOk (a8a x.c).cir.nodes p) ∧
 ∀ (d:Bool) (H:a05),a0c L.env d (sem L.env Mf) (.func (.func 8) [] []) [.agg x.enc] H = some (.tuple [.agg (a8a x.c).cir.enc,sl lr (l.map Flt.enc),sl tr (ts.map Pat.enc)],H,[]):=by
 obtain ⟨r,⟨lr,tr,l,ts,h1,h2,h3,h4,rfl⟩,h⟩:=d9o x hx (CX.wf _)
 refine ⟨lr,tr,l,ts,h1,h2,h3,h4,fun d H=>a03 (by kernel_rfl) (by kernel_rfl) rfl ?_ h ?_⟩
 ·simp only [List.nil_append,List.append_nil,a09,a1u,c7c]
 ·simp only [go_sem,Cir.enc]
theorem a8p {d:Bool} (H:a05) (c:Cir) (h:c.wf) (rl rt:Rep) (l:List Flt) (tests:List Pat) (hll:l.length ≤ 1000) (htl:tests.length ≤ 4096) (hf:∀ f ∈ l,FltOk c.nodes f) (hp:∀ p ∈ tests,PatOk c.nodes p) (ord:List Nat) (hop:ord.Perm (List.range c.nodes.length))
 (hst:∀ (d:Bool) (H:a05),a0c L.env d (sem L.env Mf) (.func (.func 51) [] []) [.agg c.enc] H = some (.agg (a58 c ord net0V pin0V),H,[])) :
 a0c L.env d (sem L.env Mf) (.func (.func 31) [] []) [.agg c.enc,sl rl (l.map Flt.enc),sl rt (tests.map Pat.enc)] H = some (.tuple [.islice ((a5t c ord l tests).map c6x) (some l.length),.int .i64 0],H,[]):=by
 have h1:=e2a c h rl rt l tests hll htl hf hp ord hop hst
 rw [c0l] at h1
 exact a03 (by kernel_rfl) (by kernel_rfl) rfl (by simp only [List.nil_append,List.append_nil,a09,a0y,Cir.enc,go_sem]) h1 rfl
end Go.MInst
