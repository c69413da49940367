/- Part of a proof. No condition. -/
import Derived.Test.YtllalbnibhofiaaGreatDoorZIo
import Derived.Test.YtllalbnibhofiaaGreatDoorZCa
set_option linter.unusedSimpArgs false
set_option linter.unusedVariables false
namespace Go.ZInst
set_option maxHeartbeats 200000000
open Go.Proofs Go.Ax Go.Pc
set_option maxRecDepth 100000
theorem bl1 (x:CX):x.cir.outs ≠ []:=by
 show x.outN ≠ []
 unfold CX.outN
 simp
/-- The law ParallelsPatterns: it answers true. -/
theorem lawPats_ok (x:CaseX) (hx:x.ok) (f:FX) (hf:f.ok):sem L.env Mf 6 [.agg x.enc,.agg f.enc] [] = some (.bool true,[]):=by
 obtain ⟨lr,tr,l,ts,hll,htl,hfl,hp,hcase⟩:=bdl x hx
 have hw:(aim x.c).cir.wf:=CX.wf _
 have hne:(aim x.c).cir.outs ≠ []:=bl1 _
 have hcase:=fun H=>hcase false H
 generalize (aim x.c).cir = c at hfl hp hcase hw hne
 obtain ⟨ord,hO⟩:=bpo c hw
 have hop:=hO.perm
 have hst:=bf9 c hw ord hO
 have hpat:=fun (d:Bool) H f hf=>ayl (d:=d) H c hw tr f ts (by omega) hf hp ord hop hst
 have hdt:=fun (d:Bool) H f hf p hp=>atv (d:=d) H c hw hne p hp f hf ord hO
 have hlv:=fun H=>ayx (d:=false) H
 have hce:c.enc = [sl c.nc (c.nodes.map Nd.enc),sl c.mc (c.names.map abv),.nilslice,sl c.oc (c.outs.map aaj)]:=rfl
 simp only [hce] at hcase hpat hdt
 have hxe:x.enc = [.int .u8 x.c.inn,.int .u8 x.c.dffs,.int .u8 x.c.d0,.int .u8 x.c.d1,.bool x.c.bus,.bool x.c.mem,.int .u8 x.c.p0,.int .u8 x.c.p1,.int .u8 x.c.p2,.int .u8 x.c.p3,sl x.c.gc (x.c.gates.map GX.enc),sl x.c.oc (x.c.outs.map u8R),sl x.fr (x.fs.map FX.enc),sl x.pr (x.ps.map Pat.enc)]:=rfl
 rw [hxe] at hcase ⊢
 have hm4:(f.model:Int).tmod 4 = ((f.model % 4:Nat):Int):=rfl
 by_cases hm:f.model % 4 = 1
 ·have cm:((f.model % 4:Nat):Int) = 1:=by omega
  obtain ⟨g,hg,hgc⟩:=an3 c hw { f with model:=0 } ⟨by show 0 < 256;omega,hf.node,hf.pin,hf.other⟩ (by show 0 % 4 ≠ 1;omega)
  have hgc:=fun H=>hgc false H
  simp only [Cir.enc,FX.enc,Int.natCast_zero,Flt.enc] at hgc
  have hpt:=fun H=>hpat false H g hg
  have hdg:=fun (d:Bool) H=>hdt d H g hg
  simp only [Flt.enc] at hpt hdg
  have hD:∀ (k:Nat) (p:Pat),ts[k]? = some p → (ts.map fun p=>[AV.bool ((ab5 c ord).det g p)])[k]? = some [.bool ((ab5 c ord).det g p)]:=by intro k p h;rw [List.getElem?_map,h];rfl
  have hDl:(ts.map fun p=>[AV.bool ((ab5 c ord).det g p)]).length = ts.length:=by simp
  generalize (ts.map fun p=>[AV.bool ((ab5 c ord).det g p)]) = D at hpt hD hDl
  (refine sv Tryz.f6 ?_;simp only [Tryz.f6,gS])
  (repeat first|simp only [ww]|(apply xa;simp +decide only [go_sem,hcase,hm4,cm,hgc,hpt,hDl];rfl;kernel_rfl))
  refine ab3 (σ:=Nat) kp6_0 (fun k=>[(5,.ptr 0 0 0),(7,sl tr (ts.map Pat.enc)),(8,.ptr 1 0 0),(9,.islice D (some ts.length)),(11,.int .i64 k)]) (fun k=>[some (.row 4 [[sl c.nc (c.nodes.map Nd.enc),sl c.mc (c.names.map abv),.nilslice,sl c.oc (c.outs.map aaj)]]),some (.row 5 [[.int .u8 g.model,.int .i64 g.node,.int .i64 g.pin,.int .u8 g.value,.int .i64 g.other]])]) (fun k=>ts.length - k) (fun k=>k ≤ ts.length) 0 ?_ (Nat.zero_le _) ?_
  ·(simp +decide only [go_sem,aa1,aa0]<;>rfl)<;>rfl
  ·intro k hk
   by_cases hkt:k < ts.length
   ·obtain ⟨p,hpk⟩:∃ p,ts[k]? = some p:=⟨_,List.getElem?_eq_getElem hkt⟩
    have d1:(k:Int) < ts.length:=by omega
    have hwk:=wI1 (n:=k) (by omega)
    have hpe:Pat.enc p = [sl p.ic (p.ins.map u8R),sl p.sc (p.sts.map u8R)]:=rfl
    have hdp:=fun (d:Bool) H=>hdg d H p (hp p (List.mem_of_getElem? hpk))
    rw [hpe] at hdp
    have hDk:=hD k p hpk
    generalize (ab5 c ord).det g p = bt at hdp hDk
    (repeat first|simp only [ww]|(apply xa;simp +decide only [go_sem,d1,hkt,hpk,hpe,hdp,hDk,hDl,hwk];rfl;kernel_rfl))
    refine ac6 (k + 1) ?_ (by omega) (by omega)
    (simp +decide only [go_sem,aa1,aa0]<;>rfl)<;>rfl
   ·obtain rfl:k = ts.length:=by omega
    have d1:¬ (ts.length:Int) < ts.length:=by omega
    (repeat first|simp only [ww]|(apply xa;simp +decide only [go_sem,d1,hlv];rfl;kernel_rfl))
    (apply fqb;simp +decide only [go_sem]<;>rfl)
 ·have cm:¬ ((f.model % 4:Nat):Int) = 1:=by omega
  obtain ⟨g,hg,hgc⟩:=an3 c hw f hf hm
  have hgc:=fun H=>hgc false H
  simp only [Cir.enc,FX.enc,Flt.enc] at hgc
  have hpt:=fun H=>hpat false H g hg
  have hdg:=fun (d:Bool) H=>hdt d H g hg
  simp only [Flt.enc] at hpt hdg
  have hD:∀ (k:Nat) (p:Pat),ts[k]? = some p → (ts.map fun p=>[AV.bool ((ab5 c ord).det g p)])[k]? = some [.bool ((ab5 c ord).det g p)]:=by intro k p h;rw [List.getElem?_map,h];rfl
  have hDl:(ts.map fun p=>[AV.bool ((ab5 c ord).det g p)]).length = ts.length:=by simp
  generalize (ts.map fun p=>[AV.bool ((ab5 c ord).det g p)]) = D at hpt hD hDl
  (refine sv Tryz.f6 ?_;simp only [Tryz.f6,gS])
  (repeat first|simp only [ww]|(apply xa;simp +decide only [go_sem,hcase,hm4,cm,hgc,hpt,hDl];rfl;kernel_rfl))
  refine ab3 (σ:=Nat) kp6_0 (fun k=>[(5,.ptr 0 0 0),(7,sl tr (ts.map Pat.enc)),(8,.ptr 1 0 0),(9,.islice D (some ts.length)),(11,.int .i64 k)]) (fun k=>[some (.row 4 [[sl c.nc (c.nodes.map Nd.enc),sl c.mc (c.names.map abv),.nilslice,sl c.oc (c.outs.map aaj)]]),some (.row 5 [[.int .u8 g.model,.int .i64 g.node,.int .i64 g.pin,.int .u8 g.value,.int .i64 g.other]])]) (fun k=>ts.length - k) (fun k=>k ≤ ts.length) 0 ?_ (Nat.zero_le _) ?_
  ·(simp +decide only [go_sem,aa1,aa0]<;>rfl)<;>rfl
  ·intro k hk
   by_cases hkt:k < ts.length
   ·obtain ⟨p,hpk⟩:∃ p,ts[k]? = some p:=⟨_,List.getElem?_eq_getElem hkt⟩
    have d1:(k:Int) < ts.length:=by omega
    have hwk:=wI1 (n:=k) (by omega)
    have hpe:Pat.enc p = [sl p.ic (p.ins.map u8R),sl p.sc (p.sts.map u8R)]:=rfl
    have hdp:=fun (d:Bool) H=>hdg d H p (hp p (List.mem_of_getElem? hpk))
    rw [hpe] at hdp
    have hDk:=hD k p hpk
    generalize (ab5 c ord).det g p = bt at hdp hDk
    (repeat first|simp only [ww]|(apply xa;simp +decide only [go_sem,d1,hkt,hpk,hpe,hdp,hDk,hDl,hwk];rfl;kernel_rfl))
    refine ac6 (k + 1) ?_ (by omega) (by omega)
    (simp +decide only [go_sem,aa1,aa0]<;>rfl)<;>rfl
   ·obtain rfl:k = ts.length:=by omega
    have d1:¬ (ts.length:Int) < ts.length:=by omega
    (repeat first|simp only [ww]|(apply xa;simp +decide only [go_sem,d1,hlv];rfl;kernel_rfl))
    (apply fqb;simp +decide only [go_sem]<;>rfl)
end Go.ZInst
