/- Part of a proof. No condition. -/
import Derived.Test.YtgmenpackpnmaaaGreatDoorMLb
import Derived.Test.YtgmenpackpnmaaaGreatDoorMIo
set_option linter.unusedSimpArgs false
set_option linter.unusedVariables false
namespace Go.MInst
set_option maxHeartbeats 200000000
open Go.Proofs Go.Ax Go.Pc
set_option maxRecDepth 100000
theorem d2b (x:CX):x.cir.outs ≠ []:=by
 show x.outN ≠ []
 unfold CX.outN
 simp
theorem lawOf_ok (x:CaseX) (hx:x.ok):sem L.env Mf 7 [.agg x.enc] [] = some (.bool true,[]):=by
 obtain ⟨lr,tr,l,ts,hll,htl,hf,hp,hcase⟩:=c9y x hx
 have hw:(a8a x.c).cir.wf:=CX.wf _
 have hne:(a8a x.c).cir.outs ≠ []:=d2b _
 have hcase:=fun H=>hcase false H
 generalize (a8a x.c).cir = c at hf hp hcase hw hne
 obtain ⟨ord,hO⟩:=e2u c hw
 have hop:=hO.perm
 have hst:=d1o c hw ord hO
 obtain ⟨all,hall⟩:∃ all:Int,all = ts.length + 1:=⟨_,rfl⟩
 have hof:=fun H=>d2m (d:=false) H c hw lr tr l ts hll htl hf hp ord hop hst all hall
 have hdt:=fun (d:Bool) H f hf p hp=>b9h (d:=d) H c hw hne p hp f hf ord hO
 have hlv:=fun H=>c4o (d:=false) H
 have hDv:∀ (i k:Nat) f p,l[i]? = some f → ts[k]? = some p → c0d c ord l ts i k = (a2b c ord).det f p:=by
  intro i k f p h1 h2;unfold c0d;rw [h1,h2]
 generalize c0d c ord l ts = D at hof hDv
 have hce:c.enc = [sl c.nc (c.nodes.map Nd.enc),sl c.mc (c.names.map a1r),.nilslice,sl c.oc (c.outs.map a0d)]:=rfl
 rw [hce] at hcase hof
 simp only [hce] at hdt
 have hxe:x.enc = [.int .u8 x.c.inn,.int .u8 x.c.dffs,.int .u8 x.c.d0,.int .u8 x.c.d1,.bool x.c.bus,.bool x.c.mem,.int .u8 x.c.p0,.int .u8 x.c.p1,.int .u8 x.c.p2,.int .u8 x.c.p3,sl x.c.gc (x.c.gates.map GX.enc),sl x.c.oc (x.c.outs.map u8R),sl x.fr (x.fs.map FX.enc),sl x.pr (x.ps.map Pat.enc)]:=rfl
 rw [hxe] at hcase ⊢
 have hFg:∀ i,i < l.length → (a9t all D l.length fun _=>ts.length)[i]? = some [AV.int .i64 (a2q all (D i) ts.length).1]:=fun i h=>b21 h
 have hCg:∀ i,i < l.length → (a9v all D l.length fun _=>ts.length)[i]? = some [AV.int .i64 (a2q all (D i) ts.length).2]:=fun i h=>a9u h
 have hFl:(a9t all D l.length fun _=>ts.length).length = l.length:=a7f
 have hCl:(a9v all D l.length fun _=>ts.length).length = l.length:=a6c
 generalize (a9t all D l.length fun _=>ts.length) = FA at hof hFg hFl
 generalize (a9v all D l.length fun _=>ts.length) = CA at hof hCg hCl
 (refine sv Tryz.f7 ?_;simp only [Tryz.f7,gS])
 (repeat first|simp only [ww]|(apply xa;simp +decide only [go_sem,hcase,hof,hFl,hCl,List.length_map];rfl;kernel_rfl))
 refine a0s (m:=0) (σ:=Nat) kp7_0 (fun i=>[(3,.ptr 0 0 0),(4,sl lr (l.map Flt.enc)),(5,sl tr (ts.map Pat.enc)),(6,.ptr 1 0 0),(8,.int .i64 i)]) (fun i=>[some (.row 4 [[sl c.nc (c.nodes.map Nd.enc),sl c.mc (c.names.map a1r),.nilslice,sl c.oc (c.outs.map a0d)]]),some (.row 3 [[.islice FA (some l.length),.islice CA (some l.length),.int .i64 ts.length]])]) (fun i=>l.length - i) (fun i=>i ≤ l.length) 0 ?_ (Nat.zero_le _) ?_
 ·(simp +decide only [go_sem,a01,a00]<;>rfl)<;>rfl
 ·intro i hi
  by_cases hlt:i < l.length
  ·obtain ⟨f,hfi⟩:∃ f,l[i]? = some f:=⟨_,List.getElem?_eq_getElem hlt⟩
   have c1:(i:Int) < l.length:=by omega
   have hwi:=wI1 (n:=i) (by omega)
   have hfe:f.enc = [.int .u8 f.model,.int .i64 f.node,.int .i64 f.pin,.int .u8 f.value,.int .i64 f.other]:=rfl
   have g1:=hFg i hlt
   have g2:=hCg i hlt
   (repeat first|simp only [ww]|(apply xa;simp +decide only [go_sem,c1,hlt];rfl;kernel_rfl))
   refine a0s (m:=0) (σ:=Nat) kp7_2 (fun k=>[(3,.ptr 0 0 0),(4,sl lr (l.map Flt.enc)),(5,sl tr (ts.map Pat.enc)),(6,.ptr 1 0 0),(8,.int .i64 i),(9,.int .i64 (a2q all (D i) k).1),(10,.int .i64 (a2q all (D i) k).2),(11,.int .i64 k)]) (fun k=>[some (.row 4 [[sl c.nc (c.nodes.map Nd.enc),sl c.mc (c.names.map a1r),.nilslice,sl c.oc (c.outs.map a0d)]]),some (.row 3 [[.islice FA (some l.length),.islice CA (some l.length),.int .i64 ts.length]])]) (fun k=>ts.length - k) (fun k=>k ≤ ts.length) 0 ?_ (Nat.zero_le _) ?_
   ·(simp +decide only [go_sem,a01,a00]<;>rfl)<;>rfl
   ·intro k hk
    by_cases hkt:k < ts.length
    ·obtain ⟨p,hpk⟩:∃ p,ts[k]? = some p:=⟨_,List.getElem?_eq_getElem hkt⟩
     have d1:(k:Int) < ts.length:=by omega
     have hwk:=wI1 (n:=k) (by omega)
     have hpe:p.enc = [sl p.ic (p.ins.map u8R),sl p.sc (p.sts.map u8R)]:=rfl
     have hd:=fun (d:Bool) H=>hdt d H f (hf f (List.mem_of_getElem? hfi)) p (hp p (List.mem_of_getElem? hpk))
     rw [hfe,hpe,← hDv i k f p hfi hpk] at hd
     have hs:a2q all (D i) (k + 1) = if (a2q all (D i) k).2 < all ∧ D i k = true then (if (a2q all (D i) k).2 = 0 then (k:Int) else (a2q all (D i) k).1,(a2q all (D i) k).2 + 1) else a2q all (D i) k:=rfl
     have hcn:=b76 all (D i) k
     have hng:=c8e all (D i) k
     have hwc:IntKind.i64.wrap ((a2q all (D i) k).2 + 1) = (a2q all (D i) k).2 + 1:=w64 (by omega) (by omega)
     cases hb:D i k with
     | false=>
      rw [hb] at hd
      rw [hb,if_neg (fun h=>by cases h.2)] at hs
      (repeat first|simp only [ww]|(apply xa;simp +decide only [go_sem,d1,hlt,hkt,hfi,hfe,hpk,hpe,hd,hwk];rfl;kernel_rfl))
      refine a1w (k + 1) ?_ (by omega) (by omega)
      rw [hs]
      (simp +decide only [go_sem,a01,a00]<;>rfl)<;>rfl
     | true=>
      rw [hb] at hd
      rw [hb,if_pos ⟨by omega,rfl⟩] at hs
      by_cases h0:(a2q all (D i) k).1 < 0
      ·rw [if_pos (hng.1 h0)] at hs
       (repeat first|simp only [ww]|(apply xa;simp +decide only [go_sem,d1,hlt,hkt,hfi,hfe,hpk,hpe,hd,hwk,h0,hwc];rfl;kernel_rfl))
       refine a1w (k + 1) ?_ (by omega) (by omega)
       rw [hs]
       (simp +decide only [go_sem,a01,a00]<;>rfl)<;>rfl
      ·rw [if_neg (fun h=>h0 (hng.2 h))] at hs
       (repeat first|simp only [ww]|(apply xa;simp +decide only [go_sem,d1,hlt,hkt,hfi,hfe,hpk,hpe,hd,hwk,h0,hwc];rfl;kernel_rfl))
       refine a1w (k + 1) ?_ (by omega) (by omega)
       rw [hs]
       (simp +decide only [go_sem,a01,a00]<;>rfl)<;>rfl
    ·obtain rfl:k = ts.length:=by omega
     have d1:¬ (ts.length:Int) < ts.length:=by omega
     (repeat first|simp only [ww]|(apply xa;simp +decide only [go_sem,d1,hlt,hFl,hCl,g1,g2,hwi,List.length_map];rfl;kernel_rfl))
     refine a1w (i + 1) ?_ (by omega) (by omega)
     (simp +decide only [go_sem,a01,a00]<;>rfl)<;>rfl
  ·obtain rfl:i = l.length:=by omega
   have c1:¬ (l.length:Int) < l.length:=by omega
   (repeat first|simp only [ww]|(apply xa;simp +decide only [go_sem,c1,hlv,List.length_map];rfl;kernel_rfl))
   (apply fqb;simp +decide only [go_sem]<;>rfl)
end Go.MInst
