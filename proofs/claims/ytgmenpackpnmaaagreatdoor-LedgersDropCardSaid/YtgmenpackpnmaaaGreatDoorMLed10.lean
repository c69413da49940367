/- Part of a proof. No condition. -/
import Derived.Test.YtgmenpackpnmaaaGreatDoorMLb
set_option linter.unusedSimpArgs false
set_option linter.unusedVariables false
namespace Go.MInst
set_option maxHeartbeats 200000000
open Go.Proofs Go.Ax Go.Pc
set_option maxRecDepth 100000
/-- The law LedgersDrop: it answers true. -/
theorem lawDrop_ok (x:CaseX) (hx:x.ok) (most:Int) (hm0:-9223372036854775808 ≤ most) (hm2:most < 9223372036854775808):sem L.env Mf 6 [.agg x.enc,.int .i64 most] [] = some (.bool true,[]):=by
 obtain ⟨lr,tr,l,ts,hll,htl,hf,hp,hcase⟩:=c6a x hx
 have hw:(a80 x.c).cir.wf:=CX.wf _
 have hcase:=fun H=>hcase false H
 generalize (a80 x.c).cir = c at hf hp hcase hw
 obtain ⟨ord,hO⟩:=d7q c hw
 have hop:=hO.perm
 have hst:=c7y c hw ord hO
 obtain ⟨all,hall⟩:∃ all:Int,all = ts.length + 1:=⟨_,rfl⟩
 have hof:=fun H=>c8s (d:=false) H c hw lr tr l ts hll htl hf hp ord hop hst all hall
 have hdr:=fun H=>c1n (d:=false) H c hw lr tr l ts hll htl hf hp ord hop hst most hm2
 have hlv:=fun H=>c1l (d:=false) H
 generalize b5x c ord l ts = D at hof hdr
 have hce:c.enc = [sl c.nc (c.nodes.map Nd.enc),sl c.mc (c.names.map a3t),.nilslice,sl c.oc (c.outs.map a0k)]:=rfl
 rw [hce] at hcase hof hdr
 have hxe:x.enc = [.int .u8 x.c.inn,.int .u8 x.c.dffs,.int .u8 x.c.d0,.int .u8 x.c.d1,.bool x.c.bus,.bool x.c.mem,.int .u8 x.c.p0,.int .u8 x.c.p1,.int .u8 x.c.p2,.int .u8 x.c.p3,sl x.c.gc (x.c.gates.map GX.enc),sl x.c.oc (x.c.outs.map u8R),sl x.fr (x.fs.map FX.enc),sl x.pr (x.ps.map Pat.enc)]:=rfl
 rw [hxe] at hcase ⊢
 have hFl:∀ m,(a77 m D l.length fun _=>ts.length).length = l.length:=fun m=>rowF_len
 have hCl:∀ m,(a7z m D l.length fun _=>ts.length).length = l.length:=fun m=>a5j
 by_cases hm:most < 1
 ·simp only [if_pos hm] at hdr
  (refine sv Tryz.f6 ?_;simp only [Tryz.f6,gS])
  (repeat first|simp only [ww]|(apply xa;simp +decide only [go_sem,hcase,hof,hdr,hm,hlv];rfl;kernel_rfl))
  (apply fqb;simp +decide only [go_sem]<;>rfl)
 ·simp only [if_neg hm] at hdr
  have hdp:=fun i=>b9z (n:=most) (most:=all) (by omega) (D i) ts.length (by omega)
  have hsame:a77 most D l.length (fun _=>ts.length) = a77 all D l.length (fun _=>ts.length):=by
   unfold a77
   exact List.map_congr_left fun i _=>by rw [(hdp i).1]
  rw [hsame] at hdr
  have hin:=fun H=>c59 (d:=false) H (a77 all D l.length fun _=>ts.length) rowF_one (by rw [rowF_len];omega) l.length rowF_len.symm
  (refine sv Tryz.f6 ?_;simp only [Tryz.f6,gS])
  (repeat first|simp only [ww]|(apply xa;simp +decide only [go_sem,hcase,hof,hdr,hm,hlv,hFl,hCl,hin,List.length_map];rfl;kernel_rfl))
  have hFg:∀ i,i < l.length → (a77 all D l.length fun _=>ts.length)[i]? = some [AV.int .i64 (a21 all (D i) ts.length).1]:=fun i h=>b0k h
  have hCg:∀ i,i < l.length → (a7z all D l.length fun _=>ts.length)[i]? = some [AV.int .i64 (a21 all (D i) ts.length).2]:=fun i h=>a7s h
  have hMg:∀ i,i < l.length → (a7z most D l.length fun _=>ts.length)[i]? = some [AV.int .i64 (if most < (a21 all (D i) ts.length).2 then most else (a21 all (D i) ts.length).2)]:=fun i h=>by
   rw [a7s h,(hdp i).2]
   congr 4
   split<;>omega
  have hng:=fun i=>c4x all (D i) ts.length
  have hcn:=fun i=>a9r all (D i) ts.length
  have hFl:=hFl all
  have hCl1:=hCl all
  have hCl2:=hCl most
  generalize (a77 all D l.length fun _=>ts.length) = FA at hFg hFl ⊢
  generalize (a7z all D l.length fun _=>ts.length) = CA at hCg hCl1 ⊢
  generalize (a7z most D l.length fun _=>ts.length) = CM at hMg hCl2 ⊢
  refine a0q (m:=0) (σ:=Nat) kp6_0 (fun i=>[(1,.int .i64 most),(6,sl lr (l.map Flt.enc)),(8,.ptr 0 0 0),(10,.ptr 1 0 0),(12,.int .i64 i)])
   (fun i=>[some (.row 3 [[.islice FA (some l.length),.islice CA (some l.length),.int .i64 ts.length]]),some (.row 3 [[.islice FA (some l.length),.islice CM (some l.length),.int .i64 ts.length]])]) (fun i=>l.length - i) (fun i=>i ≤ l.length) 0 ?_ (Nat.zero_le _) ?_
  ·(simp +decide only [go_sem,a01,a00]<;>rfl)<;>rfl
  ·intro i hi
   by_cases hlt:i < l.length
   ·have d1:(i:Int) < l.length:=by omega
    have hwi:=wI1 (n:=i) (by omega)
    have g1:=hFg i hlt
    have g2:=hCg i hlt
    have g3:=hMg i hlt
    have g4:=hng i
    have g5:=hcn i
    generalize (a21 all (D i) ts.length).1 = a at g1 g4
    generalize (a21 all (D i) ts.length).2 = b at g2 g3 g4 g5
    by_cases hb:b = 0
    ·have ha:a < 0:=g4.2 hb
     have hb2:¬ most < 0:=by omega
     subst hb
     rw [if_neg hb2] at g3
     have hmi:(if most < 0 then most else 0) = 0:=if_neg hb2
     (repeat first|simp only [ww]|(apply xa;simp +decide only [go_sem,d1,hlt,hFl,hCl1,hCl2,g1,g2,g3,ha,hmi,hwi,c2k,List.length_map];rfl;kernel_rfl))
     refine a1k (i + 1) ?_ (by omega) (by omega)
     (simp +decide only [go_sem,a01,a00]<;>rfl)<;>rfl
    ·have ha:¬ a < 0:=fun h=>hb (g4.1 h)
     by_cases hb2:most < b
     ·have hm3:¬ most = 0:=by omega
      rw [if_pos hb2] at g3
      have hmi:(if most < b then most else b) = most:=if_pos hb2
      (repeat first|simp only [ww]|(apply xa;simp +decide only [go_sem,d1,hlt,hFl,hCl1,hCl2,g1,g2,g3,ha,hb,hmi,hm3,hwi,c2k,List.length_map];rfl;kernel_rfl))
      refine a1k (i + 1) ?_ (by omega) (by omega)
      (simp +decide only [go_sem,a01,a00]<;>rfl)<;>rfl
     ·rw [if_neg hb2] at g3
      have hmi:(if most < b then most else b) = b:=if_neg hb2
      (repeat first|simp only [ww]|(apply xa;simp +decide only [go_sem,d1,hlt,hFl,hCl1,hCl2,g1,g2,g3,ha,hb,hmi,hwi,c2k,List.length_map];rfl;kernel_rfl))
      refine a1k (i + 1) ?_ (by omega) (by omega)
      (simp +decide only [go_sem,a01,a00]<;>rfl)<;>rfl
   ·obtain rfl:i = l.length:=by omega
    have d1:¬ (l.length:Int) < l.length:=by omega
    (repeat first|simp only [ww]|(apply xa;simp +decide only [go_sem,d1,hlv,List.length_map];rfl;kernel_rfl))
    (apply fqb;simp +decide only [go_sem]<;>rfl)
end Go.MInst
