/- Part of a proof. No condition. -/
import Derived.Test.YtgmenpackpnmaaaGreatDoorMIn
set_option linter.unusedSimpArgs false
set_option linter.unusedVariables false
namespace Go.MInst
set_option maxHeartbeats 200000000
open Go.Proofs Go.Ax Go.Pc
set_option maxRecDepth 100000
def b4s (c:Cir) (ord:List Nat) (g:Hk Nat) (p:Pat):List Nat:=b1x nAlg c.nodes g ord (kinds c.nodes 0) (kinds c.nodes 14) p.ins p.sts
theorem d8t (c:Cir) (hc:c.wf) (hO:c.outs ≠ []) (p:Pat) (hp:PatOk c.nodes p) (ord:List Nat) (hord:OrdOf c ord) (net pin:AV) (g:Hk Nat) (h1:NetN net g.net) (h2:PinN pin g.pin) (hg:d5a g) :
 sem L.env Mf 45 [.ptr 0 0 0,.agg [sl p.ic (p.ins.map u8R),sl p.sc (p.sts.map u8R)]] [some (b1r c .nilslice net pin)] = some (b0r (a1p c.outs (b4s c ord g p)) (a7k c.nodes g (b4s c ord g p) (kinds c.nodes 14)),[some (b1r c .junk net pin)]):=by
 have hnl:=hc.len
 have hol:=hc.outl
 have hrm:c.nodes.length ≤ 1000000000:=by omega
 obtain ⟨r0,e3⟩:=a2g (kinds c.nodes 0)
 obtain ⟨r1,e4⟩:=a2g (kinds c.nodes 14)
 have hk0:=a37 c.nodes 0
 have hk14:=a37 c.nodes 14
 have hi:=fun (d:Bool) H=>a7n (d:=d) H c (by omega)
 have hs:=fun (d:Bool) H=>a5w (d:=d) H c (by omega)
 rw [e3] at hi
 rw [e4] at hs
 have ho:=hord.call
 simp only [Cir.enc] at hi hs ho
 have hor:∀ n ∈ ord,n < c.nodes.length:=fun n hn=>by have:=hord.perm.mem_iff.1 hn;simpa using this
 have hordl:ord.length = c.nodes.length:=by rw [hord.perm.length_eq];simp
 have hvi:=hp.ins
 have hvs:=hp.sts
 have n3:=h1.flat
 have p3:=h2.flat
 have n4:=h1.sto
 have p4:=h2.sto
 have e1:∀ π,ren π net = net:=fun π=>a1a π _ n3
 have e2:∀ π,ren π pin = pin:=fun π=>a1a π _ p3
 have hnc:=h1.call
 have hB:b4s c ord g p = ord.foldl (Pc.stepG nAlg c.nodes g) (a1i (a1i (List.replicate c.nodes.length 0) (kinds c.nodes 0) p.ins) (kinds c.nodes 14) p.sts):=rfl
 rw [hB]
 have hrp:(List.replicate c.nodes.length 0).map u8R = List.replicate c.nodes.length [AV.int .u8 0]:=by rw [List.map_replicate];rfl
 have hN1v:∀ v ∈ a1i (a1i (List.replicate c.nodes.length 0) (kinds c.nodes 0) p.ins) (kinds c.nodes 14) p.sts,v ≤ 3:=b36 _ _ _ (b36 _ _ _ (fun v hv=>by rw [List.eq_of_mem_replicate hv];omega) hp.inv) hp.stv
 suffices hss:∃ r:AV × a05,(r = (b0r (a1p c.outs (ord.foldl (Pc.stepG nAlg c.nodes g) (a1i (a1i (List.replicate c.nodes.length 0) (kinds c.nodes 0) p.ins) (kinds c.nodes 14) p.sts))) (a7k c.nodes g (ord.foldl (Pc.stepG nAlg c.nodes g) (a1i (a1i (List.replicate c.nodes.length 0) (kinds c.nodes 0) p.ins) (kinds c.nodes 14) p.sts)) (kinds c.nodes 14)),[some (b1r c .junk net pin)])) ∧ sem L.env Mf 45 [.ptr 0 0 0,.agg [sl p.ic (p.ins.map u8R),sl p.sc (p.sts.map u8R)]] [some (b1r c .nilslice net pin)] = some r by
  obtain ⟨r,rfl,h3⟩:=hss
  exact h3
 unfold b1r
 (refine svE Tryz.f45 ?_;simp only [Tryz.f45,gS])
 (repeat first|simp only [ww]|(apply xa;simp +decide only [go_sem,hrm,hs,hi,n4,p4];rfl;kernel_rfl))
 refine a0s (σ:=Nat) kp45_0 (fun i=>[(0,.ptr 0 0 0),(3,.ptr 2 0 0),(4,.ptr 3 0 0),(5,sl r1 ((kinds c.nodes 14).map a0d)),(41,sl r0 ((kinds c.nodes 0).map a0d)),(42,.int .i64 (kinds c.nodes 0).length),(43,.int .i64 i)])
  (fun i=>[some (.row 7 [[sl c.nc (c.nodes.map Nd.enc),sl c.mc (c.names.map a1r),.nilslice,sl c.oc (c.outs.map a0d),.slice 1 0 c.nodes.length (some c.nodes.length),net,pin]]),some (.row 1 ((a1i (List.replicate c.nodes.length 0) ((kinds c.nodes 0).take i) (p.ins.take i)).map u8R)),some (.row 2 [[sl p.ic (p.ins.map u8R),sl p.sc (p.sts.map u8R)]]),some (.row 2 [[.nilslice,.nilslice]])]) (fun i=>(kinds c.nodes 0).length - i) (fun i=>i ≤ (kinds c.nodes 0).length) 0 ?_ (Nat.zero_le _) ?_
 ·rw [List.take_zero,List.take_zero,show a1i (List.replicate c.nodes.length 0) [] [] = (List.replicate c.nodes.length 0) from rfl,hrp]
  (simp +decide only [go_sem,a01,a00,a2w,a2k,n3,p3,e1,e2]<;>rfl)<;>rfl
 ·intro i hi'
  have hll:=a2c ((kinds c.nodes 0).take i) (p.ins.take i) (List.replicate c.nodes.length 0)
  rw [List.length_replicate] at hll
  by_cases hlt:i < (kinds c.nodes 0).length
  ·obtain ⟨n,hn⟩:∃ n,(kinds c.nodes 0)[i]? = some n:=⟨_,List.getElem?_eq_getElem hlt⟩
   obtain ⟨w,hw⟩:∃ w,p.ins[i]? = some w:=⟨_,List.getElem?_eq_getElem (by omega)⟩
   have hnn:=(a4a hn).1
   have hst:=a5p (nets:=(List.replicate c.nodes.length 0)) hn hw
   have c1:(i:Int) < (kinds c.nodes 0).length:=by omega
   have hwi:=wI1 (n:=i) (by omega)
   have hiv:i < p.ins.length:=by omega
   generalize a1i (List.replicate c.nodes.length 0) ((kinds c.nodes 0).take i) (p.ins.take i) = N at hst hll
   obtain ⟨w0,hw0⟩:∃ w,N[n]? = some w:=⟨_,List.getElem?_eq_getElem (by omega)⟩
   have hsR:(N.map u8R).set n [AV.int .u8 w] = (N.set n w).map u8R:=by rw [List.map_set];rfl
   (repeat first|simp only [ww]|(apply xa;simp +decide only [go_sem,c1,hlt,hn,hw,hnn,hwi,hiv,hll,hw0,hsR];rfl;kernel_rfl))
   refine a1w (i + 1) ?_ (by omega) (by omega)
   rw [hst]
   (simp +decide only [go_sem,a01,a00,a2w,a2k,n3,p3,e1,e2]<;>rfl)<;>rfl
  have hie:i = (kinds c.nodes 0).length:=by omega
  subst hie
  have c1:¬ ((kinds c.nodes 0).length:Int) < (kinds c.nodes 0).length:=by omega
  rw [List.take_length,List.take_of_length_le (by omega)] at hll ⊢
  generalize a1i (List.replicate c.nodes.length 0) (kinds c.nodes 0) p.ins = N0 at hll hN1v ⊢
  have hNl:=hll
  clear hll
  (repeat first|simp only [ww]|(apply xa;simp +decide only [go_sem,c1];rfl;kernel_rfl))
  refine a0s (σ:=Nat) kp45_2 (fun i=>[(0,.ptr 0 0 0),(3,.ptr 2 0 0),(4,.ptr 3 0 0),(5,sl r1 ((kinds c.nodes 14).map a0d)),(60,sl r1 ((kinds c.nodes 14).map a0d)),(61,.int .i64 (kinds c.nodes 14).length),(62,.int .i64 i)])
   (fun i=>[some (.row 7 [[sl c.nc (c.nodes.map Nd.enc),sl c.mc (c.names.map a1r),.nilslice,sl c.oc (c.outs.map a0d),.slice 1 0 c.nodes.length (some c.nodes.length),net,pin]]),some (.row 1 ((a1i N0 ((kinds c.nodes 14).take i) (p.sts.take i)).map u8R)),some (.row 2 [[sl p.ic (p.ins.map u8R),sl p.sc (p.sts.map u8R)]]),some (.row 2 [[.nilslice,.nilslice]])]) (fun i=>(kinds c.nodes 14).length - i) (fun i=>i ≤ (kinds c.nodes 14).length) 0 ?_ (Nat.zero_le _) ?_
  ·rw [List.take_zero,List.take_zero,show a1i N0 [] [] = N0 from rfl]
   (simp +decide only [go_sem,a01,a00,a2w,a2k,n3,p3,e1,e2]<;>rfl)<;>rfl
  ·intro i hi'
   have hll:=a2c ((kinds c.nodes 14).take i) (p.sts.take i) N0
   rw [hNl] at hll
   by_cases hlt:i < (kinds c.nodes 14).length
   ·obtain ⟨n,hn⟩:∃ n,(kinds c.nodes 14)[i]? = some n:=⟨_,List.getElem?_eq_getElem hlt⟩
    obtain ⟨w,hw⟩:∃ w,p.sts[i]? = some w:=⟨_,List.getElem?_eq_getElem (by omega)⟩
    have hnn:=(a4a hn).1
    have hst:=a5p (nets:=N0) hn hw
    have c1:(i:Int) < (kinds c.nodes 14).length:=by omega
    have hwi:=wI1 (n:=i) (by omega)
    have hiv:i < p.sts.length:=by omega
    generalize a1i N0 ((kinds c.nodes 14).take i) (p.sts.take i) = N at hst hll
    obtain ⟨w0,hw0⟩:∃ w,N[n]? = some w:=⟨_,List.getElem?_eq_getElem (by omega)⟩
    have hsR:(N.map u8R).set n [AV.int .u8 w] = (N.set n w).map u8R:=by rw [List.map_set];rfl
    (repeat first|simp only [ww]|(apply xa;simp +decide only [go_sem,c1,hlt,hn,hw,hnn,hwi,hiv,hll,hw0,hsR];rfl;kernel_rfl))
    refine a1w (i + 1) ?_ (by omega) (by omega)
    rw [hst]
    (simp +decide only [go_sem,a01,a00,a2w,a2k,n3,p3,e1,e2]<;>rfl)<;>rfl
   have hie:i = (kinds c.nodes 14).length:=by omega
   subst hie
   have c1:¬ ((kinds c.nodes 14).length:Int) < (kinds c.nodes 14).length:=by omega
   rw [List.take_length,List.take_of_length_le (by omega)] at hll ⊢
   generalize a1i N0 (kinds c.nodes 14) p.sts = N1 at hll hN1v ⊢
   have hNl1:=hll
   clear hll
   (repeat first|simp only [ww]|(apply xa;simp +decide only [go_sem,c1,ho];rfl;kernel_rfl))
   refine a30 kp45_4 (fun n F H=>∃ i,n = ord.length - i ∧ i ≤ ord.length ∧ (∀ v ∈ (ord.take i).foldl (Pc.stepG nAlg c.nodes g) N1,v ≤ 3) ∧ F = [(0,.ptr 0 0 0),(4,.ptr 2 0 0),(5,sl r1 ((kinds c.nodes 14).map a0d)),(12,.func (.func 75) [.ptr 0 0 0] []),(89,.islice (ord.map a0d) (some c.nodes.length)),(90,.int .i64 ord.length),(91,.int .i64 i)] ∧ H = [some (.row 7 [[sl c.nc (c.nodes.map Nd.enc),sl c.mc (c.names.map a1r),.nilslice,sl c.oc (c.outs.map a0d),.slice 1 0 c.nodes.length (some c.nodes.length),net,pin]]),some (.row 1 (((ord.take i).foldl (Pc.stepG nAlg c.nodes g) N1).map u8R)),some (.row 2 [[.nilslice,.nilslice]])]) ord.length ?_ ?_
   ·refine ⟨_,_,?_,0,rfl,Nat.zero_le _,by rw [List.take_zero];exact hN1v,rfl,rfl⟩
    rw [List.take_zero,List.foldl_nil]
    (simp +decide only [go_sem,a01,a00,a2w,a2k,n3,p3,e1,e2]<;>rfl)<;>rfl
   ·rintro n F H ⟨i,rfl,hi2,hNv,rfl,rfl⟩
    have hll:=a8w (A:=nAlg) (nodes:=c.nodes) (h:=g) (ord.take i) N1
    rw [hNl1] at hll
    by_cases hlt:i < ord.length
    ·obtain ⟨n,hn⟩:∃ n,ord[i]? = some n:=⟨_,List.getElem?_eq_getElem hlt⟩
     have hnn:=hor n (List.mem_of_getElem? hn)
     obtain ⟨x,hx⟩:∃ x,c.nodes[n]? = some x:=⟨_,List.getElem?_eq_getElem hnn⟩
     have hxm:=List.mem_of_getElem? hx
     have k14:=hc.kind x hxm
     have hka:=a15 hx
     have hst:=b3q (A:=nAlg) (nodes:=c.nodes) (h:=g) (nets:=N1) hn
     have c1:(i:Int) < ord.length:=by omega
     have hwi:=wI1 (n:=i) (by omega)
     generalize (ord.take i).foldl (Pc.stepG nAlg c.nodes g) N1 = N at hst hll hNv
     have hstv:∀ v ∈ Pc.stepG nAlg c.nodes g N n,v ≤ 3:=c6g hg hNv n
     obtain ⟨w0,hw0⟩:∃ w,N[n]? = some w:=⟨_,List.getElem?_eq_getElem (by omega)⟩
     by_cases hk:x.kind ≠ 0 ∧ x.kind ≠ 14
     ·have c2:¬ (x.kind:Int) = 0:=by omega
      have c3:¬ (x.kind:Int) = 14:=by omega
      have hRv:∀ v ∈ a0p nAlg c.nodes g N n,v ≤ 3:=fun v hv=>c2h hg hNv n _ _ v hv
      have hev:=fun (d:Bool) (R:a05)=>c4w (d:=d) R c hc net pin g n3 h2 N hll n hnn hRv
      unfold b1r at hev
      have hstep:Pc.stepG nAlg c.nodes g N n = N.set n (g.net n (nAlg.ev (a0q c.nodes n) (a0p nAlg c.nodes g N n))):=by unfold Pc.stepG;rw [hka,if_pos hk]
      rw [hstep] at hst hstv
      generalize nAlg.ev (a0q c.nodes n) (a0p nAlg c.nodes g N n) = w at hev hst hstv
      have hsR:(N.map u8R).set n [AV.int .u8 w] = (N.set n w).map u8R:=by rw [List.map_set];rfl
      have hw1:(N.set n w)[n]? = some w:=by rw [List.getElem?_set];simp;omega
      have hlw:(N.set n w).length = c.nodes.length:=by rw [List.length_set];exact hll
      have hs2:((N.set n w).map u8R).set n [AV.int .u8 (g.net n w)] = (N.set n (g.net n w)).map u8R:=by
       have e:(N.set n (g.net n w)) = (N.set n w).set n (g.net n w):=(List.set_set ..).symm
       rw [e,List.map_set (l:=N.set n w)];rfl
      (repeat first|simp only [ww]|(apply xa;simp +decide only [go_sem,c1,hlt,hn,hnn,hx,c2,c3,hev,hll,hw0,hsR,hw1,hlw,hnc,hs2,hwi];rfl;kernel_rfl))
      refine a17 (ord.length - (i + 1)) (by omega) ⟨_,_,?_,i + 1,rfl,hlt,by rw [hst];exact hstv,rfl,rfl⟩
      rw [hst]
      (simp +decide only [go_sem,a01,a00,a2w,a2k,n3,p3,e1,e2]<;>rfl)<;>rfl
     ·have hstep:Pc.stepG nAlg c.nodes g N n = N.set n (g.net n w0):=by
       unfold Pc.stepG;rw [hka,if_neg hk,List.getD,hw0];rfl
      rw [hstep] at hst hstv
      have hs2:(N.map u8R).set n [AV.int .u8 (g.net n w0)] = (N.set n (g.net n w0)).map u8R:=by rw [List.map_set];rfl
      have hkc:x.kind = 0 ∨ x.kind = 14:=by omega
      rcases hkc with hkc|hkc
      ·have c2:(x.kind:Int) = 0:=by omega
       (repeat first|simp only [ww]|(apply xa;simp +decide only [go_sem,c1,hlt,hn,hnn,hx,c2,hll,hw0,hnc,hs2,hwi];rfl;kernel_rfl))
       refine a17 (ord.length - (i + 1)) (by omega) ⟨_,_,?_,i + 1,rfl,hlt,by rw [hst];exact hstv,rfl,rfl⟩
       rw [hst]
       (simp +decide only [go_sem,a01,a00,a2w,a2k,n3,p3,e1,e2]<;>rfl)<;>rfl
      ·have c3:(x.kind:Int) = 14:=by omega
       (repeat first|simp only [ww]|(apply xa;simp +decide only [go_sem,c1,hlt,hn,hnn,hx,c3,hll,hw0,hnc,hs2,hwi];rfl;kernel_rfl))
       refine a17 (ord.length - (i + 1)) (by omega) ⟨_,_,?_,i + 1,rfl,hlt,by rw [hst];exact hstv,rfl,rfl⟩
       rw [hst]
       (simp +decide only [go_sem,a01,a00,a2w,a2k,n3,p3,e1,e2]<;>rfl)<;>rfl
    ·obtain rfl:i = ord.length:=by omega
     have c1:¬ (ord.length:Int) < ord.length:=by omega
     rw [List.take_length] at hll hNv ⊢
     clear hN1v hNl1
     generalize ord.foldl (Pc.stepG nAlg c.nodes g) N1 = nets at hll hNv ⊢
     have hNf:=a2h nets
     have m1:=a06 hNf
     have m2:=fun π=>a04 π hNf
     have hrd:=fun (d:Bool) (R:a05) (n:Nat) (hn:n < c.nodes.length)=>b3i (d:=d) R c hc net pin g n3 h2 nets hll n hn
     unfold b1r at hrd
     (repeat first|simp only [ww]|(apply xa;simp +decide only [go_sem,c1];rfl;kernel_rfl))
     generalize hNR:nets.map u8R = NR at hrd hNf m1 m2
     refine a30 kp45_6 (fun n F H=>∃ i,n = c.outs.length - i ∧ i ≤ c.outs.length ∧ F = [(0,.ptr 0 0 0),(4,.ptr 2 0 0),(5,sl r1 ((kinds c.nodes 14).map a0d)),(16,.ptr 3 0 0),(143,sl c.oc (c.outs.map a0d)),(144,.int .i64 c.outs.length),(145,.int .i64 i)] ∧ H = [some (.row 7 [[sl c.nc (c.nodes.map Nd.enc),sl c.mc (c.names.map a1r),.nilslice,sl c.oc (c.outs.map a0d),.slice 1 0 c.nodes.length (some c.nodes.length),net,pin]]),some (.row 1 NR),some (.row 2 [[.nilslice,.nilslice]]),some (.row 2 [[grV 4 ((a1p (c.outs.take i) nets).map u8R),.nilslice]])] ++ grH 1 ((a1p (c.outs.take i) nets).map u8R)) c.outs.length ?_ ?_
     ·refine ⟨_,_,?_,0,rfl,Nat.zero_le _,rfl,rfl⟩
      rw [List.take_zero,show a1p [] nets = [] from rfl]
      (simp +decide only [go_sem,a01,a00,a0f,a0g,List.map_nil,m1,m2,n3,p3,e1,e2]<;>rfl)<;>rfl
     ·rintro n F H ⟨i,rfl,hi3,rfl,rfl⟩
      have hTl:((a1p (c.outs.take i) nets).map u8R).length = i:=by simp [a1p];omega
      have hTf:=a2h (a1p (c.outs.take i) nets)
      by_cases hlt:i < c.outs.length
      ·obtain ⟨o,hoo⟩:∃ o,c.outs[i]? = some o:=⟨_,List.getElem?_eq_getElem hlt⟩
       have hon:=hc.outs o (List.mem_of_getElem? hoo)
       obtain ⟨v,hnv⟩:∃ v,nets[o]? = some v:=⟨_,List.getElem?_eq_getElem (by omega)⟩
       have hNRo:NR[o]? = some [AV.int .u8 v]:=by rw [← hNR,List.getElem?_map,hnv];rfl
       have hNRl:NR.length = c.nodes.length:=by rw [← hNR,List.length_map];exact hll
       have c1:(i:Int) < c.outs.length:=by omega
       have hwi:=wI1 (n:=i) (by omega)
       have hT2:(a1p (c.outs.take (i + 1)) nets).map u8R = (a1p (c.outs.take i) nets).map u8R ++ [[.int .u8 v]]:=by
        unfold a1p
        rw [a0z hoo,List.map_append,List.map_append]
        simp only [List.map_cons,List.map_nil,List.getD,hnv,Option.getD_some]
        rfl
       generalize (a1p (c.outs.take i) nets).map u8R = T at hTl hTf hT2
       have h1':=a06 hTf
       have h2':=fun π=>a04 π hTf
       cases T with
       | nil=>
        (repeat first|simp only [ww]|(apply xa;simp +decide only [go_sem,c1,hlt,hoo,hon,hNRo,hNRl,hwi,a0f,a0g];rfl;kernel_rfl))
        refine a17 (c.outs.length - (i + 1)) (by omega) ⟨_,_,?_,i + 1,rfl,hlt,rfl,rfl⟩
        rw [hT2]
        (simp +decide only [go_sem,a01,a00,a07,a08,List.nil_append,List.length_nil,m1,m2,n3,p3,e1,e2]<;>rfl)<;>rfl
       | cons a r=>
        simp only [List.length_cons] at hTl
        have hrm:r.length + 1 + 1 ≤ 1000000000:=by omega
        simp only [List.flatMap_cons] at h1'
        simp only [List.map_cons,List.cons.injEq] at h2'
        (repeat first|simp only [ww]|(apply xa;simp +decide only [go_sem,c1,hlt,hoo,hon,hNRo,hNRl,hwi,a07,a08,hrm];rfl;kernel_rfl))
        refine a17 (c.outs.length - (i + 1)) (by omega) ⟨_,_,?_,i + 1,rfl,hlt,rfl,rfl⟩
        rw [hT2]
        (simp +decide only [go_sem,a01,a00,a07,a08,List.cons_append,h1',h2',m1,m2,n3,p3,e1,e2]<;>rfl)<;>rfl
      ·obtain rfl:i = c.outs.length:=by omega
       have c1:¬ (c.outs.length:Int) < c.outs.length:=by omega
       rw [List.take_length] at hTl hTf ⊢
       have hOl:0 < c.outs.length:=List.length_pos_iff.2 hO
       have hTc:a5d (a1p c.outs nets) = .islice ((a1p c.outs nets).map u8R) (some c.outs.length):=by
        have hol2:(a1p c.outs nets).length = c.outs.length:=by simp [a1p]
        cases hoN:a1p c.outs nets with
        | nil=>rw [hoN] at hol2;simp at hol2;omega
        | cons v q=>rw [hoN] at hol2;simp only [List.length_cons] at hol2;rw [← hol2];rfl
       unfold b0r
       rw [hTc]
       generalize (a1p c.outs nets).map u8R = T at hTl hTf
       cases T with
       | nil=>simp at hTl;omega
       | cons a r=>
        have hal:r.length + 1 = c.outs.length:=by simpa using hTl
        have h1':=a06 hTf
        have h2':=fun π=>a04 π hTf
        have h3':=fun (m:Nat) (q:AV → Option AV)=>a0r m q hTf
        simp only [List.flatMap_cons] at h1'
        simp only [List.map_cons,List.cons.injEq] at h2'
        have hNl:(a7k c.nodes g nets (kinds c.nodes 14)).length = (kinds c.nodes 14).length:=by simp [a7k]
        have hNg:∀ (i q:Nat),(kinds c.nodes 14)[i]? = some q → (a7k c.nodes g nets (kinds c.nodes 14))[i]? = some (if (a0p nAlg c.nodes g nets q).getD 0 0 = 3 then 2 else (a0p nAlg c.nodes g nets q).getD 0 0):=by
         intro i q hq;unfold a7k;rw [List.getElem?_map,hq];rfl
        generalize hXX:a7k c.nodes g nets (kinds c.nodes 14) = XX at hNl hNg ⊢
        (repeat first|simp only [ww]|(apply xa;simp +decide only [go_sem,c1,a07,a08];rfl;kernel_rfl))
        refine a30 kp45_8 (fun n F H=>∃ i,n = (kinds c.nodes 14).length - i ∧ i ≤ (kinds c.nodes 14).length ∧ F = [(0,.ptr 0 0 0),(4,.ptr 2 0 0),(16,.ptr 3 0 0),(162,sl r1 ((kinds c.nodes 14).map a0d)),(163,.int .i64 (kinds c.nodes 14).length),(164,.int .i64 i)] ∧ H = [some (.row 7 [[sl c.nc (c.nodes.map Nd.enc),sl c.mc (c.names.map a1r),.nilslice,sl c.oc (c.outs.map a0d),.slice 1 0 c.nodes.length (some c.nodes.length),net,pin]]),some (.row 1 NR),some (.row 2 [[.nilslice,.nilslice]]),some (.row 2 [[.slice 4 0 (r.length + 1) none,grV 5 ((XX.take i).map u8R)]]),some (.row 1 (a :: r))] ++ grH 1 ((XX.take i).map u8R)) (kinds c.nodes 14).length ?_ ?_
        ·refine ⟨_,_,?_,0,rfl,Nat.zero_le _,rfl,rfl⟩
         rw [List.take_zero]
         (simp +decide only [go_sem,a01,a00,a0f,a0g,List.map_nil,m1,m2,h1',h2',n3,p3,e1,e2]<;>rfl)<;>rfl
        ·rintro n F H ⟨i,rfl,hi4,rfl,rfl⟩
         have hXl:((XX.take i).map u8R).length = i:=by simp;omega
         have hXf:=a2h (XX.take i)
         by_cases hlt:i < (kinds c.nodes 14).length
         ·obtain ⟨q,hq⟩:∃ q,(kinds c.nodes 14)[i]? = some q:=⟨_,List.getElem?_eq_getElem hlt⟩
          obtain ⟨hqn,hqk⟩:=a4a hq
          obtain ⟨x,hx⟩:∃ x,c.nodes[q]? = some x:=⟨_,List.getElem?_eq_getElem hqn⟩
          have hxk:x.kind = 14:=by rw [← a15 hx];exact hqk
          have hx1:x.ins.length = 1:=by
           have h1:=hc.lo x (List.mem_of_getElem? hx)
           have h2:=hc.hi x (List.mem_of_getElem? hx)
           rw [hxk] at h1 h2
           have e1:a1m 14 = 1:=rfl
           have e2:a1n 14 = 1:=rfl
           omega
          have hRl:(a0p nAlg c.nodes g nets q).length = 1:=by rw [a3t,a1l hx];exact hx1
          have hNgq:=hNg i q hq
          have hrq:=fun (d:Bool) (R:a05)=>hrd d R q hqn
          generalize a0p nAlg c.nodes g nets q = RR at hRl hNgq hrq
          obtain ⟨v,hRR⟩:∃ v,RR = [v]:=by
           cases RR with
           | nil=>simp at hRl
           | cons v l=>cases l with
            | nil=>exact ⟨v,rfl⟩
            | cons=>simp at hRl
          subst hRR
          simp only [List.getD_cons_zero] at hNgq
          have hX2:(XX.take (i + 1)).map u8R = (XX.take i).map u8R ++ [[.int .u8 (if v = 3 then 2 else v:Nat)]]:=by
           rw [a0z hNgq,List.map_append];rfl
          have c1:(i:Int) < (kinds c.nodes 14).length:=by omega
          have hwi:=wI1 (n:=i) (by omega)
          have hr0:Ax.rowAt ([v].map u8R) 0 = some [AV.int .u8 v]:=rfl
          have hrq:∀ (d:Bool) (R:a05),_ = some (sl none ([v].map u8R),_,_):=hrq
          generalize (XX.take i).map u8R = X at hXl hXf hX2
          generalize [v].map u8R = RV at hr0 hrq
          have g1':=a06 hXf
          have g2':=fun π=>a04 π hXf
          by_cases hv3:v = 3
          ·rw [if_pos hv3] at hX2
           have c3:(v:Int) = 3:=by omega
           cases X with
           | nil=>
            (repeat first|simp only [ww]|(apply xa;simp +decide only [go_sem,c1,hlt,hq,hrq,hr0,c3,hwi,a0f,a0g];rfl;kernel_rfl))
            refine a17 ((kinds c.nodes 14).length - (i + 1)) (by omega) ⟨_,_,?_,i + 1,rfl,hlt,rfl,rfl⟩
            rw [hX2]
            (simp +decide only [go_sem,a01,a00,a07,a08,List.nil_append,List.length_nil,m1,m2,h1',h2',n3,p3,e1,e2]<;>rfl)<;>rfl
           | cons a2 r2=>
            simp only [List.length_cons] at hXl
            have hrm:r2.length + 1 + 1 ≤ 1000000000:=by omega
            simp only [List.flatMap_cons] at g1'
            simp only [List.map_cons,List.cons.injEq] at g2'
            (repeat first|simp only [ww]|(apply xa;simp +decide only [go_sem,c1,hlt,hq,hrq,hr0,c3,hwi,a07,a08,hrm];rfl;kernel_rfl))
            refine a17 ((kinds c.nodes 14).length - (i + 1)) (by omega) ⟨_,_,?_,i + 1,rfl,hlt,rfl,rfl⟩
            rw [hX2]
            (simp +decide only [go_sem,a01,a00,a07,a08,List.cons_append,g1',g2',m1,m2,h1',h2',n3,p3,e1,e2]<;>rfl)<;>rfl
          ·rw [if_neg hv3] at hX2
           have c3:¬ (v:Int) = 3:=by omega
           cases X with
           | nil=>
            (repeat first|simp only [ww]|(apply xa;simp +decide only [go_sem,c1,hlt,hq,hrq,hr0,c3,hwi,a0f,a0g];rfl;kernel_rfl))
            refine a17 ((kinds c.nodes 14).length - (i + 1)) (by omega) ⟨_,_,?_,i + 1,rfl,hlt,rfl,rfl⟩
            rw [hX2]
            (simp +decide only [go_sem,a01,a00,a07,a08,List.nil_append,List.length_nil,m1,m2,h1',h2',n3,p3,e1,e2]<;>rfl)<;>rfl
           | cons a2 r2=>
            simp only [List.length_cons] at hXl
            have hrm:r2.length + 1 + 1 ≤ 1000000000:=by omega
            simp only [List.flatMap_cons] at g1'
            simp only [List.map_cons,List.cons.injEq] at g2'
            (repeat first|simp only [ww]|(apply xa;simp +decide only [go_sem,c1,hlt,hq,hrq,hr0,c3,hwi,a07,a08,hrm];rfl;kernel_rfl))
            refine a17 ((kinds c.nodes 14).length - (i + 1)) (by omega) ⟨_,_,?_,i + 1,rfl,hlt,rfl,rfl⟩
            rw [hX2]
            (simp +decide only [go_sem,a01,a00,a07,a08,List.cons_append,g1',g2',m1,m2,h1',h2',n3,p3,e1,e2]<;>rfl)<;>rfl
         ·obtain rfl:i = (kinds c.nodes 14).length:=by omega
          have c1:¬ ((kinds c.nodes 14).length:Int) < (kinds c.nodes 14).length:=by omega
          have hcp:=fun (d:Bool) (x0 x1 x2 x3:Option AObj) (R:a05)=>a8y (d:=d) (H:=x0 :: x1 :: x2 :: x3 :: some (.row 1 (a :: r)) :: R) (b:=4) (n:=r.length + 1) hTf rfl
          rw [List.take_of_length_le (by omega)] at hXl hXf ⊢
          cases XX with
          | nil=>
           have hcn:=fun (d:Bool) (H:a05)=>b44 (d:=d) H
           (repeat first|simp only [ww]|(apply xa;simp +decide only [go_sem,c1,hcp,hcn,List.map_nil,a0f,a0g];rfl;kernel_rfl))
           refine a2s (vs:=[.agg [.slice 4 0 (r.length + 1) (some (r.length + 1)),.nilslice]]) (r:=(_,_)) (by simp +decide only [go_sem]) ?_ rfl
           show a1v false 1 (.agg [.slice 4 0 (r.length + 1) (some (r.length + 1)),.nilslice]) _ = _
           have htk:List.take (r.length + 1) (a :: r) = a :: r:=List.take_length (l:=a :: r)
           rw [← hal]
           unfold a5d
           simp +decide only [go_sem,h3',m2,htk,e1,e2]<;>rfl
          | cons a2 r2=>
           have hcp2:=fun (d:Bool) (x0 x1 x2 x3 x4:Option AObj)=>a8y (d:=d) (H:=[x0,x1,x2,x3,x4,some (.row 1 ((a2 :: r2).map u8R))]) (b:=5) (n:=r2.length + 1) hXf rfl
           have g3':=fun (m:Nat) (q:AV → Option AV)=>a0r m q hXf
           have hml:(r2.map u8R).length = r2.length:=List.length_map ..
           simp only [List.map_cons,u8R] at hcp2 g3' hXf ⊢
           (repeat first|simp only [ww]|(apply xa;simp +decide only [go_sem,c1,hcp,hcp2,a07,a08,hml];rfl;kernel_rfl))
           refine a2s (vs:=[.agg [.slice 4 0 (r.length + 1) (some (r.length + 1)),.slice 5 0 (r2.length + 1) (some (r2.length + 1))]]) (r:=(_,_)) (by simp +decide only [go_sem]) ?_ rfl
           show a1v false 1 (.agg [.slice 4 0 (r.length + 1) (some (r.length + 1)),.slice 5 0 (r2.length + 1) (some (r2.length + 1))]) _ = _
           have htk:List.take (r.length + 1) (a :: r) = a :: r:=List.take_length (l:=a :: r)
           have htk2:List.take (r2.length + 1) ([AV.int .u8 a2] :: r2.map u8R) = [AV.int .u8 a2] :: r2.map u8R:=List.take_of_length_le (by simp)
           rw [← hal]
           unfold a5d
           simp only [List.map_cons,u8R]
           simp +decide only [go_sem,h3',g3',m2,htk,htk2,e1,e2]<;>rfl
set_option maxHeartbeats 200000000
open Go.Proofs Go.Ax Go.Pc
set_option maxRecDepth 100000
def a71:Nat → List Nat → List Nat → List Nat
 | i,x :: xs,y :: ys=>if con x y then i :: a71 (i + 1) xs ys else a71 (i + 1) xs ys
 | _,_,_=>[]
theorem b6q:∀ (i:Nat) (a b:List Nat),decide (0 < (a71 i a b).length) = b1t a b
 | i,[],b=>by cases b<;>rfl
 | i,x :: xs,[]=>rfl
 | i,x :: xs,y :: ys=>by
  have ih:=b6q (i + 1) xs ys
  by_cases h:con x y = true
  ·have e:a71 i (x :: xs) (y :: ys) = i :: a71 (i + 1) xs ys:=by simp [a71,h]
   rw [show b1t (x :: xs) (y :: ys) = (con x y || b1t xs ys) from rfl,h,Bool.true_or,decide_eq_true_eq,e]
   simp
  ·have h:con x y = false:=by simpa using h
   have e:a71 i (x :: xs) (y :: ys) = a71 (i + 1) xs ys:=by simp [a71,h]
   rw [show b1t (x :: xs) (y :: ys) = (con x y || b1t xs ys) from rfl,h,Bool.false_or,← ih]
   exact congrArg (fun l:List Nat=>decide (0 < l.length)) e
theorem b8o:∀ (i:Nat) (a b:List Nat) (x y:Nat),a.length = b.length → a71 i (a ++ [x]) (b ++ [y]) = if con x y then a71 i a b ++ [i + a.length] else a71 i a b
 | i,[],[],x,y,_=>by simp [a71]
 | i,[],_ :: _,_,_,h=>by simp at h
 | i,_ :: _,[],_,_,h=>by simp at h
 | i,u :: a,v :: b,x,y,h=>by
  simp only [List.cons_append,a71]
  have:=b8o (i + 1) a b x y (by simpa using h)
  rw [this]
  have e:i + (u :: a).length = i + 1 + a.length:=by simp;omega
  rw [e]
  cases con x y<;>cases con u v<;>simp
theorem b6p:∀ (i:Nat) (a b:List Nat),(a71 i a b).length ≤ a.length
 | i,[],b=>by cases b<;>simp [a71]
 | i,x :: xs,[]=>by simp [a71]
 | i,x :: xs,y :: ys=>by
  simp only [a71]
  have:=b6p (i + 1) xs ys
  split<;>simp<;>omega
theorem d47 (ra rb:Rep) (a b:List Nat) (hab:a.length = b.length) (hl:a.length ≤ 1000):sem L.env Mf 78 [sl ra (a.map u8R),sl rb (b.map u8R)] [] = some (b4j (a71 0 a b),[]):=by
 have hmn:d0l (.int .i64 (b.length:Nat)) [.int .i64 (b.length:Nat)] = some (.int .i64 (b.length:Nat)):=by simp [d0l]
 suffices hs:∃ r:AV × a05,(r = (b4j (a71 0 a b),[])) ∧ sem L.env Mf 78 [sl ra (a.map u8R),sl rb (b.map u8R)] [] = some r by
  obtain ⟨r,rfl,h3⟩:=hs
  exact h3
 (refine svE Tryz.f78 ?_;simp only [Tryz.f78,gS])
 (repeat first|simp only [ww]|(apply xa;simp +decide only [go_sem,hab,hmn];rfl;kernel_rfl))
 refine a30 kp78_0 (fun n F H=>∃ i,n = b.length - i ∧ i ≤ b.length ∧ F = [(0,sl ra (a.map u8R)),(1,sl rb (b.map u8R)),(5,grV 0 ((a71 0 (a.take i) (b.take i)).map a0d)),(11,.int .i64 b.length),(12,.int .i64 i)] ∧ H = grH 1 ((a71 0 (a.take i) (b.take i)).map a0d)) b.length ?_ ?_
 ·refine ⟨_,_,?_,0,rfl,Nat.zero_le _,rfl,rfl⟩
  rw [List.take_zero,List.take_zero,show a71 0 [] [] = [] from rfl]
  (simp +decide only [go_sem,a01,a00,a0f,a0g,List.map_nil]<;>rfl)<;>rfl
 ·rintro n F H ⟨i,rfl,hi,rfl,rfl⟩
  have hTf:=a2z (a71 0 (a.take i) (b.take i))
  by_cases hlt:i < b.length
  ·obtain ⟨x,hx⟩:∃ x,a[i]? = some x:=⟨_,List.getElem?_eq_getElem (by omega)⟩
   obtain ⟨y,hy⟩:∃ y,b[i]? = some y:=⟨_,List.getElem?_eq_getElem hlt⟩
   have c1:(i:Int) < b.length:=by omega
   have hwi:=wI1 (n:=i) (by omega)
   have hla:i < a.length:=by omega
   have hsn:=b8o 0 (a.take i) (b.take i) x y (by simp;omega)
   rw [← a0z hx,← a0z hy,List.length_take,Nat.min_eq_left (by omega),Nat.zero_add] at hsn
   have hTl:((a71 0 (a.take i) (b.take i)).map a0d).length ≤ 1000:=by
    have:=b6p 0 (a.take i) (b.take i)
    rw [List.length_take] at this
    rw [List.length_map];omega
   by_cases hc:x ≤ 1 ∧ y ≤ 1 ∧ x ≠ y
   ·have d1:(x:Int) ≤ 1:=by omega
    have d2:(y:Int) ≤ 1:=by omega
    have d3:¬ (x:Int) = y:=by omega
    rw [if_pos (by simp [con,hc.1,hc.2.1,hc.2.2])] at hsn
    have hT2:(a71 0 (a.take (i + 1)) (b.take (i + 1))).map a0d = (a71 0 (a.take i) (b.take i)).map a0d ++ [[.int .i64 i]]:=by rw [hsn,List.map_append];rfl
    generalize (a71 0 (a.take i) (b.take i)).map a0d = T at hTl hTf hT2
    have h1':=a06 hTf
    have h2':=fun π=>a04 π hTf
    cases T with
    | nil=>
     (repeat first|simp only [ww]|(apply xa;simp +decide only [go_sem,c1,hlt,hla,hx,hy,d1,d2,d3,hwi,a0f,a0g];rfl;kernel_rfl))
     refine a17 (b.length - (i + 1)) (by omega) ⟨_,_,?_,i + 1,rfl,hlt,rfl,rfl⟩
     rw [hT2]
     (simp +decide only [go_sem,a01,a00,a07,a08,List.nil_append,List.length_nil]<;>rfl)<;>rfl
    | cons u r=>
     simp only [List.length_cons] at hTl
     have hrm:r.length + 1 + 1 ≤ 1000000000:=by omega
     simp only [List.flatMap_cons] at h1'
     simp only [List.map_cons,List.cons.injEq] at h2'
     (repeat first|simp only [ww]|(apply xa;simp +decide only [go_sem,c1,hlt,hla,hx,hy,d1,d2,d3,hwi,a07,a08,hrm];rfl;kernel_rfl))
     refine a17 (b.length - (i + 1)) (by omega) ⟨_,_,?_,i + 1,rfl,hlt,rfl,rfl⟩
     rw [hT2]
     (simp +decide only [go_sem,a01,a00,a07,a08,List.cons_append,h1',h2']<;>rfl)<;>rfl
   ·rw [if_neg (by simp [con];omega)] at hsn
    rw [← hsn] at hTf hTl ⊢
    generalize hT2:(a71 0 (a.take (i + 1)) (b.take (i + 1))).map a0d = T at hTl hTf ⊢
    have h1':=a06 hTf
    have h2':=fun π=>a04 π hTf
    have hcc:(¬ (x:Int) ≤ 1) ∨ ((x:Int) ≤ 1 ∧ ¬ (y:Int) ≤ 1) ∨ ((x:Int) ≤ 1 ∧ (y:Int) ≤ 1 ∧ x = y):=by omega
    cases T with
    | nil=>
     rcases hcc with d1|⟨d1,d2⟩|⟨d1,d2,rfl⟩
     ·(repeat first|simp only [ww]|(apply xa;simp +decide only [go_sem,c1,hlt,hla,hx,hy,d1,hwi,a0f,a0g];rfl;kernel_rfl))
      refine a17 (b.length - (i + 1)) (by omega) ⟨_,_,?_,i + 1,rfl,hlt,rfl,rfl⟩
      rw [hT2]
      (simp +decide only [go_sem,a01,a00,a0f,a0g]<;>rfl)<;>rfl
     ·(repeat first|simp only [ww]|(apply xa;simp +decide only [go_sem,c1,hlt,hla,hx,hy,d1,d2,hwi,a0f,a0g];rfl;kernel_rfl))
      refine a17 (b.length - (i + 1)) (by omega) ⟨_,_,?_,i + 1,rfl,hlt,rfl,rfl⟩
      rw [hT2]
      (simp +decide only [go_sem,a01,a00,a0f,a0g]<;>rfl)<;>rfl
     ·(repeat first|simp only [ww]|(apply xa;simp +decide only [go_sem,c1,hlt,hla,hx,hy,d1,d2,hwi,a0f,a0g];rfl;kernel_rfl))
      refine a17 (b.length - (i + 1)) (by omega) ⟨_,_,?_,i + 1,rfl,hlt,rfl,rfl⟩
      rw [hT2]
      (simp +decide only [go_sem,a01,a00,a0f,a0g]<;>rfl)<;>rfl
    | cons u r=>
     simp only [List.flatMap_cons] at h1'
     simp only [List.map_cons,List.cons.injEq] at h2'
     rcases hcc with d1|⟨d1,d2⟩|⟨d1,d2,rfl⟩
     ·(repeat first|simp only [ww]|(apply xa;simp +decide only [go_sem,c1,hlt,hla,hx,hy,d1,hwi,a07,a08];rfl;kernel_rfl))
      refine a17 (b.length - (i + 1)) (by omega) ⟨_,_,?_,i + 1,rfl,hlt,rfl,rfl⟩
      rw [hT2]
      (simp +decide only [go_sem,a01,a00,a07,a08,h1',h2']<;>rfl)<;>rfl
     ·(repeat first|simp only [ww]|(apply xa;simp +decide only [go_sem,c1,hlt,hla,hx,hy,d1,d2,hwi,a07,a08];rfl;kernel_rfl))
      refine a17 (b.length - (i + 1)) (by omega) ⟨_,_,?_,i + 1,rfl,hlt,rfl,rfl⟩
      rw [hT2]
      (simp +decide only [go_sem,a01,a00,a07,a08,h1',h2']<;>rfl)<;>rfl
     ·(repeat first|simp only [ww]|(apply xa;simp +decide only [go_sem,c1,hlt,hla,hx,hy,d1,d2,hwi,a07,a08];rfl;kernel_rfl))
      refine a17 (b.length - (i + 1)) (by omega) ⟨_,_,?_,i + 1,rfl,hlt,rfl,rfl⟩
      rw [hT2]
      (simp +decide only [go_sem,a01,a00,a07,a08,h1',h2']<;>rfl)<;>rfl
  ·obtain rfl:i = b.length:=by omega
   have c1:¬ (b.length:Int) < b.length:=by omega
   rw [List.take_length,List.take_of_length_le (by omega)]
   generalize a71 0 a b = l
   cases l with
   | nil=>
    have hcl:=fun (d:Bool) (H:a05)=>a03 (E:=L.env) (draw:=d) (call:=sem L.env Mf) (g:=22) (fs:=[]) (cs:=[]) (ar:=[.nilslice]) (H:=H) (by kernel_rfl) (by kernel_rfl) rfl rfl c3n rfl
    (repeat first|simp only [ww]|(apply xa;simp +decide only [go_sem,c1,List.map_nil,a0f,a0g,hcl];rfl;kernel_rfl))
    refine a2s (vs:=[.nilslice]) (r:=(_,_)) (by simp +decide only [go_sem]) (by simp +decide only [go_sem]<;>rfl) rfl
   | cons u r=>
    have hcl:=fun (d:Bool)=>b9q (d:=d) (H:=[some (.row 1 ((u :: r).map a0d))]) (b:=0) (n:=r.length + 1) (c3f _) rfl
    simp only [List.map_cons,go_sem] at hcl
    (repeat first|simp only [ww]|(apply xa;simp +decide only [go_sem,c1,List.map_cons,a07,a08,List.length_map,hcl];rfl;kernel_rfl))
    refine a2s (vs:=[.slice 0 0 (r.length + 1) (some (r.length + 1))]) (r:=(_,_)) (by simp +decide only [go_sem]) ?_ rfl
    show a1v false 0 (.slice 0 0 (r.length + 1) (some (r.length + 1))) _ = _
    simp +decide only [go_sem,b95,List.map_cons,d3o,List.length_cons]<;>rfl
theorem b5z {d:Bool} (H:a05) (ra rb:Rep) (a b:List Nat) (hab:a.length = b.length) (hl:a.length ≤ 1000):a0c L.env d (sem L.env Mf) (.func (.func 78) [] []) [sl ra (a.map u8R),sl rb (b.map u8R)] H = some (b4j (a71 0 a b),H,[]):=
 a03 (by kernel_rfl) (by kernel_rfl) rfl (by simp only [List.nil_append,List.append_nil,go_sem]) (d47 ra rb a b hab hl) (a52 _)
theorem c9q (ao an bo bn:List Nat) (ho:ao.length = bo.length) (hn:an.length = bn.length) (hlo:ao.length ≤ 1000) (hln:an.length ≤ 1000):sem L.env Mf 46 [b0r ao an,b0r bo bn] [] = some (.tuple [b4j (a71 0 ao bo),b4j (a71 0 an bn)],[]):=by
 obtain ⟨r1,e1⟩:=b2g ao
 obtain ⟨r2,e2⟩:=b2g an
 obtain ⟨r3,e3⟩:=b2g bo
 obtain ⟨r4,e4⟩:=b2g bn
 have h1:=fun (d:Bool) (H:a05)=>b5z (d:=d) H r1 r3 ao bo ho hlo
 have h2:=fun (d:Bool) (H:a05)=>b5z (d:=d) H r2 r4 an bn hn hln
 unfold b0r
 rw [e1,e2,e3,e4]
 have q1:=a52 (a71 0 ao bo)
 have q2:=a52 (a71 0 an bn)
 generalize b4j (a71 0 ao bo) = V1 at h1 q1 ⊢
 generalize b4j (a71 0 an bn) = V2 at h2 q2 ⊢
 (refine sv Tryz.f46 ?_;simp only [Tryz.f46,gS])
 (repeat first|simp only [ww]|(apply xa;simp +decide only [go_sem,h1,h2];rfl;kernel_rfl))
 refine a77 (vs:=[V1,V2]) (by simp +decide only [go_sem]) (a65 (by show refs V1 ++ (refs V2 ++ []) = [];rw [q1,q2];rfl))
theorem c1q {d:Bool} (H:a05) (ao an bo bn:List Nat) (ho:ao.length = bo.length) (hn:an.length = bn.length) (hlo:ao.length ≤ 1000) (hln:an.length ≤ 1000):a0c L.env d (sem L.env Mf) (.func (.func 46) [] []) [b0r ao an,b0r bo bn] H = some (.tuple [b4j (a71 0 ao bo),b4j (a71 0 an bn)],H,[]):=
 a03 (by kernel_rfl) (by kernel_rfl) rfl (by simp only [List.nil_append,List.append_nil,a09,a6z,a1u]) (c9q ao an bo bn ho hn hlo hln) (by simp only [a6y,a09,a52,a1u,List.append_nil])
theorem d7c (ao an bo bn:List Nat) (ho:ao.length = bo.length) (hn:an.length = bn.length) (hlo:ao.length ≤ 1000) (hln:an.length ≤ 1000):sem L.env Mf 26 [b0r ao an,b0r bo bn] [] = some (.bool (b1t ao bo || b1t an bn),[]):=by
 have h1:=fun (d:Bool) (H:a05)=>c1q (d:=d) H ao an bo bn ho hn hlo hln
 have l1:=b6p 0 ao bo
 have l2:=b6p 0 an bn
 have k1:=b6q 0 ao bo
 have k2:=b6q 0 an bn
 rw [← k1,← k2]
 unfold b0r at h1 ⊢
 have q1:=a2l ao
 have q2:=a2l an
 have q3:=a2l bo
 have q4:=a2l bn
 have s1:=a2a ao
 have s2:=a2a an
 have s3:=a2a bo
 have s4:=a2a bn
 unfold b4j at h1
 generalize a71 0 ao bo = P at h1 l1 ⊢
 generalize a71 0 an bn = Q at h1 l2 ⊢
 generalize a5d ao = A1 at h1 q1 s1 ⊢
 generalize a5d an = A2 at h1 q2 s2 ⊢
 generalize a5d bo = B1 at h1 q3 s3 ⊢
 generalize a5d bn = B2 at h1 q4 s4 ⊢
 have hw:IntKind.i64.wrap ((P.length:Int) + (Q.length:Int)) = ((P.length + Q.length:Nat):Int):=by rw [w64 (by omega) (by omega)];omega
 have hd:decide ((0:Int) < ((P.length + Q.length:Nat):Int)) = (decide (0 < P.length) || decide (0 < Q.length)):=by
  rw [Bool.eq_iff_iff];simp;omega
 (refine sv Tryz.f26 ?_;simp only [Tryz.f26,gS])
 (repeat first|simp only [ww]|(apply xa;simp +decide only [go_sem,h1,s1,s2,s3,s4,hw,hd];rfl;kernel_rfl))
 refine a77 (vs:=[.bool (decide (0 < P.length) || decide (0 < Q.length))]) (by simp +decide only [go_sem]<;>rfl) (a65 rfl)
theorem c6q {d:Bool} (H:a05) (ao an bo bn:List Nat) (ho:ao.length = bo.length) (hn:an.length = bn.length) (hlo:ao.length ≤ 1000) (hln:an.length ≤ 1000):a0c L.env d (sem L.env Mf) (.func (.func 26) [] []) [b0r ao an,b0r bo bn] H = some (.bool (b1t ao bo || b1t an bn),H,[]):=
 a03 (by kernel_rfl) (by kernel_rfl) rfl (by simp only [List.nil_append,List.append_nil,a09,a6z,a1u]) (d7c ao an bo bn ho hn hlo hln) rfl
set_option maxHeartbeats 200000000
open Go.Proofs Go.Ax Go.Pc
set_option maxRecDepth 100000
theorem b3e {nodes:List Nd} {k n:Nat}:n ∈ kinds nodes k ↔ n < nodes.length ∧ a0q nodes n = k:=by
 unfold kinds a3n
 rw [List.mem_filter]
 simp
theorem d91 (c:Cir) (hc:c.wf) (ord:List Nat) (hord:OrdOf c ord):(a2b c ord).good where
 perm:=hord.perm
 topo:=hord.topo
 comb:=fun n hn h=>by
  obtain ⟨x,hx⟩:∃ x,c.nodes[n]? = some x:=⟨_,List.getElem?_eq_getElem hn⟩
  have k14:=hc.kind x (List.mem_of_getElem? hx)
  have hk:a0q c.nodes n = x.kind:=a15 hx
  have h:a0q c.nodes n ≠ 0 ∧ a0q c.nodes n ≠ 14:=h
  show a1s (a0q c.nodes n) = true
  rw [hk] at h ⊢
  have a:1 ≤ x.kind:=by omega
  have b:x.kind ≤ 13:=by omega
  simp [a1s,a,b]
 inn:=fun n hn m hm=>by
  obtain ⟨x,hx⟩:∃ x,c.nodes[n]? = some x:=⟨_,List.getElem?_eq_getElem hn⟩
  have hm:m ∈ a22 c.nodes n:=hm
  rw [a1l hx] at hm
  exact hc.ins x (List.mem_of_getElem? hx) m hm
 ins:=fun n=>b3e
 sts:=fun n=>b3e
 dff:=fun n hn=>by
  obtain ⟨h1,h2⟩:=b3e.1 hn
  obtain ⟨x,hx⟩:∃ x,c.nodes[n]? = some x:=⟨_,List.getElem?_eq_getElem h1⟩
  rw [a15 hx] at h2
  have:=hc.lo x (List.mem_of_getElem? hx)
  rw [h2] at this
  have h3:1 ≤ x.ins.length:=this
  show a22 c.nodes n ≠ []
  rw [a1l hx]
  intro h0
  rw [h0] at h3
  simp at h3
 outs:=fun n hn=>hc.outs n hn
def b09 (c:Cir) (ord:List Nat) (f:Flt) (p:Pat):Hk Nat:=hkF f (a16 nAlg (a4h c ord p) f)
theorem c31 (c:Cir) (ord:List Nat) (p:Pat) (hp:PatOk c.nodes p):∀ v ∈ a4h c ord p,v ≤ 3:=b6w c91 _ _ _ _ _ hp.inv hp.stv
theorem d8x (c:Cir) (ord:List Nat) (f:Flt) (hf:FltOk c.nodes f) (p:Pat) (hp:PatOk c.nodes p):d5a (b09 c ord f p):=by
 refine d5w ?_
 have hv:=hf.value
 unfold a16
 split
 ·show f.value ≤ 3;omega
 split
 ·exact a6f (c31 c ord p hp) _
 split<;>exact c7v _ _
theorem d9s (c:Cir) (hc:c.wf) (hO:c.outs ≠ []) (p:Pat) (hp:PatOk c.nodes p) (f:Flt) (hf:FltOk c.nodes f) (ord:List Nat) (hord:OrdOf c ord) :
 sem L.env Mf 25 [.agg [sl c.nc (c.nodes.map Nd.enc),sl c.mc (c.names.map a1r),.nilslice,sl c.oc (c.outs.map a0d)],.agg [.int .u8 f.model,.int .i64 f.node,.int .i64 f.pin,.int .u8 f.value,.int .i64 f.other],.agg [sl p.ic (p.ins.map u8R),sl p.sc (p.sts.map u8R)]] [] = some (.tuple [b0r (a1p c.outs (a4h c ord p)) (a3m c.nodes (a4h c ord p)),b0r (a1p c.outs (b4s c ord (b09 c ord f p) p)) (a7k c.nodes (b09 c ord f p) (b4s c ord (b09 c ord f p) p) (kinds c.nodes 14)),.junk,.int .i64 0],[]):=by
 have hck:=fun (d:Bool) (H:a05)=>b3x (d:=d) H c hc f hf
 have hsr:=fun (d:Bool) (H:a05)=>a03 (E:=L.env) (draw:=d) (call:=sem L.env Mf) (H:=H) (g:=43) (fs:=[]) (cs:=[]) (ar:=[.agg c.enc,.agg p.enc]) (by kernel_rfl) (by kernel_rfl) rfl (by simp only [List.nil_append,List.append_nil,a09,a0y,Cir.enc,Pat.enc,go_sem]) (d71 c hc hO p hp ord hord) (by simp only [a6y,a09,a6z,a1u,List.append_nil];simp only [go_sem])
 obtain ⟨net,pin,hN,hP,hfa⟩:=c9k c f hf (a4h c ord p) (b01 _ _ _ _ _) (c31 c ord p hp)
 have hir:=d8t c hc hO p hp ord hord net pin (b09 c ord f p) hN hP (d8x c ord f hf p hp)
 have n3:=hN.flat
 have p3:=hP.flat
 have hfl:∀ v:AV,refs v = [] → FlatR [[sl c.nc (c.nodes.map Nd.enc),sl c.mc (c.names.map a1r),.nilslice,sl c.oc (c.outs.map a0d),v,net,pin]]:=fun v hv r hr=>by
  rw [List.mem_singleton] at hr;subst hr
  simp only [go_sem,hv,n3,p3]
 have hfl0:=hfl .nilslice rfl
 have hfl1:=hfl .junk rfl
 have hfa':∀ x0 x1 x2 x3 x4:Option AObj,a0c L.env false (sem L.env Mf) (.func (.func 44) [] []) [.agg [sl c.nc (c.nodes.map Nd.enc),sl c.mc (c.names.map a1r),.nilslice,sl c.oc (c.outs.map a0d)],.agg [.int .u8 f.model,.int .i64 f.node,.int .i64 f.pin,.int .u8 f.value,.int .i64 f.other],.islice ((a4h c ord p).map u8R) (some c.nodes.length)] [x0,x1,x2,x3,x4] = some (.ptr 5 0 0,[x0,x1,x2,x3,x4,some (.row 7 [[sl c.nc (c.nodes.map Nd.enc),sl c.mc (c.names.map a1r),.nilslice,sl c.oc (c.outs.map a0d),.nilslice,net,pin]])],[]):=fun x0 x1 x2 x3 x4=>
  c5m (by kernel_rfl) (by kernel_rfl) rfl (by simp only [List.nil_append,List.append_nil,go_sem]) hfa hfl0
 have hir':∀ x0 x1 x2 x3 x4:Option AObj,a0c L.env false (sem L.env Mf) (.func (.func 45) [] []) [.ptr 5 0 0,.agg [sl p.ic (p.ins.map u8R),sl p.sc (p.sts.map u8R)]] [x0,x1,x2,x3,x4,some (.row 7 [[sl c.nc (c.nodes.map Nd.enc),sl c.mc (c.names.map a1r),.nilslice,sl c.oc (c.outs.map a0d),.nilslice,net,pin]])] = some (_,[x0,x1,x2,x3,x4,some (.row 7 [[sl c.nc (c.nodes.map Nd.enc),sl c.mc (c.names.map a1r),.nilslice,sl c.oc (c.outs.map a0d),.junk,net,pin]])],[5]):=fun x0 x1 x2 x3 x4=>
  a7b (b:=5) (by kernel_rfl) (by kernel_rfl) rfl rfl (by simp only [go_sem,n3,p3]) (FlatO.row hfl0) (by simp only [List.nil_append,List.append_nil,go_sem]) (by simp +decide only [List.nil_append,List.append_nil,List.map_cons,List.map_nil,go_sem]<;>rfl) hir (FlatO.row hfl1) (a1a _ _ (a6z _ _))
 have s1:=a2a (a1p c.outs (a4h c ord p))
 have s2:=a2a (a3m c.nodes (a4h c ord p))
 have s3:=a2a (a1p c.outs (b4s c ord (b09 c ord f p) p))
 have s4:=a2a (a7k c.nodes (b09 c ord f p) (b4s c ord (b09 c ord f p) p) (kinds c.nodes 14))
 have q1:=a2l (a1p c.outs (a4h c ord p))
 have q2:=a2l (a3m c.nodes (a4h c ord p))
 have q3:=a2l (a1p c.outs (b4s c ord (b09 c ord f p) p))
 have q4:=a2l (a7k c.nodes (b09 c ord f p) (b4s c ord (b09 c ord f p) p) (kinds c.nodes 14))
 have m1:¬ (f.model:Int) = 1:=by have:=hf.model;omega
 unfold b0r at hsr hir' ⊢
 generalize a5d (a1p c.outs (a4h c ord p)) = A1 at hsr s1 q1 ⊢
 generalize a5d (a3m c.nodes (a4h c ord p)) = A2 at hsr s2 q2 ⊢
 generalize a5d (a1p c.outs (b4s c ord (b09 c ord f p) p)) = B1 at hir' s3 q3 ⊢
 generalize a5d (a7k c.nodes (b09 c ord f p) (b4s c ord (b09 c ord f p) p) (kinds c.nodes 14)) = B2 at hir' s4 q4 ⊢
 simp only [Cir.enc,Pat.enc,Flt.enc] at hck hsr
 (refine sv Tryz.f25 ?_;simp only [Tryz.f25,gS])
 (repeat first|simp only [ww]|(apply xa;simp +decide only [go_sem,hck,hsr,hfa',hir',m1,s1,s2,s3,s4];rfl;kernel_rfl))
 refine a77 (vs:=[.agg [A1,A2],.agg [B1,B2],.junk,.int .i64 0]) (by simp +decide only [go_sem]<;>rfl) (a65 (by show (refs A1 ++ (refs A2 ++ [])) ++ ((refs B1 ++ (refs B2 ++ [])) ++ _) = [];rw [q1,q2,q3,q4];rfl))
theorem d09 {d:Bool} (H:a05) (c:Cir) (hc:c.wf) (hO:c.outs ≠ []) (p:Pat) (hp:PatOk c.nodes p) (f:Flt) (hf:FltOk c.nodes f) (ord:List Nat) (hord:OrdOf c ord) :
 a0c L.env d (sem L.env Mf) (.func (.func 25) [] []) [.agg [sl c.nc (c.nodes.map Nd.enc),sl c.mc (c.names.map a1r),.nilslice,sl c.oc (c.outs.map a0d)],.agg [.int .u8 f.model,.int .i64 f.node,.int .i64 f.pin,.int .u8 f.value,.int .i64 f.other],.agg [sl p.ic (p.ins.map u8R),sl p.sc (p.sts.map u8R)]] H = some (.tuple [b0r (a1p c.outs (a4h c ord p)) (a3m c.nodes (a4h c ord p)),b0r (a1p c.outs (b4s c ord (b09 c ord f p) p)) (a7k c.nodes (b09 c ord f p) (b4s c ord (b09 c ord f p) p) (kinds c.nodes 14)),.junk,.int .i64 0],H,[]):=
 a03 (by kernel_rfl) (by kernel_rfl) rfl (by simp only [List.nil_append,List.append_nil,go_sem]) (d9s c hc hO p hp f hf ord hord) (by simp only [a6y,a09,a1u,a6z,List.append_nil];rfl)
theorem f4n (c:Cir) (hc:c.wf) (p:Pat) (hp:PatOk c.nodes p) (f:Flt) (hf:FltOk c.nodes f) (ord:List Nat) (hord:OrdOf c ord) :
 (b1t (a1p c.outs (a4h c ord p)) (a1p c.outs (b4s c ord (b09 c ord f p) p)) || b1t (a3m c.nodes (a4h c ord p)) (a7k c.nodes (b09 c ord f p) (b4s c ord (b09 c ord f p) p) (kinds c.nodes 14))) = (a2b c ord).det f p:=
 ((d91 c hc ord hord).det hp.ins.symm hp.sts.symm f (fun _=>by have:=hf.value;omega) hf.node hf.other hp.inv hp.stv).symm
theorem c58 (c:Cir) (hc:c.wf) (hO:c.outs ≠ []) (p:Pat) (hp:PatOk c.nodes p) (f:Flt) (hf:FltOk c.nodes f) (ord:List Nat) (hord:OrdOf c ord) :
 sem L.env Mf 16 [.agg [sl c.nc (c.nodes.map Nd.enc),sl c.mc (c.names.map a1r),.nilslice,sl c.oc (c.outs.map a0d)],.agg [.int .u8 f.model,.int .i64 f.node,.int .i64 f.pin,.int .u8 f.value,.int .i64 f.other],.agg [sl p.ic (p.ins.map u8R),sl p.sc (p.sts.map u8R)]] [] = some (.tuple [.bool ((a2b c ord).det f p),.int .i64 0],[]):=by
 have hb:=fun (d:Bool) (H:a05)=>d09 (d:=d) H c hc hO p hp f hf ord hord
 have hl1:(a1p c.outs (a4h c ord p)).length = (a1p c.outs (b4s c ord (b09 c ord f p) p)).length:=by simp [a1p]
 have hl2:(a3m c.nodes (a4h c ord p)).length = (a7k c.nodes (b09 c ord f p) (b4s c ord (b09 c ord f p) p) (kinds c.nodes 14)).length:=by simp [a3m,a7k]
 have hl3:(a1p c.outs (a4h c ord p)).length ≤ 1000:=by have:=hc.outl;simp [a1p];omega
 have hl4:(a3m c.nodes (a4h c ord p)).length ≤ 1000:=by have:=hc.len;have:=a37 c.nodes 14;simp [a3m];omega
 have hs:=fun (d:Bool) (H:a05)=>c6q (d:=d) H _ _ _ _ hl1 hl2 hl3 hl4
 rw [f4n c hc p hp f hf ord hord] at hs
 have s1:=a2a (a1p c.outs (a4h c ord p))
 have s2:=a2a (a3m c.nodes (a4h c ord p))
 have s3:=a2a (a1p c.outs (b4s c ord (b09 c ord f p) p))
 have s4:=a2a (a7k c.nodes (b09 c ord f p) (b4s c ord (b09 c ord f p) p) (kinds c.nodes 14))
 unfold b0r at hb hs
 generalize a5d (a1p c.outs (a4h c ord p)) = A1 at hb hs s1
 generalize a5d (a3m c.nodes (a4h c ord p)) = A2 at hb hs s2
 generalize a5d (a1p c.outs (b4s c ord (b09 c ord f p) p)) = B1 at hb hs s3
 generalize a5d (a7k c.nodes (b09 c ord f p) (b4s c ord (b09 c ord f p) p) (kinds c.nodes 14)) = B2 at hb hs s4
 (refine sv Tryz.f16 ?_;simp only [Tryz.f16,gS])
 (repeat first|simp only [ww]|(apply xa;simp +decide only [go_sem,hb,hs,s1,s2,s3,s4];rfl;kernel_rfl))
 (apply fqb;simp +decide only [go_sem]<;>rfl)
theorem b9h {d:Bool} (H:a05) (c:Cir) (hc:c.wf) (hO:c.outs ≠ []) (p:Pat) (hp:PatOk c.nodes p) (f:Flt) (hf:FltOk c.nodes f) (ord:List Nat) (hord:OrdOf c ord) :
 a0c L.env d (sem L.env Mf) (.func (.func 16) [] []) [.agg c.enc,.agg f.enc,.agg p.enc] H = some (.tuple [.bool ((a2b c ord).det f p),.int .i64 0],H,[]):=
 a03 (by kernel_rfl) (by kernel_rfl) rfl (by simp only [List.nil_append,List.append_nil,a09,a0y,Cir.enc,Pat.enc,Flt.enc,go_sem]) (c58 c hc hO p hp f hf ord hord) rfl
end Go.MInst
