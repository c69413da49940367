/- Part of a proof. No condition. -/
import Derived.Test.YtlldffjabagdbaaGreatDoorTIn
set_option linter.unusedSimpArgs false
set_option linter.unusedVariables false
namespace Go.TInst
set_option maxHeartbeats 200000000
open Go.Proofs Go.Ax Go.Pc
set_option maxRecDepth 100000
def b0k (c:Cir) (ord:List Nat) (g:Hk Nat) (p:Pat):List Nat:=c8s nAlg c.nodes g ord (kinds c.nodes 0) (kinds c.nodes 14) p.ins p.sts
def e73 (k:Nat):List Nat → AV
 | []=>.nilslice
 | _ :: r=>.slice k 0 (r.length + 1) (some (r.length + 1))
theorem d8m (c:Cir) (hc:c.wf) (hO:c.outs ≠ []) (p:Pat) (hp:PatOk c.nodes p) (ord:List Nat) (hord:OrdOf c ord) (net pin:AV) (g:Hk Nat) (h1:NetN net g.net) (h2:PinN pin g.pin) (hg:d6r g) :
 ∃ r:AV × a03,(∃ X2 X3:Option AObj,r = (.agg [.slice 4 0 c.outs.length (some c.outs.length),e73 5 (b21 c.nodes g (b0k c ord g p) (kinds c.nodes 14))],[some (.row 7 [[sl c.nc (c.nodes.map Nd.enc),sl c.mc (c.names.map a10),.nilslice,sl c.oc (c.outs.map a0b),.slice 1 0 c.nodes.length (some c.nodes.length),net,pin]]),some (.row 1 ((b0k c ord g p).map u8R)),X2,X3,some (.row 1 ((a1r c.outs (b0k c ord g p)).map u8R))] ++ grH 1 ((b21 c.nodes g (b0k c ord g p) (kinds c.nodes 14)).map u8R))) ∧ sem L.env Mf 77 [.ptr 0 0 0,.agg [sl p.ic (p.ins.map u8R),sl p.sc (p.sts.map u8R)]] [some (b2g c .nilslice net pin)] = some r:=by
 have hnl:=hc.len
 have hol:=hc.outl
 have hrm:c.nodes.length ≤ 1000000000:=by omega
 obtain ⟨r0,e3⟩:=a6z (kinds c.nodes 0)
 obtain ⟨r1,e4⟩:=a6z (kinds c.nodes 14)
 have hk0:=a5m c.nodes 0
 have hk14:=a5m c.nodes 14
 have hi:=fun (d:Bool) H=>b0g (d:=d) H c (by omega)
 have hs:=fun (d:Bool) H=>a6a (d:=d) H c (by omega)
 rw [e3] at hi
 rw [e4] at hs
 have ho:=hord.call
 simp only [Cir.enc] at hi hs ho
 have hor:∀ n ∈ ord,n < c.nodes.length:=fun n hn=>by have:=hord.perm.mem_iff.1 hn;simpa using this
 have hordl:ord.length = c.nodes.length:=by rw [hord.perm.length_eq];simp
 have hvi:=hp.ins
 have hvs:=hp.sts
 have n3:=h1.flat
 have p3:=h2.flat
 have n4:=h1.sto
 have p4:=h2.sto
 have e1:∀ π,ren π net = net:=fun π=>a1d π _ n3
 have e2:∀ π,ren π pin = pin:=fun π=>a1d π _ p3
 have hnc:=h1.call
 have hB:b0k c ord g p = ord.foldl (Pc.stepG nAlg c.nodes g) (a1w (a1w (List.replicate c.nodes.length 0) (kinds c.nodes 0) p.ins) (kinds c.nodes 14) p.sts):=rfl
 rw [hB]
 have hrp:(List.replicate c.nodes.length 0).map u8R = List.replicate c.nodes.length [AV.int .u8 0]:=by rw [List.map_replicate];rfl
 have hN1v:∀ v ∈ a1w (a1w (List.replicate c.nodes.length 0) (kinds c.nodes 0) p.ins) (kinds c.nodes 14) p.sts,v ≤ 3:=b4l _ _ _ (b4l _ _ _ (fun v hv=>by rw [List.eq_of_mem_replicate hv];omega) hp.inv) hp.stv
 unfold b2g
 (refine svE Tryz.f77 ?_;simp only [Tryz.f77,gS])
 (repeat first|simp only [ww]|(apply xa;simp +decide only [go_sem,hrm,hs,hi,n4,p4];rfl;kernel_rfl))
 refine a0z (σ:=Nat) kp77_0 (fun i=>[(0,.ptr 0 0 0),(3,.ptr 2 0 0),(4,.ptr 3 0 0),(5,sl r1 ((kinds c.nodes 14).map a0b)),(41,sl r0 ((kinds c.nodes 0).map a0b)),(42,.int .i64 (kinds c.nodes 0).length),(43,.int .i64 i)])
  (fun i=>[some (.row 7 [[sl c.nc (c.nodes.map Nd.enc),sl c.mc (c.names.map a10),.nilslice,sl c.oc (c.outs.map a0b),.slice 1 0 c.nodes.length (some c.nodes.length),net,pin]]),some (.row 1 ((a1w (List.replicate c.nodes.length 0) ((kinds c.nodes 0).take i) (p.ins.take i)).map u8R)),some (.row 2 [[sl p.ic (p.ins.map u8R),sl p.sc (p.sts.map u8R)]]),some (.row 2 [[.nilslice,.nilslice]])]) (fun i=>(kinds c.nodes 0).length - i) (fun i=>i ≤ (kinds c.nodes 0).length) 0 ?_ (Nat.zero_le _) ?_
 ·rw [List.take_zero,List.take_zero,show a1w (List.replicate c.nodes.length 0) [] [] = (List.replicate c.nodes.length 0) from rfl,hrp]
  (simp +decide only [go_sem,a02,a00,a2y,a2n,n3,p3,e1,e2]<;>rfl)<;>rfl
 ·intro i hi'
  have hll:=a3f ((kinds c.nodes 0).take i) (p.ins.take i) (List.replicate c.nodes.length 0)
  rw [List.length_replicate] at hll
  by_cases hlt:i < (kinds c.nodes 0).length
  ·obtain ⟨n,hn⟩:∃ n,(kinds c.nodes 0)[i]? = some n:=⟨_,z9e hlt⟩
   obtain ⟨w,hw⟩:∃ w,p.ins[i]? = some w:=⟨_,z9e (by omega)⟩
   have hnn:=(a7c hn).1
   have hst:=a9t (nets:=(List.replicate c.nodes.length 0)) hn hw
   have c1:(i:Int) < (kinds c.nodes 0).length:=by omega
   have hwi:=wI1 (n:=i) (by omega)
   have hiv:i < p.ins.length:=by omega
   generalize a1w (List.replicate c.nodes.length 0) ((kinds c.nodes 0).take i) (p.ins.take i) = N at hst hll
   obtain ⟨w0,hw0⟩:∃ w,N[n]? = some w:=⟨_,z9e (by omega)⟩
   have hsR:(N.map u8R).set n [AV.int .u8 w] = (N.set n w).map u8R:=by rw [List.map_set];rfl
   (repeat first|simp only [ww]|(apply xa;simp +decide only [go_sem,c1,hlt,hn,hw,hnn,hwi,hiv,hll,hw0,hsR];rfl;kernel_rfl))
   refine a2i (i + 1) ?_ (by omega) (by omega)
   rw [hst]
   (simp +decide only [go_sem,a02,a00,a2y,a2n,n3,p3,e1,e2]<;>rfl)<;>rfl
  have hie:i = (kinds c.nodes 0).length:=by omega
  subst hie
  have c1:¬ ((kinds c.nodes 0).length:Int) < (kinds c.nodes 0).length:=by omega
  rw [List.take_length,List.take_of_length_le (by omega)] at hll ⊢
  generalize a1w (List.replicate c.nodes.length 0) (kinds c.nodes 0) p.ins = N0 at hll hN1v ⊢
  have hNl:=hll
  clear hll
  (repeat first|simp only [ww]|(apply xa;simp +decide only [go_sem,c1];rfl;kernel_rfl))
  refine a0z (σ:=Nat) kp77_2 (fun i=>[(0,.ptr 0 0 0),(3,.ptr 2 0 0),(4,.ptr 3 0 0),(5,sl r1 ((kinds c.nodes 14).map a0b)),(60,sl r1 ((kinds c.nodes 14).map a0b)),(61,.int .i64 (kinds c.nodes 14).length),(62,.int .i64 i)])
   (fun i=>[some (.row 7 [[sl c.nc (c.nodes.map Nd.enc),sl c.mc (c.names.map a10),.nilslice,sl c.oc (c.outs.map a0b),.slice 1 0 c.nodes.length (some c.nodes.length),net,pin]]),some (.row 1 ((a1w N0 ((kinds c.nodes 14).take i) (p.sts.take i)).map u8R)),some (.row 2 [[sl p.ic (p.ins.map u8R),sl p.sc (p.sts.map u8R)]]),some (.row 2 [[.nilslice,.nilslice]])]) (fun i=>(kinds c.nodes 14).length - i) (fun i=>i ≤ (kinds c.nodes 14).length) 0 ?_ (Nat.zero_le _) ?_
  ·rw [List.take_zero,List.take_zero,show a1w N0 [] [] = N0 from rfl]
   (simp +decide only [go_sem,a02,a00,a2y,a2n,n3,p3,e1,e2]<;>rfl)<;>rfl
  ·intro i hi'
   have hll:=a3f ((kinds c.nodes 14).take i) (p.sts.take i) N0
   rw [hNl] at hll
   by_cases hlt:i < (kinds c.nodes 14).length
   ·obtain ⟨n,hn⟩:∃ n,(kinds c.nodes 14)[i]? = some n:=⟨_,z9e hlt⟩
    obtain ⟨w,hw⟩:∃ w,p.sts[i]? = some w:=⟨_,z9e (by omega)⟩
    have hnn:=(a7c hn).1
    have hst:=a9t (nets:=N0) hn hw
    have c1:(i:Int) < (kinds c.nodes 14).length:=by omega
    have hwi:=wI1 (n:=i) (by omega)
    have hiv:i < p.sts.length:=by omega
    generalize a1w N0 ((kinds c.nodes 14).take i) (p.sts.take i) = N at hst hll
    obtain ⟨w0,hw0⟩:∃ w,N[n]? = some w:=⟨_,z9e (by omega)⟩
    have hsR:(N.map u8R).set n [AV.int .u8 w] = (N.set n w).map u8R:=by rw [List.map_set];rfl
    (repeat first|simp only [ww]|(apply xa;simp +decide only [go_sem,c1,hlt,hn,hw,hnn,hwi,hiv,hll,hw0,hsR];rfl;kernel_rfl))
    refine a2i (i + 1) ?_ (by omega) (by omega)
    rw [hst]
    (simp +decide only [go_sem,a02,a00,a2y,a2n,n3,p3,e1,e2]<;>rfl)<;>rfl
   have hie:i = (kinds c.nodes 14).length:=by omega
   subst hie
   have c1:¬ ((kinds c.nodes 14).length:Int) < (kinds c.nodes 14).length:=by omega
   rw [List.take_length,List.take_of_length_le (by omega)] at hll ⊢
   generalize a1w N0 (kinds c.nodes 14) p.sts = N1 at hll hN1v ⊢
   have hNl1:=hll
   clear hll
   (repeat first|simp only [ww]|(apply xa;simp +decide only [go_sem,c1,ho];rfl;kernel_rfl))
   refine a4f kp77_4 (fun n F H=>∃ i,n = ord.length - i ∧ i ≤ ord.length ∧ (∀ v ∈ (ord.take i).foldl (Pc.stepG nAlg c.nodes g) N1,v ≤ 3) ∧ F = [(0,.ptr 0 0 0),(4,.ptr 2 0 0),(5,sl r1 ((kinds c.nodes 14).map a0b)),(12,.func (.func 121) [.ptr 0 0 0] []),(89,.islice (ord.map a0b) (some c.nodes.length)),(90,.int .i64 ord.length),(91,.int .i64 i)] ∧ H = [some (.row 7 [[sl c.nc (c.nodes.map Nd.enc),sl c.mc (c.names.map a10),.nilslice,sl c.oc (c.outs.map a0b),.slice 1 0 c.nodes.length (some c.nodes.length),net,pin]]),some (.row 1 (((ord.take i).foldl (Pc.stepG nAlg c.nodes g) N1).map u8R)),some (.row 2 [[.nilslice,.nilslice]])]) ord.length ?_ ?_
   ·refine ⟨_,_,?_,0,rfl,Nat.zero_le _,by rw [List.take_zero];exact hN1v,rfl,rfl⟩
    rw [List.take_zero,List.foldl_nil]
    (simp +decide only [go_sem,a02,a00,a2y,a2n,n3,p3,e1,e2]<;>rfl)<;>rfl
   ·rintro n F H ⟨i,rfl,hi2,hNv,rfl,rfl⟩
    have hll:=a9y (A:=nAlg) (nodes:=c.nodes) (h:=g) (ord.take i) N1
    rw [hNl1] at hll
    by_cases hlt:i < ord.length
    ·obtain ⟨n,hn⟩:∃ n,ord[i]? = some n:=⟨_,z9e hlt⟩
     have hnn:=hor n (List.mem_of_getElem? hn)
     obtain ⟨x,hx⟩:∃ x,c.nodes[n]? = some x:=⟨_,z9e hnn⟩
     have hxm:=List.mem_of_getElem? hx
     have k14:=hc.kind x hxm
     have hka:=a14 hx
     have hst:=c16 (A:=nAlg) (nodes:=c.nodes) (h:=g) (nets:=N1) hn
     have c1:(i:Int) < ord.length:=by omega
     have hwi:=wI1 (n:=i) (by omega)
     generalize (ord.take i).foldl (Pc.stepG nAlg c.nodes g) N1 = N at hst hll hNv
     have hstv:∀ v ∈ Pc.stepG nAlg c.nodes g N n,v ≤ 3:=c7t hg hNv n
     obtain ⟨w0,hw0⟩:∃ w,N[n]? = some w:=⟨_,z9e (by omega)⟩
     by_cases hk:x.kind ≠ 0 ∧ x.kind ≠ 14
     ·have c2:¬ (x.kind:Int) = 0:=by omega
      have c3:¬ (x.kind:Int) = 14:=by omega
      have hRv:∀ v ∈ a11 nAlg c.nodes g N n,v ≤ 3:=fun v hv=>d5w hg hNv n _ _ v hv
      have hev:=fun (d:Bool) (R:a03)=>c6c (d:=d) R c hc net pin g n3 h2 N hll n hnn hRv
      unfold b2g at hev
      have hstep:Pc.stepG nAlg c.nodes g N n = N.set n (g.net n (nAlg.ev (a0f c.nodes n) (a11 nAlg c.nodes g N n))):=by unfold Pc.stepG;rw [hka,if_pos hk]
      rw [hstep] at hst hstv
      generalize nAlg.ev (a0f c.nodes n) (a11 nAlg c.nodes g N n) = w at hev hst hstv
      have hsR:(N.map u8R).set n [AV.int .u8 w] = (N.set n w).map u8R:=by rw [List.map_set];rfl
      have hw1:(N.set n w)[n]? = some w:=by rw [List.getElem?_set];simp;omega
      have hlw:(N.set n w).length = c.nodes.length:=by rw [List.length_set];exact hll
      have hs2:((N.set n w).map u8R).set n [AV.int .u8 (g.net n w)] = (N.set n (g.net n w)).map u8R:=by
       have e:(N.set n (g.net n w)) = (N.set n w).set n (g.net n w):=(List.set_set ..).symm
       rw [e,List.map_set (l:=N.set n w)];rfl
      (repeat first|simp only [ww]|(apply xa;simp +decide only [go_sem,c1,hlt,hn,hnn,hx,c2,c3,hev,hll,hw0,hsR,hw1,hlw,hnc,hs2,hwi];rfl;kernel_rfl))
      refine a1m (ord.length - (i + 1)) (by omega) ⟨_,_,?_,i + 1,rfl,hlt,by rw [hst];exact hstv,rfl,rfl⟩
      rw [hst]
      (simp +decide only [go_sem,a02,a00,a2y,a2n,n3,p3,e1,e2]<;>rfl)<;>rfl
     ·have hstep:Pc.stepG nAlg c.nodes g N n = N.set n (g.net n w0):=by
       unfold Pc.stepG;rw [hka,if_neg hk,List.getD,hw0];rfl
      rw [hstep] at hst hstv
      have hs2:(N.map u8R).set n [AV.int .u8 (g.net n w0)] = (N.set n (g.net n w0)).map u8R:=by rw [List.map_set];rfl
      have hkc:x.kind = 0 ∨ x.kind = 14:=by omega
      rcases hkc with hkc|hkc
      ·have c2:(x.kind:Int) = 0:=by omega
       (repeat first|simp only [ww]|(apply xa;simp +decide only [go_sem,c1,hlt,hn,hnn,hx,c2,hll,hw0,hnc,hs2,hwi];rfl;kernel_rfl))
       refine a1m (ord.length - (i + 1)) (by omega) ⟨_,_,?_,i + 1,rfl,hlt,by rw [hst];exact hstv,rfl,rfl⟩
       rw [hst]
       (simp +decide only [go_sem,a02,a00,a2y,a2n,n3,p3,e1,e2]<;>rfl)<;>rfl
      ·have c3:(x.kind:Int) = 14:=by omega
       (repeat first|simp only [ww]|(apply xa;simp +decide only [go_sem,c1,hlt,hn,hnn,hx,c3,hll,hw0,hnc,hs2,hwi];rfl;kernel_rfl))
       refine a1m (ord.length - (i + 1)) (by omega) ⟨_,_,?_,i + 1,rfl,hlt,by rw [hst];exact hstv,rfl,rfl⟩
       rw [hst]
       (simp +decide only [go_sem,a02,a00,a2y,a2n,n3,p3,e1,e2]<;>rfl)<;>rfl
    ·obtain rfl:i = ord.length:=by omega
     have c1:¬ (ord.length:Int) < ord.length:=by omega
     rw [List.take_length] at hll hNv ⊢
     clear hN1v hNl1
     generalize ord.foldl (Pc.stepG nAlg c.nodes g) N1 = nets at hll hNv ⊢
     have hNf:=a1g nets
     have m1:=a0o hNf
     have m2:=fun π=>a0k π hNf
     have hrd:=fun (d:Bool) (R:a03) (n:Nat) (hn:n < c.nodes.length)=>b4u (d:=d) R c hc net pin g n3 h2 nets hll n hn
     unfold b2g at hrd
     (repeat first|simp only [ww]|(apply xa;simp +decide only [go_sem,c1];rfl;kernel_rfl))
     generalize hNR:nets.map u8R = NR at hrd hNf m1 m2
     refine a4f kp77_6 (fun n F H=>∃ i,n = c.outs.length - i ∧ i ≤ c.outs.length ∧ F = [(0,.ptr 0 0 0),(4,.ptr 2 0 0),(5,sl r1 ((kinds c.nodes 14).map a0b)),(16,.ptr 3 0 0),(143,sl c.oc (c.outs.map a0b)),(144,.int .i64 c.outs.length),(145,.int .i64 i)] ∧ H = [some (.row 7 [[sl c.nc (c.nodes.map Nd.enc),sl c.mc (c.names.map a10),.nilslice,sl c.oc (c.outs.map a0b),.slice 1 0 c.nodes.length (some c.nodes.length),net,pin]]),some (.row 1 NR),some (.row 2 [[.nilslice,.nilslice]]),some (.row 2 [[grV 4 ((a1r (c.outs.take i) nets).map u8R),.nilslice]])] ++ grH 1 ((a1r (c.outs.take i) nets).map u8R)) c.outs.length ?_ ?_
     ·refine ⟨_,_,?_,0,rfl,Nat.zero_le _,rfl,rfl⟩
      rw [List.take_zero,show a1r [] nets = [] from rfl]
      (simp +decide only [go_sem,a02,a00,a0s,a0t,List.map_nil,m1,m2,n3,p3,e1,e2]<;>rfl)<;>rfl
     ·rintro n F H ⟨i,rfl,hi3,rfl,rfl⟩
      have hTl:((a1r (c.outs.take i) nets).map u8R).length = i:=by simp [a1r];omega
      have hTf:=a1g (a1r (c.outs.take i) nets)
      by_cases hlt:i < c.outs.length
      ·obtain ⟨o,hoo⟩:∃ o,c.outs[i]? = some o:=⟨_,z9e hlt⟩
       have hon:=hc.outs o (List.mem_of_getElem? hoo)
       obtain ⟨v,hnv⟩:∃ v,nets[o]? = some v:=⟨_,z9e (by omega)⟩
       have hNRo:NR[o]? = some [AV.int .u8 v]:=by rw [← hNR,List.getElem?_map,hnv];rfl
       have hNRl:NR.length = c.nodes.length:=by rw [← hNR,List.length_map];exact hll
       have c1:(i:Int) < c.outs.length:=by omega
       have hwi:=wI1 (n:=i) (by omega)
       have hT2:(a1r (c.outs.take (i + 1)) nets).map u8R = (a1r (c.outs.take i) nets).map u8R ++ [[.int .u8 v]]:=by
        unfold a1r
        rw [a16 hoo,List.map_append,List.map_append]
        simp only [List.map_cons,List.map_nil,List.getD,hnv,Option.getD_some]
        rfl
       generalize (a1r (c.outs.take i) nets).map u8R = T at hTl hTf hT2
       have h1':=a0o hTf
       have h2':=fun π=>a0k π hTf
       cases T with
       | nil=>
        (repeat first|simp only [ww]|(apply xa;simp +decide only [go_sem,c1,hlt,hoo,hon,hNRo,hNRl,hwi,a0s,a0t];rfl;kernel_rfl))
        refine a1m (c.outs.length - (i + 1)) (by omega) ⟨_,_,?_,i + 1,rfl,hlt,rfl,rfl⟩
        rw [hT2]
        (simp +decide only [go_sem,a02,a00,a09,a0a,List.nil_append,List.length_nil,m1,m2,n3,p3,e1,e2]<;>rfl)<;>rfl
       | cons a r=>
        simp only [List.length_cons] at hTl
        have hrm:r.length + 1 + 1 ≤ 1000000000:=by omega
        simp only [List.flatMap_cons] at h1'
        simp only [List.map_cons,List.cons.injEq] at h2'
        (repeat first|simp only [ww]|(apply xa;simp +decide only [go_sem,c1,hlt,hoo,hon,hNRo,hNRl,hwi,a09,a0a,hrm];rfl;kernel_rfl))
        refine a1m (c.outs.length - (i + 1)) (by omega) ⟨_,_,?_,i + 1,rfl,hlt,rfl,rfl⟩
        rw [hT2]
        (simp +decide only [go_sem,a02,a00,a09,a0a,List.cons_append,h1',h2',m1,m2,n3,p3,e1,e2]<;>rfl)<;>rfl
      ·obtain rfl:i = c.outs.length:=by omega
       have c1:¬ (c.outs.length:Int) < c.outs.length:=by omega
       rw [List.take_length] at hTl hTf ⊢
       have hOl:0 < c.outs.length:=List.length_pos_iff.2 hO
       generalize (a1r c.outs nets).map u8R = T at hTl hTf ⊢
       cases T with
       | nil=>simp at hTl;omega
       | cons a r=>
        have hal:r.length + 1 = c.outs.length:=by simpa using hTl
        have h1':=a0o hTf
        have h2':=fun π=>a0k π hTf
        have h3':=fun (m:Nat) (q:AV → Option AV)=>a17 m q hTf
        simp only [List.flatMap_cons] at h1'
        simp only [List.map_cons,List.cons.injEq] at h2'
        have hNl:(b21 c.nodes g nets (kinds c.nodes 14)).length = (kinds c.nodes 14).length:=by simp [b21]
        have hNg:∀ (i q:Nat),(kinds c.nodes 14)[i]? = some q → (b21 c.nodes g nets (kinds c.nodes 14))[i]? = some (if (a11 nAlg c.nodes g nets q).getD 0 0 = 3 then 2 else (a11 nAlg c.nodes g nets q).getD 0 0):=by
         intro i q hq;unfold b21;rw [List.getElem?_map,hq];rfl
        generalize hXX:b21 c.nodes g nets (kinds c.nodes 14) = XX at hNl hNg ⊢
        (repeat first|simp only [ww]|(apply xa;simp +decide only [go_sem,c1,a09,a0a];rfl;kernel_rfl))
        refine a4f kp77_8 (fun n F H=>∃ i,n = (kinds c.nodes 14).length - i ∧ i ≤ (kinds c.nodes 14).length ∧ F = [(0,.ptr 0 0 0),(4,.ptr 2 0 0),(16,.ptr 3 0 0),(162,sl r1 ((kinds c.nodes 14).map a0b)),(163,.int .i64 (kinds c.nodes 14).length),(164,.int .i64 i)] ∧ H = [some (.row 7 [[sl c.nc (c.nodes.map Nd.enc),sl c.mc (c.names.map a10),.nilslice,sl c.oc (c.outs.map a0b),.slice 1 0 c.nodes.length (some c.nodes.length),net,pin]]),some (.row 1 NR),some (.row 2 [[.nilslice,.nilslice]]),some (.row 2 [[.slice 4 0 (r.length + 1) none,grV 5 ((XX.take i).map u8R)]]),some (.row 1 (a :: r))] ++ grH 1 ((XX.take i).map u8R)) (kinds c.nodes 14).length ?_ ?_
        ·refine ⟨_,_,?_,0,rfl,Nat.zero_le _,rfl,rfl⟩
         rw [List.take_zero]
         (simp +decide only [go_sem,a02,a00,a0s,a0t,List.map_nil,m1,m2,h1',h2',n3,p3,e1,e2]<;>rfl)<;>rfl
        ·rintro n F H ⟨i,rfl,hi4,rfl,rfl⟩
         have hXl:((XX.take i).map u8R).length = i:=by simp;omega
         have hXf:=a1g (XX.take i)
         by_cases hlt:i < (kinds c.nodes 14).length
         ·obtain ⟨q,hq⟩:∃ q,(kinds c.nodes 14)[i]? = some q:=⟨_,z9e hlt⟩
          obtain ⟨hqn,hqk⟩:=a7c hq
          obtain ⟨x,hx⟩:∃ x,c.nodes[q]? = some x:=⟨_,z9e hqn⟩
          have hxk:x.kind = 14:=by rw [← a14 hx];exact hqk
          have hx1:x.ins.length = 1:=by
           have h1:=hc.lo x (List.mem_of_getElem? hx)
           have h2:=hc.hi x (List.mem_of_getElem? hx)
           rw [hxk] at h1 h2
           have e1:a1t 14 = 1:=rfl
           have e2:a1y 14 = 1:=rfl
           omega
          have hRl:(a11 nAlg c.nodes g nets q).length = 1:=by rw [a4a,a1s hx];exact hx1
          have hNgq:=hNg i q hq
          have hrq:=fun (d:Bool) (R:a03)=>hrd d R q hqn
          generalize a11 nAlg c.nodes g nets q = RR at hRl hNgq hrq
          obtain ⟨v,hRR⟩:∃ v,RR = [v]:=by
           cases RR with
           | nil=>simp at hRl
           | cons v l=>cases l with
            | nil=>exact ⟨v,rfl⟩
            | cons=>simp at hRl
          subst hRR
          simp only [List.getD_cons_zero] at hNgq
          have hX2:(XX.take (i + 1)).map u8R = (XX.take i).map u8R ++ [[.int .u8 (if v = 3 then 2 else v:Nat)]]:=by
           rw [a16 hNgq,List.map_append];rfl
          have c1:(i:Int) < (kinds c.nodes 14).length:=by omega
          have hwi:=wI1 (n:=i) (by omega)
          have hr0:Ax.rowAt ([v].map u8R) 0 = some [AV.int .u8 v]:=rfl
          have hrq:∀ (d:Bool) (R:a03),_ = some (sl none ([v].map u8R),_,_):=hrq
          generalize (XX.take i).map u8R = X at hXl hXf hX2
          generalize [v].map u8R = RV at hr0 hrq
          have g1':=a0o hXf
          have g2':=fun π=>a0k π hXf
          by_cases hv3:v = 3
          ·rw [if_pos hv3] at hX2
           have c3:(v:Int) = 3:=by omega
           cases X with
           | nil=>
            (repeat first|simp only [ww]|(apply xa;simp +decide only [go_sem,c1,hlt,hq,hrq,hr0,c3,hwi,a0s,a0t];rfl;kernel_rfl))
            refine a1m ((kinds c.nodes 14).length - (i + 1)) (by omega) ⟨_,_,?_,i + 1,rfl,hlt,rfl,rfl⟩
            rw [hX2]
            (simp +decide only [go_sem,a02,a00,a09,a0a,List.nil_append,List.length_nil,m1,m2,h1',h2',n3,p3,e1,e2]<;>rfl)<;>rfl
           | cons a2 r2=>
            simp only [List.length_cons] at hXl
            have hrm:r2.length + 1 + 1 ≤ 1000000000:=by omega
            simp only [List.flatMap_cons] at g1'
            simp only [List.map_cons,List.cons.injEq] at g2'
            (repeat first|simp only [ww]|(apply xa;simp +decide only [go_sem,c1,hlt,hq,hrq,hr0,c3,hwi,a09,a0a,hrm];rfl;kernel_rfl))
            refine a1m ((kinds c.nodes 14).length - (i + 1)) (by omega) ⟨_,_,?_,i + 1,rfl,hlt,rfl,rfl⟩
            rw [hX2]
            (simp +decide only [go_sem,a02,a00,a09,a0a,List.cons_append,g1',g2',m1,m2,h1',h2',n3,p3,e1,e2]<;>rfl)<;>rfl
          ·rw [if_neg hv3] at hX2
           have c3:¬ (v:Int) = 3:=by omega
           cases X with
           | nil=>
            (repeat first|simp only [ww]|(apply xa;simp +decide only [go_sem,c1,hlt,hq,hrq,hr0,c3,hwi,a0s,a0t];rfl;kernel_rfl))
            refine a1m ((kinds c.nodes 14).length - (i + 1)) (by omega) ⟨_,_,?_,i + 1,rfl,hlt,rfl,rfl⟩
            rw [hX2]
            (simp +decide only [go_sem,a02,a00,a09,a0a,List.nil_append,List.length_nil,m1,m2,h1',h2',n3,p3,e1,e2]<;>rfl)<;>rfl
           | cons a2 r2=>
            simp only [List.length_cons] at hXl
            have hrm:r2.length + 1 + 1 ≤ 1000000000:=by omega
            simp only [List.flatMap_cons] at g1'
            simp only [List.map_cons,List.cons.injEq] at g2'
            (repeat first|simp only [ww]|(apply xa;simp +decide only [go_sem,c1,hlt,hq,hrq,hr0,c3,hwi,a09,a0a,hrm];rfl;kernel_rfl))
            refine a1m ((kinds c.nodes 14).length - (i + 1)) (by omega) ⟨_,_,?_,i + 1,rfl,hlt,rfl,rfl⟩
            rw [hX2]
            (simp +decide only [go_sem,a02,a00,a09,a0a,List.cons_append,g1',g2',m1,m2,h1',h2',n3,p3,e1,e2]<;>rfl)<;>rfl
         ·obtain rfl:i = (kinds c.nodes 14).length:=by omega
          have c1:¬ ((kinds c.nodes 14).length:Int) < (kinds c.nodes 14).length:=by omega
          have hcp:=fun (d:Bool) (x0 x1 x2 x3:Option AObj) (R:a03)=>a9z (d:=d) (H:=x0 :: x1 :: x2 :: x3 :: some (.row 1 (a :: r)) :: R) (b:=4) (n:=r.length + 1) hTf rfl
          rw [List.take_of_length_le (by omega)] at hXl hXf ⊢
          cases XX with
          | nil=>
           have hcn:=fun (d:Bool) (H:a03)=>b5j (d:=d) H
           (repeat first|simp only [ww]|(apply xa;simp +decide only [go_sem,c1,hcp,hcn,List.map_nil,a0s,a0t];rfl;kernel_rfl))
           refine a6n (vs:=[.agg [.slice 4 0 (r.length + 1) (some (r.length + 1)),.nilslice]]) (r:=(_,_)) (by simp +decide only [go_sem]) (show a1e true 1 _ _ = _ from rfl) ⟨_,_,by rw [← hal];rfl⟩
          | cons a2 r2=>
           have hcp2:=fun (d:Bool) (x0 x1 x2 x3 x4:Option AObj)=>a9z (d:=d) (H:=[x0,x1,x2,x3,x4,some (.row 1 ((a2 :: r2).map u8R))]) (b:=5) (n:=r2.length + 1) hXf rfl
           have g3':=fun (m:Nat) (q:AV → Option AV)=>a17 m q hXf
           have hml:(r2.map u8R).length = r2.length:=List.length_map ..
           simp only [List.map_cons,u8R] at hcp2 g3' hXf ⊢
           (repeat first|simp only [ww]|(apply xa;simp +decide only [go_sem,c1,hcp,hcp2,a09,a0a,hml];rfl;kernel_rfl))
           refine a6n (vs:=[.agg [.slice 4 0 (r.length + 1) (some (r.length + 1)),.slice 5 0 (r2.length + 1) (some (r2.length + 1))]]) (r:=(_,_)) (by simp +decide only [go_sem]) (show a1e true 1 _ _ = _ from rfl) ⟨_,_,by rw [← hal];rfl⟩
def a8g (c:Cir) (ord:List Nat) (f:Flt) (p:Pat):Hk Nat:=hkF f (a96 nAlg (a60 c ord p) f)
theorem c4h (c:Cir) (ord:List Nat) (p:Pat) (hp:PatOk c.nodes p):∀ v ∈ a60 c ord p,v ≤ 3:=d2w e35 _ _ _ _ _ hp.inv hp.stv
theorem d8s (c:Cir) (ord:List Nat) (f:Flt) (hf:FltOk c.nodes f) (p:Pat) (hp:PatOk c.nodes p):d6r (a8g c ord f p):=by
 refine e33 ?_
 have hv:=hf.value
 unfold a96
 split
 ·show f.value ≤ 3;omega
 split
 ·exact b8m (c4h c ord p hp) _
 split<;>exact d65 _ _
theorem d9n (c:Cir) (hc:c.wf) (hO:c.outs ≠ []) (p:Pat) (hp:PatOk c.nodes p) (f:Flt) (hf:FltOk c.nodes f) (ord:List Nat) (hord:OrdOf c ord) :
 sem L.env Mf 39 [.agg [sl c.nc (c.nodes.map Nd.enc),sl c.mc (c.names.map a10),.nilslice,sl c.oc (c.outs.map a0b)],.agg [.int .u8 f.model,.int .i64 f.node,.int .i64 f.pin,.int .u8 f.value,.int .i64 f.other],.agg [sl p.ic (p.ins.map u8R),sl p.sc (p.sts.map u8R)]] [] = some (.tuple [c2f (a1r c.outs (a60 c ord p)) (a51 c.nodes (a60 c ord p)),c2f (a1r c.outs (b0k c ord (a8g c ord f p) p)) (b21 c.nodes (a8g c ord f p) (b0k c ord (a8g c ord f p) p) (kinds c.nodes 14)),.islice ((b0k c ord (a8g c ord f p) p).map u8R) (some c.nodes.length),.int .i64 0],[]):=by
 have hck:=fun (d:Bool) (H:a03)=>b5c (d:=d) H c hc f hf
 have hsr:=fun (d:Bool) (H:a03)=>a04 (E:=L.env) (draw:=d) (call:=sem L.env Mf) (H:=H) (g:=9) (fs:=[]) (cs:=[]) (ar:=[.agg c.enc,.agg p.enc]) (by kernel_rfl) (by kernel_rfl) rfl (by simp only [List.nil_append,List.append_nil,a0d,a1j,Cir.enc,Pat.enc,go_sem]) (c7y c hc hO p hp ord hord) (by simp only [a77,a0d,b41,a4p,List.append_nil];simp only [go_sem])
 obtain ⟨net,pin,hN,hP,hfa⟩:=d0c c f hf (a60 c ord p) (c0b _ _ _ _ _) (c4h c ord p hp)
 obtain ⟨r,⟨X2,X3,rfl⟩,hir⟩:=d8m c hc hO p hp ord hord net pin (a8g c ord f p) hN hP (d8s c ord f hf p hp)
 have n3:=hN.flat
 have p3:=hP.flat
 have e1:∀ π,ren π net = net:=fun π=>a1d π _ n3
 have e2:∀ π,ren π pin = pin:=fun π=>a1d π _ p3
 have hfl:∀ v:AV,refs v = [] → FlatR [[sl c.nc (c.nodes.map Nd.enc),sl c.mc (c.names.map a10),.nilslice,sl c.oc (c.outs.map a0b),v,net,pin]]:=fun v hv r hr=>by
  rw [List.mem_singleton] at hr;subst hr
  simp only [go_sem,hv,n3,p3]
 have hfl0:=hfl .nilslice rfl
 have hfa':∀ x0 x1 x2 x3 x4:Option AObj,a0c L.env false (sem L.env Mf) (.func (.func 76) [] []) [.agg [sl c.nc (c.nodes.map Nd.enc),sl c.mc (c.names.map a10),.nilslice,sl c.oc (c.outs.map a0b)],.agg [.int .u8 f.model,.int .i64 f.node,.int .i64 f.pin,.int .u8 f.value,.int .i64 f.other],.islice ((a60 c ord p).map u8R) (some c.nodes.length)] [x0,x1,x2,x3,x4] = some (.ptr 5 0 0,[x0,x1,x2,x3,x4,some (.row 7 [[sl c.nc (c.nodes.map Nd.enc),sl c.mc (c.names.map a10),.nilslice,sl c.oc (c.outs.map a0b),.nilslice,net,pin]])],[]):=fun x0 x1 x2 x3 x4=>
  c6x (by kernel_rfl) (by kernel_rfl) rfl (by simp only [List.nil_append,List.append_nil,go_sem]) hfa hfl0
 have hbl:(b0k c ord (a8g c ord f p) p).length = c.nodes.length:=c0b _ _ _ _ _
 have hol:(a1r c.outs (b0k c ord (a8g c ord f p) p)).length = c.outs.length:=by simp [a1r]
 have hoc:a7l (a1r c.outs (b0k c ord (a8g c ord f p) p)) = .islice ((a1r c.outs (b0k c ord (a8g c ord f p) p)).map u8R) (some c.outs.length):=by
  cases ho:a1r c.outs (b0k c ord (a8g c ord f p) p) with
  | nil=>rw [ho] at hol;exact absurd (List.length_eq_zero_iff.1 hol.symm) hO
  | cons v q=>rw [ho] at hol;rw [← hol];rfl
 have s1:=a3u (a1r c.outs (a60 c ord p))
 have s2:=a3u (a51 c.nodes (a60 c ord p))
 have q1:=a49 (a1r c.outs (a60 c ord p))
 have q2:=a49 (a51 c.nodes (a60 c ord p))
 have z1:=fun m t d=>a4v m t d _ q1
 have z2:=fun m t d=>a4v m t d _ q2
 have m1:¬ (f.model:Int) = 1:=by have:=hf.model;omega
 unfold c2f at hsr ⊢
 rw [hoc]
 generalize a7l (a1r c.outs (a60 c ord p)) = A1 at hsr s1 q1 z1 ⊢
 generalize a7l (a51 c.nodes (a60 c ord p)) = A2 at hsr s2 q2 z2 ⊢
 generalize b21 c.nodes (a8g c ord f p) (b0k c ord (a8g c ord f p) p) (kinds c.nodes 14) = NX at hir ⊢
 have ho1:=a1g (a1r c.outs (b0k c ord (a8g c ord f p) p))
 generalize a1r c.outs (b0k c ord (a8g c ord f p) p) = OX at hir hol ho1 ⊢
 have hb1:=a1g (b0k c ord (a8g c ord f p) p)
 generalize b0k c ord (a8g c ord f p) p = BX at hir hbl hb1 ⊢
 have o2:=fun π=>a0k π ho1
 have b2:=fun π=>a0k π hb1
 have o3:=fun m d=>a17 (m:=m) (d:=d) ho1
 have b3:=fun m d=>a17 (m:=m) (d:=d) hb1
 have otk:(OX.map u8R).take c.outs.length = OX.map u8R:=List.take_of_length_le (by simp [hol])
 have btk:(BX.map u8R).take c.nodes.length = BX.map u8R:=List.take_of_length_le (by simp [hbl])
 have oln:(OX.map u8R).length = c.outs.length:=by simp [hol]
 have bln:(BX.map u8R).length = c.nodes.length:=by simp [hbl]
 generalize OX.map u8R = OR at hir o2 o3 otk oln ⊢
 generalize BX.map u8R = BR at hir b2 b3 btk bln ⊢
 simp only [Cir.enc,Pat.enc,Flt.enc] at hck hsr
 cases NX with
 | nil=>
  have hir':∀ x0 x1 x2 x3 x4:Option AObj,a0c L.env false (sem L.env Mf) (.func (.func 77) [] []) [.ptr 5 0 0,.agg [sl p.ic (p.ins.map u8R),sl p.sc (p.sts.map u8R)]] [x0,x1,x2,x3,x4,some (.row 7 [[sl c.nc (c.nodes.map Nd.enc),sl c.mc (c.names.map a10),.nilslice,sl c.oc (c.outs.map a0b),.nilslice,net,pin]])] = some (.agg [.slice 9 0 c.outs.length (some c.outs.length),.nilslice],[x0,x1,x2,x3,x4,some (.row 7 [[sl c.nc (c.nodes.map Nd.enc),sl c.mc (c.names.map a10),.nilslice,sl c.oc (c.outs.map a0b),.slice 6 0 c.nodes.length (some c.nodes.length),net,pin]]),some (.row 1 BR),X2.map (a0m (a1n [5] 6)),X3.map (a0m (a1n [5] 6)),some (.row 1 OR)],[5]):=fun x0 x1 x2 x3 x4=>by
   refine a7n (by kernel_rfl) (by kernel_rfl) rfl ((a29 (sem L.env Mf 77) [.ptr 5 0 0,.agg [sl p.ic (p.ins.map u8R),sl p.sc (p.sts.map u8R)]] _ (σ:=[5]) (by simp +decide only [go_sem,n3,p3]) rfl rfl (args':=[.ptr 0 0 0,.agg [sl p.ic (p.ins.map u8R),sl p.sc (p.sts.map u8R)]]) (by simp +decide only [go_sem]<;>rfl) (H0:=[some (b2g c .nilslice net pin)]) (by simp +decide only [a4l,go_sem,e1,e2,b2g]) hir).trans ?_)
   simp +decide only [go_sem,e73,grH,e1,e2,o2,b2]<;>rfl
  (refine sv Tryz.f39 ?_;simp only [Tryz.f39,gS])
  (repeat first|simp only [ww]|(apply xa;simp +decide only [go_sem,hck,hsr,hfa',hir',m1,s1,s2];rfl;kernel_rfl))
  refine a6t (vs:=[.agg [A1,A2],.agg [.slice 9 0 c.outs.length (some c.outs.length),.nilslice],.slice 6 0 c.nodes.length (some c.nodes.length),.int .i64 0]) (by simp +decide only [go_sem]<;>rfl) ?_
  show a1e false 0 _ _ = _
  simp +decide only [go_sem,a50,z1,z2,o3,b3,otk,btk,oln,bln,a7l]<;>rfl
 | cons a r=>
  have hn1:=a1g (a :: r)
  have n2:=fun π=>a0k π hn1
  have n2r:=fun π=>a0k π (a1g r)
  have n3':=fun m d=>a17 (m:=m) (d:=d) hn1
  have hir':∀ x0 x1 x2 x3 x4:Option AObj,a0c L.env false (sem L.env Mf) (.func (.func 77) [] []) [.ptr 5 0 0,.agg [sl p.ic (p.ins.map u8R),sl p.sc (p.sts.map u8R)]] [x0,x1,x2,x3,x4,some (.row 7 [[sl c.nc (c.nodes.map Nd.enc),sl c.mc (c.names.map a10),.nilslice,sl c.oc (c.outs.map a0b),.nilslice,net,pin]])] = some (.agg [.slice 9 0 c.outs.length (some c.outs.length),.slice 10 0 (r.length + 1) (some (r.length + 1))],[x0,x1,x2,x3,x4,some (.row 7 [[sl c.nc (c.nodes.map Nd.enc),sl c.mc (c.names.map a10),.nilslice,sl c.oc (c.outs.map a0b),.slice 6 0 c.nodes.length (some c.nodes.length),net,pin]]),some (.row 1 BR),X2.map (a0m (a1n [5] 6)),X3.map (a0m (a1n [5] 6)),some (.row 1 OR),some (.row 1 ((a :: r).map u8R))],[5]):=fun x0 x1 x2 x3 x4=>by
   refine a7n (by kernel_rfl) (by kernel_rfl) rfl ((a29 (sem L.env Mf 77) [.ptr 5 0 0,.agg [sl p.ic (p.ins.map u8R),sl p.sc (p.sts.map u8R)]] _ (σ:=[5]) (by simp +decide only [go_sem,n3,p3]) rfl rfl (args':=[.ptr 0 0 0,.agg [sl p.ic (p.ins.map u8R),sl p.sc (p.sts.map u8R)]]) (by simp +decide only [go_sem]<;>rfl) (H0:=[some (b2g c .nilslice net pin)]) (by simp +decide only [a4l,go_sem,e1,e2,b2g]) hir).trans ?_)
   simp +decide only [go_sem,e73,grH,e1,e2,o2,b2,n2r]<;>rfl
  have ntk:((a :: r).map u8R).take (r.length + 1) = (a :: r).map u8R:=List.take_of_length_le (by simp)
  have nln:((a :: r).map u8R).length = r.length + 1:=by simp
  have hcl:a7l (a :: r) = .islice ((a :: r).map u8R) (some (r.length + 1)):=rfl
  rw [hcl]
  generalize (a :: r).map u8R = NN at hir' n3' ntk nln ⊢
  (refine sv Tryz.f39 ?_;simp only [Tryz.f39,gS])
  (repeat first|simp only [ww]|(apply xa;simp +decide only [go_sem,hck,hsr,hfa',hir',m1,s1,s2];rfl;kernel_rfl))
  refine a6t (vs:=[.agg [A1,A2],.agg [.slice 9 0 c.outs.length (some c.outs.length),.slice 10 0 (r.length + 1) (some (r.length + 1))],.slice 6 0 c.nodes.length (some c.nodes.length),.int .i64 0]) (by simp +decide only [go_sem]<;>rfl) ?_
  show a1e false 0 _ _ = _
  simp +decide only [go_sem,a50,z1,z2,o3,b3,otk,btk,oln,bln,n3',ntk,nln]<;>rfl
theorem d0y {d:Bool} (H:a03) (c:Cir) (hc:c.wf) (hO:c.outs ≠ []) (p:Pat) (hp:PatOk c.nodes p) (f:Flt) (hf:FltOk c.nodes f) (ord:List Nat) (hord:OrdOf c ord) :
 a0c L.env d (sem L.env Mf) (.func (.func 39) [] []) [.agg [sl c.nc (c.nodes.map Nd.enc),sl c.mc (c.names.map a10),.nilslice,sl c.oc (c.outs.map a0b)],.agg [.int .u8 f.model,.int .i64 f.node,.int .i64 f.pin,.int .u8 f.value,.int .i64 f.other],.agg [sl p.ic (p.ins.map u8R),sl p.sc (p.sts.map u8R)]] H = some (.tuple [c2f (a1r c.outs (a60 c ord p)) (a51 c.nodes (a60 c ord p)),c2f (a1r c.outs (b0k c ord (a8g c ord f p) p)) (b21 c.nodes (a8g c ord f p) (b0k c ord (a8g c ord f p) p) (kinds c.nodes 14)),.islice ((b0k c ord (a8g c ord f p) p).map u8R) (some c.nodes.length),.int .i64 0],H,[]):=
 a04 (by kernel_rfl) (by kernel_rfl) rfl (by simp only [List.nil_append,List.append_nil,go_sem]) (d9n c hc hO p hp f hf ord hord) (by simp only [a77,a0d,a4p,b41,List.append_nil];rfl)
end Go.TInst
