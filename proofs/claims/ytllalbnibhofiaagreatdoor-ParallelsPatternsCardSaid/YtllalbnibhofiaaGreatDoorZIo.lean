/- Part of a proof. No condition. -/
import Derived.Test.YtllalbnibhofiaaGreatDoorZIn
set_option linter.unusedSimpArgs false
set_option linter.unusedVariables false
namespace Go.ZInst
set_option maxHeartbeats 200000000
open Go.Proofs Go.Ax Go.Pc
set_option maxRecDepth 100000
/-- The nets of a run with replaced nets and pins. -/
def apk (c:Cir) (ord:List Nat) (g:Hk Nat) (p:Pat):List Nat:=amf nAlg c.nodes g ord (kinds c.nodes 0) (kinds c.nodes 14) p.ins p.sts
/-- A run with replaced nets and pins. -/
theorem bls (c:Cir) (hc:c.wf) (hO:c.outs ≠ []) (p:Pat) (hp:PatOk c.nodes p) (ord:List Nat) (hord:OrdOf c ord) (net pin:AV) (g:Hk Nat) (h1:NetN net g.net) (h2:PinN pin g.pin) (hg:bic g) :
 sem L.env Mf 58 [.ptr 0 0 0,.agg [sl p.ic (p.ins.map u8R),sl p.sc (p.sts.map u8R)]] [some (am7 c .nilslice net pin)] = some (al6 (abo c.outs (apk c ord g p)) (aht c.nodes g (apk c ord g p) (kinds c.nodes 14)),[some (am7 c .junk net pin)]):=by
 have hnl:=hc.len
 have hol:=hc.outl
 have hrm:c.nodes.length ≤ 1000000000:=by omega
 obtain ⟨r0,e3⟩:=ac3 (kinds c.nodes 0)
 obtain ⟨r1,e4⟩:=ac3 (kinds c.nodes 14)
 have hk0:=acj c.nodes 0
 have hk14:=acj c.nodes 14
 have hi:=fun (d:Bool) H=>ahx (d:=d) H c (by omega)
 have hs:=fun (d:Bool) H=>afz (d:=d) H c (by omega)
 rw [e3] at hi
 rw [e4] at hs
 have ho:=hord.call
 simp only [Cir.enc] at hi hs ho
 have hor:∀ n ∈ ord,n < c.nodes.length:=fun n hn=>by have:=hord.perm.mem_iff.1 hn;simpa using this
 have hordl:ord.length = c.nodes.length:=by rw [hord.perm.length_eq];simp
 have hvi:=hp.ins
 have hvs:=hp.sts
 have n3:=h1.flat
 have p3:=h2.flat
 have n4:=h1.sto
 have p4:=h2.sto
 have e1:∀ π,ren π net = net:=fun π=>abc π _ n3
 have e2:∀ π,ren π pin = pin:=fun π=>abc π _ p3
 have hnc:=h1.call
 have hB:apk c ord g p = ord.foldl (Pc.stepG nAlg c.nodes g) (abi (abi (List.replicate c.nodes.length 0) (kinds c.nodes 0) p.ins) (kinds c.nodes 14) p.sts):=rfl
 rw [hB]
 have hrp:(List.replicate c.nodes.length 0).map u8R = List.replicate c.nodes.length [AV.int .u8 0]:=by rw [List.map_replicate];rfl
 have hN1v:∀ v ∈ abi (abi (List.replicate c.nodes.length 0) (kinds c.nodes 0) p.ins) (kinds c.nodes 14) p.sts,v ≤ 3:=anu _ _ _ (anu _ _ _ (fun v hv=>by rw [List.eq_of_mem_replicate hv];omega) hp.inv) hp.stv
 suffices hss:∃ r:AV × aa4,(r = (al6 (abo c.outs (ord.foldl (Pc.stepG nAlg c.nodes g) (abi (abi (List.replicate c.nodes.length 0) (kinds c.nodes 0) p.ins) (kinds c.nodes 14) p.sts))) (aht c.nodes g (ord.foldl (Pc.stepG nAlg c.nodes g) (abi (abi (List.replicate c.nodes.length 0) (kinds c.nodes 0) p.ins) (kinds c.nodes 14) p.sts)) (kinds c.nodes 14)),[some (am7 c .junk net pin)])) ∧ sem L.env Mf 58 [.ptr 0 0 0,.agg [sl p.ic (p.ins.map u8R),sl p.sc (p.sts.map u8R)]] [some (am7 c .nilslice net pin)] = some r by
  obtain ⟨r,rfl,h3⟩:=hss
  exact h3
 unfold am7
 (refine svE Tryz.f58 ?_;simp only [Tryz.f58,gS])
 (repeat first|simp only [ww]|(apply xa;simp +decide only [go_sem,hrm,hs,hi,n4,p4];rfl;kernel_rfl))
 refine ab3 (σ:=Nat) kp58_0 (fun i=>[(0,.ptr 0 0 0),(3,.ptr 2 0 0),(4,.ptr 3 0 0),(5,sl r1 ((kinds c.nodes 14).map aaj)),(41,sl r0 ((kinds c.nodes 0).map aaj)),(42,.int .i64 (kinds c.nodes 0).length),(43,.int .i64 i)])
  (fun i=>[some (.row 7 [[sl c.nc (c.nodes.map Nd.enc),sl c.mc (c.names.map abv),.nilslice,sl c.oc (c.outs.map aaj),.slice 1 0 c.nodes.length (some c.nodes.length),net,pin]]),some (.row 1 ((abi (List.replicate c.nodes.length 0) ((kinds c.nodes 0).take i) (p.ins.take i)).map u8R)),some (.row 2 [[sl p.ic (p.ins.map u8R),sl p.sc (p.sts.map u8R)]]),some (.row 2 [[.nilslice,.nilslice]])]) (fun i=>(kinds c.nodes 0).length - i) (fun i=>i ≤ (kinds c.nodes 0).length) 0 ?_ (Nat.zero_le _) ?_
 ·rw [List.take_zero,List.take_zero,show abi (List.replicate c.nodes.length 0) [] [] = (List.replicate c.nodes.length 0) from rfl,hrp]
  (simp +decide only [go_sem,aa1,aa0,acz,acl,n3,p3,e1,e2]<;>rfl)<;>rfl
 ·intro i hi'
  have hll:=acf ((kinds c.nodes 0).take i) (p.ins.take i) (List.replicate c.nodes.length 0)
  rw [List.length_replicate] at hll
  by_cases hlt:i < (kinds c.nodes 0).length
  ·obtain ⟨n,hn⟩:∃ n,(kinds c.nodes 0)[i]? = some n:=⟨_,List.getElem?_eq_getElem hlt⟩
   obtain ⟨w,hw⟩:∃ w,p.ins[i]? = some w:=⟨_,List.getElem?_eq_getElem (by omega)⟩
   have hnn:=(aed hn).1
   have hst:=afs (nets:=(List.replicate c.nodes.length 0)) hn hw
   have c1:(i:Int) < (kinds c.nodes 0).length:=by omega
   have hwi:=wI1 (n:=i) (by omega)
   have hiv:i < p.ins.length:=by omega
   generalize abi (List.replicate c.nodes.length 0) ((kinds c.nodes 0).take i) (p.ins.take i) = N at hst hll
   obtain ⟨w0,hw0⟩:∃ w,N[n]? = some w:=⟨_,List.getElem?_eq_getElem (by omega)⟩
   have hsR:(N.map u8R).set n [AV.int .u8 w] = (N.set n w).map u8R:=by rw [List.map_set];rfl
   (repeat first|simp only [ww]|(apply xa;simp +decide only [go_sem,c1,hlt,hn,hw,hnn,hwi,hiv,hll,hw0,hsR];rfl;kernel_rfl))
   refine ac6 (i + 1) ?_ (by omega) (by omega)
   rw [hst]
   (simp +decide only [go_sem,aa1,aa0,acz,acl,n3,p3,e1,e2]<;>rfl)<;>rfl
  have hie:i = (kinds c.nodes 0).length:=by omega
  subst hie
  have c1:¬ ((kinds c.nodes 0).length:Int) < (kinds c.nodes 0).length:=by omega
  rw [List.take_length,List.take_of_length_le (by omega)] at hll ⊢
  generalize abi (List.replicate c.nodes.length 0) (kinds c.nodes 0) p.ins = N0 at hll hN1v ⊢
  have hNl:=hll
  clear hll
  (repeat first|simp only [ww]|(apply xa;simp +decide only [go_sem,c1];rfl;kernel_rfl))
  refine ab3 (σ:=Nat) kp58_2 (fun i=>[(0,.ptr 0 0 0),(3,.ptr 2 0 0),(4,.ptr 3 0 0),(5,sl r1 ((kinds c.nodes 14).map aaj)),(60,sl r1 ((kinds c.nodes 14).map aaj)),(61,.int .i64 (kinds c.nodes 14).length),(62,.int .i64 i)])
   (fun i=>[some (.row 7 [[sl c.nc (c.nodes.map Nd.enc),sl c.mc (c.names.map abv),.nilslice,sl c.oc (c.outs.map aaj),.slice 1 0 c.nodes.length (some c.nodes.length),net,pin]]),some (.row 1 ((abi N0 ((kinds c.nodes 14).take i) (p.sts.take i)).map u8R)),some (.row 2 [[sl p.ic (p.ins.map u8R),sl p.sc (p.sts.map u8R)]]),some (.row 2 [[.nilslice,.nilslice]])]) (fun i=>(kinds c.nodes 14).length - i) (fun i=>i ≤ (kinds c.nodes 14).length) 0 ?_ (Nat.zero_le _) ?_
  ·rw [List.take_zero,List.take_zero,show abi N0 [] [] = N0 from rfl]
   (simp +decide only [go_sem,aa1,aa0,acz,acl,n3,p3,e1,e2]<;>rfl)<;>rfl
  ·intro i hi'
   have hll:=acf ((kinds c.nodes 14).take i) (p.sts.take i) N0
   rw [hNl] at hll
   by_cases hlt:i < (kinds c.nodes 14).length
   ·obtain ⟨n,hn⟩:∃ n,(kinds c.nodes 14)[i]? = some n:=⟨_,List.getElem?_eq_getElem hlt⟩
    obtain ⟨w,hw⟩:∃ w,p.sts[i]? = some w:=⟨_,List.getElem?_eq_getElem (by omega)⟩
    have hnn:=(aed hn).1
    have hst:=afs (nets:=N0) hn hw
    have c1:(i:Int) < (kinds c.nodes 14).length:=by omega
    have hwi:=wI1 (n:=i) (by omega)
    have hiv:i < p.sts.length:=by omega
    generalize abi N0 ((kinds c.nodes 14).take i) (p.sts.take i) = N at hst hll
    obtain ⟨w0,hw0⟩:∃ w,N[n]? = some w:=⟨_,List.getElem?_eq_getElem (by omega)⟩
    have hsR:(N.map u8R).set n [AV.int .u8 w] = (N.set n w).map u8R:=by rw [List.map_set];rfl
    (repeat first|simp only [ww]|(apply xa;simp +decide only [go_sem,c1,hlt,hn,hw,hnn,hwi,hiv,hll,hw0,hsR];rfl;kernel_rfl))
    refine ac6 (i + 1) ?_ (by omega) (by omega)
    rw [hst]
    (simp +decide only [go_sem,aa1,aa0,acz,acl,n3,p3,e1,e2]<;>rfl)<;>rfl
   have hie:i = (kinds c.nodes 14).length:=by omega
   subst hie
   have c1:¬ ((kinds c.nodes 14).length:Int) < (kinds c.nodes 14).length:=by omega
   rw [List.take_length,List.take_of_length_le (by omega)] at hll ⊢
   generalize abi N0 (kinds c.nodes 14) p.sts = N1 at hll hN1v ⊢
   have hNl1:=hll
   clear hll
   (repeat first|simp only [ww]|(apply xa;simp +decide only [go_sem,c1,ho];rfl;kernel_rfl))
   refine acx kp58_4 (fun n F H=>∃ i,n = ord.length - i ∧ i ≤ ord.length ∧ (∀ v ∈ (ord.take i).foldl (Pc.stepG nAlg c.nodes g) N1,v ≤ 3) ∧ F = [(0,.ptr 0 0 0),(4,.ptr 2 0 0),(5,sl r1 ((kinds c.nodes 14).map aaj)),(12,.func (.func 94) [.ptr 0 0 0] []),(89,.islice (ord.map aaj) (some c.nodes.length)),(90,.int .i64 ord.length),(91,.int .i64 i)] ∧ H = [some (.row 7 [[sl c.nc (c.nodes.map Nd.enc),sl c.mc (c.names.map abv),.nilslice,sl c.oc (c.outs.map aaj),.slice 1 0 c.nodes.length (some c.nodes.length),net,pin]]),some (.row 1 (((ord.take i).foldl (Pc.stepG nAlg c.nodes g) N1).map u8R)),some (.row 2 [[.nilslice,.nilslice]])]) ord.length ?_ ?_
   ·refine ⟨_,_,?_,0,rfl,Nat.zero_le _,by rw [List.take_zero];exact hN1v,rfl,rfl⟩
    rw [List.take_zero,List.foldl_nil]
    (simp +decide only [go_sem,aa1,aa0,acz,acl,n3,p3,e1,e2]<;>rfl)<;>rfl
   ·rintro n F H ⟨i,rfl,hi2,hNv,rfl,rfl⟩
    have hll:=aj7 (A:=nAlg) (nodes:=c.nodes) (h:=g) (ord.take i) N1
    rw [hNl1] at hll
    by_cases hlt:i < ord.length
    ·obtain ⟨n,hn⟩:∃ n,ord[i]? = some n:=⟨_,List.getElem?_eq_getElem hlt⟩
     have hnn:=hor n (List.mem_of_getElem? hn)
     obtain ⟨x,hx⟩:∃ x,c.nodes[n]? = some x:=⟨_,List.getElem?_eq_getElem hnn⟩
     have hxm:=List.mem_of_getElem? hx
     have k14:=hc.kind x hxm
     have hka:=ab7 hx
     have hst:=aoi (A:=nAlg) (nodes:=c.nodes) (h:=g) (nets:=N1) hn
     have c1:(i:Int) < ord.length:=by omega
     have hwi:=wI1 (n:=i) (by omega)
     generalize (ord.take i).foldl (Pc.stepG nAlg c.nodes g) N1 = N at hst hll hNv
     have hstv:∀ v ∈ Pc.stepG nAlg c.nodes g N n,v ≤ 3:=ban hg hNv n
     obtain ⟨w0,hw0⟩:∃ w,N[n]? = some w:=⟨_,List.getElem?_eq_getElem (by omega)⟩
     by_cases hk:x.kind ≠ 0 ∧ x.kind ≠ 14
     ·have c2:¬ (x.kind:Int) = 0:=by omega
      have c3:¬ (x.kind:Int) = 14:=by omega
      have hRv:∀ v ∈ aap nAlg c.nodes g N n,v ≤ 3:=fun v hv=>awk hg hNv n _ _ v hv
      have hev:=fun (d:Bool) (R:aa4)=>az4 (d:=d) R c hc net pin g n3 h2 N hll n hnn hRv
      unfold am7 at hev
      have hstep:Pc.stepG nAlg c.nodes g N n = N.set n (g.net n (nAlg.ev (aaq c.nodes n) (aap nAlg c.nodes g N n))):=by unfold Pc.stepG;rw [hka,if_pos hk]
      rw [hstep] at hst hstv
      generalize nAlg.ev (aaq c.nodes n) (aap nAlg c.nodes g N n) = w at hev hst hstv
      have hsR:(N.map u8R).set n [AV.int .u8 w] = (N.set n w).map u8R:=by rw [List.map_set];rfl
      have hw1:(N.set n w)[n]? = some w:=by rw [List.getElem?_set];simp;omega
      have hlw:(N.set n w).length = c.nodes.length:=by rw [List.length_set];exact hll
      have hs2:((N.set n w).map u8R).set n [AV.int .u8 (g.net n w)] = (N.set n (g.net n w)).map u8R:=by
       have e:(N.set n (g.net n w)) = (N.set n w).set n (g.net n w):=(List.set_set ..).symm
       rw [e,List.map_set (l:=N.set n w)];rfl
      (repeat first|simp only [ww]|(apply xa;simp +decide only [go_sem,c1,hlt,hn,hnn,hx,c2,c3,hev,hll,hw0,hsR,hw1,hlw,hnc,hs2,hwi];rfl;kernel_rfl))
      refine ab8 (ord.length - (i + 1)) (by omega) ⟨_,_,?_,i + 1,rfl,hlt,by rw [hst];exact hstv,rfl,rfl⟩
      rw [hst]
      (simp +decide only [go_sem,aa1,aa0,acz,acl,n3,p3,e1,e2]<;>rfl)<;>rfl
     ·have hstep:Pc.stepG nAlg c.nodes g N n = N.set n (g.net n w0):=by
       unfold Pc.stepG;rw [hka,if_neg hk,List.getD,hw0];rfl
      rw [hstep] at hst hstv
      have hs2:(N.map u8R).set n [AV.int .u8 (g.net n w0)] = (N.set n (g.net n w0)).map u8R:=by rw [List.map_set];rfl
      have hkc:x.kind = 0 ∨ x.kind = 14:=by omega
      rcases hkc with hkc|hkc
      ·have c2:(x.kind:Int) = 0:=by omega
       (repeat first|simp only [ww]|(apply xa;simp +decide only [go_sem,c1,hlt,hn,hnn,hx,c2,hll,hw0,hnc,hs2,hwi];rfl;kernel_rfl))
       refine ab8 (ord.length - (i + 1)) (by omega) ⟨_,_,?_,i + 1,rfl,hlt,by rw [hst];exact hstv,rfl,rfl⟩
       rw [hst]
       (simp +decide only [go_sem,aa1,aa0,acz,acl,n3,p3,e1,e2]<;>rfl)<;>rfl
      ·have c3:(x.kind:Int) = 14:=by omega
       (repeat first|simp only [ww]|(apply xa;simp +decide only [go_sem,c1,hlt,hn,hnn,hx,c3,hll,hw0,hnc,hs2,hwi];rfl;kernel_rfl))
       refine ab8 (ord.length - (i + 1)) (by omega) ⟨_,_,?_,i + 1,rfl,hlt,by rw [hst];exact hstv,rfl,rfl⟩
       rw [hst]
       (simp +decide only [go_sem,aa1,aa0,acz,acl,n3,p3,e1,e2]<;>rfl)<;>rfl
    ·obtain rfl:i = ord.length:=by omega
     have c1:¬ (ord.length:Int) < ord.length:=by omega
     rw [List.take_length] at hll hNv ⊢
     clear hN1v hNl1
     generalize ord.foldl (Pc.stepG nAlg c.nodes g) N1 = nets at hll hNv ⊢
     have hNf:=ach nets
     have m1:=aah hNf
     have m2:=fun π=>aae π hNf
     have hrd:=fun (d:Bool) (R:aa4) (n:Nat) (hn:n < c.nodes.length)=>ao7 (d:=d) R c hc net pin g n3 h2 nets hll n hn
     unfold am7 at hrd
     (repeat first|simp only [ww]|(apply xa;simp +decide only [go_sem,c1];rfl;kernel_rfl))
     generalize hNR:nets.map u8R = NR at hrd hNf m1 m2
     refine acx kp58_6 (fun n F H=>∃ i,n = c.outs.length - i ∧ i ≤ c.outs.length ∧ F = [(0,.ptr 0 0 0),(4,.ptr 2 0 0),(5,sl r1 ((kinds c.nodes 14).map aaj)),(16,.ptr 3 0 0),(143,sl c.oc (c.outs.map aaj)),(144,.int .i64 c.outs.length),(145,.int .i64 i)] ∧ H = [some (.row 7 [[sl c.nc (c.nodes.map Nd.enc),sl c.mc (c.names.map abv),.nilslice,sl c.oc (c.outs.map aaj),.slice 1 0 c.nodes.length (some c.nodes.length),net,pin]]),some (.row 1 NR),some (.row 2 [[.nilslice,.nilslice]]),some (.row 2 [[grV 4 ((abo (c.outs.take i) nets).map u8R),.nilslice]])] ++ grH 1 ((abo (c.outs.take i) nets).map u8R)) c.outs.length ?_ ?_
     ·refine ⟨_,_,?_,0,rfl,Nat.zero_le _,rfl,rfl⟩
      rw [List.take_zero,show abo [] nets = [] from rfl]
      (simp +decide only [go_sem,aa1,aa0,aaf,aag,List.map_nil,m1,m2,n3,p3,e1,e2]<;>rfl)<;>rfl
     ·rintro n F H ⟨i,rfl,hi3,rfl,rfl⟩
      have hTl:((abo (c.outs.take i) nets).map u8R).length = i:=by simp [abo];omega
      have hTf:=ach (abo (c.outs.take i) nets)
      by_cases hlt:i < c.outs.length
      ·obtain ⟨o,hoo⟩:∃ o,c.outs[i]? = some o:=⟨_,List.getElem?_eq_getElem hlt⟩
       have hon:=hc.outs o (List.mem_of_getElem? hoo)
       obtain ⟨v,hnv⟩:∃ v,nets[o]? = some v:=⟨_,List.getElem?_eq_getElem (by omega)⟩
       have hNRo:NR[o]? = some [AV.int .u8 v]:=by rw [← hNR,List.getElem?_map,hnv];rfl
       have hNRl:NR.length = c.nodes.length:=by rw [← hNR,List.length_map];exact hll
       have c1:(i:Int) < c.outs.length:=by omega
       have hwi:=wI1 (n:=i) (by omega)
       have hT2:(abo (c.outs.take (i + 1)) nets).map u8R = (abo (c.outs.take i) nets).map u8R ++ [[.int .u8 v]]:=by
        unfold abo
        rw [aay hoo,List.map_append,List.map_append]
        simp only [List.map_cons,List.map_nil,List.getD,hnv,Option.getD_some]
        rfl
       generalize (abo (c.outs.take i) nets).map u8R = T at hTl hTf hT2
       have h1':=aah hTf
       have h2':=fun π=>aae π hTf
       cases T with
       | nil=>
        (repeat first|simp only [ww]|(apply xa;simp +decide only [go_sem,c1,hlt,hoo,hon,hNRo,hNRl,hwi,aaf,aag];rfl;kernel_rfl))
        refine ab8 (c.outs.length - (i + 1)) (by omega) ⟨_,_,?_,i + 1,rfl,hlt,rfl,rfl⟩
        rw [hT2]
        (simp +decide only [go_sem,aa1,aa0,aa5,aa6,List.nil_append,List.length_nil,m1,m2,n3,p3,e1,e2]<;>rfl)<;>rfl
       | cons a r=>
        simp only [List.length_cons] at hTl
        have hrm:r.length + 1 + 1 ≤ 1000000000:=by omega
        simp only [List.flatMap_cons] at h1'
        simp only [List.map_cons,List.cons.injEq] at h2'
        (repeat first|simp only [ww]|(apply xa;simp +decide only [go_sem,c1,hlt,hoo,hon,hNRo,hNRl,hwi,aa5,aa6,hrm];rfl;kernel_rfl))
        refine ab8 (c.outs.length - (i + 1)) (by omega) ⟨_,_,?_,i + 1,rfl,hlt,rfl,rfl⟩
        rw [hT2]
        (simp +decide only [go_sem,aa1,aa0,aa5,aa6,List.cons_append,h1',h2',m1,m2,n3,p3,e1,e2]<;>rfl)<;>rfl
      ·obtain rfl:i = c.outs.length:=by omega
       have c1:¬ (c.outs.length:Int) < c.outs.length:=by omega
       rw [List.take_length] at hTl hTf ⊢
       have hOl:0 < c.outs.length:=List.length_pos_iff.2 hO
       have hTc:afg (abo c.outs nets) = .islice ((abo c.outs nets).map u8R) (some c.outs.length):=by
        have hol2:(abo c.outs nets).length = c.outs.length:=by simp [abo]
        cases hoN:abo c.outs nets with
        | nil=>rw [hoN] at hol2;simp at hol2;omega
        | cons v q=>rw [hoN] at hol2;simp only [List.length_cons] at hol2;rw [← hol2];rfl
       unfold al6
       rw [hTc]
       generalize (abo c.outs nets).map u8R = T at hTl hTf
       cases T with
       | nil=>simp at hTl;omega
       | cons a r=>
        have hal:r.length + 1 = c.outs.length:=by simpa using hTl
        have h1':=aah hTf
        have h2':=fun π=>aae π hTf
        have h3':=fun (m:Nat) (q:AV → Option AV)=>aau m q hTf
        simp only [List.flatMap_cons] at h1'
        simp only [List.map_cons,List.cons.injEq] at h2'
        have hNl:(aht c.nodes g nets (kinds c.nodes 14)).length = (kinds c.nodes 14).length:=by simp [aht]
        have hNg:∀ (i q:Nat),(kinds c.nodes 14)[i]? = some q → (aht c.nodes g nets (kinds c.nodes 14))[i]? = some (if (aap nAlg c.nodes g nets q).getD 0 0 = 3 then 2 else (aap nAlg c.nodes g nets q).getD 0 0):=by
         intro i q hq;unfold aht;rw [List.getElem?_map,hq];rfl
        generalize hXX:aht c.nodes g nets (kinds c.nodes 14) = XX at hNl hNg ⊢
        (repeat first|simp only [ww]|(apply xa;simp +decide only [go_sem,c1,aa5,aa6];rfl;kernel_rfl))
        refine acx kp58_8 (fun n F H=>∃ i,n = (kinds c.nodes 14).length - i ∧ i ≤ (kinds c.nodes 14).length ∧ F = [(0,.ptr 0 0 0),(4,.ptr 2 0 0),(16,.ptr 3 0 0),(162,sl r1 ((kinds c.nodes 14).map aaj)),(163,.int .i64 (kinds c.nodes 14).length),(164,.int .i64 i)] ∧ H = [some (.row 7 [[sl c.nc (c.nodes.map Nd.enc),sl c.mc (c.names.map abv),.nilslice,sl c.oc (c.outs.map aaj),.slice 1 0 c.nodes.length (some c.nodes.length),net,pin]]),some (.row 1 NR),some (.row 2 [[.nilslice,.nilslice]]),some (.row 2 [[.slice 4 0 (r.length + 1) none,grV 5 ((XX.take i).map u8R)]]),some (.row 1 (a :: r))] ++ grH 1 ((XX.take i).map u8R)) (kinds c.nodes 14).length ?_ ?_
        ·refine ⟨_,_,?_,0,rfl,Nat.zero_le _,rfl,rfl⟩
         rw [List.take_zero]
         (simp +decide only [go_sem,aa1,aa0,aaf,aag,List.map_nil,m1,m2,h1',h2',n3,p3,e1,e2]<;>rfl)<;>rfl
        ·rintro n F H ⟨i,rfl,hi4,rfl,rfl⟩
         have hXl:((XX.take i).map u8R).length = i:=by simp;omega
         have hXf:=ach (XX.take i)
         by_cases hlt:i < (kinds c.nodes 14).length
         ·obtain ⟨q,hq⟩:∃ q,(kinds c.nodes 14)[i]? = some q:=⟨_,List.getElem?_eq_getElem hlt⟩
          obtain ⟨hqn,hqk⟩:=aed hq
          obtain ⟨x,hx⟩:∃ x,c.nodes[q]? = some x:=⟨_,List.getElem?_eq_getElem hqn⟩
          have hxk:x.kind = 14:=by rw [← ab7 hx];exact hqk
          have hx1:x.ins.length = 1:=by
           have h1:=hc.lo x (List.mem_of_getElem? hx)
           have h2:=hc.hi x (List.mem_of_getElem? hx)
           rw [hxk] at h1 h2
           have e1:abl 14 = 1:=rfl
           have e2:abm 14 = 1:=rfl
           omega
          have hRl:(aap nAlg c.nodes g nets q).length = 1:=by rw [adx,abk hx];exact hx1
          have hNgq:=hNg i q hq
          have hrq:=fun (d:Bool) (R:aa4)=>hrd d R q hqn
          generalize aap nAlg c.nodes g nets q = RR at hRl hNgq hrq
          obtain ⟨v,hRR⟩:∃ v,RR = [v]:=by
           cases RR with
           | nil=>simp at hRl
           | cons v l=>cases l with
            | nil=>exact ⟨v,rfl⟩
            | cons=>simp at hRl
          subst hRR
          simp only [List.getD_cons_zero] at hNgq
          have hX2:(XX.take (i + 1)).map u8R = (XX.take i).map u8R ++ [[.int .u8 (if v = 3 then 2 else v:Nat)]]:=by
           rw [aay hNgq,List.map_append];rfl
          have c1:(i:Int) < (kinds c.nodes 14).length:=by omega
          have hwi:=wI1 (n:=i) (by omega)
          have hr0:Ax.rowAt ([v].map u8R) 0 = some [AV.int .u8 v]:=rfl
          have hrq:∀ (d:Bool) (R:aa4),_ = some (sl none ([v].map u8R),_,_):=hrq
          generalize (XX.take i).map u8R = X at hXl hXf hX2
          generalize [v].map u8R = RV at hr0 hrq
          have g1':=aah hXf
          have g2':=fun π=>aae π hXf
          by_cases hv3:v = 3
          ·rw [if_pos hv3] at hX2
           have c3:(v:Int) = 3:=by omega
           cases X with
           | nil=>
            (repeat first|simp only [ww]|(apply xa;simp +decide only [go_sem,c1,hlt,hq,hrq,hr0,c3,hwi,aaf,aag];rfl;kernel_rfl))
            refine ab8 ((kinds c.nodes 14).length - (i + 1)) (by omega) ⟨_,_,?_,i + 1,rfl,hlt,rfl,rfl⟩
            rw [hX2]
            (simp +decide only [go_sem,aa1,aa0,aa5,aa6,List.nil_append,List.length_nil,m1,m2,h1',h2',n3,p3,e1,e2]<;>rfl)<;>rfl
           | cons a2 r2=>
            simp only [List.length_cons] at hXl
            have hrm:r2.length + 1 + 1 ≤ 1000000000:=by omega
            simp only [List.flatMap_cons] at g1'
            simp only [List.map_cons,List.cons.injEq] at g2'
            (repeat first|simp only [ww]|(apply xa;simp +decide only [go_sem,c1,hlt,hq,hrq,hr0,c3,hwi,aa5,aa6,hrm];rfl;kernel_rfl))
            refine ab8 ((kinds c.nodes 14).length - (i + 1)) (by omega) ⟨_,_,?_,i + 1,rfl,hlt,rfl,rfl⟩
            rw [hX2]
            (simp +decide only [go_sem,aa1,aa0,aa5,aa6,List.cons_append,g1',g2',m1,m2,h1',h2',n3,p3,e1,e2]<;>rfl)<;>rfl
          ·rw [if_neg hv3] at hX2
           have c3:¬ (v:Int) = 3:=by omega
           cases X with
           | nil=>
            (repeat first|simp only [ww]|(apply xa;simp +decide only [go_sem,c1,hlt,hq,hrq,hr0,c3,hwi,aaf,aag];rfl;kernel_rfl))
            refine ab8 ((kinds c.nodes 14).length - (i + 1)) (by omega) ⟨_,_,?_,i + 1,rfl,hlt,rfl,rfl⟩
            rw [hX2]
            (simp +decide only [go_sem,aa1,aa0,aa5,aa6,List.nil_append,List.length_nil,m1,m2,h1',h2',n3,p3,e1,e2]<;>rfl)<;>rfl
           | cons a2 r2=>
            simp only [List.length_cons] at hXl
            have hrm:r2.length + 1 + 1 ≤ 1000000000:=by omega
            simp only [List.flatMap_cons] at g1'
            simp only [List.map_cons,List.cons.injEq] at g2'
            (repeat first|simp only [ww]|(apply xa;simp +decide only [go_sem,c1,hlt,hq,hrq,hr0,c3,hwi,aa5,aa6,hrm];rfl;kernel_rfl))
            refine ab8 ((kinds c.nodes 14).length - (i + 1)) (by omega) ⟨_,_,?_,i + 1,rfl,hlt,rfl,rfl⟩
            rw [hX2]
            (simp +decide only [go_sem,aa1,aa0,aa5,aa6,List.cons_append,g1',g2',m1,m2,h1',h2',n3,p3,e1,e2]<;>rfl)<;>rfl
         ·obtain rfl:i = (kinds c.nodes 14).length:=by omega
          have c1:¬ ((kinds c.nodes 14).length:Int) < (kinds c.nodes 14).length:=by omega
          have hcp:=fun (d:Bool) (x0 x1 x2 x3:Option AObj) (R:aa4)=>aj9 (d:=d) (H:=x0 :: x1 :: x2 :: x3 :: some (.row 1 (a :: r)) :: R) (b:=4) (n:=r.length + 1) hTf rfl
          rw [List.take_of_length_le (by omega)] at hXl hXf ⊢
          cases XX with
          | nil=>
           have hcn:=fun (d:Bool) (H:aa4)=>aow (d:=d) H
           (repeat first|simp only [ww]|(apply xa;simp +decide only [go_sem,c1,hcp,hcn,List.map_nil,aaf,aag];rfl;kernel_rfl))
           refine acs (vs:=[.agg [.slice 4 0 (r.length + 1) (some (r.length + 1)),.nilslice]]) (r:=(_,_)) (by simp +decide only [go_sem]) ?_ rfl
           show aby false 1 (.agg [.slice 4 0 (r.length + 1) (some (r.length + 1)),.nilslice]) _ = _
           have htk:List.take (r.length + 1) (a :: r) = a :: r:=List.take_length (l:=a :: r)
           rw [← hal]
           unfold afg
           simp +decide only [go_sem,h3',m2,htk,e1,e2]<;>rfl
          | cons a2 r2=>
           have hcp2:=fun (d:Bool) (x0 x1 x2 x3 x4:Option AObj)=>aj9 (d:=d) (H:=[x0,x1,x2,x3,x4,some (.row 1 ((a2 :: r2).map u8R))]) (b:=5) (n:=r2.length + 1) hXf rfl
           have g3':=fun (m:Nat) (q:AV → Option AV)=>aau m q hXf
           have hml:(r2.map u8R).length = r2.length:=List.length_map ..
           simp only [List.map_cons,u8R] at hcp2 g3' hXf ⊢
           (repeat first|simp only [ww]|(apply xa;simp +decide only [go_sem,c1,hcp,hcp2,aa5,aa6,hml];rfl;kernel_rfl))
           refine acs (vs:=[.agg [.slice 4 0 (r.length + 1) (some (r.length + 1)),.slice 5 0 (r2.length + 1) (some (r2.length + 1))]]) (r:=(_,_)) (by simp +decide only [go_sem]) ?_ rfl
           show aby false 1 (.agg [.slice 4 0 (r.length + 1) (some (r.length + 1)),.slice 5 0 (r2.length + 1) (some (r2.length + 1))]) _ = _
           have htk:List.take (r.length + 1) (a :: r) = a :: r:=List.take_length (l:=a :: r)
           have htk2:List.take (r2.length + 1) ([AV.int .u8 a2] :: r2.map u8R) = [AV.int .u8 a2] :: r2.map u8R:=List.take_of_length_le (by simp)
           rw [← hal]
           unfold afg
           simp only [List.map_cons,u8R]
           simp +decide only [go_sem,h3',g3',m2,htk,htk2,e1,e2]<;>rfl
set_option maxHeartbeats 200000000
open Go.Proofs Go.Ax Go.Pc
set_option maxRecDepth 100000
/-- The positions at which two lists contradict each other. -/
def aha:Nat → List Nat → List Nat → List Nat
 | i,x :: xs,y :: ys=>if con x y then i :: aha (i + 1) xs ys else aha (i + 1) xs ys
 | _,_,_=>[]
theorem arl:∀ (i:Nat) (a b:List Nat),decide (0 < (aha i a b).length) = am9 a b
 | i,[],b=>by cases b<;>rfl
 | i,x :: xs,[]=>rfl
 | i,x :: xs,y :: ys=>by
  have ih:=arl (i + 1) xs ys
  by_cases h:con x y = true
  ·have e:aha i (x :: xs) (y :: ys) = i :: aha (i + 1) xs ys:=by simp [aha,h]
   rw [show am9 (x :: xs) (y :: ys) = (con x y || am9 xs ys) from rfl,h,Bool.true_or,decide_eq_true_eq,e]
   simp
  ·have h:con x y = false:=by simpa using h
   have e:aha i (x :: xs) (y :: ys) = aha (i + 1) xs ys:=by simp [aha,h]
   rw [show am9 (x :: xs) (y :: ys) = (con x y || am9 xs ys) from rfl,h,Bool.false_or,← ih]
   exact congrArg (fun l:List Nat=>decide (0 < l.length)) e
theorem at5:∀ (i:Nat) (a b:List Nat) (x y:Nat),a.length = b.length → aha i (a ++ [x]) (b ++ [y]) = if con x y then aha i a b ++ [i + a.length] else aha i a b
 | i,[],[],x,y,_=>by simp [aha]
 | i,[],_ :: _,_,_,h=>by simp at h
 | i,_ :: _,[],_,_,h=>by simp at h
 | i,u :: a,v :: b,x,y,h=>by
  simp only [List.cons_append,aha]
  have:=at5 (i + 1) a b x y (by simpa using h)
  rw [this]
  have e:i + (u :: a).length = i + 1 + a.length:=by simp;omega
  rw [e]
  cases con x y<;>cases con u v<;>simp
theorem ark:∀ (i:Nat) (a b:List Nat),(aha i a b).length ≤ a.length
 | i,[],b=>by cases b<;>simp [aha]
 | i,x :: xs,[]=>by simp [aha]
 | i,x :: xs,y :: ys=>by
  simp only [aha]
  have:=ark (i + 1) xs ys
  split<;>simp<;>omega
theorem bhe (ra rb:Rep) (a b:List Nat) (hab:a.length = b.length) (hl:a.length ≤ 1000):sem L.env Mf 97 [sl ra (a.map u8R),sl rb (b.map u8R)] [] = some (apb (aha 0 a b),[]):=by
 have hmn:be8 (.int .i64 (b.length:Nat)) [.int .i64 (b.length:Nat)] = some (.int .i64 (b.length:Nat)):=by simp [be8]
 suffices hs:∃ r:AV × aa4,(r = (apb (aha 0 a b),[])) ∧ sem L.env Mf 97 [sl ra (a.map u8R),sl rb (b.map u8R)] [] = some r by
  obtain ⟨r,rfl,h3⟩:=hs
  exact h3
 (refine svE Tryz.f97 ?_;simp only [Tryz.f97,gS])
 (repeat first|simp only [ww]|(apply xa;simp +decide only [go_sem,hab,hmn];rfl;kernel_rfl))
 refine acx kp97_0 (fun n F H=>∃ i,n = b.length - i ∧ i ≤ b.length ∧ F = [(0,sl ra (a.map u8R)),(1,sl rb (b.map u8R)),(5,grV 0 ((aha 0 (a.take i) (b.take i)).map aaj)),(11,.int .i64 b.length),(12,.int .i64 i)] ∧ H = grH 1 ((aha 0 (a.take i) (b.take i)).map aaj)) b.length ?_ ?_
 ·refine ⟨_,_,?_,0,rfl,Nat.zero_le _,rfl,rfl⟩
  rw [List.take_zero,List.take_zero,show aha 0 [] [] = [] from rfl]
  (simp +decide only [go_sem,aa1,aa0,aaf,aag,List.map_nil]<;>rfl)<;>rfl
 ·rintro n F H ⟨i,rfl,hi,rfl,rfl⟩
  have hTf:=ad4 (aha 0 (a.take i) (b.take i))
  by_cases hlt:i < b.length
  ·obtain ⟨x,hx⟩:∃ x,a[i]? = some x:=⟨_,List.getElem?_eq_getElem (by omega)⟩
   obtain ⟨y,hy⟩:∃ y,b[i]? = some y:=⟨_,List.getElem?_eq_getElem hlt⟩
   have c1:(i:Int) < b.length:=by omega
   have hwi:=wI1 (n:=i) (by omega)
   have hla:i < a.length:=by omega
   have hsn:=at5 0 (a.take i) (b.take i) x y (by simp;omega)
   rw [← aay hx,← aay hy,List.length_take,Nat.min_eq_left (by omega),Nat.zero_add] at hsn
   have hTl:((aha 0 (a.take i) (b.take i)).map aaj).length ≤ 1000:=by
    have:=ark 0 (a.take i) (b.take i)
    rw [List.length_take] at this
    rw [List.length_map];omega
   by_cases hc:x ≤ 1 ∧ y ≤ 1 ∧ x ≠ y
   ·have d1:(x:Int) ≤ 1:=by omega
    have d2:(y:Int) ≤ 1:=by omega
    have d3:¬ (x:Int) = y:=by omega
    rw [if_pos (by simp [con,hc.1,hc.2.1,hc.2.2])] at hsn
    have hT2:(aha 0 (a.take (i + 1)) (b.take (i + 1))).map aaj = (aha 0 (a.take i) (b.take i)).map aaj ++ [[.int .i64 i]]:=by rw [hsn,List.map_append];rfl
    generalize (aha 0 (a.take i) (b.take i)).map aaj = T at hTl hTf hT2
    have h1':=aah hTf
    have h2':=fun π=>aae π hTf
    cases T with
    | nil=>
     (repeat first|simp only [ww]|(apply xa;simp +decide only [go_sem,c1,hlt,hla,hx,hy,d1,d2,d3,hwi,aaf,aag];rfl;kernel_rfl))
     refine ab8 (b.length - (i + 1)) (by omega) ⟨_,_,?_,i + 1,rfl,hlt,rfl,rfl⟩
     rw [hT2]
     (simp +decide only [go_sem,aa1,aa0,aa5,aa6,List.nil_append,List.length_nil]<;>rfl)<;>rfl
    | cons u r=>
     simp only [List.length_cons] at hTl
     have hrm:r.length + 1 + 1 ≤ 1000000000:=by omega
     simp only [List.flatMap_cons] at h1'
     simp only [List.map_cons,List.cons.injEq] at h2'
     (repeat first|simp only [ww]|(apply xa;simp +decide only [go_sem,c1,hlt,hla,hx,hy,d1,d2,d3,hwi,aa5,aa6,hrm];rfl;kernel_rfl))
     refine ab8 (b.length - (i + 1)) (by omega) ⟨_,_,?_,i + 1,rfl,hlt,rfl,rfl⟩
     rw [hT2]
     (simp +decide only [go_sem,aa1,aa0,aa5,aa6,List.cons_append,h1',h2']<;>rfl)<;>rfl
   ·rw [if_neg (by simp [con];omega)] at hsn
    rw [← hsn] at hTf hTl ⊢
    generalize hT2:(aha 0 (a.take (i + 1)) (b.take (i + 1))).map aaj = T at hTl hTf ⊢
    have h1':=aah hTf
    have h2':=fun π=>aae π hTf
    have hcc:(¬ (x:Int) ≤ 1) ∨ ((x:Int) ≤ 1 ∧ ¬ (y:Int) ≤ 1) ∨ ((x:Int) ≤ 1 ∧ (y:Int) ≤ 1 ∧ x = y):=by omega
    cases T with
    | nil=>
     rcases hcc with d1|⟨d1,d2⟩|⟨d1,d2,rfl⟩
     ·(repeat first|simp only [ww]|(apply xa;simp +decide only [go_sem,c1,hlt,hla,hx,hy,d1,hwi,aaf,aag];rfl;kernel_rfl))
      refine ab8 (b.length - (i + 1)) (by omega) ⟨_,_,?_,i + 1,rfl,hlt,rfl,rfl⟩
      rw [hT2]
      (simp +decide only [go_sem,aa1,aa0,aaf,aag]<;>rfl)<;>rfl
     ·(repeat first|simp only [ww]|(apply xa;simp +decide only [go_sem,c1,hlt,hla,hx,hy,d1,d2,hwi,aaf,aag];rfl;kernel_rfl))
      refine ab8 (b.length - (i + 1)) (by omega) ⟨_,_,?_,i + 1,rfl,hlt,rfl,rfl⟩
      rw [hT2]
      (simp +decide only [go_sem,aa1,aa0,aaf,aag]<;>rfl)<;>rfl
     ·(repeat first|simp only [ww]|(apply xa;simp +decide only [go_sem,c1,hlt,hla,hx,hy,d1,d2,hwi,aaf,aag];rfl;kernel_rfl))
      refine ab8 (b.length - (i + 1)) (by omega) ⟨_,_,?_,i + 1,rfl,hlt,rfl,rfl⟩
      rw [hT2]
      (simp +decide only [go_sem,aa1,aa0,aaf,aag]<;>rfl)<;>rfl
    | cons u r=>
     simp only [List.flatMap_cons] at h1'
     simp only [List.map_cons,List.cons.injEq] at h2'
     rcases hcc with d1|⟨d1,d2⟩|⟨d1,d2,rfl⟩
     ·(repeat first|simp only [ww]|(apply xa;simp +decide only [go_sem,c1,hlt,hla,hx,hy,d1,hwi,aa5,aa6];rfl;kernel_rfl))
      refine ab8 (b.length - (i + 1)) (by omega) ⟨_,_,?_,i + 1,rfl,hlt,rfl,rfl⟩
      rw [hT2]
      (simp +decide only [go_sem,aa1,aa0,aa5,aa6,h1',h2']<;>rfl)<;>rfl
     ·(repeat first|simp only [ww]|(apply xa;simp +decide only [go_sem,c1,hlt,hla,hx,hy,d1,d2,hwi,aa5,aa6];rfl;kernel_rfl))
      refine ab8 (b.length - (i + 1)) (by omega) ⟨_,_,?_,i + 1,rfl,hlt,rfl,rfl⟩
      rw [hT2]
      (simp +decide only [go_sem,aa1,aa0,aa5,aa6,h1',h2']<;>rfl)<;>rfl
     ·(repeat first|simp only [ww]|(apply xa;simp +decide only [go_sem,c1,hlt,hla,hx,hy,d1,d2,hwi,aa5,aa6];rfl;kernel_rfl))
      refine ab8 (b.length - (i + 1)) (by omega) ⟨_,_,?_,i + 1,rfl,hlt,rfl,rfl⟩
      rw [hT2]
      (simp +decide only [go_sem,aa1,aa0,aa5,aa6,h1',h2']<;>rfl)<;>rfl
  ·obtain rfl:i = b.length:=by omega
   have c1:¬ (b.length:Int) < b.length:=by omega
   rw [List.take_length,List.take_of_length_le (by omega)]
   generalize aha 0 a b = l
   cases l with
   | nil=>
    have hcl:=fun (d:Bool) (H:aa4)=>aa3 (E:=L.env) (draw:=d) (call:=sem L.env Mf) (g:=106) (fs:=[]) (cs:=[]) (ar:=[.nilslice]) (H:=H) (by kernel_rfl) (by kernel_rfl) rfl rfl axr rfl
    (repeat first|simp only [ww]|(apply xa;simp +decide only [go_sem,c1,List.map_nil,aaf,aag,hcl];rfl;kernel_rfl))
    refine acs (vs:=[.nilslice]) (r:=(_,_)) (by simp +decide only [go_sem]) (by simp +decide only [go_sem]<;>rfl) rfl
   | cons u r=>
    have hcl:=fun (d:Bool)=>au3 (d:=d) (H:=[some (.row 1 ((u :: r).map aaj))]) (b:=0) (n:=r.length + 1) (axk _) rfl
    simp only [List.map_cons,go_sem] at hcl
    (repeat first|simp only [ww]|(apply xa;simp +decide only [go_sem,c1,List.map_cons,aa5,aa6,List.length_map,hcl];rfl;kernel_rfl))
    refine acs (vs:=[.slice 0 0 (r.length + 1) (some (r.length + 1))]) (r:=(_,_)) (by simp +decide only [go_sem]) ?_ rfl
    show aby false 0 (.slice 0 0 (r.length + 1) (some (r.length + 1))) _ = _
    simp +decide only [go_sem,atj,List.map_cons,bh0,List.length_cons]<;>rfl
theorem aqt {d:Bool} (H:aa4) (ra rb:Rep) (a b:List Nat) (hab:a.length = b.length) (hl:a.length ≤ 1000):aaa L.env d (sem L.env Mf) (.func (.func 97) [] []) [sl ra (a.map u8R),sl rb (b.map u8R)] H = some (apb (aha 0 a b),H,[]):=
 aa3 (by kernel_rfl) (by kernel_rfl) rfl (by simp only [List.nil_append,List.append_nil,go_sem]) (bhe ra rb a b hab hl) (af9 _)
/-- Two responses: where they contradict each other. -/
theorem bde (ao an bo bn:List Nat) (ho:ao.length = bo.length) (hn:an.length = bn.length) (hlo:ao.length ≤ 1000) (hln:an.length ≤ 1000):sem L.env Mf 59 [al6 ao an,al6 bo bn] [] = some (.tuple [apb (aha 0 ao bo),apb (aha 0 an bn)],[]):=by
 obtain ⟨r1,e1⟩:=an5 ao
 obtain ⟨r2,e2⟩:=an5 an
 obtain ⟨r3,e3⟩:=an5 bo
 obtain ⟨r4,e4⟩:=an5 bn
 have h1:=fun (d:Bool) (H:aa4)=>aqt (d:=d) H r1 r3 ao bo ho hlo
 have h2:=fun (d:Bool) (H:aa4)=>aqt (d:=d) H r2 r4 an bn hn hln
 unfold al6
 rw [e1,e2,e3,e4]
 have q1:=af9 (aha 0 ao bo)
 have q2:=af9 (aha 0 an bn)
 generalize apb (aha 0 ao bo) = V1 at h1 q1 ⊢
 generalize apb (aha 0 an bn) = V2 at h2 q2 ⊢
 (refine sv Tryz.f59 ?_;simp only [Tryz.f59,gS])
 (repeat first|simp only [ww]|(apply xa;simp +decide only [go_sem,h1,h2];rfl;kernel_rfl))
 refine ahf (vs:=[V1,V2]) (by simp +decide only [go_sem]) (age (by show refs V1 ++ (refs V2 ++ []) = [];rw [q1,q2];rfl))
theorem avw {d:Bool} (H:aa4) (ao an bo bn:List Nat) (ho:ao.length = bo.length) (hn:an.length = bn.length) (hlo:ao.length ≤ 1000) (hln:an.length ≤ 1000):aaa L.env d (sem L.env Mf) (.func (.func 59) [] []) [al6 ao an,al6 bo bn] H = some (.tuple [apb (aha 0 ao bo),apb (aha 0 an bn)],H,[]):=
 aa3 (by kernel_rfl) (by kernel_rfl) rfl (by simp only [List.nil_append,List.append_nil,aa7,ah9,abf]) (bde ao an bo bn ho hn hlo hln) (by simp only [ah8,aa7,af9,abf,List.append_nil])
theorem bke (ao an bo bn:List Nat) (ho:ao.length = bo.length) (hn:an.length = bn.length) (hlo:ao.length ≤ 1000) (hln:an.length ≤ 1000):sem L.env Mf 31 [al6 ao an,al6 bo bn] [] = some (.bool (am9 ao bo || am9 an bn),[]):=by
 have h1:=fun (d:Bool) (H:aa4)=>avw (d:=d) H ao an bo bn ho hn hlo hln
 have l1:=ark 0 ao bo
 have l2:=ark 0 an bn
 have k1:=arl 0 ao bo
 have k2:=arl 0 an bn
 rw [← k1,← k2]
 unfold al6 at h1 ⊢
 have q1:=acm ao
 have q2:=acm an
 have q3:=acm bo
 have q4:=acm bn
 have s1:=ace ao
 have s2:=ace an
 have s3:=ace bo
 have s4:=ace bn
 unfold apb at h1
 generalize aha 0 ao bo = P at h1 l1 ⊢
 generalize aha 0 an bn = Q at h1 l2 ⊢
 generalize afg ao = A1 at h1 q1 s1 ⊢
 generalize afg an = A2 at h1 q2 s2 ⊢
 generalize afg bo = B1 at h1 q3 s3 ⊢
 generalize afg bn = B2 at h1 q4 s4 ⊢
 have hw:IntKind.i64.wrap ((P.length:Int) + (Q.length:Int)) = ((P.length + Q.length:Nat):Int):=by rw [w64 (by omega) (by omega)];omega
 have hd:decide ((0:Int) < ((P.length + Q.length:Nat):Int)) = (decide (0 < P.length) || decide (0 < Q.length)):=by
  rw [Bool.eq_iff_iff];simp;omega
 (refine sv Tryz.f31 ?_;simp only [Tryz.f31,gS])
 (repeat first|simp only [ww]|(apply xa;simp +decide only [go_sem,h1,s1,s2,s3,s4,hw,hd];rfl;kernel_rfl))
 refine ahf (vs:=[.bool (decide (0 < P.length) || decide (0 < Q.length))]) (by simp +decide only [go_sem]<;>rfl) (age rfl)
theorem baw {d:Bool} (H:aa4) (ao an bo bn:List Nat) (ho:ao.length = bo.length) (hn:an.length = bn.length) (hlo:ao.length ≤ 1000) (hln:an.length ≤ 1000):aaa L.env d (sem L.env Mf) (.func (.func 31) [] []) [al6 ao an,al6 bo bn] H = some (.bool (am9 ao bo || am9 an bn),H,[]):=
 aa3 (by kernel_rfl) (by kernel_rfl) rfl (by simp only [List.nil_append,List.append_nil,aa7,ah9,abf]) (bke ao an bo bn ho hn hlo hln) rfl
set_option maxHeartbeats 200000000
open Go.Proofs Go.Ax Go.Pc
set_option maxRecDepth 100000
theorem ao3 {nodes:List Nd} {k n:Nat}:n ∈ kinds nodes k ↔ n < nodes.length ∧ aaq nodes n = k:=by
 unfold kinds adr
 rw [List.mem_filter]
 simp
theorem bm0 (c:Cir) (hc:c.wf) (ord:List Nat) (hord:OrdOf c ord):(ab5 c ord).good where
 perm:=hord.perm
 topo:=hord.topo
 comb:=fun n hn h=>by
  obtain ⟨x,hx⟩:∃ x,c.nodes[n]? = some x:=⟨_,List.getElem?_eq_getElem hn⟩
  have k14:=hc.kind x (List.mem_of_getElem? hx)
  have hk:aaq c.nodes n = x.kind:=ab7 hx
  have h:aaq c.nodes n ≠ 0 ∧ aaq c.nodes n ≠ 14:=h
  show abr (aaq c.nodes n) = true
  rw [hk] at h ⊢
  have a:1 ≤ x.kind:=by omega
  have b:x.kind ≤ 13:=by omega
  simp [abr,a,b]
 inn:=fun n hn m hm=>by
  obtain ⟨x,hx⟩:∃ x,c.nodes[n]? = some x:=⟨_,List.getElem?_eq_getElem hn⟩
  have hm:m ∈ ac5 c.nodes n:=hm
  rw [abk hx] at hm
  exact hc.ins x (List.mem_of_getElem? hx) m hm
 ins:=fun n=>ao3
 sts:=fun n=>ao3
 dff:=fun n hn=>by
  obtain ⟨h1,h2⟩:=ao3.1 hn
  obtain ⟨x,hx⟩:∃ x,c.nodes[n]? = some x:=⟨_,List.getElem?_eq_getElem h1⟩
  rw [ab7 hx] at h2
  have:=hc.lo x (List.mem_of_getElem? hx)
  rw [h2] at this
  have h3:1 ≤ x.ins.length:=this
  show ac5 c.nodes n ≠ []
  rw [abk hx]
  intro h0
  rw [h0] at h3
  simp at h3
 outs:=fun n hn=>hc.outs n hn
/-- The nets of the run with a fault. -/
def akm (c:Cir) (ord:List Nat) (f:Flt) (p:Pat):Hk Nat:=hkF f (ab0 nAlg (ael c ord p) f)
theorem ax5 (c:Cir) (ord:List Nat) (p:Pat) (hp:PatOk c.nodes p):∀ v ∈ ael c ord p,v ≤ 3:=arq bcq _ _ _ _ _ hp.inv hp.stv
theorem blx (c:Cir) (ord:List Nat) (f:Flt) (hf:FltOk c.nodes f) (p:Pat) (hp:PatOk c.nodes p):bic (akm c ord f p):=by
 refine bj2 ?_
 have hv:=hf.value
 unfold ab0
 split
 ·show f.value ≤ 3;omega
 split
 ·exact agr (ax5 c ord p hp) _
 split<;>exact bbo _ _
/-- Both runs. -/
theorem bmr (c:Cir) (hc:c.wf) (hO:c.outs ≠ []) (p:Pat) (hp:PatOk c.nodes p) (f:Flt) (hf:FltOk c.nodes f) (ord:List Nat) (hord:OrdOf c ord) :
 sem L.env Mf 30 [.agg [sl c.nc (c.nodes.map Nd.enc),sl c.mc (c.names.map abv),.nilslice,sl c.oc (c.outs.map aaj)],.agg [.int .u8 f.model,.int .i64 f.node,.int .i64 f.pin,.int .u8 f.value,.int .i64 f.other],.agg [sl p.ic (p.ins.map u8R),sl p.sc (p.sts.map u8R)]] [] = some (.tuple [al6 (abo c.outs (ael c ord p)) (adq c.nodes (ael c ord p)),al6 (abo c.outs (apk c ord (akm c ord f p) p)) (aht c.nodes (akm c ord f p) (apk c ord (akm c ord f p) p) (kinds c.nodes 14)),.junk,.int .i64 0],[]):=by
 have hck:=fun (d:Bool) (H:aa4)=>ajv (d:=d) H c hc f hf
 have hsr:=fun (d:Bool) (H:aa4)=>aa3 (E:=L.env) (draw:=d) (call:=sem L.env Mf) (H:=H) (g:=56) (fs:=[]) (cs:=[]) (ar:=[.agg c.enc,.agg p.enc]) (by kernel_rfl) (by kernel_rfl) rfl (by simp only [List.nil_append,List.append_nil,aa7,aaw,Cir.enc,Pat.enc,go_sem]) (bk6 c hc hO p hp ord hord) (by simp only [ah8,aa7,ah9,abf,List.append_nil];simp only [go_sem])
 obtain ⟨net,pin,hN,hP,hfa⟩:=bd7 c f hf (ael c ord p) (aio _ _ _ _ _) (ax5 c ord p hp)
 have hir:=bls c hc hO p hp ord hord net pin (akm c ord f p) hN hP (blx c ord f hf p hp)
 have n3:=hN.flat
 have p3:=hP.flat
 have hfl:∀ v:AV,refs v = [] → FlatR [[sl c.nc (c.nodes.map Nd.enc),sl c.mc (c.names.map abv),.nilslice,sl c.oc (c.outs.map aaj),v,net,pin]]:=fun v hv r hr=>by
  rw [List.mem_singleton] at hr;subst hr
  simp only [go_sem,hv,n3,p3]
 have hfl0:=hfl .nilslice rfl
 have hfl1:=hfl .junk rfl
 have hfa':∀ x0 x1 x2 x3 x4:Option AObj,aaa L.env false (sem L.env Mf) (.func (.func 57) [] []) [.agg [sl c.nc (c.nodes.map Nd.enc),sl c.mc (c.names.map abv),.nilslice,sl c.oc (c.outs.map aaj)],.agg [.int .u8 f.model,.int .i64 f.node,.int .i64 f.pin,.int .u8 f.value,.int .i64 f.other],.islice ((ael c ord p).map u8R) (some c.nodes.length)] [x0,x1,x2,x3,x4] = some (.ptr 5 0 0,[x0,x1,x2,x3,x4,some (.row 7 [[sl c.nc (c.nodes.map Nd.enc),sl c.mc (c.names.map abv),.nilslice,sl c.oc (c.outs.map aaj),.nilslice,net,pin]])],[]):=fun x0 x1 x2 x3 x4=>
  azu (by kernel_rfl) (by kernel_rfl) rfl (by simp only [List.nil_append,List.append_nil,go_sem]) hfa hfl0
 have hir':∀ x0 x1 x2 x3 x4:Option AObj,aaa L.env false (sem L.env Mf) (.func (.func 58) [] []) [.ptr 5 0 0,.agg [sl p.ic (p.ins.map u8R),sl p.sc (p.sts.map u8R)]] [x0,x1,x2,x3,x4,some (.row 7 [[sl c.nc (c.nodes.map Nd.enc),sl c.mc (c.names.map abv),.nilslice,sl c.oc (c.outs.map aaj),.nilslice,net,pin]])] = some (_,[x0,x1,x2,x3,x4,some (.row 7 [[sl c.nc (c.nodes.map Nd.enc),sl c.mc (c.names.map abv),.nilslice,sl c.oc (c.outs.map aaj),.junk,net,pin]])],[5]):=fun x0 x1 x2 x3 x4=>
  afu (b:=5) (by kernel_rfl) (by kernel_rfl) rfl rfl (by simp only [go_sem,n3,p3]) (FlatO.row hfl0) (by simp only [List.nil_append,List.append_nil,go_sem]) (by simp +decide only [List.nil_append,List.append_nil,List.map_cons,List.map_nil,go_sem]<;>rfl) hir (FlatO.row hfl1) (abc _ _ (ah9 _ _))
 have s1:=ace (abo c.outs (ael c ord p))
 have s2:=ace (adq c.nodes (ael c ord p))
 have s3:=ace (abo c.outs (apk c ord (akm c ord f p) p))
 have s4:=ace (aht c.nodes (akm c ord f p) (apk c ord (akm c ord f p) p) (kinds c.nodes 14))
 have q1:=acm (abo c.outs (ael c ord p))
 have q2:=acm (adq c.nodes (ael c ord p))
 have q3:=acm (abo c.outs (apk c ord (akm c ord f p) p))
 have q4:=acm (aht c.nodes (akm c ord f p) (apk c ord (akm c ord f p) p) (kinds c.nodes 14))
 have m1:¬ (f.model:Int) = 1:=by have:=hf.model;omega
 unfold al6 at hsr hir' ⊢
 generalize afg (abo c.outs (ael c ord p)) = A1 at hsr s1 q1 ⊢
 generalize afg (adq c.nodes (ael c ord p)) = A2 at hsr s2 q2 ⊢
 generalize afg (abo c.outs (apk c ord (akm c ord f p) p)) = B1 at hir' s3 q3 ⊢
 generalize afg (aht c.nodes (akm c ord f p) (apk c ord (akm c ord f p) p) (kinds c.nodes 14)) = B2 at hir' s4 q4 ⊢
 simp only [Cir.enc,Pat.enc,Flt.enc] at hck hsr
 (refine sv Tryz.f30 ?_;simp only [Tryz.f30,gS])
 (repeat first|simp only [ww]|(apply xa;simp +decide only [go_sem,hck,hsr,hfa',hir',m1,s1,s2,s3,s4];rfl;kernel_rfl))
 refine ahf (vs:=[.agg [A1,A2],.agg [B1,B2],.junk,.int .i64 0]) (by simp +decide only [go_sem]<;>rfl) (age (by show (refs A1 ++ (refs A2 ++ [])) ++ ((refs B1 ++ (refs B2 ++ [])) ++ _) = [];rw [q1,q2,q3,q4];rfl))
theorem bdv {d:Bool} (H:aa4) (c:Cir) (hc:c.wf) (hO:c.outs ≠ []) (p:Pat) (hp:PatOk c.nodes p) (f:Flt) (hf:FltOk c.nodes f) (ord:List Nat) (hord:OrdOf c ord) :
 aaa L.env d (sem L.env Mf) (.func (.func 30) [] []) [.agg [sl c.nc (c.nodes.map Nd.enc),sl c.mc (c.names.map abv),.nilslice,sl c.oc (c.outs.map aaj)],.agg [.int .u8 f.model,.int .i64 f.node,.int .i64 f.pin,.int .u8 f.value,.int .i64 f.other],.agg [sl p.ic (p.ins.map u8R),sl p.sc (p.sts.map u8R)]] H = some (.tuple [al6 (abo c.outs (ael c ord p)) (adq c.nodes (ael c ord p)),al6 (abo c.outs (apk c ord (akm c ord f p) p)) (aht c.nodes (akm c ord f p) (apk c ord (akm c ord f p) p) (kinds c.nodes 14)),.junk,.int .i64 0],H,[]):=
 aa3 (by kernel_rfl) (by kernel_rfl) rfl (by simp only [List.nil_append,List.append_nil,go_sem]) (bmr c hc hO p hp f hf ord hord) (by simp only [ah8,aa7,abf,ah9,List.append_nil];rfl)
theorem bzb (c:Cir) (hc:c.wf) (p:Pat) (hp:PatOk c.nodes p) (f:Flt) (hf:FltOk c.nodes f) (ord:List Nat) (hord:OrdOf c ord) :
 (am9 (abo c.outs (ael c ord p)) (abo c.outs (apk c ord (akm c ord f p) p)) || am9 (adq c.nodes (ael c ord p)) (aht c.nodes (akm c ord f p) (apk c ord (akm c ord f p) p) (kinds c.nodes 14))) = (ab5 c ord).det f p:=
 ((bm0 c hc ord hord).det hp.ins.symm hp.sts.symm f (fun _=>by have:=hf.value;omega) hf.node hf.other hp.inv hp.stv).symm
/-- Whether a pattern detects a fault. -/
theorem azg (c:Cir) (hc:c.wf) (hO:c.outs ≠ []) (p:Pat) (hp:PatOk c.nodes p) (f:Flt) (hf:FltOk c.nodes f) (ord:List Nat) (hord:OrdOf c ord) :
 sem L.env Mf 15 [.agg [sl c.nc (c.nodes.map Nd.enc),sl c.mc (c.names.map abv),.nilslice,sl c.oc (c.outs.map aaj)],.agg [.int .u8 f.model,.int .i64 f.node,.int .i64 f.pin,.int .u8 f.value,.int .i64 f.other],.agg [sl p.ic (p.ins.map u8R),sl p.sc (p.sts.map u8R)]] [] = some (.tuple [.bool ((ab5 c ord).det f p),.int .i64 0],[]):=by
 have hb:=fun (d:Bool) (H:aa4)=>bdv (d:=d) H c hc hO p hp f hf ord hord
 have hl1:(abo c.outs (ael c ord p)).length = (abo c.outs (apk c ord (akm c ord f p) p)).length:=by simp [abo]
 have hl2:(adq c.nodes (ael c ord p)).length = (aht c.nodes (akm c ord f p) (apk c ord (akm c ord f p) p) (kinds c.nodes 14)).length:=by simp [adq,aht]
 have hl3:(abo c.outs (ael c ord p)).length ≤ 1000:=by have:=hc.outl;simp [abo];omega
 have hl4:(adq c.nodes (ael c ord p)).length ≤ 1000:=by have:=hc.len;have:=acj c.nodes 14;simp [adq];omega
 have hs:=fun (d:Bool) (H:aa4)=>baw (d:=d) H _ _ _ _ hl1 hl2 hl3 hl4
 rw [bzb c hc p hp f hf ord hord] at hs
 have s1:=ace (abo c.outs (ael c ord p))
 have s2:=ace (adq c.nodes (ael c ord p))
 have s3:=ace (abo c.outs (apk c ord (akm c ord f p) p))
 have s4:=ace (aht c.nodes (akm c ord f p) (apk c ord (akm c ord f p) p) (kinds c.nodes 14))
 unfold al6 at hb hs
 generalize afg (abo c.outs (ael c ord p)) = A1 at hb hs s1
 generalize afg (adq c.nodes (ael c ord p)) = A2 at hb hs s2
 generalize afg (abo c.outs (apk c ord (akm c ord f p) p)) = B1 at hb hs s3
 generalize afg (aht c.nodes (akm c ord f p) (apk c ord (akm c ord f p) p) (kinds c.nodes 14)) = B2 at hb hs s4
 (refine sv Tryz.f15 ?_;simp only [Tryz.f15,gS])
 (repeat first|simp only [ww]|(apply xa;simp +decide only [go_sem,hb,hs,s1,s2,s3,s4];rfl;kernel_rfl))
 (apply fqb;simp +decide only [go_sem]<;>rfl)
theorem atv {d:Bool} (H:aa4) (c:Cir) (hc:c.wf) (hO:c.outs ≠ []) (p:Pat) (hp:PatOk c.nodes p) (f:Flt) (hf:FltOk c.nodes f) (ord:List Nat) (hord:OrdOf c ord) :
 aaa L.env d (sem L.env Mf) (.func (.func 15) [] []) [.agg c.enc,.agg f.enc,.agg p.enc] H = some (.tuple [.bool ((ab5 c ord).det f p),.int .i64 0],H,[]):=
 aa3 (by kernel_rfl) (by kernel_rfl) rfl (by simp only [List.nil_append,List.append_nil,aa7,aaw,Cir.enc,Pat.enc,Flt.enc,go_sem]) (azg c hc hO p hp f hf ord hord) rfl
end Go.ZInst
