/- Part of a proof. No condition. -/
import Derived.Test.YtllalbnibhofiaaGreatDoorZLg
import Derived.Test.YtllalbnibhofiaaGreatDoorZPa
import Derived.Test.YtllalbnibhofiaaGreatDoorPcB
set_option linter.unusedSimpArgs false
set_option linter.unusedVariables false
namespace Go.ZInst
set_option maxHeartbeats 200000000
open Go.Proofs Go.Ax Go.Pc
set_option maxRecDepth 100000
theorem acz (π:Nat → Option Nat) (l:List Nat):(l.map u8R).map (fun r=>r.map (ren π)) = l.map u8R:=aae π (ach l)
theorem acl (l:List Nat):(l.map u8R).flatMap aab = []:=aah (ach l)
/-- The nets of inputs and states are loaded. -/
theorem bfc (c:Cir) (hc:c.wf) (p:Pat) (hp:PatOk c.nodes p) (N0:List Nat) (hN:N0.length = c.nodes.length) :
 sem L.env Mf 84 [.agg [sl c.nc (c.nodes.map Nd.enc),sl c.mc (c.names.map abv),.nilslice,sl c.oc (c.outs.map aaj),.slice 0 0 c.nodes.length (some c.nodes.length)],.agg p.enc] [some (.row 1 (N0.map u8R))] = some (.tuple [],[some (.row 1 ((abi (abi N0 (kinds c.nodes 0) p.ins) (kinds c.nodes 14) p.sts).map u8R))]):=by
 have hnl:=hc.len
 obtain ⟨r0,e3⟩:=ac3 (kinds c.nodes 0)
 obtain ⟨r1,e4⟩:=ac3 (kinds c.nodes 14)
 have hk0:=acj c.nodes 0
 have hk14:=acj c.nodes 14
 have hi:=fun (d:Bool) H=>ahx (d:=d) H c (by omega)
 have hs:=fun (d:Bool) H=>afz (d:=d) H c (by omega)
 have hvi:=hp.ins
 have hvs:=hp.sts
 rw [e3] at hi
 rw [e4] at hs
 have hpe:Pat.enc p = [sl p.ic (p.ins.map u8R),sl p.sc (p.sts.map u8R)]:=rfl
 rw [hpe]
 simp only [Cir.enc] at hi hs
 suffices hs:∃ r:AV × aa4,(r = (.tuple [],[some (.row 1 ((abi (abi N0 (kinds c.nodes 0) p.ins) (kinds c.nodes 14) p.sts).map u8R))])) ∧ sem L.env Mf 84 [.agg [sl c.nc (c.nodes.map Nd.enc),sl c.mc (c.names.map abv),.nilslice,sl c.oc (c.outs.map aaj),.slice 0 0 c.nodes.length (some c.nodes.length)],.agg [sl p.ic (p.ins.map u8R),sl p.sc (p.sts.map u8R)]] [some (.row 1 (N0.map u8R))] = some r by
  obtain ⟨r,rfl,h3⟩:=hs
  exact h3
 (refine svE Tryz.f84 ?_;simp only [Tryz.f84,gS])
 (repeat first|simp only [ww]|(apply xa;simp +decide only [go_sem,hi];rfl;kernel_rfl))
 refine ab3 (σ:=Nat) kp84_0 (fun i=>[(2,.ptr 1 0 0),(3,.ptr 2 0 0),(10,sl r0 ((kinds c.nodes 0).map aaj)),(11,.int .i64 (kinds c.nodes 0).length),(12,.int .i64 i)])
  (fun i=>[some (.row 1 ((abi N0 ((kinds c.nodes 0).take i) (p.ins.take i)).map u8R)),some (.row 5 [[sl c.nc (c.nodes.map Nd.enc),sl c.mc (c.names.map abv),.nilslice,sl c.oc (c.outs.map aaj),.slice 0 0 c.nodes.length (some c.nodes.length)]]),some (.row 2 [[sl p.ic (p.ins.map u8R),sl p.sc (p.sts.map u8R)]])]) (fun i=>(kinds c.nodes 0).length - i) (fun i=>i ≤ (kinds c.nodes 0).length) 0 ?_ (Nat.zero_le _) ?_
 ·rw [List.take_zero,List.take_zero,show abi N0 [] [] = N0 from rfl]
  (simp +decide only [go_sem,aa1,aa0,acz,acl]<;>rfl)<;>rfl
 ·intro i hi
  have hll:=acf ((kinds c.nodes 0).take i) (p.ins.take i) N0
  rw [hN] at hll
  by_cases hlt:i < (kinds c.nodes 0).length
  ·obtain ⟨n,hn⟩:∃ n,(kinds c.nodes 0)[i]? = some n:=⟨_,List.getElem?_eq_getElem hlt⟩
   obtain ⟨w,hw⟩:∃ w,p.ins[i]? = some w:=⟨_,List.getElem?_eq_getElem (by omega)⟩
   have hnn:=(aed hn).1
   have hst:=afs (nets:=N0) hn hw
   have c1:(i:Int) < (kinds c.nodes 0).length:=by omega
   have hwi:=wI1 (n:=i) (by omega)
   have hiv:i < p.ins.length:=by omega
   generalize abi N0 ((kinds c.nodes 0).take i) (p.ins.take i) = N at hst hll
   obtain ⟨w0,hw0⟩:∃ w,N[n]? = some w:=⟨_,List.getElem?_eq_getElem (by omega)⟩
   have hsR:(N.map u8R).set n [AV.int .u8 w] = (N.set n w).map u8R:=by rw [List.map_set];rfl
   (repeat first|simp only [ww]|(apply xa;simp +decide only [go_sem,c1,hlt,hn,hw,hnn,hwi,hiv,hll,hw0,hsR];rfl;kernel_rfl))
   refine ac6 (i + 1) ?_ (by omega) (by omega)
   rw [hst]
   (simp +decide only [go_sem,aa1,aa0,acz,acl]<;>rfl)<;>rfl
  have hie:i = (kinds c.nodes 0).length:=by omega
  subst hie
  have c1:¬ ((kinds c.nodes 0).length:Int) < (kinds c.nodes 0).length:=by omega
  rw [List.take_length,List.take_of_length_le (by omega)] at hll ⊢
  generalize abi N0 (kinds c.nodes 0) p.ins = N1 at hll ⊢
  (repeat first|simp only [ww]|(apply xa;simp +decide only [go_sem,c1,hs];rfl;kernel_rfl))
  refine ab3 (σ:=Nat) kp84_2 (fun i=>[(2,.ptr 1 0 0),(3,.ptr 2 0 0),(29,sl r1 ((kinds c.nodes 14).map aaj)),(30,.int .i64 (kinds c.nodes 14).length),(31,.int .i64 i)])
   (fun i=>[some (.row 1 ((abi N1 ((kinds c.nodes 14).take i) (p.sts.take i)).map u8R)),some (.row 5 [[sl c.nc (c.nodes.map Nd.enc),sl c.mc (c.names.map abv),.nilslice,sl c.oc (c.outs.map aaj),.slice 0 0 c.nodes.length (some c.nodes.length)]]),some (.row 2 [[sl p.ic (p.ins.map u8R),sl p.sc (p.sts.map u8R)]])]) (fun i=>(kinds c.nodes 14).length - i) (fun i=>i ≤ (kinds c.nodes 14).length) 0 ?_ (Nat.zero_le _) ?_
  ·rw [List.take_zero,List.take_zero,show abi N1 [] [] = N1 from rfl]
   (simp +decide only [go_sem,aa1,aa0,acz,acl]<;>rfl)<;>rfl
  ·intro i hi
   have hll2:=acf ((kinds c.nodes 14).take i) (p.sts.take i) N1
   rw [hll] at hll2
   by_cases hlt:i < (kinds c.nodes 14).length
   ·obtain ⟨n,hn⟩:∃ n,(kinds c.nodes 14)[i]? = some n:=⟨_,List.getElem?_eq_getElem hlt⟩
    obtain ⟨w,hw⟩:∃ w,p.sts[i]? = some w:=⟨_,List.getElem?_eq_getElem (by omega)⟩
    have hnn:=(aed hn).1
    have hst:=afs (nets:=N1) hn hw
    have c1:(i:Int) < (kinds c.nodes 14).length:=by omega
    have hwi:=wI1 (n:=i) (by omega)
    have hiv:i < p.sts.length:=by omega
    generalize abi N1 ((kinds c.nodes 14).take i) (p.sts.take i) = N at hst hll2
    obtain ⟨w0,hw0⟩:∃ w,N[n]? = some w:=⟨_,List.getElem?_eq_getElem (by omega)⟩
    have hsR:(N.map u8R).set n [AV.int .u8 w] = (N.set n w).map u8R:=by rw [List.map_set];rfl
    (repeat first|simp only [ww]|(apply xa;simp +decide only [go_sem,c1,hlt,hn,hw,hnn,hwi,hiv,hll2,hw0,hsR];rfl;kernel_rfl))
    refine ac6 (i + 1) ?_ (by omega) (by omega)
    rw [hst]
    (simp +decide only [go_sem,aa1,aa0,acz,acl]<;>rfl)<;>rfl
   have hie:i = (kinds c.nodes 14).length:=by omega
   subst hie
   have c1:¬ ((kinds c.nodes 14).length:Int) < (kinds c.nodes 14).length:=by omega
   rw [List.take_length,List.take_of_length_le (by omega)]
   (repeat first|simp only [ww]|(apply xa;simp +decide only [go_sem,c1];rfl;kernel_rfl))
   refine afb (vs:=[]) (r:=(_,[_])) (by simp +decide only [go_sem]) ?_ rfl
   simp +decide only [go_sem,acz]<;>rfl
set_option maxHeartbeats 200000000
open Go.Proofs Go.Ax Go.Pc
set_option maxRecDepth 100000
/-- A list of values, clipped. -/
def afg:List Nat → AV
 | []=>.nilslice
 | v :: r=>.islice ((v :: r).map u8R) (some (r.length + 1))
theorem an5 (l:List Nat):∃ r:Rep,afg l = sl r (l.map u8R):=by
 cases l with
 | nil=>exact ⟨none,rfl⟩
 | cons v r=>exact ⟨some (some (r.length + 1)),rfl⟩
theorem acm (l:List Nat):refs (afg l) = []:=by cases l<;>rfl
def al6 (o x:List Nat):AV:=.agg [afg o,afg x]
theorem ah9 (o x:List Nat):refs (al6 o x) = []:=by simp only [al6,aaw,aa7,acm,abf,List.append_nil]
theorem bak (c:Cir) (nets:List Nat) (hl:nets.length = c.nodes.length) (hv:∀ v ∈ nets,v ≤ 3) (n v:Nat) (hn:nets[n]? = some v):sem L.env Mf 115 [.agg [sl c.nc (c.nodes.map Nd.enc),sl c.mc (c.names.map abv),.nilslice,sl c.oc (c.outs.map aaj),.slice 0 0 c.nodes.length (some c.nodes.length)],.int .i64 n] [some (.row 1 (nets.map u8R))] = some (.int .u8 v,[some (.row 1 (nets.map u8R))]):=by
 have hlt:=(List.getElem?_eq_some_iff.1 hn).1
 have h0:¬ (n:Int) < 0:=by omega
 have h1:¬ (c.nodes.length:Int) ≤ n:=by omega
 have h2:n < c.nodes.length:=by omega
 have hc:∀ (d:Bool) H,aaa L.env d (sem L.env Mf) (.func (.func 74) [] []) [.int .u8 v] H = some (.int .u8 v,H,[]):=fun d H=>by
  have:=aa3 (E:=L.env) (draw:=d) (call:=sem L.env Mf) (fs:=[]) (cs:=[]) (ar:=[.int .u8 v]) (v:=.int .u8 (ac9 v:Nat)) (H:=H) (g:=74) (by kernel_rfl) (by kernel_rfl) rfl rfl (au4 v) rfl
  rw [axt (hv v (List.mem_of_getElem? hn))] at this
  exact this
 (refine sv Tryz.f115 ?_;simp only [Tryz.f115,gS])
 (repeat first|simp only [ww]|(apply xa;simp +decide only [go_sem,h0,h1,h2,hl,hn,hc];rfl;kernel_rfl))
 refine ahf (vs:=[.int .u8 v]) (by simp +decide only [go_sem]) ?_
 simp +decide only [go_sem,acz]<;>rfl
theorem auw {d:Bool} {H:aa4} {b:Nat} (c:Cir) (nets:List Nat) (hl:nets.length = c.nodes.length) (hv:∀ v ∈ nets,v ≤ 3) (n v:Nat) (hn:nets[n]? = some v) (hb:aa2 H b = some (.row 1 (nets.map u8R))) :
 aaa L.env d (sem L.env Mf) (.func (.func 115) [] []) [.agg [sl c.nc (c.nodes.map Nd.enc),sl c.mc (c.names.map abv),.nilslice,sl c.oc (c.outs.map aaj),.slice b 0 c.nodes.length (some c.nodes.length)],.int .i64 n] H = some (.int .u8 v,H,[b]):=
 aca (fs:=[]) (cs:=[]) (ar:=[.agg [sl c.nc (c.nodes.map Nd.enc),sl c.mc (c.names.map abv),.nilslice,sl c.oc (c.outs.map aaj),.slice b 0 c.nodes.length (some c.nodes.length)],.int .i64 n]) (by kernel_rfl) (by kernel_rfl) rfl hb (aad (ach nets)) (FlatO.row (ach nets)) (by simp only [List.nil_append,List.append_nil,go_sem]) (args':=[.agg [sl c.nc (c.nodes.map Nd.enc),sl c.mc (c.names.map abv),.nilslice,sl c.oc (c.outs.map aaj),.slice 0 0 c.nodes.length (some c.nodes.length)],.int .i64 n]) (by simp only [List.nil_append,List.append_nil,List.map_cons,List.map_nil,av6,ac0,ak8,aih,bb5]) (bak c nets hl hv n v hn) rfl
theorem bhj (n:Nat) (rows:List (List AV)) (hf:FlatR rows):sem L.env Mf 96 [.slice 0 0 n none] [some (.row 1 rows)] = some (.slice 0 0 n (some n),[some (.row 1 rows)]):=by
 have h1:=fun π=>aae π hf
 (refine sv Tryz.f96 ?_;simp only [Tryz.f96,gS])
 (repeat first|simp only [ww]|(apply xa;simp +decide only [go_sem];rfl;kernel_rfl))
 (apply fqb;simp +decide only [go_sem,h1]<;>rfl)
theorem aj9 {d:Bool} {H:aa4} {b n:Nat} {rows:List (List AV)} (hf:FlatR rows) (hb:aa2 H b = some (.row 1 rows)):aaa L.env d (sem L.env Mf) (.func (.func 96) [] []) [.slice b 0 n none] H = some (.slice b 0 n (some n),H,[b]):=by
 have h:=afu (E:=L.env) (draw:=d) (call:=sem L.env Mf) (g:=96) (fs:=[]) (cs:=[]) (ar:=[.slice b 0 n none]) (H:=H) (b:=b) (by kernel_rfl) (by kernel_rfl) rfl hb (aad hf) (FlatO.row hf) rfl (args':=[AV.slice 0 0 n none]) (by simp only [List.nil_append,List.append_nil,List.map_cons,List.map_nil,ac0]) (bhj n rows hf) (FlatO.row hf) (ai3 b 0 _ n _)
 rw [aml hb] at h
 exact h
theorem bdi:sem L.env Mf 96 [.nilslice] [] = some (.nilslice,[]):=by
 (refine sv Tryz.f96 ?_;simp only [Tryz.f96,gS])
 (repeat first|simp only [ww]|(apply xa;simp +decide only [go_sem];rfl;kernel_rfl))
 (apply fqb;simp +decide only [go_sem]<;>rfl)
theorem aow {d:Bool} (H:aa4):aaa L.env d (sem L.env Mf) (.func (.func 96) [] []) [.nilslice] H = some (.nilslice,H,[]):=aa3 (by kernel_rfl) (by kernel_rfl) rfl rfl bdi rfl
/-- What a state av7, in the nets of a run. -/
def adq (nodes:List Nd) (nets:List Nat):List Nat:=(kinds nodes 14).map fun n=>aew (nets.getD ((ac5 nodes n).getD 0 0) 0)
def abo (outs nets:List Nat):List Nat:=outs.map fun n=>nets.getD n 0
/-- The response. -/
theorem bk7 (c:Cir) (hc:c.wf) (hO:c.outs ≠ []) (nets:List Nat) (hl:nets.length = c.nodes.length) (hv:∀ v ∈ nets,v ≤ 3):sem L.env Mf 87 [.agg [sl c.nc (c.nodes.map Nd.enc),sl c.mc (c.names.map abv),.nilslice,sl c.oc (c.outs.map aaj),.slice 0 0 c.nodes.length (some c.nodes.length)]] [some (.row 1 (nets.map u8R))] = some (al6 (abo c.outs nets) (adq c.nodes nets),[some (.row 1 (nets.map u8R))]):=by
 have hnl:=hc.len
 have hol:=hc.outl
 obtain ⟨r1,e4⟩:=ac3 (kinds c.nodes 14)
 have hk14:=acj c.nodes 14
 have hs:=fun (d:Bool) H=>afz (d:=d) H c (by omega)
 rw [e4] at hs
 simp only [Cir.enc] at hs
 have hval:=fun (d:Bool) (H:aa4) (n v:Nat) (hn:nets[n]? = some v) (hb:aa2 H 0 = some (.row 1 (nets.map u8R)))=>auw (d:=d) (H:=H) (b:=0) c nets hl hv n v hn hb
 have hNf:=ach nets
 have n1:=aah hNf
 have n2:=fun π=>aae π hNf
 suffices hs:∃ r:AV × aa4,(r = (al6 (abo c.outs nets) (adq c.nodes nets),[some (.row 1 (nets.map u8R))])) ∧ sem L.env Mf 87 [.agg [sl c.nc (c.nodes.map Nd.enc),sl c.mc (c.names.map abv),.nilslice,sl c.oc (c.outs.map aaj),.slice 0 0 c.nodes.length (some c.nodes.length)]] [some (.row 1 (nets.map u8R))] = some r by
  obtain ⟨r,rfl,h3⟩:=hs
  exact h3
 (refine svE Tryz.f87 ?_;simp only [Tryz.f87,gS])
 generalize hNR:nets.map u8R = NR at hval hNf n1 n2
 (repeat first|simp only [ww]|(apply xa;simp +decide only [go_sem];rfl;kernel_rfl))
 refine acx kp87_0 (fun n F H=>∃ i,n = c.outs.length - i ∧ i ≤ c.outs.length ∧ F = [(1,.ptr 1 0 0),(2,.ptr 2 0 0),(3,.ptr 3 0 0),(12,sl c.oc (c.outs.map aaj)),(13,.int .i64 c.outs.length),(14,.int .i64 i)] ∧ H = [some (.row 1 NR),some (.row 5 [[sl c.nc (c.nodes.map Nd.enc),sl c.mc (c.names.map abv),.nilslice,sl c.oc (c.outs.map aaj),.slice 0 0 c.nodes.length (some c.nodes.length)]]),some (.row 2 [[.nilslice,.nilslice]]),some (.row 2 [[grV 4 ((abo (c.outs.take i) nets).map u8R),.nilslice]])] ++ grH 1 ((abo (c.outs.take i) nets).map u8R)) c.outs.length ?_ ?_
 ·refine ⟨_,_,?_,0,rfl,Nat.zero_le _,rfl,rfl⟩
  rw [List.take_zero,show abo [] nets = [] from rfl]
  (simp +decide only [go_sem,aa1,aa0,aaf,aag,List.map_nil,n1,n2]<;>rfl)<;>rfl
 ·rintro n F H ⟨i,rfl,hi,rfl,rfl⟩
  have hTl:((abo (c.outs.take i) nets).map u8R).length = i:=by simp [abo];omega
  have hTf:=ach (abo (c.outs.take i) nets)
  by_cases hlt:i < c.outs.length
  ·obtain ⟨o,ho⟩:∃ o,c.outs[i]? = some o:=⟨_,List.getElem?_eq_getElem hlt⟩
   have hon:=hc.outs o (List.mem_of_getElem? ho)
   obtain ⟨v,hnv⟩:∃ v,nets[o]? = some v:=⟨_,List.getElem?_eq_getElem (by omega)⟩
   have c1:(i:Int) < c.outs.length:=by omega
   have hwi:=wI1 (n:=i) (by omega)
   have hT2:(abo (c.outs.take (i + 1)) nets).map u8R = (abo (c.outs.take i) nets).map u8R ++ [[.int .u8 v]]:=by
    unfold abo
    rw [aay ho,List.map_append,List.map_append]
    simp only [List.map_cons,List.map_nil,List.getD,hnv,Option.getD_some]
    rfl
   have hvc:=fun (d:Bool) (H:aa4) (hb:aa2 H 0 = some (.row 1 NR))=>hval d H o v hnv hb
   generalize (abo (c.outs.take i) nets).map u8R = T at hTl hTf hT2
   have h1':=aah hTf
   have h2':=fun π=>aae π hTf
   cases T with
   | nil=>
    have hvc:=fun (d:Bool) (x1 x2 x3:Option AObj)=>hvc d [some (.row 1 NR),x1,x2,x3] rfl
    (repeat first|simp only [ww]|(apply xa;simp +decide only [go_sem,c1,hlt,ho,hwi,hvc,aaf,aag];rfl;kernel_rfl))
    refine ab8 (c.outs.length - (i + 1)) (by omega) ⟨_,_,?_,i + 1,rfl,hlt,rfl,rfl⟩
    rw [hT2]
    (simp +decide only [go_sem,aa1,aa0,aa5,aa6,List.nil_append,List.length_nil,n1,n2]<;>rfl)<;>rfl
   | cons a r=>
    simp only [List.length_cons] at hTl
    have hrm:r.length + 1 + 1 ≤ 1000000000:=by omega
    simp only [List.flatMap_cons] at h1'
    simp only [List.map_cons,List.cons.injEq] at h2'
    have hvc:=fun (d:Bool) (x1 x2 x3 x4:Option AObj)=>hvc d [some (.row 1 NR),x1,x2,x3,x4] rfl
    (repeat first|simp only [ww]|(apply xa;simp +decide only [go_sem,c1,hlt,ho,hwi,hvc,aa5,aa6,hrm];rfl;kernel_rfl))
    refine ab8 (c.outs.length - (i + 1)) (by omega) ⟨_,_,?_,i + 1,rfl,hlt,rfl,rfl⟩
    rw [hT2]
    (simp +decide only [go_sem,aa1,aa0,aa5,aa6,List.cons_append,h1',h2',n1,n2]<;>rfl)<;>rfl
  ·obtain rfl:i = c.outs.length:=by omega
   have c1:¬ (c.outs.length:Int) < c.outs.length:=by omega
   rw [List.take_length] at hTl hTf ⊢
   have hOl:0 < c.outs.length:=List.length_pos_iff.2 hO
   have hTc:afg (abo c.outs nets) = .islice ((abo c.outs nets).map u8R) (some c.outs.length):=by
    have hol2:(abo c.outs nets).length = c.outs.length:=by simp [abo]
    cases ho:abo c.outs nets with
    | nil=>rw [ho] at hol2;simp at hol2;omega
    | cons v q=>rw [ho] at hol2;simp only [List.length_cons] at hol2;rw [← hol2];rfl
   unfold al6
   rw [hTc]
   generalize (abo c.outs nets).map u8R = T at hTl hTf
   cases T with
   | nil=>simp at hTl;omega
   | cons a r=>
    have hal:r.length + 1 = c.outs.length:=by simpa using hTl
    have h1':=aah hTf
    have h2':=fun π=>aae π hTf
    have h3':=fun (m:Nat) (q:AV → Option AV)=>aau m q hTf
    simp only [List.flatMap_cons] at h1'
    simp only [List.map_cons,List.cons.injEq] at h2'
    (repeat first|simp only [ww]|(apply xa;simp +decide only [go_sem,c1,hs,aa5,aa6];rfl;kernel_rfl))
    refine acx kp87_2 (fun n F H=>∃ i,n = (kinds c.nodes 14).length - i ∧ i ≤ (kinds c.nodes 14).length ∧ F = [(1,.ptr 1 0 0),(2,.ptr 2 0 0),(3,.ptr 3 0 0),(29,sl r1 ((kinds c.nodes 14).map aaj)),(30,.int .i64 (kinds c.nodes 14).length),(31,.int .i64 i)] ∧ H = [some (.row 1 NR),some (.row 5 [[sl c.nc (c.nodes.map Nd.enc),sl c.mc (c.names.map abv),.nilslice,sl c.oc (c.outs.map aaj),.slice 0 0 c.nodes.length (some c.nodes.length)]]),some (.row 2 [[.nilslice,.nilslice]]),some (.row 2 [[.slice 4 0 (r.length + 1) none,grV 5 (((adq c.nodes nets).take i).map u8R)]]),some (.row 1 (a :: r))] ++ grH 1 (((adq c.nodes nets).take i).map u8R)) (kinds c.nodes 14).length ?_ ?_
    ·refine ⟨_,_,?_,0,rfl,Nat.zero_le _,rfl,rfl⟩
     rw [List.take_zero]
     (simp +decide only [go_sem,aa1,aa0,aaf,aag,List.map_nil,n1,n2,h1',h2']<;>rfl)<;>rfl
    ·rintro n F H ⟨i,rfl,hi,rfl,rfl⟩
     have hNl:(adq c.nodes nets).length = (kinds c.nodes 14).length:=by simp [adq]
     have hXl:(((adq c.nodes nets).take i).map u8R).length = i:=by simp;omega
     have hXf:=ach ((adq c.nodes nets).take i)
     by_cases hlt:i < (kinds c.nodes 14).length
     ·obtain ⟨q,hq⟩:∃ q,(kinds c.nodes 14)[i]? = some q:=⟨_,List.getElem?_eq_getElem hlt⟩
      obtain ⟨hqn,hqk⟩:=aed hq
      obtain ⟨x,hx⟩:∃ x,c.nodes[q]? = some x:=⟨_,List.getElem?_eq_getElem hqn⟩
      have hxk:x.kind = 14:=by rw [← ab7 hx];exact hqk
      have hx1:x.ins.length = 1:=by
       have h1:=hc.lo x (List.mem_of_getElem? hx)
       have h2:=hc.hi x (List.mem_of_getElem? hx)
       rw [hxk] at h1 h2
       have e1:abl 14 = 1:=rfl
       have e2:abm 14 = 1:=rfl
       omega
      obtain ⟨m,hm⟩:∃ m,x.ins[0]? = some m:=⟨_,List.getElem?_eq_getElem (by omega)⟩
      have hmn:=hc.ins x (List.mem_of_getElem? hx) m (List.mem_of_getElem? hm)
      obtain ⟨v,hnv⟩:∃ v,nets[m]? = some v:=⟨_,List.getElem?_eq_getElem (by omega)⟩
      have hX2:((adq c.nodes nets).take (i + 1)).map u8R = ((adq c.nodes nets).take i).map u8R ++ [[.int .u8 (aew v)]]:=by
       have:(adq c.nodes nets)[i]? = some (aew v):=by
        unfold adq
        rw [List.getElem?_map,hq]
        simp only [Option.map_some,abk hx,List.getD,hm,hnv,Option.getD_some]
       rw [aay this,List.map_append];rfl
      have c1:(i:Int) < (kinds c.nodes 14).length:=by omega
      have hwi:=wI1 (n:=i) (by omega)
      have hc1:decide ((x.ins.length:Int) = 1) = true:=decide_eq_true (by omega)
      have h01:Ax.rowAt (x.ins.map aaj) 0 = some [AV.int .i64 m]:=by
       have:=rowAt_nat (x.ins.map aaj) 0
       rw [Int.natCast_zero] at this
       rw [this,List.getElem?_map,hm];rfl
      have hvc:=fun (d:Bool) (H:aa4) (hb:aa2 H 0 = some (.row 1 NR))=>hval d H m v hnv hb
      have hrd:=fun (d:Bool) (H:aa4)=>ahc (d:=d) H v
      generalize aew v = w at hX2 hrd
      generalize ((adq c.nodes nets).take i).map u8R = X at hXl hXf hX2
      have g1':=aah hXf
      have g2':=fun π=>aae π hXf
      cases X with
      | nil=>
       have hvc:=fun (d:Bool) (x1 x2 x3 x4:Option AObj)=>hvc d [some (.row 1 NR),x1,x2,x3,x4] rfl
       (repeat first|simp only [ww]|(apply xa;simp +decide only [go_sem,c1,hlt,hq,hqn,hx,hc1,h01,hm,hwi,hvc,hrd,aaf,aag];rfl;kernel_rfl))
       refine ab8 ((kinds c.nodes 14).length - (i + 1)) (by omega) ⟨_,_,?_,i + 1,rfl,hlt,rfl,rfl⟩
       rw [hX2]
       (simp +decide only [go_sem,aa1,aa0,aa5,aa6,List.nil_append,List.length_nil,n1,n2,h1',h2']<;>rfl)<;>rfl
      | cons a2 r2=>
       simp only [List.length_cons] at hXl
       have hrm:r2.length + 1 + 1 ≤ 1000000000:=by omega
       simp only [List.flatMap_cons] at g1'
       simp only [List.map_cons,List.cons.injEq] at g2'
       have hvc:=fun (d:Bool) (x1 x2 x3 x4 x5:Option AObj)=>hvc d [some (.row 1 NR),x1,x2,x3,x4,x5] rfl
       (repeat first|simp only [ww]|(apply xa;simp +decide only [go_sem,c1,hlt,hq,hqn,hx,hc1,h01,hm,hwi,hvc,hrd,aa5,aa6,hrm];rfl;kernel_rfl))
       refine ab8 ((kinds c.nodes 14).length - (i + 1)) (by omega) ⟨_,_,?_,i + 1,rfl,hlt,rfl,rfl⟩
       rw [hX2]
       (simp +decide only [go_sem,aa1,aa0,aa5,aa6,List.cons_append,g1',g2',n1,n2,h1',h2']<;>rfl)<;>rfl
     ·obtain rfl:i = (kinds c.nodes 14).length:=by omega
      have c1:¬ ((kinds c.nodes 14).length:Int) < (kinds c.nodes 14).length:=by omega
      have hcp:=fun (d:Bool) (x0 x1 x2 x3:Option AObj) (R:aa4)=>aj9 (d:=d) (H:=x0 :: x1 :: x2 :: x3 :: some (.row 1 (a :: r)) :: R) (b:=4) (n:=r.length + 1) hTf rfl
      rw [List.take_of_length_le (by omega)] at hXl hXf ⊢
      cases hX:adq c.nodes nets with
      | nil=>
       have hcn:=fun (d:Bool) (H:aa4)=>aow (d:=d) H
       (repeat first|simp only [ww]|(apply xa;simp +decide only [go_sem,c1,hcp,hcn,List.map_nil,aaf,aag];rfl;kernel_rfl))
       refine acs (vs:=[.agg [.slice 4 0 (r.length + 1) (some (r.length + 1)),.nilslice]]) (r:=(_,_)) (by simp +decide only [go_sem]) ?_ rfl
       show aby false 1 (.agg [.slice 4 0 (r.length + 1) (some (r.length + 1)),.nilslice]) _ = _
       have htk:List.take (r.length + 1) (a :: r) = a :: r:=List.take_length (l:=a :: r)
       rw [← hal]
       unfold afg
       simp +decide only [go_sem,h3',n2,htk]<;>rfl
      | cons a2 r2=>
       rw [hX] at hXl hXf
       have hcp2:=fun (d:Bool) (x0 x1 x2 x3 x4:Option AObj)=>aj9 (d:=d) (H:=[x0,x1,x2,x3,x4,some (.row 1 ((a2 :: r2).map u8R))]) (b:=5) (n:=r2.length + 1) hXf rfl
       have g3':=fun (m:Nat) (q:AV → Option AV)=>aau m q hXf
       have hml:(r2.map u8R).length = r2.length:=List.length_map ..
       simp only [List.map_cons,u8R] at hcp2 g3' hXf ⊢
       (repeat first|simp only [ww]|(apply xa;simp +decide only [go_sem,c1,hcp,hcp2,aa5,aa6,hml];rfl;kernel_rfl))
       refine acs (vs:=[.agg [.slice 4 0 (r.length + 1) (some (r.length + 1)),.slice 5 0 (r2.length + 1) (some (r2.length + 1))]]) (r:=(_,_)) (by simp +decide only [go_sem]) ?_ rfl
       show aby false 1 (.agg [.slice 4 0 (r.length + 1) (some (r.length + 1)),.slice 5 0 (r2.length + 1) (some (r2.length + 1))]) _ = _
       have htk:List.take (r.length + 1) (a :: r) = a :: r:=List.take_length (l:=a :: r)
       have htk2:List.take (r2.length + 1) ([AV.int .u8 a2] :: r2.map u8R) = [AV.int .u8 a2] :: r2.map u8R:=List.take_of_length_le (by simp)
       rw [← hal]
       unfold afg
       simp only [List.map_cons,u8R]
       simp +decide only [go_sem,h3',g3',n2,htk,htk2]<;>rfl
set_option maxHeartbeats 200000000
open Go.Proofs Go.Ax Go.Pc
set_option maxRecDepth 100000
theorem ayc {d:Bool} {H:aa4} {b:Nat} (c:Cir) (hc:c.wf) (p:Pat) (hp:PatOk c.nodes p) (N0:List Nat) (hN:N0.length = c.nodes.length) (hb:aa2 H b = some (.row 1 (N0.map u8R))) :
 aaa L.env d (sem L.env Mf) (.func (.func 84) [] []) [.agg [sl c.nc (c.nodes.map Nd.enc),sl c.mc (c.names.map abv),.nilslice,sl c.oc (c.outs.map aaj),.slice b 0 c.nodes.length (some c.nodes.length)],.agg [sl p.ic (p.ins.map u8R),sl p.sc (p.sts.map u8R)]] H = some (.tuple [],H.set b (some (.row 1 ((abi (abi N0 (kinds c.nodes 0) p.ins) (kinds c.nodes 14) p.sts).map u8R))),[b]):=
 afu (fs:=[]) (cs:=[]) (ar:=[.agg [sl c.nc (c.nodes.map Nd.enc),sl c.mc (c.names.map abv),.nilslice,sl c.oc (c.outs.map aaj),.slice b 0 c.nodes.length (some c.nodes.length)],.agg [sl p.ic (p.ins.map u8R),sl p.sc (p.sts.map u8R)]]) (by kernel_rfl) (by kernel_rfl) rfl hb (aad (ach N0)) (FlatO.row (ach N0)) (by simp only [List.nil_append,List.append_nil,go_sem]) (args':=[.agg [sl c.nc (c.nodes.map Nd.enc),sl c.mc (c.names.map abv),.nilslice,sl c.oc (c.outs.map aaj),.slice 0 0 c.nodes.length (some c.nodes.length)],.agg [sl p.ic (p.ins.map u8R),sl p.sc (p.sts.map u8R)]]) (by simp only [List.nil_append,List.append_nil,List.map_cons,List.map_nil,av6,ac0,ak8,aih]) (bfc c hc p hp N0 hN) (FlatO.row (ach _)) rfl
theorem bat {d:Bool} {H:aa4} {b:Nat} (c:Cir) (hc:c.wf) (hO:c.outs ≠ []) (nets:List Nat) (hl:nets.length = c.nodes.length) (hv:∀ v ∈ nets,v ≤ 3) (hb:aa2 H b = some (.row 1 (nets.map u8R))) :
 aaa L.env d (sem L.env Mf) (.func (.func 87) [] []) [.agg [sl c.nc (c.nodes.map Nd.enc),sl c.mc (c.names.map abv),.nilslice,sl c.oc (c.outs.map aaj),.slice b 0 c.nodes.length (some c.nodes.length)]] H = some (al6 (abo c.outs nets) (adq c.nodes nets),H,[b]):=
 aca (fs:=[]) (cs:=[]) (ar:=[.agg [sl c.nc (c.nodes.map Nd.enc),sl c.mc (c.names.map abv),.nilslice,sl c.oc (c.outs.map aaj),.slice b 0 c.nodes.length (some c.nodes.length)]]) (by kernel_rfl) (by kernel_rfl) rfl hb (aad (ach nets)) (FlatO.row (ach nets)) (by simp only [List.nil_append,List.append_nil,go_sem]) (args':=[.agg [sl c.nc (c.nodes.map Nd.enc),sl c.mc (c.names.map abv),.nilslice,sl c.oc (c.outs.map aaj),.slice 0 0 c.nodes.length (some c.nodes.length)]]) (by simp only [List.nil_append,List.append_nil,List.map_cons,List.map_nil,av6,ac0,ak8,aih]) (bk7 c hc hO nets hl hv) (ah9 _ _)
theorem ate {d:Bool} {H:aa4} {b:Nat} (k:Nat) (hk:k < 16) (l:List Nat) (hl:l.length < 1000000) (cp:Option Nat) (X:List (List AV)) (hX:FlatR X) (hXl:X.take l.length = l.map u8R) (hb:aa2 H b = some (.row 1 X)) {m:Nat} (hm:m = l.length) :
 aaa L.env d (sem L.env Mf) (.func (.func 86) [] []) [.int .u8 k,.slice b 0 m cp] H = some (.int .u8 (aej k l:Nat),H,[b]):=by
 subst hm
 have hs:X = l.map u8R ++ X.drop l.length:=by rw [← hXl,List.take_append_drop]
 have hr:=ary k hk l (.slice 0 0 l.length cp) [some (.row 1 (l.map u8R ++ X.drop l.length))] (.blk cp _ (by rw [← hs];exact hX)) hl
 rw [← hs] at hr
 exact aca (fs:=[]) (cs:=[]) (ar:=[.int .u8 k,.slice b 0 l.length cp]) (by kernel_rfl) (by kernel_rfl) rfl hb (aad hX) (FlatO.row hX) (by simp only [List.nil_append,List.append_nil,go_sem]) (args':=[.int .u8 k,.slice 0 0 l.length cp]) (by simp only [List.nil_append,List.append_nil,List.map_cons,List.map_nil,ac0,bb5]) hr rfl
theorem aye {d:Bool} (H:aa4) (c:Cir) (h:c.wf) (p:Pat) (hp:PatOk c.nodes p):aaa L.env d (sem L.env Mf) (.func (.func 66) [] []) [.agg c.enc,.agg p.enc] H = some (.int .i64 0,H,[]):=
 aa3 (by kernel_rfl) (by kernel_rfl) rfl (by simp only [aa7,aaw,Cir.enc,Pat.enc,go_sem]) (bd3 c h p hp) rfl
theorem ace (l:List Nat):(afg l).storable = true:=by cases l<;>rfl
/-- The nets of a run adn fault. -/
def ael (c:Cir) (ord:List Nat) (p:Pat):List Nat:=amf nAlg c.nodes hk0 ord (kinds c.nodes 0) (kinds c.nodes 14) p.ins p.sts
theorem bz5 {X:List (List AV)} {j n:Nat} {x:List AV} (hl:X.length = n) (hj:j < n):(X.take j ++ [x] ++ X.drop (j + 1)).length = n ∧ (X.take j ++ [x] ++ X.drop (j + 1)).take (j + 1) = X.take j ++ [x]:=by
 refine ⟨by simp;omega,?_⟩
 rw [List.take_append_of_le_length (by simp;omega),List.take_of_length_le (by simp;omega)]
theorem bcm {X:List (List AV)} {j:Nat} {x:List AV} (hX:FlatR X) (hx:aab x = []):FlatR (X.take j ++ [x] ++ X.drop (j + 1)):=by
 intro r hr
 simp only [List.mem_append,List.mem_singleton] at hr
 rcases hr with (hr|rfl)|hr
 ·exact hX r (List.mem_of_mem_take hr)
 ·exact hx
 ·exact hX r (List.mem_of_mem_drop hr)
theorem arx:∀ (is vs N:List Nat),(∀ v ∈ N,v ≤ 3) → (∀ v ∈ vs,v ≤ 3) → ∀ v ∈ abi N is vs,v ≤ 3
 | [],vs,N,h,_=>by cases vs<;>exact h
 | _ :: _,[],N,h,_=>h
 | i :: is,w :: vs,N,h,hv=>by
  simp only [abi]
  refine arx is vs _ (fun v hm=>?_) (fun v hm=>hv v (List.mem_cons_of_mem _ hm))
  rcases List.mem_or_eq_of_mem_set hm with h1|h1
  ·exact h v h1
  ·rw [h1];exact hv w (List.mem_cons_self ..)
theorem bkq {nodes:List Nd} {N:List Nat} {n:Nat} (h:∀ v ∈ N,v ≤ 3):∀ v ∈ aap nAlg nodes hk0 N n,v ≤ 3:=by
 have key:∀ (l:List Nat) (p:Nat),∀ v ∈ ad6 nAlg hk0 n N p l,v ≤ 3:=by
  intro l
  induction l with
  | nil=>intro p v hv;simp [ad6] at hv
  | cons m l ih=>
   intro p v hv
   simp only [ad6,List.mem_cons] at hv
   rcases hv with rfl|hv
   ·show N.getD m 0 ≤ 3
    rw [List.getD]
    cases hm:N[m]? with
    | none=>decide
    | some w=>exact h w (List.mem_of_getElem? hm)
   ·exact ih _ v hv
 exact key _ _
/-- A run adn fault. -/
theorem bk6 (c:Cir) (hc:c.wf) (hO:c.outs ≠ []) (p:Pat) (hp:PatOk c.nodes p) (ord:List Nat) (hord:OrdOf c ord):sem L.env Mf 56 [.agg c.enc,.agg p.enc] [] = some (.tuple [al6 (abo c.outs (ael c ord p)) (adq c.nodes (ael c ord p)),.islice ((ael c ord p).map u8R) (some c.nodes.length),.int .i64 0],[]):=by
 have hnl:=hc.len
 have hrm:c.nodes.length ≤ 1000000000:=by omega
 have ho:=hord.call
 have hor:∀ n ∈ ord,n < c.nodes.length:=fun n hn=>by have:=hord.perm.mem_iff.1 hn;simpa using this
 have hol:ord.length = c.nodes.length:=by rw [hord.perm.length_eq];simp
 have hft:=fun (d:Bool) H=>aye (d:=d) H c hc p hp
 have hce:c.enc = [sl c.nc (c.nodes.map Nd.enc),sl c.mc (c.names.map abv),.nilslice,sl c.oc (c.outs.map aaj)]:=rfl
 have hpe:Pat.enc p = [sl p.ic (p.ins.map u8R),sl p.sc (p.sts.map u8R)]:=rfl
 rw [hce,hpe] at hft
 rw [hce] at ho
 rw [hce,hpe]
 have hld:=fun (d:Bool) (x0 x1 x2 x4:Option AObj)=>ayc (d:=d) (H:=[x0,x1,x2,some (.row 1 ((List.replicate c.nodes.length 0).map u8R)),x4]) (b:=3) c hc p hp (List.replicate c.nodes.length 0) (by simp) rfl
 have hob:=fun (d:Bool) (x0 x1 x3:Option AObj) (N:List Nat) (hl:N.length = c.nodes.length) (hv:∀ v ∈ N,v ≤ 3)=>bat (d:=d) (H:=[x0,x1,some (.row 1 (N.map u8R)),x3]) (b:=2) c hc hO N hl hv rfl
 have hN1l:(abi (abi (List.replicate c.nodes.length 0) (kinds c.nodes 0) p.ins) (kinds c.nodes 14) p.sts).length = c.nodes.length:=by rw [acf,acf];simp
 have hN1v:∀ v ∈ abi (abi (List.replicate c.nodes.length 0) (kinds c.nodes 0) p.ins) (kinds c.nodes 14) p.sts,v ≤ 3:=arx _ _ _ (arx _ _ _ (fun v hv=>by rw [List.eq_of_mem_replicate hv];omega) hp.inv) hp.stv
 have hG:ael c ord p = ord.foldl (Pc.stepG nAlg c.nodes hk0) (abi (abi (List.replicate c.nodes.length 0) (kinds c.nodes 0) p.ins) (kinds c.nodes 14) p.sts):=rfl
 rw [hG]
 have hrp:(List.replicate c.nodes.length 0).map u8R = List.replicate c.nodes.length [AV.int .u8 0]:=by rw [List.map_replicate];rfl
 rw [hrp] at hld
 generalize abi (abi (List.replicate c.nodes.length 0) (kinds c.nodes 0) p.ins) (kinds c.nodes 14) p.sts = N1 at hld hN1l hN1v ⊢
 suffices hs:∃ r:AV × aa4,(r = (.tuple [al6 (abo c.outs (ord.foldl (Pc.stepG nAlg c.nodes hk0) N1)) (adq c.nodes (ord.foldl (Pc.stepG nAlg c.nodes hk0) N1)),.islice ((ord.foldl (Pc.stepG nAlg c.nodes hk0) N1).map u8R) (some c.nodes.length),.int .i64 0],[])) ∧ sem L.env Mf 56 [.agg [sl c.nc (c.nodes.map Nd.enc),sl c.mc (c.names.map abv),.nilslice,sl c.oc (c.outs.map aaj)],.agg [sl p.ic (p.ins.map u8R),sl p.sc (p.sts.map u8R)]] [] = some r by
  obtain ⟨r,rfl,h3⟩:=hs
  exact h3
 (refine svE Tryz.f56 ?_;simp only [Tryz.f56,gS])
 (repeat first|simp only [ww]|(apply xa;simp +decide only [go_sem,ho,hft,hrm,hld];rfl;kernel_rfl))
 refine acx kp56_0 (fun n F H=>∃ (i q:Nat) (X:List (List AV)),n = ord.length - i ∧ i ≤ ord.length ∧ q ≤ 16 ∧ X.length = 16 ∧ FlatR X ∧ (∀ v ∈ (ord.take i).foldl (Pc.stepG nAlg c.nodes hk0) N1,v ≤ 3) ∧ F = [(4,.ptr 0 0 0),(9,.ptr 1 0 0),(10,.slice 3 0 q (some 16)),(40,.islice (ord.map aaj) (some c.nodes.length)),(41,.int .i64 ord.length),(42,.int .i64 i)] ∧ H = [some (.row 2 [[.nilslice,.nilslice]]),some (.row 5 [[sl c.nc (c.nodes.map Nd.enc),sl c.mc (c.names.map abv),.nilslice,sl c.oc (c.outs.map aaj),.slice 2 0 c.nodes.length (some c.nodes.length)]]),some (.row 1 (((ord.take i).foldl (Pc.stepG nAlg c.nodes hk0) N1).map u8R)),some (.row 1 X)]) ord.length ?_ ?_
 ·refine ⟨_,_,?_,0,0,List.replicate 16 [.int .u8 0],rfl,Nat.zero_le _,by omega,rfl,fun r hr=>by rw [List.eq_of_mem_replicate hr];rfl,by rw [List.take_zero];exact hN1v,rfl,rfl⟩
  rw [List.take_zero,List.foldl_nil]
  (simp +decide only [go_sem,aa1,aa0,acz,acl]<;>rfl)<;>rfl
 ·rintro n F H ⟨i,q,X,rfl,hi,hq,hXl,hXf,hNv,rfl,rfl⟩
  have hll:=aj7 (A:=nAlg) (nodes:=c.nodes) (h:=hk0) (ord.take i) N1
  rw [hN1l] at hll
  have x1:=aah hXf
  have x2:=fun π=>aae π hXf
  by_cases hlt:i < ord.length
  ·obtain ⟨n,hn⟩:∃ n,ord[i]? = some n:=⟨_,List.getElem?_eq_getElem hlt⟩
   have hnn:=hor n (List.mem_of_getElem? hn)
   obtain ⟨x,hx⟩:∃ x,c.nodes[n]? = some x:=⟨_,List.getElem?_eq_getElem hnn⟩
   have hxm:=List.mem_of_getElem? hx
   have k14:=hc.kind x hxm
   have hil:=hc.insl hxm
   have hka:=ab7 hx
   have hs:=aoi (A:=nAlg) (nodes:=c.nodes) (h:=hk0) (nets:=N1) hn
   have c1:(i:Int) < ord.length:=by omega
   have hwi:=wI1 (n:=i) (by omega)
   have hcb:=fun (d:Bool) H=>aov (d:=d) H x.kind (by omega)
   have hxe:x.enc = [.int .u8 x.kind,sl x.c (x.ins.map aaj),.int .i64 x.mem,.int .i64 x.bit]:=rfl
   generalize (ord.take i).foldl (Pc.stepG nAlg c.nodes hk0) N1 = N at hs hll hNv
   obtain ⟨w0,hw0⟩:∃ w,N[n]? = some w:=⟨_,List.getElem?_eq_getElem (by omega)⟩
   by_cases hcm:abr x.kind = true
   ·have hne:aaq c.nodes n ≠ 0 ∧ aaq c.nodes n ≠ 14:=by
     rw [hka];constructor<;>(intro e;rw [e] at hcm;exact absurd hcm (by decide))
    have hkk:x.kind < 16:=by omega
    have hRd:ac5 c.nodes n = x.ins:=abk hx
    have hRl:(aap nAlg c.nodes hk0 N n).length = x.ins.length:=by rw [adx,hRd]
    have hRv:=bkq (nodes:=c.nodes) (n:=n) hNv
    (repeat first|simp only [ww]|(apply xa;simp +decide only [go_sem,c1,hlt,hn,hx,hnn,hcb,hcm];rfl;kernel_rfl))
    refine acx kp56_2 (fun m F H=>∃ (j:Nat) (Y:List (List AV)),m = x.ins.length - j ∧ j ≤ x.ins.length ∧ Y.length = 16 ∧ FlatR Y ∧ Y.take j = ((aap nAlg c.nodes hk0 N n).take j).map u8R ∧ F = [(4,.ptr 0 0 0),(9,.ptr 1 0 0),(10,.slice 3 0 j (some 16)),(12,.int .i64 n),(13,.ptr 4 0 0),(40,.islice (ord.map aaj) (some c.nodes.length)),(41,.int .i64 ord.length),(42,.int .i64 i),(59,sl x.c (x.ins.map aaj)),(60,.int .i64 x.ins.length),(61,.int .i64 j)] ∧ H = [some (.row 2 [[.nilslice,.nilslice]]),some (.row 5 [[sl c.nc (c.nodes.map Nd.enc),sl c.mc (c.names.map abv),.nilslice,sl c.oc (c.outs.map aaj),.slice 2 0 c.nodes.length (some c.nodes.length)]]),some (.row 1 (N.map u8R)),some (.row 1 Y),some (.row 4 [[.int .u8 x.kind,sl x.c (x.ins.map aaj),.int .i64 x.mem,.int .i64 x.bit]])]) x.ins.length ?_ ?_
    ·refine ⟨_,_,?_,0,X,rfl,Nat.zero_le _,hXl,hXf,rfl,rfl,rfl⟩
     (simp +decide only [go_sem,aa1,aa0,acz,acl,x1,x2]<;>rfl)<;>rfl
    ·rintro m F H ⟨j,Y,rfl,hj,hYl,hYf,hYt,rfl,rfl⟩
     have y1:=aah hYf
     have y2:=fun π=>aae π hYf
     by_cases hjl:j < x.ins.length
     ·obtain ⟨u,hu⟩:∃ u,x.ins[j]? = some u:=⟨_,List.getElem?_eq_getElem hjl⟩
      have hun:=hc.ins x hxm u (List.mem_of_getElem? hu)
      obtain ⟨v,hv⟩:∃ v,N[u]? = some v:=⟨_,List.getElem?_eq_getElem (by omega)⟩
      have d1:(j:Int) < x.ins.length:=by omega
      have hwj:=wI1 (n:=j) (by omega)
      have hrs:=ale (A:=nAlg) (h:=hk0) (nodes:=c.nodes) (nets:=N) (n:=n) (i:=j) (by rw [hRd];exact hu) hv
      obtain ⟨z1,z2⟩:=bz5 (x:=[AV.int .u8 v]) hYl (show j < 16 by omega)
      have z3:=bcm (j:=j) (x:=[AV.int .u8 v]) hYf rfl
      generalize hZ:Y.take j ++ [[AV.int .u8 v]] ++ Y.drop (j + 1) = Z at z1 z2 z3
      rw [hYt] at z2
      have w1:=aah z3
      have w2:=fun π=>aae π z3
      have hj16:j ≤ 16:=by omega
      have hj17:j + 1 ≤ 16:=by omega
      (repeat first|simp only [ww]|(apply xa;simp +decide only [go_sem,d1,hjl,hu,hun,hv,hll,hwj,hYl,hj16,hj17,hZ,Nat.zero_add];rfl;kernel_rfl))
      refine ab8 (x.ins.length - (j + 1)) (by omega) ⟨_,_,?_,j + 1,Z,rfl,hjl,z1,z3,?_,rfl,rfl⟩
      ·(simp +decide only [go_sem,aa1,aa0,acz,acl,w1,w2,hZ]<;>rfl)<;>rfl
      ·rw [z2,hrs,List.map_append];rfl
     ·obtain rfl:j = x.ins.length:=by omega
      have d1:¬ (x.ins.length:Int) < x.ins.length:=by omega
      have hev:=fun (d:Bool) (x0 x1 x2 x4:Option AObj)=>ate (d:=d) (H:=[x0,x1,x2,some (.row 1 Y),x4]) (b:=3) x.kind hkk (aap nAlg c.nodes hk0 N n) (by omega) (some 16) Y hYf (by rw [hRl,hYt,List.take_of_length_le (by omega)]) rfl (m:=x.ins.length) hRl.symm
      have hstep:Pc.stepG nAlg c.nodes hk0 N n = N.set n (aej x.kind (aap nAlg c.nodes hk0 N n)):=by
       unfold Pc.stepG
       rw [if_pos hne,hka]
       show N.set n (aej x.kind ((aap nAlg c.nodes hk0 N n).map ac9)) = _
       rw [ant hRv]
      have hle:=aws x.kind _ hRv
      rw [hstep] at hs
      generalize aej x.kind (aap nAlg c.nodes hk0 N n) = w at hev hs hle
      have hsR:(N.map u8R).set n [AV.int .u8 w] = (N.set n w).map u8R:=by rw [List.map_set];rfl
      (repeat first|simp only [ww]|(apply xa;simp +decide only [go_sem,d1,hev,hnn,hll,hw0,hsR,hwi];rfl;kernel_rfl))
      refine ab8 (ord.length - (i + 1)) (by omega) ⟨_,_,?_,i + 1,x.ins.length,Y,rfl,hlt,by omega,hYl,hYf,?_,rfl,rfl⟩
      ·rw [hs]
       (simp +decide only [go_sem,aa1,aa0,acz,acl,y1,y2]<;>rfl)<;>rfl
      ·rw [hs]
       intro v hv
       rcases List.mem_or_eq_of_mem_set hv with h1|h1
       ·exact hNv v h1
       ·rw [h1];exact hle
   ·have hcm:abr x.kind = false:=by simpa using hcm
    have hstep:Pc.stepG nAlg c.nodes hk0 N n = N:=by
     have hne:¬ (aaq c.nodes n ≠ 0 ∧ aaq c.nodes n ≠ 14):=by
      rw [hka];intro hh;simp [abr] at hcm;omega
     unfold Pc.stepG
     rw [if_neg hne]
     show N.set n (N.getD n 0) = N
     rw [List.getD,hw0,Option.getD_some]
     have:=(List.getElem?_eq_some_iff.1 hw0)
     rw [← this.2];exact List.set_getElem_self this.1
    rw [hstep] at hs
    (repeat first|simp only [ww]|(apply xa;simp +decide only [go_sem,c1,hlt,hn,hx,hnn,hcb,hcm,hwi];rfl;kernel_rfl))
    refine ab8 (ord.length - (i + 1)) (by omega) ⟨_,_,?_,i + 1,q,X,rfl,hlt,hq,hXl,hXf,by rw [hs];exact hNv,rfl,rfl⟩
    rw [hs]
    (simp +decide only [go_sem,aa1,aa0,acz,acl,x1,x2]<;>rfl)<;>rfl
  ·obtain rfl:i = ord.length:=by omega
   have c1:¬ (ord.length:Int) < ord.length:=by omega
   rw [List.take_length] at hll hNv ⊢
   generalize ord.foldl (Pc.stepG nAlg c.nodes hk0) N1 = N at hll hNv ⊢
   have hob:=fun (d:Bool) (x0 x1 x3:Option AObj)=>hob d x0 x1 x3 N hll hNv
   unfold al6 at hob ⊢
   have q1:=acm (abo c.outs N)
   have hst1:=ace (abo c.outs N)
   have hst2:=ace (adq c.nodes N)
   have q2:=acm (adq c.nodes N)
   generalize afg (abo c.outs N) = V1 at hob q1 hst1 ⊢
   generalize afg (adq c.nodes N) = V2 at hob q2 hst2 ⊢
   have s1:V1.storable = true:=hst1
   have s2:V2.storable = true:=hst2
   have hNf:=ach N
   have r1:∀ π,ren π V1 = V1:=fun π=>abc π _ q1
   have r2:∀ π,ren π V2 = V2:=fun π=>abc π _ q2
   have f1:=fun m t d=>agb m t d V1 q1
   have f2:=fun m t d=>agb m t d V2 q2
   have f3:=fun m d=>aau m d hNf
   have htk:(N.map u8R).take c.nodes.length = N.map u8R:=List.take_of_length_le (by simp;omega)
   (repeat first|simp only [ww]|(apply xa;simp +decide only [go_sem,c1,hob,s1,s2];rfl;kernel_rfl))
   refine acs (vs:=[.agg [V1,V2],.slice 2 0 c.nodes.length (some c.nodes.length),.int .i64 0]) (r:=(_,_)) (by simp +decide only [go_sem]) ?_ rfl
   show aby false 0 (.tuple [.agg [V1,V2],.slice 2 0 c.nodes.length (some c.nodes.length),.int .i64 0]) _ = _
   simp +decide only [go_sem,f1,f2,f3,htk,hll]<;>rfl
end Go.ZInst
