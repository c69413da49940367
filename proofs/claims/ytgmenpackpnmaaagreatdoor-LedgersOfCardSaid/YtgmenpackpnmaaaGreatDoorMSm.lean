/- Part of a proof. No condition. -/
import Derived.Test.YtgmenpackpnmaaaGreatDoorMLg
import Derived.Test.YtgmenpackpnmaaaGreatDoorMPa
import Derived.Test.YtgmenpackpnmaaaGreatDoorPcB
set_option linter.unusedSimpArgs false
set_option linter.unusedVariables false
namespace Go.MInst
set_option maxHeartbeats 200000000
open Go.Proofs Go.Ax Go.Pc
set_option maxRecDepth 100000
theorem a2w (π:Nat → Option Nat) (l:List Nat):(l.map u8R).map (fun r=>r.map (ren π)) = l.map u8R:=a04 π (a2h l)
theorem a2k (l:List Nat):(l.map u8R).flatMap a0e = []:=a06 (a2h l)
theorem d1r (c:Cir) (hc:c.wf) (p:Pat) (hp:PatOk c.nodes p) (N0:List Nat) (hN:N0.length = c.nodes.length) :
 sem L.env Mf 63 [.agg [sl c.nc (c.nodes.map Nd.enc),sl c.mc (c.names.map a1r),.nilslice,sl c.oc (c.outs.map a0d),.slice 0 0 c.nodes.length (some c.nodes.length)],.agg p.enc] [some (.row 1 (N0.map u8R))] = some (.tuple [],[some (.row 1 ((a1i (a1i N0 (kinds c.nodes 0) p.ins) (kinds c.nodes 14) p.sts).map u8R))]):=by
 have hnl:=hc.len
 obtain ⟨r0,e3⟩:=a2g (kinds c.nodes 0)
 obtain ⟨r1,e4⟩:=a2g (kinds c.nodes 14)
 have hk0:=a37 c.nodes 0
 have hk14:=a37 c.nodes 14
 have hi:=fun (d:Bool) H=>a7n (d:=d) H c (by omega)
 have hs:=fun (d:Bool) H=>a5w (d:=d) H c (by omega)
 have hvi:=hp.ins
 have hvs:=hp.sts
 rw [e3] at hi
 rw [e4] at hs
 have hpe:Pat.enc p = [sl p.ic (p.ins.map u8R),sl p.sc (p.sts.map u8R)]:=rfl
 rw [hpe]
 simp only [Cir.enc] at hi hs
 suffices hs:∃ r:AV × a05,(r = (.tuple [],[some (.row 1 ((a1i (a1i N0 (kinds c.nodes 0) p.ins) (kinds c.nodes 14) p.sts).map u8R))])) ∧ sem L.env Mf 63 [.agg [sl c.nc (c.nodes.map Nd.enc),sl c.mc (c.names.map a1r),.nilslice,sl c.oc (c.outs.map a0d),.slice 0 0 c.nodes.length (some c.nodes.length)],.agg [sl p.ic (p.ins.map u8R),sl p.sc (p.sts.map u8R)]] [some (.row 1 (N0.map u8R))] = some r by
  obtain ⟨r,rfl,h3⟩:=hs
  exact h3
 (refine svE Tryz.f63 ?_;simp only [Tryz.f63,gS])
 (repeat first|simp only [ww]|(apply xa;simp +decide only [go_sem,hi];rfl;kernel_rfl))
 refine a0s (σ:=Nat) kp63_0 (fun i=>[(2,.ptr 1 0 0),(3,.ptr 2 0 0),(10,sl r0 ((kinds c.nodes 0).map a0d)),(11,.int .i64 (kinds c.nodes 0).length),(12,.int .i64 i)])
  (fun i=>[some (.row 1 ((a1i N0 ((kinds c.nodes 0).take i) (p.ins.take i)).map u8R)),some (.row 5 [[sl c.nc (c.nodes.map Nd.enc),sl c.mc (c.names.map a1r),.nilslice,sl c.oc (c.outs.map a0d),.slice 0 0 c.nodes.length (some c.nodes.length)]]),some (.row 2 [[sl p.ic (p.ins.map u8R),sl p.sc (p.sts.map u8R)]])]) (fun i=>(kinds c.nodes 0).length - i) (fun i=>i ≤ (kinds c.nodes 0).length) 0 ?_ (Nat.zero_le _) ?_
 ·rw [List.take_zero,List.take_zero,show a1i N0 [] [] = N0 from rfl]
  (simp +decide only [go_sem,a01,a00,a2w,a2k]<;>rfl)<;>rfl
 ·intro i hi
  have hll:=a2c ((kinds c.nodes 0).take i) (p.ins.take i) N0
  rw [hN] at hll
  by_cases hlt:i < (kinds c.nodes 0).length
  ·obtain ⟨n,hn⟩:∃ n,(kinds c.nodes 0)[i]? = some n:=⟨_,List.getElem?_eq_getElem hlt⟩
   obtain ⟨w,hw⟩:∃ w,p.ins[i]? = some w:=⟨_,List.getElem?_eq_getElem (by omega)⟩
   have hnn:=(a4a hn).1
   have hst:=a5p (nets:=N0) hn hw
   have c1:(i:Int) < (kinds c.nodes 0).length:=by omega
   have hwi:=wI1 (n:=i) (by omega)
   have hiv:i < p.ins.length:=by omega
   generalize a1i N0 ((kinds c.nodes 0).take i) (p.ins.take i) = N at hst hll
   obtain ⟨w0,hw0⟩:∃ w,N[n]? = some w:=⟨_,List.getElem?_eq_getElem (by omega)⟩
   have hsR:(N.map u8R).set n [AV.int .u8 w] = (N.set n w).map u8R:=by rw [List.map_set];rfl
   (repeat first|simp only [ww]|(apply xa;simp +decide only [go_sem,c1,hlt,hn,hw,hnn,hwi,hiv,hll,hw0,hsR];rfl;kernel_rfl))
   refine a1w (i + 1) ?_ (by omega) (by omega)
   rw [hst]
   (simp +decide only [go_sem,a01,a00,a2w,a2k]<;>rfl)<;>rfl
  have hie:i = (kinds c.nodes 0).length:=by omega
  subst hie
  have c1:¬ ((kinds c.nodes 0).length:Int) < (kinds c.nodes 0).length:=by omega
  rw [List.take_length,List.take_of_length_le (by omega)] at hll ⊢
  generalize a1i N0 (kinds c.nodes 0) p.ins = N1 at hll ⊢
  (repeat first|simp only [ww]|(apply xa;simp +decide only [go_sem,c1,hs];rfl;kernel_rfl))
  refine a0s (σ:=Nat) kp63_2 (fun i=>[(2,.ptr 1 0 0),(3,.ptr 2 0 0),(29,sl r1 ((kinds c.nodes 14).map a0d)),(30,.int .i64 (kinds c.nodes 14).length),(31,.int .i64 i)])
   (fun i=>[some (.row 1 ((a1i N1 ((kinds c.nodes 14).take i) (p.sts.take i)).map u8R)),some (.row 5 [[sl c.nc (c.nodes.map Nd.enc),sl c.mc (c.names.map a1r),.nilslice,sl c.oc (c.outs.map a0d),.slice 0 0 c.nodes.length (some c.nodes.length)]]),some (.row 2 [[sl p.ic (p.ins.map u8R),sl p.sc (p.sts.map u8R)]])]) (fun i=>(kinds c.nodes 14).length - i) (fun i=>i ≤ (kinds c.nodes 14).length) 0 ?_ (Nat.zero_le _) ?_
  ·rw [List.take_zero,List.take_zero,show a1i N1 [] [] = N1 from rfl]
   (simp +decide only [go_sem,a01,a00,a2w,a2k]<;>rfl)<;>rfl
  ·intro i hi
   have hll2:=a2c ((kinds c.nodes 14).take i) (p.sts.take i) N1
   rw [hll] at hll2
   by_cases hlt:i < (kinds c.nodes 14).length
   ·obtain ⟨n,hn⟩:∃ n,(kinds c.nodes 14)[i]? = some n:=⟨_,List.getElem?_eq_getElem hlt⟩
    obtain ⟨w,hw⟩:∃ w,p.sts[i]? = some w:=⟨_,List.getElem?_eq_getElem (by omega)⟩
    have hnn:=(a4a hn).1
    have hst:=a5p (nets:=N1) hn hw
    have c1:(i:Int) < (kinds c.nodes 14).length:=by omega
    have hwi:=wI1 (n:=i) (by omega)
    have hiv:i < p.sts.length:=by omega
    generalize a1i N1 ((kinds c.nodes 14).take i) (p.sts.take i) = N at hst hll2
    obtain ⟨w0,hw0⟩:∃ w,N[n]? = some w:=⟨_,List.getElem?_eq_getElem (by omega)⟩
    have hsR:(N.map u8R).set n [AV.int .u8 w] = (N.set n w).map u8R:=by rw [List.map_set];rfl
    (repeat first|simp only [ww]|(apply xa;simp +decide only [go_sem,c1,hlt,hn,hw,hnn,hwi,hiv,hll2,hw0,hsR];rfl;kernel_rfl))
    refine a1w (i + 1) ?_ (by omega) (by omega)
    rw [hst]
    (simp +decide only [go_sem,a01,a00,a2w,a2k]<;>rfl)<;>rfl
   have hie:i = (kinds c.nodes 14).length:=by omega
   subst hie
   have c1:¬ ((kinds c.nodes 14).length:Int) < (kinds c.nodes 14).length:=by omega
   rw [List.take_length,List.take_of_length_le (by omega)]
   (repeat first|simp only [ww]|(apply xa;simp +decide only [go_sem,c1];rfl;kernel_rfl))
   refine a5b (vs:=[]) (r:=(_,[_])) (by simp +decide only [go_sem]) ?_ rfl
   simp +decide only [go_sem,a2w]<;>rfl
set_option maxHeartbeats 200000000
open Go.Proofs Go.Ax Go.Pc
set_option maxRecDepth 100000
def a5d:List Nat → AV
 | []=>.nilslice
 | v :: r=>.islice ((v :: r).map u8R) (some (r.length + 1))
theorem b2g (l:List Nat):∃ r:Rep,a5d l = sl r (l.map u8R):=by
 cases l with
 | nil=>exact ⟨none,rfl⟩
 | cons v r=>exact ⟨some (some (r.length + 1)),rfl⟩
theorem a2l (l:List Nat):refs (a5d l) = []:=by cases l<;>rfl
def b0r (o x:List Nat):AV:=.agg [a5d o,a5d x]
theorem a6z (o x:List Nat):refs (b0r o x) = []:=by simp only [b0r,a0y,a09,a2l,a1u,List.append_nil]
theorem c6d (c:Cir) (nets:List Nat) (hl:nets.length = c.nodes.length) (hv:∀ v ∈ nets,v ≤ 3) (n v:Nat) (hn:nets[n]? = some v):sem L.env Mf 119 [.agg [sl c.nc (c.nodes.map Nd.enc),sl c.mc (c.names.map a1r),.nilslice,sl c.oc (c.outs.map a0d),.slice 0 0 c.nodes.length (some c.nodes.length)],.int .i64 n] [some (.row 1 (nets.map u8R))] = some (.int .u8 v,[some (.row 1 (nets.map u8R))]):=by
 have hlt:=(List.getElem?_eq_some_iff.1 hn).1
 have h0:¬ (n:Int) < 0:=by omega
 have h1:¬ (c.nodes.length:Int) ≤ n:=by omega
 have h2:n < c.nodes.length:=by omega
 have hc:∀ (d:Bool) H,a0c L.env d (sem L.env Mf) (.func (.func 148) [] []) [.int .u8 v] H = some (.int .u8 v,H,[]):=fun d H=>by
  have:=a03 (E:=L.env) (draw:=d) (call:=sem L.env Mf) (fs:=[]) (cs:=[]) (ar:=[.int .u8 v]) (v:=.int .u8 (a26 v:Nat)) (H:=H) (g:=148) (by kernel_rfl) (by kernel_rfl) rfl rfl (b9r v) rfl
  rw [c3p (hv v (List.mem_of_getElem? hn))] at this
  exact this
 (refine sv Tryz.f119 ?_;simp only [Tryz.f119,gS])
 (repeat first|simp only [ww]|(apply xa;simp +decide only [go_sem,h0,h1,h2,hl,hn,hc];rfl;kernel_rfl))
 refine a77 (vs:=[.int .u8 v]) (by simp +decide only [go_sem]) ?_
 simp +decide only [go_sem,a2w]<;>rfl
theorem c0m {d:Bool} {H:a05} {b:Nat} (c:Cir) (nets:List Nat) (hl:nets.length = c.nodes.length) (hv:∀ v ∈ nets,v ≤ 3) (n v:Nat) (hn:nets[n]? = some v) (hb:a02 H b = some (.row 1 (nets.map u8R))) :
 a0c L.env d (sem L.env Mf) (.func (.func 119) [] []) [.agg [sl c.nc (c.nodes.map Nd.enc),sl c.mc (c.names.map a1r),.nilslice,sl c.oc (c.outs.map a0d),.slice b 0 c.nodes.length (some c.nodes.length)],.int .i64 n] H = some (.int .u8 v,H,[b]):=
 a2d (fs:=[]) (cs:=[]) (ar:=[.agg [sl c.nc (c.nodes.map Nd.enc),sl c.mc (c.names.map a1r),.nilslice,sl c.oc (c.outs.map a0d),.slice b 0 c.nodes.length (some c.nodes.length)],.int .i64 n]) (by kernel_rfl) (by kernel_rfl) rfl hb (a0u (a2h nets)) (FlatO.row (a2h nets)) (by simp only [List.nil_append,List.append_nil,go_sem]) (args':=[.agg [sl c.nc (c.nodes.map Nd.enc),sl c.mc (c.names.map a1r),.nilslice,sl c.oc (c.outs.map a0d),.slice 0 0 c.nodes.length (some c.nodes.length)],.int .i64 n]) (by simp only [List.nil_append,List.append_nil,List.map_cons,List.map_nil,c0x,a29,b2q,a87,c77]) (c6d c nets hl hv n v hn) rfl
theorem d4d (n:Nat) (rows:List (List AV)) (hf:FlatR rows):sem L.env Mf 77 [.slice 0 0 n none] [some (.row 1 rows)] = some (.slice 0 0 n (some n),[some (.row 1 rows)]):=by
 have h1:=fun π=>a04 π hf
 (refine sv Tryz.f77 ?_;simp only [Tryz.f77,gS])
 (repeat first|simp only [ww]|(apply xa;simp +decide only [go_sem];rfl;kernel_rfl))
 (apply fqb;simp +decide only [go_sem,h1]<;>rfl)
theorem a8y {d:Bool} {H:a05} {b n:Nat} {rows:List (List AV)} (hf:FlatR rows) (hb:a02 H b = some (.row 1 rows)):a0c L.env d (sem L.env Mf) (.func (.func 77) [] []) [.slice b 0 n none] H = some (.slice b 0 n (some n),H,[b]):=by
 have h:=a7b (E:=L.env) (draw:=d) (call:=sem L.env Mf) (g:=77) (fs:=[]) (cs:=[]) (ar:=[.slice b 0 n none]) (H:=H) (b:=b) (by kernel_rfl) (by kernel_rfl) rfl hb (a0u hf) (FlatO.row hf) rfl (args':=[AV.slice 0 0 n none]) (by simp only [List.nil_append,List.append_nil,List.map_cons,List.map_nil,a29]) (d4d n rows hf) (FlatO.row hf) (a9j b 0 _ n _)
 rw [b6d hb] at h
 exact h
theorem c9w:sem L.env Mf 77 [.nilslice] [] = some (.nilslice,[]):=by
 (refine sv Tryz.f77 ?_;simp only [Tryz.f77,gS])
 (repeat first|simp only [ww]|(apply xa;simp +decide only [go_sem];rfl;kernel_rfl))
 (apply fqb;simp +decide only [go_sem]<;>rfl)
theorem b44 {d:Bool} (H:a05):a0c L.env d (sem L.env Mf) (.func (.func 77) [] []) [.nilslice] H = some (.nilslice,H,[]):=a03 (by kernel_rfl) (by kernel_rfl) rfl rfl c9w rfl
def a3m (nodes:List Nd) (nets:List Nat):List Nat:=(kinds nodes 14).map fun n=>a4s (nets.getD ((a22 nodes n).getD 0 0) 0)
def a1p (outs nets:List Nat):List Nat:=outs.map fun n=>nets.getD n 0
theorem d72 (c:Cir) (hc:c.wf) (hO:c.outs ≠ []) (nets:List Nat) (hl:nets.length = c.nodes.length) (hv:∀ v ∈ nets,v ≤ 3):sem L.env Mf 66 [.agg [sl c.nc (c.nodes.map Nd.enc),sl c.mc (c.names.map a1r),.nilslice,sl c.oc (c.outs.map a0d),.slice 0 0 c.nodes.length (some c.nodes.length)]] [some (.row 1 (nets.map u8R))] = some (b0r (a1p c.outs nets) (a3m c.nodes nets),[some (.row 1 (nets.map u8R))]):=by
 have hnl:=hc.len
 have hol:=hc.outl
 obtain ⟨r1,e4⟩:=a2g (kinds c.nodes 14)
 have hk14:=a37 c.nodes 14
 have hs:=fun (d:Bool) H=>a5w (d:=d) H c (by omega)
 rw [e4] at hs
 simp only [Cir.enc] at hs
 have hval:=fun (d:Bool) (H:a05) (n v:Nat) (hn:nets[n]? = some v) (hb:a02 H 0 = some (.row 1 (nets.map u8R)))=>c0m (d:=d) (H:=H) (b:=0) c nets hl hv n v hn hb
 have hNf:=a2h nets
 have n1:=a06 hNf
 have n2:=fun π=>a04 π hNf
 suffices hs:∃ r:AV × a05,(r = (b0r (a1p c.outs nets) (a3m c.nodes nets),[some (.row 1 (nets.map u8R))])) ∧ sem L.env Mf 66 [.agg [sl c.nc (c.nodes.map Nd.enc),sl c.mc (c.names.map a1r),.nilslice,sl c.oc (c.outs.map a0d),.slice 0 0 c.nodes.length (some c.nodes.length)]] [some (.row 1 (nets.map u8R))] = some r by
  obtain ⟨r,rfl,h3⟩:=hs
  exact h3
 (refine svE Tryz.f66 ?_;simp only [Tryz.f66,gS])
 generalize hNR:nets.map u8R = NR at hval hNf n1 n2
 (repeat first|simp only [ww]|(apply xa;simp +decide only [go_sem];rfl;kernel_rfl))
 refine a30 kp66_0 (fun n F H=>∃ i,n = c.outs.length - i ∧ i ≤ c.outs.length ∧ F = [(1,.ptr 1 0 0),(2,.ptr 2 0 0),(3,.ptr 3 0 0),(12,sl c.oc (c.outs.map a0d)),(13,.int .i64 c.outs.length),(14,.int .i64 i)] ∧ H = [some (.row 1 NR),some (.row 5 [[sl c.nc (c.nodes.map Nd.enc),sl c.mc (c.names.map a1r),.nilslice,sl c.oc (c.outs.map a0d),.slice 0 0 c.nodes.length (some c.nodes.length)]]),some (.row 2 [[.nilslice,.nilslice]]),some (.row 2 [[grV 4 ((a1p (c.outs.take i) nets).map u8R),.nilslice]])] ++ grH 1 ((a1p (c.outs.take i) nets).map u8R)) c.outs.length ?_ ?_
 ·refine ⟨_,_,?_,0,rfl,Nat.zero_le _,rfl,rfl⟩
  rw [List.take_zero,show a1p [] nets = [] from rfl]
  (simp +decide only [go_sem,a01,a00,a0f,a0g,List.map_nil,n1,n2]<;>rfl)<;>rfl
 ·rintro n F H ⟨i,rfl,hi,rfl,rfl⟩
  have hTl:((a1p (c.outs.take i) nets).map u8R).length = i:=by simp [a1p];omega
  have hTf:=a2h (a1p (c.outs.take i) nets)
  by_cases hlt:i < c.outs.length
  ·obtain ⟨o,ho⟩:∃ o,c.outs[i]? = some o:=⟨_,List.getElem?_eq_getElem hlt⟩
   have hon:=hc.outs o (List.mem_of_getElem? ho)
   obtain ⟨v,hnv⟩:∃ v,nets[o]? = some v:=⟨_,List.getElem?_eq_getElem (by omega)⟩
   have c1:(i:Int) < c.outs.length:=by omega
   have hwi:=wI1 (n:=i) (by omega)
   have hT2:(a1p (c.outs.take (i + 1)) nets).map u8R = (a1p (c.outs.take i) nets).map u8R ++ [[.int .u8 v]]:=by
    unfold a1p
    rw [a0z ho,List.map_append,List.map_append]
    simp only [List.map_cons,List.map_nil,List.getD,hnv,Option.getD_some]
    rfl
   have hvc:=fun (d:Bool) (H:a05) (hb:a02 H 0 = some (.row 1 NR))=>hval d H o v hnv hb
   generalize (a1p (c.outs.take i) nets).map u8R = T at hTl hTf hT2
   have h1':=a06 hTf
   have h2':=fun π=>a04 π hTf
   cases T with
   | nil=>
    have hvc:=fun (d:Bool) (x1 x2 x3:Option AObj)=>hvc d [some (.row 1 NR),x1,x2,x3] rfl
    (repeat first|simp only [ww]|(apply xa;simp +decide only [go_sem,c1,hlt,ho,hwi,hvc,a0f,a0g];rfl;kernel_rfl))
    refine a17 (c.outs.length - (i + 1)) (by omega) ⟨_,_,?_,i + 1,rfl,hlt,rfl,rfl⟩
    rw [hT2]
    (simp +decide only [go_sem,a01,a00,a07,a08,List.nil_append,List.length_nil,n1,n2]<;>rfl)<;>rfl
   | cons a r=>
    simp only [List.length_cons] at hTl
    have hrm:r.length + 1 + 1 ≤ 1000000000:=by omega
    simp only [List.flatMap_cons] at h1'
    simp only [List.map_cons,List.cons.injEq] at h2'
    have hvc:=fun (d:Bool) (x1 x2 x3 x4:Option AObj)=>hvc d [some (.row 1 NR),x1,x2,x3,x4] rfl
    (repeat first|simp only [ww]|(apply xa;simp +decide only [go_sem,c1,hlt,ho,hwi,hvc,a07,a08,hrm];rfl;kernel_rfl))
    refine a17 (c.outs.length - (i + 1)) (by omega) ⟨_,_,?_,i + 1,rfl,hlt,rfl,rfl⟩
    rw [hT2]
    (simp +decide only [go_sem,a01,a00,a07,a08,List.cons_append,h1',h2',n1,n2]<;>rfl)<;>rfl
  ·obtain rfl:i = c.outs.length:=by omega
   have c1:¬ (c.outs.length:Int) < c.outs.length:=by omega
   rw [List.take_length] at hTl hTf ⊢
   have hOl:0 < c.outs.length:=List.length_pos_iff.2 hO
   have hTc:a5d (a1p c.outs nets) = .islice ((a1p c.outs nets).map u8R) (some c.outs.length):=by
    have hol2:(a1p c.outs nets).length = c.outs.length:=by simp [a1p]
    cases ho:a1p c.outs nets with
    | nil=>rw [ho] at hol2;simp at hol2;omega
    | cons v q=>rw [ho] at hol2;simp only [List.length_cons] at hol2;rw [← hol2];rfl
   unfold b0r
   rw [hTc]
   generalize (a1p c.outs nets).map u8R = T at hTl hTf
   cases T with
   | nil=>simp at hTl;omega
   | cons a r=>
    have hal:r.length + 1 = c.outs.length:=by simpa using hTl
    have h1':=a06 hTf
    have h2':=fun π=>a04 π hTf
    have h3':=fun (m:Nat) (q:AV → Option AV)=>a0r m q hTf
    simp only [List.flatMap_cons] at h1'
    simp only [List.map_cons,List.cons.injEq] at h2'
    (repeat first|simp only [ww]|(apply xa;simp +decide only [go_sem,c1,hs,a07,a08];rfl;kernel_rfl))
    refine a30 kp66_2 (fun n F H=>∃ i,n = (kinds c.nodes 14).length - i ∧ i ≤ (kinds c.nodes 14).length ∧ F = [(1,.ptr 1 0 0),(2,.ptr 2 0 0),(3,.ptr 3 0 0),(29,sl r1 ((kinds c.nodes 14).map a0d)),(30,.int .i64 (kinds c.nodes 14).length),(31,.int .i64 i)] ∧ H = [some (.row 1 NR),some (.row 5 [[sl c.nc (c.nodes.map Nd.enc),sl c.mc (c.names.map a1r),.nilslice,sl c.oc (c.outs.map a0d),.slice 0 0 c.nodes.length (some c.nodes.length)]]),some (.row 2 [[.nilslice,.nilslice]]),some (.row 2 [[.slice 4 0 (r.length + 1) none,grV 5 (((a3m c.nodes nets).take i).map u8R)]]),some (.row 1 (a :: r))] ++ grH 1 (((a3m c.nodes nets).take i).map u8R)) (kinds c.nodes 14).length ?_ ?_
    ·refine ⟨_,_,?_,0,rfl,Nat.zero_le _,rfl,rfl⟩
     rw [List.take_zero]
     (simp +decide only [go_sem,a01,a00,a0f,a0g,List.map_nil,n1,n2,h1',h2']<;>rfl)<;>rfl
    ·rintro n F H ⟨i,rfl,hi,rfl,rfl⟩
     have hNl:(a3m c.nodes nets).length = (kinds c.nodes 14).length:=by simp [a3m]
     have hXl:(((a3m c.nodes nets).take i).map u8R).length = i:=by simp;omega
     have hXf:=a2h ((a3m c.nodes nets).take i)
     by_cases hlt:i < (kinds c.nodes 14).length
     ·obtain ⟨q,hq⟩:∃ q,(kinds c.nodes 14)[i]? = some q:=⟨_,List.getElem?_eq_getElem hlt⟩
      obtain ⟨hqn,hqk⟩:=a4a hq
      obtain ⟨x,hx⟩:∃ x,c.nodes[q]? = some x:=⟨_,List.getElem?_eq_getElem hqn⟩
      have hxk:x.kind = 14:=by rw [← a15 hx];exact hqk
      have hx1:x.ins.length = 1:=by
       have h1:=hc.lo x (List.mem_of_getElem? hx)
       have h2:=hc.hi x (List.mem_of_getElem? hx)
       rw [hxk] at h1 h2
       have e1:a1m 14 = 1:=rfl
       have e2:a1n 14 = 1:=rfl
       omega
      obtain ⟨m,hm⟩:∃ m,x.ins[0]? = some m:=⟨_,List.getElem?_eq_getElem (by omega)⟩
      have hmn:=hc.ins x (List.mem_of_getElem? hx) m (List.mem_of_getElem? hm)
      obtain ⟨v,hnv⟩:∃ v,nets[m]? = some v:=⟨_,List.getElem?_eq_getElem (by omega)⟩
      have hX2:((a3m c.nodes nets).take (i + 1)).map u8R = ((a3m c.nodes nets).take i).map u8R ++ [[.int .u8 (a4s v)]]:=by
       have:(a3m c.nodes nets)[i]? = some (a4s v):=by
        unfold a3m
        rw [List.getElem?_map,hq]
        simp only [Option.map_some,a1l hx,List.getD,hm,hnv,Option.getD_some]
       rw [a0z this,List.map_append];rfl
      have c1:(i:Int) < (kinds c.nodes 14).length:=by omega
      have hwi:=wI1 (n:=i) (by omega)
      have hc1:decide ((x.ins.length:Int) = 1) = true:=decide_eq_true (by omega)
      have h01:Ax.rowAt (x.ins.map a0d) 0 = some [AV.int .i64 m]:=by
       have:=rowAt_nat (x.ins.map a0d) 0
       rw [Int.natCast_zero] at this
       rw [this,List.getElem?_map,hm];rfl
      have hvc:=fun (d:Bool) (H:a05) (hb:a02 H 0 = some (.row 1 NR))=>hval d H m v hnv hb
      have hrd:=fun (d:Bool) (H:a05)=>a74 (d:=d) H v
      generalize a4s v = w at hX2 hrd
      generalize ((a3m c.nodes nets).take i).map u8R = X at hXl hXf hX2
      have g1':=a06 hXf
      have g2':=fun π=>a04 π hXf
      cases X with
      | nil=>
       have hvc:=fun (d:Bool) (x1 x2 x3 x4:Option AObj)=>hvc d [some (.row 1 NR),x1,x2,x3,x4] rfl
       (repeat first|simp only [ww]|(apply xa;simp +decide only [go_sem,c1,hlt,hq,hqn,hx,hc1,h01,hm,hwi,hvc,hrd,a0f,a0g];rfl;kernel_rfl))
       refine a17 ((kinds c.nodes 14).length - (i + 1)) (by omega) ⟨_,_,?_,i + 1,rfl,hlt,rfl,rfl⟩
       rw [hX2]
       (simp +decide only [go_sem,a01,a00,a07,a08,List.nil_append,List.length_nil,n1,n2,h1',h2']<;>rfl)<;>rfl
      | cons a2 r2=>
       simp only [List.length_cons] at hXl
       have hrm:r2.length + 1 + 1 ≤ 1000000000:=by omega
       simp only [List.flatMap_cons] at g1'
       simp only [List.map_cons,List.cons.injEq] at g2'
       have hvc:=fun (d:Bool) (x1 x2 x3 x4 x5:Option AObj)=>hvc d [some (.row 1 NR),x1,x2,x3,x4,x5] rfl
       (repeat first|simp only [ww]|(apply xa;simp +decide only [go_sem,c1,hlt,hq,hqn,hx,hc1,h01,hm,hwi,hvc,hrd,a07,a08,hrm];rfl;kernel_rfl))
       refine a17 ((kinds c.nodes 14).length - (i + 1)) (by omega) ⟨_,_,?_,i + 1,rfl,hlt,rfl,rfl⟩
       rw [hX2]
       (simp +decide only [go_sem,a01,a00,a07,a08,List.cons_append,g1',g2',n1,n2,h1',h2']<;>rfl)<;>rfl
     ·obtain rfl:i = (kinds c.nodes 14).length:=by omega
      have c1:¬ ((kinds c.nodes 14).length:Int) < (kinds c.nodes 14).length:=by omega
      have hcp:=fun (d:Bool) (x0 x1 x2 x3:Option AObj) (R:a05)=>a8y (d:=d) (H:=x0 :: x1 :: x2 :: x3 :: some (.row 1 (a :: r)) :: R) (b:=4) (n:=r.length + 1) hTf rfl
      rw [List.take_of_length_le (by omega)] at hXl hXf ⊢
      cases hX:a3m c.nodes nets with
      | nil=>
       have hcn:=fun (d:Bool) (H:a05)=>b44 (d:=d) H
       (repeat first|simp only [ww]|(apply xa;simp +decide only [go_sem,c1,hcp,hcn,List.map_nil,a0f,a0g];rfl;kernel_rfl))
       refine a2s (vs:=[.agg [.slice 4 0 (r.length + 1) (some (r.length + 1)),.nilslice]]) (r:=(_,_)) (by simp +decide only [go_sem]) ?_ rfl
       show a1v false 1 (.agg [.slice 4 0 (r.length + 1) (some (r.length + 1)),.nilslice]) _ = _
       have htk:List.take (r.length + 1) (a :: r) = a :: r:=List.take_length (l:=a :: r)
       rw [← hal]
       unfold a5d
       simp +decide only [go_sem,h3',n2,htk]<;>rfl
      | cons a2 r2=>
       rw [hX] at hXl hXf
       have hcp2:=fun (d:Bool) (x0 x1 x2 x3 x4:Option AObj)=>a8y (d:=d) (H:=[x0,x1,x2,x3,x4,some (.row 1 ((a2 :: r2).map u8R))]) (b:=5) (n:=r2.length + 1) hXf rfl
       have g3':=fun (m:Nat) (q:AV → Option AV)=>a0r m q hXf
       have hml:(r2.map u8R).length = r2.length:=List.length_map ..
       simp only [List.map_cons,u8R] at hcp2 g3' hXf ⊢
       (repeat first|simp only [ww]|(apply xa;simp +decide only [go_sem,c1,hcp,hcp2,a07,a08,hml];rfl;kernel_rfl))
       refine a2s (vs:=[.agg [.slice 4 0 (r.length + 1) (some (r.length + 1)),.slice 5 0 (r2.length + 1) (some (r2.length + 1))]]) (r:=(_,_)) (by simp +decide only [go_sem]) ?_ rfl
       show a1v false 1 (.agg [.slice 4 0 (r.length + 1) (some (r.length + 1)),.slice 5 0 (r2.length + 1) (some (r2.length + 1))]) _ = _
       have htk:List.take (r.length + 1) (a :: r) = a :: r:=List.take_length (l:=a :: r)
       have htk2:List.take (r2.length + 1) ([AV.int .u8 a2] :: r2.map u8R) = [AV.int .u8 a2] :: r2.map u8R:=List.take_of_length_le (by simp)
       rw [← hal]
       unfold a5d
       simp only [List.map_cons,u8R]
       simp +decide only [go_sem,h3',g3',n2,htk,htk2]<;>rfl
set_option maxHeartbeats 200000000
open Go.Proofs Go.Ax Go.Pc
set_option maxRecDepth 100000
theorem c47 {d:Bool} {H:a05} {b:Nat} (c:Cir) (hc:c.wf) (p:Pat) (hp:PatOk c.nodes p) (N0:List Nat) (hN:N0.length = c.nodes.length) (hb:a02 H b = some (.row 1 (N0.map u8R))) :
 a0c L.env d (sem L.env Mf) (.func (.func 63) [] []) [.agg [sl c.nc (c.nodes.map Nd.enc),sl c.mc (c.names.map a1r),.nilslice,sl c.oc (c.outs.map a0d),.slice b 0 c.nodes.length (some c.nodes.length)],.agg [sl p.ic (p.ins.map u8R),sl p.sc (p.sts.map u8R)]] H = some (.tuple [],H.set b (some (.row 1 ((a1i (a1i N0 (kinds c.nodes 0) p.ins) (kinds c.nodes 14) p.sts).map u8R))),[b]):=
 a7b (fs:=[]) (cs:=[]) (ar:=[.agg [sl c.nc (c.nodes.map Nd.enc),sl c.mc (c.names.map a1r),.nilslice,sl c.oc (c.outs.map a0d),.slice b 0 c.nodes.length (some c.nodes.length)],.agg [sl p.ic (p.ins.map u8R),sl p.sc (p.sts.map u8R)]]) (by kernel_rfl) (by kernel_rfl) rfl hb (a0u (a2h N0)) (FlatO.row (a2h N0)) (by simp only [List.nil_append,List.append_nil,go_sem]) (args':=[.agg [sl c.nc (c.nodes.map Nd.enc),sl c.mc (c.names.map a1r),.nilslice,sl c.oc (c.outs.map a0d),.slice 0 0 c.nodes.length (some c.nodes.length)],.agg [sl p.ic (p.ins.map u8R),sl p.sc (p.sts.map u8R)]]) (by simp only [List.nil_append,List.append_nil,List.map_cons,List.map_nil,c0x,a29,b2q,a87]) (d1r c hc p hp N0 hN) (FlatO.row (a2h _)) rfl
theorem c6n {d:Bool} {H:a05} {b:Nat} (c:Cir) (hc:c.wf) (hO:c.outs ≠ []) (nets:List Nat) (hl:nets.length = c.nodes.length) (hv:∀ v ∈ nets,v ≤ 3) (hb:a02 H b = some (.row 1 (nets.map u8R))) :
 a0c L.env d (sem L.env Mf) (.func (.func 66) [] []) [.agg [sl c.nc (c.nodes.map Nd.enc),sl c.mc (c.names.map a1r),.nilslice,sl c.oc (c.outs.map a0d),.slice b 0 c.nodes.length (some c.nodes.length)]] H = some (b0r (a1p c.outs nets) (a3m c.nodes nets),H,[b]):=
 a2d (fs:=[]) (cs:=[]) (ar:=[.agg [sl c.nc (c.nodes.map Nd.enc),sl c.mc (c.names.map a1r),.nilslice,sl c.oc (c.outs.map a0d),.slice b 0 c.nodes.length (some c.nodes.length)]]) (by kernel_rfl) (by kernel_rfl) rfl hb (a0u (a2h nets)) (FlatO.row (a2h nets)) (by simp only [List.nil_append,List.append_nil,go_sem]) (args':=[.agg [sl c.nc (c.nodes.map Nd.enc),sl c.mc (c.names.map a1r),.nilslice,sl c.oc (c.outs.map a0d),.slice 0 0 c.nodes.length (some c.nodes.length)]]) (by simp only [List.nil_append,List.append_nil,List.map_cons,List.map_nil,c0x,a29,b2q,a87]) (d72 c hc hO nets hl hv) (a6z _ _)
theorem b8z {d:Bool} {H:a05} {b:Nat} (k:Nat) (hk:k < 16) (l:List Nat) (hl:l.length < 1000000) (cp:Option Nat) (X:List (List AV)) (hX:FlatR X) (hXl:X.take l.length = l.map u8R) (hb:a02 H b = some (.row 1 X)) {m:Nat} (hm:m = l.length) :
 a0c L.env d (sem L.env Mf) (.func (.func 65) [] []) [.int .u8 k,.slice b 0 m cp] H = some (.int .u8 (a4f k l:Nat),H,[b]):=by
 subst hm
 have hs:X = l.map u8R ++ X.drop l.length:=by rw [← hXl,List.take_append_drop]
 have hr:=b74 k hk l (.slice 0 0 l.length cp) [some (.row 1 (l.map u8R ++ X.drop l.length))] (.blk cp _ (by rw [← hs];exact hX)) hl
 rw [← hs] at hr
 exact a2d (fs:=[]) (cs:=[]) (ar:=[.int .u8 k,.slice b 0 l.length cp]) (by kernel_rfl) (by kernel_rfl) rfl hb (a0u hX) (FlatO.row hX) (by simp only [List.nil_append,List.append_nil,go_sem]) (args':=[.int .u8 k,.slice 0 0 l.length cp]) (by simp only [List.nil_append,List.append_nil,List.map_cons,List.map_nil,a29,c77]) hr rfl
theorem c49 {d:Bool} (H:a05) (c:Cir) (h:c.wf) (p:Pat) (hp:PatOk c.nodes p):a0c L.env d (sem L.env Mf) (.func (.func 62) [] []) [.agg c.enc,.agg p.enc] H = some (.int .i64 0,H,[]):=
 a03 (by kernel_rfl) (by kernel_rfl) rfl (by simp only [a09,a0y,Cir.enc,Pat.enc,go_sem]) (c9h c h p hp) rfl
theorem a2a (l:List Nat):(a5d l).storable = true:=by cases l<;>rfl
def a4h (c:Cir) (ord:List Nat) (p:Pat):List Nat:=b1x nAlg c.nodes hk0 ord (kinds c.nodes 0) (kinds c.nodes 14) p.ins p.sts
theorem f4f {X:List (List AV)} {j n:Nat} {x:List AV} (hl:X.length = n) (hj:j < n):(X.take j ++ [x] ++ X.drop (j + 1)).length = n ∧ (X.take j ++ [x] ++ X.drop (j + 1)).take (j + 1) = X.take j ++ [x]:=by
 refine ⟨by simp;omega,?_⟩
 rw [List.take_append_of_le_length (by simp;omega),List.take_of_length_le (by simp;omega)]
theorem c8w {X:List (List AV)} {j:Nat} {x:List AV} (hX:FlatR X) (hx:a0e x = []):FlatR (X.take j ++ [x] ++ X.drop (j + 1)):=by
 intro r hr
 simp only [List.mem_append,List.mem_singleton] at hr
 rcases hr with (hr|rfl)|hr
 ·exact hX r (List.mem_of_mem_take hr)
 ·exact hx
 ·exact hX r (List.mem_of_mem_drop hr)
theorem b73:∀ (is vs N:List Nat),(∀ v ∈ N,v ≤ 3) → (∀ v ∈ vs,v ≤ 3) → ∀ v ∈ a1i N is vs,v ≤ 3
 | [],vs,N,h,_=>by cases vs<;>exact h
 | _ :: _,[],N,h,_=>h
 | i :: is,w :: vs,N,h,hv=>by
  simp only [a1i]
  refine b73 is vs _ (fun v hm=>?_) (fun v hm=>hv v (List.mem_cons_of_mem _ hm))
  rcases List.mem_or_eq_of_mem_set hm with h1|h1
  ·exact h v h1
  ·rw [h1];exact hv w (List.mem_cons_self ..)
theorem d7r {nodes:List Nd} {N:List Nat} {n:Nat} (h:∀ v ∈ N,v ≤ 3):∀ v ∈ a0p nAlg nodes hk0 N n,v ≤ 3:=by
 have key:∀ (l:List Nat) (p:Nat),∀ v ∈ a33 nAlg hk0 n N p l,v ≤ 3:=by
  intro l
  induction l with
  | nil=>intro p v hv;simp [a33] at hv
  | cons m l ih=>
   intro p v hv
   simp only [a33,List.mem_cons] at hv
   rcases hv with rfl|hv
   ·show N.getD m 0 ≤ 3
    rw [List.getD]
    cases hm:N[m]? with
    | none=>decide
    | some w=>exact h w (List.mem_of_getElem? hm)
   ·exact ih _ v hv
 exact key _ _
theorem d71 (c:Cir) (hc:c.wf) (hO:c.outs ≠ []) (p:Pat) (hp:PatOk c.nodes p) (ord:List Nat) (hord:OrdOf c ord):sem L.env Mf 43 [.agg c.enc,.agg p.enc] [] = some (.tuple [b0r (a1p c.outs (a4h c ord p)) (a3m c.nodes (a4h c ord p)),.islice ((a4h c ord p).map u8R) (some c.nodes.length),.int .i64 0],[]):=by
 have hnl:=hc.len
 have hrm:c.nodes.length ≤ 1000000000:=by omega
 have ho:=hord.call
 have hor:∀ n ∈ ord,n < c.nodes.length:=fun n hn=>by have:=hord.perm.mem_iff.1 hn;simpa using this
 have hol:ord.length = c.nodes.length:=by rw [hord.perm.length_eq];simp
 have hft:=fun (d:Bool) H=>c49 (d:=d) H c hc p hp
 have hce:c.enc = [sl c.nc (c.nodes.map Nd.enc),sl c.mc (c.names.map a1r),.nilslice,sl c.oc (c.outs.map a0d)]:=rfl
 have hpe:Pat.enc p = [sl p.ic (p.ins.map u8R),sl p.sc (p.sts.map u8R)]:=rfl
 rw [hce,hpe] at hft
 rw [hce] at ho
 rw [hce,hpe]
 have hld:=fun (d:Bool) (x0 x1 x2 x4:Option AObj)=>c47 (d:=d) (H:=[x0,x1,x2,some (.row 1 ((List.replicate c.nodes.length 0).map u8R)),x4]) (b:=3) c hc p hp (List.replicate c.nodes.length 0) (by simp) rfl
 have hob:=fun (d:Bool) (x0 x1 x3:Option AObj) (N:List Nat) (hl:N.length = c.nodes.length) (hv:∀ v ∈ N,v ≤ 3)=>c6n (d:=d) (H:=[x0,x1,some (.row 1 (N.map u8R)),x3]) (b:=2) c hc hO N hl hv rfl
 have hN1l:(a1i (a1i (List.replicate c.nodes.length 0) (kinds c.nodes 0) p.ins) (kinds c.nodes 14) p.sts).length = c.nodes.length:=by rw [a2c,a2c];simp
 have hN1v:∀ v ∈ a1i (a1i (List.replicate c.nodes.length 0) (kinds c.nodes 0) p.ins) (kinds c.nodes 14) p.sts,v ≤ 3:=b73 _ _ _ (b73 _ _ _ (fun v hv=>by rw [List.eq_of_mem_replicate hv];omega) hp.inv) hp.stv
 have hG:a4h c ord p = ord.foldl (Pc.stepG nAlg c.nodes hk0) (a1i (a1i (List.replicate c.nodes.length 0) (kinds c.nodes 0) p.ins) (kinds c.nodes 14) p.sts):=rfl
 rw [hG]
 have hrp:(List.replicate c.nodes.length 0).map u8R = List.replicate c.nodes.length [AV.int .u8 0]:=by rw [List.map_replicate];rfl
 rw [hrp] at hld
 generalize a1i (a1i (List.replicate c.nodes.length 0) (kinds c.nodes 0) p.ins) (kinds c.nodes 14) p.sts = N1 at hld hN1l hN1v ⊢
 suffices hs:∃ r:AV × a05,(r = (.tuple [b0r (a1p c.outs (ord.foldl (Pc.stepG nAlg c.nodes hk0) N1)) (a3m c.nodes (ord.foldl (Pc.stepG nAlg c.nodes hk0) N1)),.islice ((ord.foldl (Pc.stepG nAlg c.nodes hk0) N1).map u8R) (some c.nodes.length),.int .i64 0],[])) ∧ sem L.env Mf 43 [.agg [sl c.nc (c.nodes.map Nd.enc),sl c.mc (c.names.map a1r),.nilslice,sl c.oc (c.outs.map a0d)],.agg [sl p.ic (p.ins.map u8R),sl p.sc (p.sts.map u8R)]] [] = some r by
  obtain ⟨r,rfl,h3⟩:=hs
  exact h3
 (refine svE Tryz.f43 ?_;simp only [Tryz.f43,gS])
 (repeat first|simp only [ww]|(apply xa;simp +decide only [go_sem,ho,hft,hrm,hld];rfl;kernel_rfl))
 refine a30 kp43_0 (fun n F H=>∃ (i q:Nat) (X:List (List AV)),n = ord.length - i ∧ i ≤ ord.length ∧ q ≤ 16 ∧ X.length = 16 ∧ FlatR X ∧ (∀ v ∈ (ord.take i).foldl (Pc.stepG nAlg c.nodes hk0) N1,v ≤ 3) ∧ F = [(4,.ptr 0 0 0),(9,.ptr 1 0 0),(10,.slice 3 0 q (some 16)),(40,.islice (ord.map a0d) (some c.nodes.length)),(41,.int .i64 ord.length),(42,.int .i64 i)] ∧ H = [some (.row 2 [[.nilslice,.nilslice]]),some (.row 5 [[sl c.nc (c.nodes.map Nd.enc),sl c.mc (c.names.map a1r),.nilslice,sl c.oc (c.outs.map a0d),.slice 2 0 c.nodes.length (some c.nodes.length)]]),some (.row 1 (((ord.take i).foldl (Pc.stepG nAlg c.nodes hk0) N1).map u8R)),some (.row 1 X)]) ord.length ?_ ?_
 ·refine ⟨_,_,?_,0,0,List.replicate 16 [.int .u8 0],rfl,Nat.zero_le _,by omega,rfl,fun r hr=>by rw [List.eq_of_mem_replicate hr];rfl,by rw [List.take_zero];exact hN1v,rfl,rfl⟩
  rw [List.take_zero,List.foldl_nil]
  (simp +decide only [go_sem,a01,a00,a2w,a2k]<;>rfl)<;>rfl
 ·rintro n F H ⟨i,q,X,rfl,hi,hq,hXl,hXf,hNv,rfl,rfl⟩
  have hll:=a8w (A:=nAlg) (nodes:=c.nodes) (h:=hk0) (ord.take i) N1
  rw [hN1l] at hll
  have x1:=a06 hXf
  have x2:=fun π=>a04 π hXf
  by_cases hlt:i < ord.length
  ·obtain ⟨n,hn⟩:∃ n,ord[i]? = some n:=⟨_,List.getElem?_eq_getElem hlt⟩
   have hnn:=hor n (List.mem_of_getElem? hn)
   obtain ⟨x,hx⟩:∃ x,c.nodes[n]? = some x:=⟨_,List.getElem?_eq_getElem hnn⟩
   have hxm:=List.mem_of_getElem? hx
   have k14:=hc.kind x hxm
   have hil:=hc.insl hxm
   have hka:=a15 hx
   have hs:=b3q (A:=nAlg) (nodes:=c.nodes) (h:=hk0) (nets:=N1) hn
   have c1:(i:Int) < ord.length:=by omega
   have hwi:=wI1 (n:=i) (by omega)
   have hcb:=fun (d:Bool) H=>b43 (d:=d) H x.kind (by omega)
   have hxe:x.enc = [.int .u8 x.kind,sl x.c (x.ins.map a0d),.int .i64 x.mem,.int .i64 x.bit]:=rfl
   generalize (ord.take i).foldl (Pc.stepG nAlg c.nodes hk0) N1 = N at hs hll hNv
   obtain ⟨w0,hw0⟩:∃ w,N[n]? = some w:=⟨_,List.getElem?_eq_getElem (by omega)⟩
   by_cases hcm:a1s x.kind = true
   ·have hne:a0q c.nodes n ≠ 0 ∧ a0q c.nodes n ≠ 14:=by
     rw [hka];constructor<;>(intro e;rw [e] at hcm;exact absurd hcm (by decide))
    have hkk:x.kind < 16:=by omega
    have hRd:a22 c.nodes n = x.ins:=a1l hx
    have hRl:(a0p nAlg c.nodes hk0 N n).length = x.ins.length:=by rw [a3t,hRd]
    have hRv:=d7r (nodes:=c.nodes) (n:=n) hNv
    (repeat first|simp only [ww]|(apply xa;simp +decide only [go_sem,c1,hlt,hn,hx,hnn,hcb,hcm];rfl;kernel_rfl))
    refine a30 kp43_2 (fun m F H=>∃ (j:Nat) (Y:List (List AV)),m = x.ins.length - j ∧ j ≤ x.ins.length ∧ Y.length = 16 ∧ FlatR Y ∧ Y.take j = ((a0p nAlg c.nodes hk0 N n).take j).map u8R ∧ F = [(4,.ptr 0 0 0),(9,.ptr 1 0 0),(10,.slice 3 0 j (some 16)),(12,.int .i64 n),(13,.ptr 4 0 0),(40,.islice (ord.map a0d) (some c.nodes.length)),(41,.int .i64 ord.length),(42,.int .i64 i),(59,sl x.c (x.ins.map a0d)),(60,.int .i64 x.ins.length),(61,.int .i64 j)] ∧ H = [some (.row 2 [[.nilslice,.nilslice]]),some (.row 5 [[sl c.nc (c.nodes.map Nd.enc),sl c.mc (c.names.map a1r),.nilslice,sl c.oc (c.outs.map a0d),.slice 2 0 c.nodes.length (some c.nodes.length)]]),some (.row 1 (N.map u8R)),some (.row 1 Y),some (.row 4 [[.int .u8 x.kind,sl x.c (x.ins.map a0d),.int .i64 x.mem,.int .i64 x.bit]])]) x.ins.length ?_ ?_
    ·refine ⟨_,_,?_,0,X,rfl,Nat.zero_le _,hXl,hXf,rfl,rfl,rfl⟩
     (simp +decide only [go_sem,a01,a00,a2w,a2k,x1,x2]<;>rfl)<;>rfl
    ·rintro m F H ⟨j,Y,rfl,hj,hYl,hYf,hYt,rfl,rfl⟩
     have y1:=a06 hYf
     have y2:=fun π=>a04 π hYf
     by_cases hjl:j < x.ins.length
     ·obtain ⟨u,hu⟩:∃ u,x.ins[j]? = some u:=⟨_,List.getElem?_eq_getElem hjl⟩
      have hun:=hc.ins x hxm u (List.mem_of_getElem? hu)
      obtain ⟨v,hv⟩:∃ v,N[u]? = some v:=⟨_,List.getElem?_eq_getElem (by omega)⟩
      have d1:(j:Int) < x.ins.length:=by omega
      have hwj:=wI1 (n:=j) (by omega)
      have hrs:=b10 (A:=nAlg) (h:=hk0) (nodes:=c.nodes) (nets:=N) (n:=n) (i:=j) (by rw [hRd];exact hu) hv
      obtain ⟨z1,z2⟩:=f4f (x:=[AV.int .u8 v]) hYl (show j < 16 by omega)
      have z3:=c8w (j:=j) (x:=[AV.int .u8 v]) hYf rfl
      generalize hZ:Y.take j ++ [[AV.int .u8 v]] ++ Y.drop (j + 1) = Z at z1 z2 z3
      rw [hYt] at z2
      have w1:=a06 z3
      have w2:=fun π=>a04 π z3
      have hj16:j ≤ 16:=by omega
      have hj17:j + 1 ≤ 16:=by omega
      (repeat first|simp only [ww]|(apply xa;simp +decide only [go_sem,d1,hjl,hu,hun,hv,hll,hwj,hYl,hj16,hj17,hZ,Nat.zero_add];rfl;kernel_rfl))
      refine a17 (x.ins.length - (j + 1)) (by omega) ⟨_,_,?_,j + 1,Z,rfl,hjl,z1,z3,?_,rfl,rfl⟩
      ·(simp +decide only [go_sem,a01,a00,a2w,a2k,w1,w2,hZ]<;>rfl)<;>rfl
      ·rw [z2,hrs,List.map_append];rfl
     ·obtain rfl:j = x.ins.length:=by omega
      have d1:¬ (x.ins.length:Int) < x.ins.length:=by omega
      have hev:=fun (d:Bool) (x0 x1 x2 x4:Option AObj)=>b8z (d:=d) (H:=[x0,x1,x2,some (.row 1 Y),x4]) (b:=3) x.kind hkk (a0p nAlg c.nodes hk0 N n) (by omega) (some 16) Y hYf (by rw [hRl,hYt,List.take_of_length_le (by omega)]) rfl (m:=x.ins.length) hRl.symm
      have hstep:Pc.stepG nAlg c.nodes hk0 N n = N.set n (a4f x.kind (a0p nAlg c.nodes hk0 N n)):=by
       unfold Pc.stepG
       rw [if_pos hne,hka]
       show N.set n (a4f x.kind ((a0p nAlg c.nodes hk0 N n).map a26)) = _
       rw [b35 hRv]
      have hle:=c2q x.kind _ hRv
      rw [hstep] at hs
      generalize a4f x.kind (a0p nAlg c.nodes hk0 N n) = w at hev hs hle
      have hsR:(N.map u8R).set n [AV.int .u8 w] = (N.set n w).map u8R:=by rw [List.map_set];rfl
      (repeat first|simp only [ww]|(apply xa;simp +decide only [go_sem,d1,hev,hnn,hll,hw0,hsR,hwi];rfl;kernel_rfl))
      refine a17 (ord.length - (i + 1)) (by omega) ⟨_,_,?_,i + 1,x.ins.length,Y,rfl,hlt,by omega,hYl,hYf,?_,rfl,rfl⟩
      ·rw [hs]
       (simp +decide only [go_sem,a01,a00,a2w,a2k,y1,y2]<;>rfl)<;>rfl
      ·rw [hs]
       intro v hv
       rcases List.mem_or_eq_of_mem_set hv with h1|h1
       ·exact hNv v h1
       ·rw [h1];exact hle
   ·have hcm:a1s x.kind = false:=by simpa using hcm
    have hstep:Pc.stepG nAlg c.nodes hk0 N n = N:=by
     have hne:¬ (a0q c.nodes n ≠ 0 ∧ a0q c.nodes n ≠ 14):=by
      rw [hka];intro hh;simp [a1s] at hcm;omega
     unfold Pc.stepG
     rw [if_neg hne]
     show N.set n (N.getD n 0) = N
     rw [List.getD,hw0,Option.getD_some]
     have:=(List.getElem?_eq_some_iff.1 hw0)
     rw [← this.2];exact List.set_getElem_self this.1
    rw [hstep] at hs
    (repeat first|simp only [ww]|(apply xa;simp +decide only [go_sem,c1,hlt,hn,hx,hnn,hcb,hcm,hwi];rfl;kernel_rfl))
    refine a17 (ord.length - (i + 1)) (by omega) ⟨_,_,?_,i + 1,q,X,rfl,hlt,hq,hXl,hXf,by rw [hs];exact hNv,rfl,rfl⟩
    rw [hs]
    (simp +decide only [go_sem,a01,a00,a2w,a2k,x1,x2]<;>rfl)<;>rfl
  ·obtain rfl:i = ord.length:=by omega
   have c1:¬ (ord.length:Int) < ord.length:=by omega
   rw [List.take_length] at hll hNv ⊢
   generalize ord.foldl (Pc.stepG nAlg c.nodes hk0) N1 = N at hll hNv ⊢
   have hob:=fun (d:Bool) (x0 x1 x3:Option AObj)=>hob d x0 x1 x3 N hll hNv
   unfold b0r at hob ⊢
   have q1:=a2l (a1p c.outs N)
   have hst1:=a2a (a1p c.outs N)
   have hst2:=a2a (a3m c.nodes N)
   have q2:=a2l (a3m c.nodes N)
   generalize a5d (a1p c.outs N) = V1 at hob q1 hst1 ⊢
   generalize a5d (a3m c.nodes N) = V2 at hob q2 hst2 ⊢
   have s1:V1.storable = true:=hst1
   have s2:V2.storable = true:=hst2
   have hNf:=a2h N
   have r1:∀ π,ren π V1 = V1:=fun π=>a1a π _ q1
   have r2:∀ π,ren π V2 = V2:=fun π=>a1a π _ q2
   have f1:=fun m t d=>a63 m t d V1 q1
   have f2:=fun m t d=>a63 m t d V2 q2
   have f3:=fun m d=>a0r m d hNf
   have htk:(N.map u8R).take c.nodes.length = N.map u8R:=List.take_of_length_le (by simp;omega)
   (repeat first|simp only [ww]|(apply xa;simp +decide only [go_sem,c1,hob,s1,s2];rfl;kernel_rfl))
   refine a2s (vs:=[.agg [V1,V2],.slice 2 0 c.nodes.length (some c.nodes.length),.int .i64 0]) (r:=(_,_)) (by simp +decide only [go_sem]) ?_ rfl
   show a1v false 0 (.tuple [.agg [V1,V2],.slice 2 0 c.nodes.length (some c.nodes.length),.int .i64 0]) _ = _
   simp +decide only [go_sem,f1,f2,f3,htk,hll]<;>rfl
end Go.MInst
