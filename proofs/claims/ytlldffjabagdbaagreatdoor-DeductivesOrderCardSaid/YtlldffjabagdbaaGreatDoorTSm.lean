/- Part of a proof. No condition. -/
import Derived.Test.YtlldffjabagdbaaGreatDoorTLg
import Derived.Test.YtlldffjabagdbaaGreatDoorTPa
import Derived.Test.YtlldffjabagdbaaGreatDoorPcB
set_option linter.unusedSimpArgs false
set_option linter.unusedVariables false
namespace Go.TInst
set_option maxHeartbeats 200000000
open Go.Proofs Go.Ax Go.Pc
set_option maxRecDepth 100000
theorem a8b (π:Nat → Option Nat) (l:List Nat):(l.map u8R).map (fun r=>r.map (ren π)) = l.map u8R:=a0m π (a2q l)
theorem a7g (l:List Nat):(l.map u8R).flatMap a0j = []:=a0n (a2q l)
theorem d1n (c:Cir) (hc:c.wf) (p:Pat) (hp:PatOk c.nodes p) (N0:List Nat) (hN:N0.length = c.nodes.length) :
 sem L.env Mf 23 [.agg [sl c.nc (c.nodes.map Nd.enc),sl c.mc (c.names.map a1n),.nilslice,sl c.oc (c.outs.map a0k),.slice 0 0 c.nodes.length (some c.nodes.length)],.agg p.enc] [some (.row 1 (N0.map u8R))] = some (.tuple [],[some (.row 1 ((a2p (a2p N0 (kinds c.nodes 0) p.ins) (kinds c.nodes 14) p.sts).map u8R))]):=by
 have hnl:=hc.len
 obtain ⟨r0,e3⟩:=a8l (kinds c.nodes 0)
 obtain ⟨r1,e4⟩:=a8l (kinds c.nodes 14)
 have hk0:=a6f c.nodes 0
 have hk14:=a6f c.nodes 14
 have hi:=fun (d:Bool) H=>b4j (d:=d) H c (by omega)
 have hs:=fun (d:Bool) H=>a7d (d:=d) H c (by omega)
 have hvi:=hp.ins
 have hvs:=hp.sts
 rw [e3] at hi
 rw [e4] at hs
 have hpe:Pat.enc p = [sl p.ic (p.ins.map u8R),sl p.sc (p.sts.map u8R)]:=rfl
 rw [hpe]
 simp only [Cir.enc] at hi hs
 suffices hs:∃ r:AV × a03,(r = (.tuple [],[some (.row 1 ((a2p (a2p N0 (kinds c.nodes 0) p.ins) (kinds c.nodes 14) p.sts).map u8R))])) ∧ sem L.env Mf 23 [.agg [sl c.nc (c.nodes.map Nd.enc),sl c.mc (c.names.map a1n),.nilslice,sl c.oc (c.outs.map a0k),.slice 0 0 c.nodes.length (some c.nodes.length)],.agg [sl p.ic (p.ins.map u8R),sl p.sc (p.sts.map u8R)]] [some (.row 1 (N0.map u8R))] = some r by
  obtain ⟨r,rfl,h3⟩:=hs
  exact h3
 (refine svE Tryz.f23 ?_;simp only [Tryz.f23,gS])
 (repeat first|simp only [ww]|(apply xa;simp +decide only [go_sem,hi];rfl;kernel_rfl))
 refine a0x (σ:=Nat) kp23_0 (fun i=>[(2,.ptr 1 0 0),(3,.ptr 2 0 0),(10,sl r0 ((kinds c.nodes 0).map a0k)),(11,.int .i64 (kinds c.nodes 0).length),(12,.int .i64 i)])
  (fun i=>[some (.row 1 ((a2p N0 ((kinds c.nodes 0).take i) (p.ins.take i)).map u8R)),some (.row 5 [[sl c.nc (c.nodes.map Nd.enc),sl c.mc (c.names.map a1n),.nilslice,sl c.oc (c.outs.map a0k),.slice 0 0 c.nodes.length (some c.nodes.length)]]),some (.row 2 [[sl p.ic (p.ins.map u8R),sl p.sc (p.sts.map u8R)]])]) (fun i=>(kinds c.nodes 0).length - i) (fun i=>i ≤ (kinds c.nodes 0).length) 0 ?_ (Nat.zero_le _) ?_
 ·rw [List.take_zero,List.take_zero,show a2p N0 [] [] = N0 from rfl]
  (simp +decide only [go_sem,a02,a00,a8b,a7g]<;>rfl)<;>rfl
 ·intro i hi
  have hll:=a60 ((kinds c.nodes 0).take i) (p.ins.take i) N0
  rw [hN] at hll
  by_cases hlt:i < (kinds c.nodes 0).length
  ·obtain ⟨n,hn⟩:∃ n,(kinds c.nodes 0)[i]? = some n:=⟨_,z9e hlt⟩
   obtain ⟨w,hw⟩:∃ w,p.ins[i]? = some w:=⟨_,z9e (by omega)⟩
   have hnn:=(b4f hn).1
   have hst:=b6c (nets:=N0) hn hw
   have c1:(i:Int) < (kinds c.nodes 0).length:=by omega
   have hwi:=wI1 (n:=i) (by omega)
   have hiv:i < p.ins.length:=by omega
   generalize a2p N0 ((kinds c.nodes 0).take i) (p.ins.take i) = N at hst hll
   obtain ⟨w0,hw0⟩:∃ w,N[n]? = some w:=⟨_,z9e (by omega)⟩
   have hsR:(N.map u8R).set n [AV.int .u8 w] = (N.set n w).map u8R:=by rw [List.map_set];rfl
   (repeat first|simp only [ww]|(apply xa;simp +decide only [go_sem,c1,hlt,hn,hw,hnn,hwi,hiv,hll,hw0,hsR];rfl;kernel_rfl))
   refine a1y (i + 1) ?_ (by omega) (by omega)
   rw [hst]
   (simp +decide only [go_sem,a02,a00,a8b,a7g]<;>rfl)<;>rfl
  have hie:i = (kinds c.nodes 0).length:=by omega
  subst hie
  have c1:¬ ((kinds c.nodes 0).length:Int) < (kinds c.nodes 0).length:=by omega
  rw [List.take_length,List.take_of_length_le (by omega)] at hll ⊢
  generalize a2p N0 (kinds c.nodes 0) p.ins = N1 at hll ⊢
  (repeat first|simp only [ww]|(apply xa;simp +decide only [go_sem,c1,hs];rfl;kernel_rfl))
  refine a0x (σ:=Nat) kp23_2 (fun i=>[(2,.ptr 1 0 0),(3,.ptr 2 0 0),(29,sl r1 ((kinds c.nodes 14).map a0k)),(30,.int .i64 (kinds c.nodes 14).length),(31,.int .i64 i)])
   (fun i=>[some (.row 1 ((a2p N1 ((kinds c.nodes 14).take i) (p.sts.take i)).map u8R)),some (.row 5 [[sl c.nc (c.nodes.map Nd.enc),sl c.mc (c.names.map a1n),.nilslice,sl c.oc (c.outs.map a0k),.slice 0 0 c.nodes.length (some c.nodes.length)]]),some (.row 2 [[sl p.ic (p.ins.map u8R),sl p.sc (p.sts.map u8R)]])]) (fun i=>(kinds c.nodes 14).length - i) (fun i=>i ≤ (kinds c.nodes 14).length) 0 ?_ (Nat.zero_le _) ?_
  ·rw [List.take_zero,List.take_zero,show a2p N1 [] [] = N1 from rfl]
   (simp +decide only [go_sem,a02,a00,a8b,a7g]<;>rfl)<;>rfl
  ·intro i hi
   have hll2:=a60 ((kinds c.nodes 14).take i) (p.sts.take i) N1
   rw [hll] at hll2
   by_cases hlt:i < (kinds c.nodes 14).length
   ·obtain ⟨n,hn⟩:∃ n,(kinds c.nodes 14)[i]? = some n:=⟨_,z9e hlt⟩
    obtain ⟨w,hw⟩:∃ w,p.sts[i]? = some w:=⟨_,z9e (by omega)⟩
    have hnn:=(b4f hn).1
    have hst:=b6c (nets:=N1) hn hw
    have c1:(i:Int) < (kinds c.nodes 14).length:=by omega
    have hwi:=wI1 (n:=i) (by omega)
    have hiv:i < p.sts.length:=by omega
    generalize a2p N1 ((kinds c.nodes 14).take i) (p.sts.take i) = N at hst hll2
    obtain ⟨w0,hw0⟩:∃ w,N[n]? = some w:=⟨_,z9e (by omega)⟩
    have hsR:(N.map u8R).set n [AV.int .u8 w] = (N.set n w).map u8R:=by rw [List.map_set];rfl
    (repeat first|simp only [ww]|(apply xa;simp +decide only [go_sem,c1,hlt,hn,hw,hnn,hwi,hiv,hll2,hw0,hsR];rfl;kernel_rfl))
    refine a1y (i + 1) ?_ (by omega) (by omega)
    rw [hst]
    (simp +decide only [go_sem,a02,a00,a8b,a7g]<;>rfl)<;>rfl
   have hie:i = (kinds c.nodes 14).length:=by omega
   subst hie
   have c1:¬ ((kinds c.nodes 14).length:Int) < (kinds c.nodes 14).length:=by omega
   rw [List.take_length,List.take_of_length_le (by omega)]
   (repeat first|simp only [ww]|(apply xa;simp +decide only [go_sem,c1];rfl;kernel_rfl))
   refine c0k (vs:=[]) (r:=(_,[_])) (by simp +decide only [go_sem]) ?_ rfl
   simp +decide only [go_sem,a8b]<;>rfl
def b53:List Nat → AV
 | []=>.nilslice
 | v :: r=>.islice ((v :: r).map u8R) (some (r.length + 1))
theorem a92 (l:List Nat):refs (b53 l) = []:=by cases l<;>rfl
def d1r (o x:List Nat):AV:=.agg [b53 o,b53 x]
theorem c7g (o x:List Nat):refs (d1r o x) = []:=by simp only [d1r,a1e,a0a,a92,a54,List.append_nil]
theorem c6y (c:Cir) (nets:List Nat) (hl:nets.length = c.nodes.length) (hv:∀ v ∈ nets,v ≤ 3) (n v:Nat) (hn:nets[n]? = some v):sem L.env Mf 64 [.agg [sl c.nc (c.nodes.map Nd.enc),sl c.mc (c.names.map a1n),.nilslice,sl c.oc (c.outs.map a0k),.slice 0 0 c.nodes.length (some c.nodes.length)],.int .i64 n] [some (.row 1 (nets.map u8R))] = some (.int .u8 v,[some (.row 1 (nets.map u8R))]):=by
 have hlt:=(List.getElem?_eq_some_iff.1 hn).1
 have h0:¬ (n:Int) < 0:=by omega
 have h1:¬ (c.nodes.length:Int) ≤ n:=by omega
 have h2:n < c.nodes.length:=by omega
 have hc:∀ (d:Bool) H,a0g L.env d (sem L.env Mf) (.func (.func 101) [] []) [.int .u8 v] H = some (.int .u8 v,H,[]):=fun d H=>by
  have:=a04 (E:=L.env) (draw:=d) (call:=sem L.env Mf) (fs:=[]) (cs:=[]) (ar:=[.int .u8 v]) (v:=.int .u8 (a4t v:Nat)) (H:=H) (g:=101) (by kernel_rfl) (by kernel_rfl) rfl rfl (c0v v) rfl
  rw [c4b (hv v (List.mem_of_getElem? hn))] at this
  exact this
 (refine sv Tryz.f64 ?_;simp only [Tryz.f64,gS])
 (repeat first|simp only [ww]|(apply xa;simp +decide only [go_sem,h0,h1,h2,hl,hn,hc];rfl;kernel_rfl))
 refine a9b (vs:=[.int .u8 v]) (by simp +decide only [go_sem]) ?_
 simp +decide only [go_sem,a8b]<;>rfl
theorem c1n {d:Bool} {H:a03} {b:Nat} (c:Cir) (nets:List Nat) (hl:nets.length = c.nodes.length) (hv:∀ v ∈ nets,v ≤ 3) (n v:Nat) (hn:nets[n]? = some v) (hb:a01 H b = some (.row 1 (nets.map u8R))) :
 a0g L.env d (sem L.env Mf) (.func (.func 64) [] []) [.agg [sl c.nc (c.nodes.map Nd.enc),sl c.mc (c.names.map a1n),.nilslice,sl c.oc (c.outs.map a0k),.slice b 0 c.nodes.length (some c.nodes.length)],.int .i64 n] H = some (.int .u8 v,H,[b]):=
 a2b (fs:=[]) (cs:=[]) (ar:=[.agg [sl c.nc (c.nodes.map Nd.enc),sl c.mc (c.names.map a1n),.nilslice,sl c.oc (c.outs.map a0k),.slice b 0 c.nodes.length (some c.nodes.length)],.int .i64 n]) (by kernel_rfl) (by kernel_rfl) rfl hb (a0s (a2q nets)) (FlatO.row (a2q nets)) (by simp only [List.nil_append,List.append_nil,go_sem]) (args':=[.agg [sl c.nc (c.nodes.map Nd.enc),sl c.mc (c.names.map a1n),.nilslice,sl c.oc (c.outs.map a0k),.slice 0 0 c.nodes.length (some c.nodes.length)],.int .i64 n]) (by simp only [List.nil_append,List.append_nil,List.map_cons,List.map_nil,c1x,a20,b9l,a8c,c7d]) (c6y c nets hl hv n v hn) rfl
theorem d3r (n:Nat) (rows:List (List AV)) (hf:FlatR rows):sem L.env Mf 65 [.slice 0 0 n none] [some (.row 1 rows)] = some (.slice 0 0 n (some n),[some (.row 1 rows)]):=by
 have h1:=fun π=>a0m π hf
 (refine sv Tryz.f65 ?_;simp only [Tryz.f65,gS])
 (repeat first|simp only [ww]|(apply xa;simp +decide only [go_sem];rfl;kernel_rfl))
 (apply fqb;simp +decide only [go_sem,h1]<;>rfl)
theorem b6w {d:Bool} {H:a03} {b n:Nat} {rows:List (List AV)} (hf:FlatR rows) (hb:a01 H b = some (.row 1 rows)):a0g L.env d (sem L.env Mf) (.func (.func 65) [] []) [.slice b 0 n none] H = some (.slice b 0 n (some n),H,[b]):=by
 have h:=a4u (E:=L.env) (draw:=d) (call:=sem L.env Mf) (g:=65) (fs:=[]) (cs:=[]) (ar:=[.slice b 0 n none]) (H:=H) (b:=b) (by kernel_rfl) (by kernel_rfl) rfl hb (a0s hf) (FlatO.row hf) rfl (args':=[AV.slice 0 0 n none]) (by simp only [List.nil_append,List.append_nil,List.map_cons,List.map_nil,a20]) (d3r n rows hf) (FlatO.row hf) (a9y b 0 _ n _)
 rw [a8y hb] at h
 exact h
theorem d01:sem L.env Mf 65 [.nilslice] [] = some (.nilslice,[]):=by
 (refine sv Tryz.f65 ?_;simp only [Tryz.f65,gS])
 (repeat first|simp only [ww]|(apply xa;simp +decide only [go_sem];rfl;kernel_rfl))
 (apply fqb;simp +decide only [go_sem]<;>rfl)
theorem c2v {d:Bool} (H:a03):a0g L.env d (sem L.env Mf) (.func (.func 65) [] []) [.nilslice] H = some (.nilslice,H,[]):=a04 (by kernel_rfl) (by kernel_rfl) rfl rfl d01 rfl
def a6q (nodes:List Nd) (nets:List Nat):List Nat:=(kinds nodes 14).map fun n=>a58 (nets.getD ((a17 nodes n).getD 0 0) 0)
def a5f (outs nets:List Nat):List Nat:=outs.map fun n=>nets.getD n 0
theorem d6e (c:Cir) (hc:c.wf) (hO:c.outs ≠ []) (nets:List Nat) (hl:nets.length = c.nodes.length) (hv:∀ v ∈ nets,v ≤ 3):sem L.env Mf 26 [.agg [sl c.nc (c.nodes.map Nd.enc),sl c.mc (c.names.map a1n),.nilslice,sl c.oc (c.outs.map a0k),.slice 0 0 c.nodes.length (some c.nodes.length)]] [some (.row 1 (nets.map u8R))] = some (d1r (a5f c.outs nets) (a6q c.nodes nets),[some (.row 1 (nets.map u8R))]):=by
 have hnl:=hc.len
 have hol:=hc.outl
 obtain ⟨r1,e4⟩:=a8l (kinds c.nodes 14)
 have hk14:=a6f c.nodes 14
 have hs:=fun (d:Bool) H=>a7d (d:=d) H c (by omega)
 rw [e4] at hs
 simp only [Cir.enc] at hs
 have hval:=fun (d:Bool) (H:a03) (n v:Nat) (hn:nets[n]? = some v) (hb:a01 H 0 = some (.row 1 (nets.map u8R)))=>c1n (d:=d) (H:=H) (b:=0) c nets hl hv n v hn hb
 have hNf:=a2q nets
 have n1:=a0n hNf
 have n2:=fun π=>a0m π hNf
 suffices hs:∃ r:AV × a03,(r = (d1r (a5f c.outs nets) (a6q c.nodes nets),[some (.row 1 (nets.map u8R))])) ∧ sem L.env Mf 26 [.agg [sl c.nc (c.nodes.map Nd.enc),sl c.mc (c.names.map a1n),.nilslice,sl c.oc (c.outs.map a0k),.slice 0 0 c.nodes.length (some c.nodes.length)]] [some (.row 1 (nets.map u8R))] = some r by
  obtain ⟨r,rfl,h3⟩:=hs
  exact h3
 (refine svE Tryz.f26 ?_;simp only [Tryz.f26,gS])
 generalize hNR:nets.map u8R = NR at hval hNf n1 n2
 (repeat first|simp only [ww]|(apply xa;simp +decide only [go_sem];rfl;kernel_rfl))
 refine a5k kp26_0 (fun n F H=>∃ i,n = c.outs.length - i ∧ i ≤ c.outs.length ∧ F = [(1,.ptr 1 0 0),(2,.ptr 2 0 0),(3,.ptr 3 0 0),(12,sl c.oc (c.outs.map a0k)),(13,.int .i64 c.outs.length),(14,.int .i64 i)] ∧ H = [some (.row 1 NR),some (.row 5 [[sl c.nc (c.nodes.map Nd.enc),sl c.mc (c.names.map a1n),.nilslice,sl c.oc (c.outs.map a0k),.slice 0 0 c.nodes.length (some c.nodes.length)]]),some (.row 2 [[.nilslice,.nilslice]]),some (.row 2 [[grV 4 ((a5f (c.outs.take i) nets).map u8R),.nilslice]])] ++ grH 1 ((a5f (c.outs.take i) nets).map u8R)) c.outs.length ?_ ?_
 ·refine ⟨_,_,?_,0,rfl,Nat.zero_le _,rfl,rfl⟩
  rw [List.take_zero,show a5f [] nets = [] from rfl]
  (simp +decide only [go_sem,a02,a00,a0q,a0r,List.map_nil,n1,n2]<;>rfl)<;>rfl
 ·rintro n F H ⟨i,rfl,hi,rfl,rfl⟩
  have hTl:((a5f (c.outs.take i) nets).map u8R).length = i:=by simp [a5f];omega
  have hTf:=a2q (a5f (c.outs.take i) nets)
  by_cases hlt:i < c.outs.length
  ·obtain ⟨o,ho⟩:∃ o,c.outs[i]? = some o:=⟨_,z9e hlt⟩
   have hon:=hc.outs o (List.mem_of_getElem? ho)
   obtain ⟨v,hnv⟩:∃ v,nets[o]? = some v:=⟨_,z9e (by omega)⟩
   have c1:(i:Int) < c.outs.length:=by omega
   have hwi:=wI1 (n:=i) (by omega)
   have hT2:(a5f (c.outs.take (i + 1)) nets).map u8R = (a5f (c.outs.take i) nets).map u8R ++ [[.int .u8 v]]:=by
    unfold a5f
    rw [a14 ho,List.map_append,List.map_append]
    simp only [List.map_cons,List.map_nil,List.getD,hnv,Option.getD_some]
    rfl
   have hvc:=fun (d:Bool) (H:a03) (hb:a01 H 0 = some (.row 1 NR))=>hval d H o v hnv hb
   generalize (a5f (c.outs.take i) nets).map u8R = T at hTl hTf hT2
   have h1':=a0n hTf
   have h2':=fun π=>a0m π hTf
   cases T with
   | nil=>
    have hvc:=fun (d:Bool) (x1 x2 x3:Option AObj)=>hvc d [some (.row 1 NR),x1,x2,x3] rfl
    (repeat first|simp only [ww]|(apply xa;simp +decide only [go_sem,c1,hlt,ho,hwi,hvc,a0q,a0r];rfl;kernel_rfl))
    refine a21 (c.outs.length - (i + 1)) (by omega) ⟨_,_,?_,i + 1,rfl,hlt,rfl,rfl⟩
    rw [hT2]
    (simp +decide only [go_sem,a02,a00,a0d,a0e,List.nil_append,List.length_nil,n1,n2]<;>rfl)<;>rfl
   | cons a r=>
    simp only [List.length_cons] at hTl
    have hrm:r.length + 1 + 1 ≤ 1000000000:=by omega
    simp only [List.flatMap_cons] at h1'
    simp only [List.map_cons,List.cons.injEq] at h2'
    have hvc:=fun (d:Bool) (x1 x2 x3 x4:Option AObj)=>hvc d [some (.row 1 NR),x1,x2,x3,x4] rfl
    (repeat first|simp only [ww]|(apply xa;simp +decide only [go_sem,c1,hlt,ho,hwi,hvc,a0d,a0e,hrm];rfl;kernel_rfl))
    refine a21 (c.outs.length - (i + 1)) (by omega) ⟨_,_,?_,i + 1,rfl,hlt,rfl,rfl⟩
    rw [hT2]
    (simp +decide only [go_sem,a02,a00,a0d,a0e,List.cons_append,h1',h2',n1,n2]<;>rfl)<;>rfl
  ·obtain rfl:i = c.outs.length:=by omega
   have c1:¬ (c.outs.length:Int) < c.outs.length:=by omega
   rw [List.take_length] at hTl hTf ⊢
   have hOl:0 < c.outs.length:=List.length_pos_iff.2 hO
   have hTc:b53 (a5f c.outs nets) = .islice ((a5f c.outs nets).map u8R) (some c.outs.length):=by
    have hol2:(a5f c.outs nets).length = c.outs.length:=by simp [a5f]
    cases ho:a5f c.outs nets with
    | nil=>rw [ho] at hol2;simp at hol2;omega
    | cons v q=>rw [ho] at hol2;simp only [List.length_cons] at hol2;rw [← hol2];rfl
   unfold d1r
   rw [hTc]
   generalize (a5f c.outs nets).map u8R = T at hTl hTf
   cases T with
   | nil=>simp at hTl;omega
   | cons a r=>
    have hal:r.length + 1 = c.outs.length:=by simpa using hTl
    have h1':=a0n hTf
    have h2':=fun π=>a0m π hTf
    have h3':=fun (m:Nat) (q:AV → Option AV)=>a1g m q hTf
    simp only [List.flatMap_cons] at h1'
    simp only [List.map_cons,List.cons.injEq] at h2'
    (repeat first|simp only [ww]|(apply xa;simp +decide only [go_sem,c1,hs,a0d,a0e];rfl;kernel_rfl))
    refine a5k kp26_2 (fun n F H=>∃ i,n = (kinds c.nodes 14).length - i ∧ i ≤ (kinds c.nodes 14).length ∧ F = [(1,.ptr 1 0 0),(2,.ptr 2 0 0),(3,.ptr 3 0 0),(29,sl r1 ((kinds c.nodes 14).map a0k)),(30,.int .i64 (kinds c.nodes 14).length),(31,.int .i64 i)] ∧ H = [some (.row 1 NR),some (.row 5 [[sl c.nc (c.nodes.map Nd.enc),sl c.mc (c.names.map a1n),.nilslice,sl c.oc (c.outs.map a0k),.slice 0 0 c.nodes.length (some c.nodes.length)]]),some (.row 2 [[.nilslice,.nilslice]]),some (.row 2 [[.slice 4 0 (r.length + 1) none,grV 5 (((a6q c.nodes nets).take i).map u8R)]]),some (.row 1 (a :: r))] ++ grH 1 (((a6q c.nodes nets).take i).map u8R)) (kinds c.nodes 14).length ?_ ?_
    ·refine ⟨_,_,?_,0,rfl,Nat.zero_le _,rfl,rfl⟩
     rw [List.take_zero]
     (simp +decide only [go_sem,a02,a00,a0q,a0r,List.map_nil,n1,n2,h1',h2']<;>rfl)<;>rfl
    ·rintro n F H ⟨i,rfl,hi,rfl,rfl⟩
     have hNl:(a6q c.nodes nets).length = (kinds c.nodes 14).length:=by simp [a6q]
     have hXl:(((a6q c.nodes nets).take i).map u8R).length = i:=by simp;omega
     have hXf:=a2q ((a6q c.nodes nets).take i)
     by_cases hlt:i < (kinds c.nodes 14).length
     ·obtain ⟨q,hq⟩:∃ q,(kinds c.nodes 14)[i]? = some q:=⟨_,z9e hlt⟩
      obtain ⟨hqn,hqk⟩:=b4f hq
      obtain ⟨x,hx⟩:∃ x,c.nodes[q]? = some x:=⟨_,z9e hqn⟩
      have hxk:x.kind = 14:=by rw [← a18 hx];exact hqk
      have hx1:x.ins.length = 1:=by
       have h1:=hc.lo x (List.mem_of_getElem? hx)
       have h2:=hc.hi x (List.mem_of_getElem? hx)
       rw [hxk] at h1 h2
       have e1:a1m 14 = 1:=rfl
       have e2:a1s 14 = 1:=rfl
       omega
      obtain ⟨m,hm⟩:∃ m,x.ins[0]? = some m:=⟨_,z9e (by omega)⟩
      have hmn:=hc.ins x (List.mem_of_getElem? hx) m (List.mem_of_getElem? hm)
      obtain ⟨v,hnv⟩:∃ v,nets[m]? = some v:=⟨_,z9e (by omega)⟩
      have hX2:((a6q c.nodes nets).take (i + 1)).map u8R = ((a6q c.nodes nets).take i).map u8R ++ [[.int .u8 (a58 v)]]:=by
       have:(a6q c.nodes nets)[i]? = some (a58 v):=by
        unfold a6q
        rw [List.getElem?_map,hq]
        simp only [Option.map_some,a29 hx,List.getD,hm,hnv,Option.getD_some]
       rw [a14 this,List.map_append];rfl
      have c1:(i:Int) < (kinds c.nodes 14).length:=by omega
      have hwi:=wI1 (n:=i) (by omega)
      have hc1:decide ((x.ins.length:Int) = 1) = true:=decide_eq_true (by omega)
      have h01:Ax.rowAt (x.ins.map a0k) 0 = some [AV.int .i64 m]:=by
       have:=c7b (x.ins.map a0k) 0
       rw [Int.natCast_zero] at this
       rw [this,List.getElem?_map,hm];rfl
      have hvc:=fun (d:Bool) (H:a03) (hb:a01 H 0 = some (.row 1 NR))=>hval d H m v hnv hb
      have hrd:=fun (d:Bool) (H:a03)=>a73 (d:=d) H v
      generalize a58 v = w at hX2 hrd
      generalize ((a6q c.nodes nets).take i).map u8R = X at hXl hXf hX2
      have g1':=a0n hXf
      have g2':=fun π=>a0m π hXf
      cases X with
      | nil=>
       have hvc:=fun (d:Bool) (x1 x2 x3 x4:Option AObj)=>hvc d [some (.row 1 NR),x1,x2,x3,x4] rfl
       (repeat first|simp only [ww]|(apply xa;simp +decide only [go_sem,c1,hlt,hq,hqn,hx,hc1,h01,hm,hwi,hvc,hrd,a0q,a0r];rfl;kernel_rfl))
       refine a21 ((kinds c.nodes 14).length - (i + 1)) (by omega) ⟨_,_,?_,i + 1,rfl,hlt,rfl,rfl⟩
       rw [hX2]
       (simp +decide only [go_sem,a02,a00,a0d,a0e,List.nil_append,List.length_nil,n1,n2,h1',h2']<;>rfl)<;>rfl
      | cons a2 r2=>
       simp only [List.length_cons] at hXl
       have hrm:r2.length + 1 + 1 ≤ 1000000000:=by omega
       simp only [List.flatMap_cons] at g1'
       simp only [List.map_cons,List.cons.injEq] at g2'
       have hvc:=fun (d:Bool) (x1 x2 x3 x4 x5:Option AObj)=>hvc d [some (.row 1 NR),x1,x2,x3,x4,x5] rfl
       (repeat first|simp only [ww]|(apply xa;simp +decide only [go_sem,c1,hlt,hq,hqn,hx,hc1,h01,hm,hwi,hvc,hrd,a0d,a0e,hrm];rfl;kernel_rfl))
       refine a21 ((kinds c.nodes 14).length - (i + 1)) (by omega) ⟨_,_,?_,i + 1,rfl,hlt,rfl,rfl⟩
       rw [hX2]
       (simp +decide only [go_sem,a02,a00,a0d,a0e,List.cons_append,g1',g2',n1,n2,h1',h2']<;>rfl)<;>rfl
     ·obtain rfl:i = (kinds c.nodes 14).length:=by omega
      have c1:¬ ((kinds c.nodes 14).length:Int) < (kinds c.nodes 14).length:=by omega
      have hcp:=fun (d:Bool) (x0 x1 x2 x3:Option AObj) (R:a03)=>b6w (d:=d) (H:=x0 :: x1 :: x2 :: x3 :: some (.row 1 (a :: r)) :: R) (b:=4) (n:=r.length + 1) hTf rfl
      rw [List.take_of_length_le (by omega)] at hXl hXf ⊢
      cases hX:a6q c.nodes nets with
      | nil=>
       have hcn:=fun (d:Bool) (H:a03)=>c2v (d:=d) H
       (repeat first|simp only [ww]|(apply xa;simp +decide only [go_sem,c1,hcp,hcn,List.map_nil,a0q,a0r];rfl;kernel_rfl))
       refine a77 (vs:=[.agg [.slice 4 0 (r.length + 1) (some (r.length + 1)),.nilslice]]) (r:=(_,_)) (by simp +decide only [go_sem]) ?_ rfl
       show a1j false 1 (.agg [.slice 4 0 (r.length + 1) (some (r.length + 1)),.nilslice]) _ = _
       have htk:List.take (r.length + 1) (a :: r) = a :: r:=List.take_length (l:=a :: r)
       rw [← hal]
       unfold b53
       simp +decide only [go_sem,h3',n2,htk]<;>rfl
      | cons a2 r2=>
       rw [hX] at hXl hXf
       have hcp2:=fun (d:Bool) (x0 x1 x2 x3 x4:Option AObj)=>b6w (d:=d) (H:=[x0,x1,x2,x3,x4,some (.row 1 ((a2 :: r2).map u8R))]) (b:=5) (n:=r2.length + 1) hXf rfl
       have g3':=fun (m:Nat) (q:AV → Option AV)=>a1g m q hXf
       have hml:(r2.map u8R).length = r2.length:=List.length_map ..
       simp only [List.map_cons,u8R] at hcp2 g3' hXf ⊢
       (repeat first|simp only [ww]|(apply xa;simp +decide only [go_sem,c1,hcp,hcp2,a0d,a0e,hml];rfl;kernel_rfl))
       refine a77 (vs:=[.agg [.slice 4 0 (r.length + 1) (some (r.length + 1)),.slice 5 0 (r2.length + 1) (some (r2.length + 1))]]) (r:=(_,_)) (by simp +decide only [go_sem]) ?_ rfl
       show a1j false 1 (.agg [.slice 4 0 (r.length + 1) (some (r.length + 1)),.slice 5 0 (r2.length + 1) (some (r2.length + 1))]) _ = _
       have htk:List.take (r.length + 1) (a :: r) = a :: r:=List.take_length (l:=a :: r)
       have htk2:List.take (r2.length + 1) ([AV.int .u8 a2] :: r2.map u8R) = [AV.int .u8 a2] :: r2.map u8R:=List.take_of_length_le (by simp)
       rw [← hal]
       unfold b53
       simp only [List.map_cons,u8R]
       simp +decide only [go_sem,h3',g3',n2,htk,htk2]<;>rfl
theorem c4u {d:Bool} {H:a03} {b:Nat} (c:Cir) (hc:c.wf) (p:Pat) (hp:PatOk c.nodes p) (N0:List Nat) (hN:N0.length = c.nodes.length) (hb:a01 H b = some (.row 1 (N0.map u8R))) :
 a0g L.env d (sem L.env Mf) (.func (.func 23) [] []) [.agg [sl c.nc (c.nodes.map Nd.enc),sl c.mc (c.names.map a1n),.nilslice,sl c.oc (c.outs.map a0k),.slice b 0 c.nodes.length (some c.nodes.length)],.agg [sl p.ic (p.ins.map u8R),sl p.sc (p.sts.map u8R)]] H = some (.tuple [],H.set b (some (.row 1 ((a2p (a2p N0 (kinds c.nodes 0) p.ins) (kinds c.nodes 14) p.sts).map u8R))),[b]):=
 a4u (fs:=[]) (cs:=[]) (ar:=[.agg [sl c.nc (c.nodes.map Nd.enc),sl c.mc (c.names.map a1n),.nilslice,sl c.oc (c.outs.map a0k),.slice b 0 c.nodes.length (some c.nodes.length)],.agg [sl p.ic (p.ins.map u8R),sl p.sc (p.sts.map u8R)]]) (by kernel_rfl) (by kernel_rfl) rfl hb (a0s (a2q N0)) (FlatO.row (a2q N0)) (by simp only [List.nil_append,List.append_nil,go_sem]) (args':=[.agg [sl c.nc (c.nodes.map Nd.enc),sl c.mc (c.names.map a1n),.nilslice,sl c.oc (c.outs.map a0k),.slice 0 0 c.nodes.length (some c.nodes.length)],.agg [sl p.ic (p.ins.map u8R),sl p.sc (p.sts.map u8R)]]) (by simp only [List.nil_append,List.append_nil,List.map_cons,List.map_nil,c1x,a20,b9l,a8c]) (d1n c hc p hp N0 hN) (FlatO.row (a2q _)) rfl
theorem c75 {d:Bool} {H:a03} {b:Nat} (c:Cir) (hc:c.wf) (hO:c.outs ≠ []) (nets:List Nat) (hl:nets.length = c.nodes.length) (hv:∀ v ∈ nets,v ≤ 3) (hb:a01 H b = some (.row 1 (nets.map u8R))) :
 a0g L.env d (sem L.env Mf) (.func (.func 26) [] []) [.agg [sl c.nc (c.nodes.map Nd.enc),sl c.mc (c.names.map a1n),.nilslice,sl c.oc (c.outs.map a0k),.slice b 0 c.nodes.length (some c.nodes.length)]] H = some (d1r (a5f c.outs nets) (a6q c.nodes nets),H,[b]):=
 a2b (fs:=[]) (cs:=[]) (ar:=[.agg [sl c.nc (c.nodes.map Nd.enc),sl c.mc (c.names.map a1n),.nilslice,sl c.oc (c.outs.map a0k),.slice b 0 c.nodes.length (some c.nodes.length)]]) (by kernel_rfl) (by kernel_rfl) rfl hb (a0s (a2q nets)) (FlatO.row (a2q nets)) (by simp only [List.nil_append,List.append_nil,go_sem]) (args':=[.agg [sl c.nc (c.nodes.map Nd.enc),sl c.mc (c.names.map a1n),.nilslice,sl c.oc (c.outs.map a0k),.slice 0 0 c.nodes.length (some c.nodes.length)]]) (by simp only [List.nil_append,List.append_nil,List.map_cons,List.map_nil,c1x,a20,b9l,a8c]) (d6e c hc hO nets hl hv) (c7g _ _)
theorem c8h {d:Bool} {H:a03} {b:Nat} (k:Nat) (hk:k < 16) (l:List Nat) (hl:l.length < 1000000) (cp:Option Nat) (X:List (List AV)) (hX:FlatR X) (hXl:X.take l.length = l.map u8R) (hb:a01 H b = some (.row 1 X)) {m:Nat} (hm:m = l.length) :
 a0g L.env d (sem L.env Mf) (.func (.func 25) [] []) [.int .u8 k,.slice b 0 m cp] H = some (.int .u8 (a68 k l:Nat),H,[b]):=by
 subst hm
 have hs:X = l.map u8R ++ X.drop l.length:=by rw [← hXl,List.take_append_drop]
 have hr:=b88 k hk l (.slice 0 0 l.length cp) [some (.row 1 (l.map u8R ++ X.drop l.length))] (.blk cp _ (by rw [← hs];exact hX)) hl
 rw [← hs] at hr
 exact a2b (fs:=[]) (cs:=[]) (ar:=[.int .u8 k,.slice b 0 l.length cp]) (by kernel_rfl) (by kernel_rfl) rfl hb (a0s hX) (FlatO.row hX) (by simp only [List.nil_append,List.append_nil,go_sem]) (args':=[.int .u8 k,.slice 0 0 l.length cp]) (by simp only [List.nil_append,List.append_nil,List.map_cons,List.map_nil,a20,c7d]) hr rfl
theorem c4x {d:Bool} (H:a03) (c:Cir) (h:c.wf) (p:Pat) (hp:PatOk c.nodes p):a0g L.env d (sem L.env Mf) (.func (.func 22) [] []) [.agg c.enc,.agg p.enc] H = some (.int .i64 0,H,[]):=
 a04 (by kernel_rfl) (by kernel_rfl) rfl (by simp only [a0a,a1e,Cir.enc,Pat.enc,go_sem]) (c9j c h p hp) rfl
theorem b06 (l:List Nat):(b53 l).storable = true:=by cases l<;>rfl
def c5p (c:Cir) (ord:List Nat) (p:Pat):List Nat:=e5v nAlg c.nodes hk0 ord (kinds c.nodes 0) (kinds c.nodes 14) p.ins p.sts
theorem f0c {X:List (List AV)} {j n:Nat} {x:List AV} (hl:X.length = n) (hj:j < n):(X.take j ++ [x] ++ X.drop (j + 1)).length = n ∧ (X.take j ++ [x] ++ X.drop (j + 1)).take (j + 1) = X.take j ++ [x]:=by
 refine ⟨by simp;omega,?_⟩
 rw [List.take_append_of_le_length (by simp;omega),List.take_of_length_le (by simp;omega)]
theorem c8u {X:List (List AV)} {j:Nat} {x:List AV} (hX:FlatR X) (hx:a0j x = []):FlatR (X.take j ++ [x] ++ X.drop (j + 1)):=by
 intro r hr
 simp only [List.mem_append,List.mem_singleton] at hr
 rcases hr with (hr|rfl)|hr
 ·exact hX r (List.mem_of_mem_take hr)
 ·exact hx
 ·exact hX r (List.mem_of_mem_drop hr)
theorem b87:∀ (is vs N:List Nat),(∀ v ∈ N,v ≤ 3) → (∀ v ∈ vs,v ≤ 3) → ∀ v ∈ a2p N is vs,v ≤ 3
 | [],vs,N,h,_=>by cases vs<;>exact h
 | _ :: _,[],N,h,_=>h
 | i :: is,w :: vs,N,h,hv=>by
  simp only [a2p]
  refine b87 is vs _ (fun v hm=>?_) (fun v hm=>hv v (List.mem_cons_of_mem _ hm))
  rcases List.mem_or_eq_of_mem_set hm with h1|h1
  ·exact h v h1
  ·rw [h1];exact hv w (List.mem_cons_self ..)
theorem d6u {nodes:List Nd} {N:List Nat} {n:Nat} (h:∀ v ∈ N,v ≤ 3):∀ v ∈ a3i nAlg nodes hk0 N n,v ≤ 3:=by
 have key:∀ (l:List Nat) (p:Nat),∀ v ∈ a3t nAlg hk0 n N p l,v ≤ 3:=by
  intro l
  induction l with
  | nil=>intro p v hv;simp [a3t] at hv
  | cons m l ih=>
   intro p v hv
   simp only [a3t,List.mem_cons] at hv
   rcases hv with rfl|hv
   ·show N.getD m 0 ≤ 3
    rw [List.getD]
    cases hm:N[m]? with
    | none=>decide
    | some w=>exact h w (List.mem_of_getElem? hm)
   ·exact ih _ v hv
 exact key _ _
theorem d6c (c:Cir) (hc:c.wf) (hO:c.outs ≠ []) (p:Pat) (hp:PatOk c.nodes p) (ord:List Nat) (hord:OrdOf c ord):sem L.env Mf 9 [.agg c.enc,.agg p.enc] [] = some (.tuple [d1r (a5f c.outs (c5p c ord p)) (a6q c.nodes (c5p c ord p)),.islice ((c5p c ord p).map u8R) (some c.nodes.length),.int .i64 0],[]):=by
 have hnl:=hc.len
 have hrm:c.nodes.length ≤ 1000000000:=by omega
 have ho:=hord.call
 have hor:∀ n ∈ ord,n < c.nodes.length:=fun n hn=>by have:=hord.perm.mem_iff.1 hn;simpa using this
 have hol:ord.length = c.nodes.length:=by rw [hord.perm.length_eq];simp
 have hft:=fun (d:Bool) H=>c4x (d:=d) H c hc p hp
 have hce:c.enc = [sl c.nc (c.nodes.map Nd.enc),sl c.mc (c.names.map a1n),.nilslice,sl c.oc (c.outs.map a0k)]:=rfl
 have hpe:Pat.enc p = [sl p.ic (p.ins.map u8R),sl p.sc (p.sts.map u8R)]:=rfl
 rw [hce,hpe] at hft
 rw [hce] at ho
 rw [hce,hpe]
 have hld:=fun (d:Bool) (x0 x1 x2 x4:Option AObj)=>c4u (d:=d) (H:=[x0,x1,x2,some (.row 1 ((List.replicate c.nodes.length 0).map u8R)),x4]) (b:=3) c hc p hp (List.replicate c.nodes.length 0) (by simp) rfl
 have hob:=fun (d:Bool) (x0 x1 x3:Option AObj) (N:List Nat) (hl:N.length = c.nodes.length) (hv:∀ v ∈ N,v ≤ 3)=>c75 (d:=d) (H:=[x0,x1,some (.row 1 (N.map u8R)),x3]) (b:=2) c hc hO N hl hv rfl
 have hN1l:(a2p (a2p (List.replicate c.nodes.length 0) (kinds c.nodes 0) p.ins) (kinds c.nodes 14) p.sts).length = c.nodes.length:=by rw [a60,a60];simp
 have hN1v:∀ v ∈ a2p (a2p (List.replicate c.nodes.length 0) (kinds c.nodes 0) p.ins) (kinds c.nodes 14) p.sts,v ≤ 3:=b87 _ _ _ (b87 _ _ _ (fun v hv=>by rw [List.eq_of_mem_replicate hv];omega) hp.inv) hp.stv
 have hG:c5p c ord p = ord.foldl (Pc.stepG nAlg c.nodes hk0) (a2p (a2p (List.replicate c.nodes.length 0) (kinds c.nodes 0) p.ins) (kinds c.nodes 14) p.sts):=rfl
 rw [hG]
 have hrp:(List.replicate c.nodes.length 0).map u8R = List.replicate c.nodes.length [AV.int .u8 0]:=by rw [List.map_replicate];rfl
 rw [hrp] at hld
 generalize a2p (a2p (List.replicate c.nodes.length 0) (kinds c.nodes 0) p.ins) (kinds c.nodes 14) p.sts = N1 at hld hN1l hN1v ⊢
 suffices hs:∃ r:AV × a03,(r = (.tuple [d1r (a5f c.outs (ord.foldl (Pc.stepG nAlg c.nodes hk0) N1)) (a6q c.nodes (ord.foldl (Pc.stepG nAlg c.nodes hk0) N1)),.islice ((ord.foldl (Pc.stepG nAlg c.nodes hk0) N1).map u8R) (some c.nodes.length),.int .i64 0],[])) ∧ sem L.env Mf 9 [.agg [sl c.nc (c.nodes.map Nd.enc),sl c.mc (c.names.map a1n),.nilslice,sl c.oc (c.outs.map a0k)],.agg [sl p.ic (p.ins.map u8R),sl p.sc (p.sts.map u8R)]] [] = some r by
  obtain ⟨r,rfl,h3⟩:=hs
  exact h3
 (refine svE Tryz.f9 ?_;simp only [Tryz.f9,gS])
 (repeat first|simp only [ww]|(apply xa;simp +decide only [go_sem,ho,hft,hrm,hld];rfl;kernel_rfl))
 refine a5k kp9_0 (fun n F H=>∃ (i q:Nat) (X:List (List AV)),n = ord.length - i ∧ i ≤ ord.length ∧ q ≤ 16 ∧ X.length = 16 ∧ FlatR X ∧ (∀ v ∈ (ord.take i).foldl (Pc.stepG nAlg c.nodes hk0) N1,v ≤ 3) ∧ F = [(4,.ptr 0 0 0),(9,.ptr 1 0 0),(10,.slice 3 0 q (some 16)),(40,.islice (ord.map a0k) (some c.nodes.length)),(41,.int .i64 ord.length),(42,.int .i64 i)] ∧ H = [some (.row 2 [[.nilslice,.nilslice]]),some (.row 5 [[sl c.nc (c.nodes.map Nd.enc),sl c.mc (c.names.map a1n),.nilslice,sl c.oc (c.outs.map a0k),.slice 2 0 c.nodes.length (some c.nodes.length)]]),some (.row 1 (((ord.take i).foldl (Pc.stepG nAlg c.nodes hk0) N1).map u8R)),some (.row 1 X)]) ord.length ?_ ?_
 ·refine ⟨_,_,?_,0,0,List.replicate 16 [.int .u8 0],rfl,Nat.zero_le _,by omega,rfl,fun r hr=>by rw [List.eq_of_mem_replicate hr];rfl,by rw [List.take_zero];exact hN1v,rfl,rfl⟩
  rw [List.take_zero,List.foldl_nil]
  (simp +decide only [go_sem,a02,a00,a8b,a7g]<;>rfl)<;>rfl
 ·rintro n F H ⟨i,q,X,rfl,hi,hq,hXl,hXf,hNv,rfl,rfl⟩
  have hll:=b32 (A:=nAlg) (nodes:=c.nodes) (h:=hk0) (ord.take i) N1
  rw [hN1l] at hll
  have x1:=a0n hXf
  have x2:=fun π=>a0m π hXf
  by_cases hlt:i < ord.length
  ·obtain ⟨n,hn⟩:∃ n,ord[i]? = some n:=⟨_,z9e hlt⟩
   have hnn:=hor n (List.mem_of_getElem? hn)
   obtain ⟨x,hx⟩:∃ x,c.nodes[n]? = some x:=⟨_,z9e hnn⟩
   have hxm:=List.mem_of_getElem? hx
   have k14:=hc.kind x hxm
   have hil:=hc.insl hxm
   have hka:=a18 hx
   have hs:=c9f (A:=nAlg) (nodes:=c.nodes) (h:=hk0) (nets:=N1) hn
   have c1:(i:Int) < ord.length:=by omega
   have hwi:=wI1 (n:=i) (by omega)
   have hcb:=fun (d:Bool) H=>b52 (d:=d) H x.kind (by omega)
   have hxe:x.enc = [.int .u8 x.kind,sl x.c (x.ins.map a0k),.int .i64 x.mem,.int .i64 x.bit]:=rfl
   generalize (ord.take i).foldl (Pc.stepG nAlg c.nodes hk0) N1 = N at hs hll hNv
   obtain ⟨w0,hw0⟩:∃ w,N[n]? = some w:=⟨_,z9e (by omega)⟩
   by_cases hcm:a1d x.kind = true
   ·have hne:a0c c.nodes n ≠ 0 ∧ a0c c.nodes n ≠ 14:=by
     rw [hka];constructor<;>(intro e;rw [e] at hcm;exact absurd hcm (by decide))
    have hkk:x.kind < 16:=by omega
    have hRd:a17 c.nodes n = x.ins:=a29 hx
    have hRl:(a3i nAlg c.nodes hk0 N n).length = x.ins.length:=by rw [a70,hRd]
    have hRv:=d6u (nodes:=c.nodes) (n:=n) hNv
    (repeat first|simp only [ww]|(apply xa;simp +decide only [go_sem,c1,hlt,hn,hx,hnn,hcb,hcm];rfl;kernel_rfl))
    refine a5k kp9_2 (fun m F H=>∃ (j:Nat) (Y:List (List AV)),m = x.ins.length - j ∧ j ≤ x.ins.length ∧ Y.length = 16 ∧ FlatR Y ∧ Y.take j = ((a3i nAlg c.nodes hk0 N n).take j).map u8R ∧ F = [(4,.ptr 0 0 0),(9,.ptr 1 0 0),(10,.slice 3 0 j (some 16)),(12,.int .i64 n),(13,.ptr 4 0 0),(40,.islice (ord.map a0k) (some c.nodes.length)),(41,.int .i64 ord.length),(42,.int .i64 i),(59,sl x.c (x.ins.map a0k)),(60,.int .i64 x.ins.length),(61,.int .i64 j)] ∧ H = [some (.row 2 [[.nilslice,.nilslice]]),some (.row 5 [[sl c.nc (c.nodes.map Nd.enc),sl c.mc (c.names.map a1n),.nilslice,sl c.oc (c.outs.map a0k),.slice 2 0 c.nodes.length (some c.nodes.length)]]),some (.row 1 (N.map u8R)),some (.row 1 Y),some (.row 4 [[.int .u8 x.kind,sl x.c (x.ins.map a0k),.int .i64 x.mem,.int .i64 x.bit]])]) x.ins.length ?_ ?_
    ·refine ⟨_,_,?_,0,X,rfl,Nat.zero_le _,hXl,hXf,rfl,rfl,rfl⟩
     (simp +decide only [go_sem,a02,a00,a8b,a7g,x1,x2]<;>rfl)<;>rfl
    ·rintro m F H ⟨j,Y,rfl,hj,hYl,hYf,hYt,rfl,rfl⟩
     have y1:=a0n hYf
     have y2:=fun π=>a0m π hYf
     by_cases hjl:j < x.ins.length
     ·obtain ⟨u,hu⟩:∃ u,x.ins[j]? = some u:=⟨_,z9e hjl⟩
      have hun:=hc.ins x hxm u (List.mem_of_getElem? hu)
      obtain ⟨v,hv⟩:∃ v,N[u]? = some v:=⟨_,z9e (by omega)⟩
      have d1:(j:Int) < x.ins.length:=by omega
      have hwj:=wI1 (n:=j) (by omega)
      have hrs:=c55 (A:=nAlg) (h:=hk0) (nodes:=c.nodes) (nets:=N) (n:=n) (i:=j) (by rw [hRd];exact hu) hv
      obtain ⟨z1,z2⟩:=f0c (x:=[AV.int .u8 v]) hYl (show j < 16 by omega)
      have z3:=c8u (j:=j) (x:=[AV.int .u8 v]) hYf rfl
      generalize hZ:Y.take j ++ [[AV.int .u8 v]] ++ Y.drop (j + 1) = Z at z1 z2 z3
      rw [hYt] at z2
      have w1:=a0n z3
      have w2:=fun π=>a0m π z3
      have hj16:j ≤ 16:=by omega
      have hj17:j + 1 ≤ 16:=by omega
      (repeat first|simp only [ww]|(apply xa;simp +decide only [go_sem,d1,hjl,hu,hun,hv,hll,hwj,hYl,hj16,hj17,hZ,Nat.zero_add];rfl;kernel_rfl))
      refine a21 (x.ins.length - (j + 1)) (by omega) ⟨_,_,?_,j + 1,Z,rfl,hjl,z1,z3,?_,rfl,rfl⟩
      ·(simp +decide only [go_sem,a02,a00,a8b,a7g,w1,w2,hZ]<;>rfl)<;>rfl
      ·rw [z2,hrs,List.map_append];rfl
     ·obtain rfl:j = x.ins.length:=by omega
      have d1:¬ (x.ins.length:Int) < x.ins.length:=by omega
      have hev:=fun (d:Bool) (x0 x1 x2 x4:Option AObj)=>c8h (d:=d) (H:=[x0,x1,x2,some (.row 1 Y),x4]) (b:=3) x.kind hkk (a3i nAlg c.nodes hk0 N n) (by omega) (some 16) Y hYf (by rw [hRl,hYt,List.take_of_length_le (by omega)]) rfl (m:=x.ins.length) hRl.symm
      have hstep:Pc.stepG nAlg c.nodes hk0 N n = N.set n (a68 x.kind (a3i nAlg c.nodes hk0 N n)):=by
       unfold Pc.stepG
       rw [if_pos hne,hka]
       show N.set n (a68 x.kind ((a3i nAlg c.nodes hk0 N n).map a4t)) = _
       rw [b44 hRv]
      have hle:=d27 x.kind _ hRv
      rw [hstep] at hs
      generalize a68 x.kind (a3i nAlg c.nodes hk0 N n) = w at hev hs hle
      have hsR:(N.map u8R).set n [AV.int .u8 w] = (N.set n w).map u8R:=by rw [List.map_set];rfl
      (repeat first|simp only [ww]|(apply xa;simp +decide only [go_sem,d1,hev,hnn,hll,hw0,hsR,hwi];rfl;kernel_rfl))
      refine a21 (ord.length - (i + 1)) (by omega) ⟨_,_,?_,i + 1,x.ins.length,Y,rfl,hlt,by omega,hYl,hYf,?_,rfl,rfl⟩
      ·rw [hs]
       (simp +decide only [go_sem,a02,a00,a8b,a7g,y1,y2]<;>rfl)<;>rfl
      ·rw [hs]
       intro v hv
       rcases List.mem_or_eq_of_mem_set hv with h1|h1
       ·exact hNv v h1
       ·rw [h1];exact hle
   ·have hcm:a1d x.kind = false:=by simpa using hcm
    have hstep:Pc.stepG nAlg c.nodes hk0 N n = N:=by
     have hne:¬ (a0c c.nodes n ≠ 0 ∧ a0c c.nodes n ≠ 14):=by
      rw [hka];intro hh;simp [a1d] at hcm;omega
     unfold Pc.stepG
     rw [if_neg hne]
     show N.set n (N.getD n 0) = N
     rw [List.getD,hw0,Option.getD_some]
     have:=(List.getElem?_eq_some_iff.1 hw0)
     rw [← this.2];exact List.set_getElem_self this.1
    rw [hstep] at hs
    (repeat first|simp only [ww]|(apply xa;simp +decide only [go_sem,c1,hlt,hn,hx,hnn,hcb,hcm,hwi];rfl;kernel_rfl))
    refine a21 (ord.length - (i + 1)) (by omega) ⟨_,_,?_,i + 1,q,X,rfl,hlt,hq,hXl,hXf,by rw [hs];exact hNv,rfl,rfl⟩
    rw [hs]
    (simp +decide only [go_sem,a02,a00,a8b,a7g,x1,x2]<;>rfl)<;>rfl
  ·obtain rfl:i = ord.length:=by omega
   have c1:¬ (ord.length:Int) < ord.length:=by omega
   rw [List.take_length] at hll hNv ⊢
   generalize ord.foldl (Pc.stepG nAlg c.nodes hk0) N1 = N at hll hNv ⊢
   have hob:=fun (d:Bool) (x0 x1 x3:Option AObj)=>hob d x0 x1 x3 N hll hNv
   unfold d1r at hob ⊢
   have q1:=a92 (a5f c.outs N)
   have hst1:=b06 (a5f c.outs N)
   have hst2:=b06 (a6q c.nodes N)
   have q2:=a92 (a6q c.nodes N)
   generalize b53 (a5f c.outs N) = V1 at hob q1 hst1 ⊢
   generalize b53 (a6q c.nodes N) = V2 at hob q2 hst2 ⊢
   have s1:V1.storable = true:=hst1
   have s2:V2.storable = true:=hst2
   have hNf:=a2q N
   have r1:∀ π,ren π V1 = V1:=fun π=>a2m π _ q1
   have r2:∀ π,ren π V2 = V2:=fun π=>a2m π _ q2
   have f1:=fun m t d=>a62 m t d V1 q1
   have f2:=fun m t d=>a62 m t d V2 q2
   have f3:=fun m d=>a1g m d hNf
   have htk:(N.map u8R).take c.nodes.length = N.map u8R:=List.take_of_length_le (by simp;omega)
   (repeat first|simp only [ww]|(apply xa;simp +decide only [go_sem,c1,hob,s1,s2];rfl;kernel_rfl))
   refine a77 (vs:=[.agg [V1,V2],.slice 2 0 c.nodes.length (some c.nodes.length),.int .i64 0]) (r:=(_,_)) (by simp +decide only [go_sem]) ?_ rfl
   show a1j false 0 (.tuple [.agg [V1,V2],.slice 2 0 c.nodes.length (some c.nodes.length),.int .i64 0]) _ = _
   simp +decide only [go_sem,f1,f2,f3,htk,hll]<;>rfl
end Go.TInst
