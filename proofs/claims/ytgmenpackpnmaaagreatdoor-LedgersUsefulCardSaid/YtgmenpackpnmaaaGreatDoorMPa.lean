/- Part of a proof. No condition. -/
import Derived.Test.YtgmenpackpnmaaaGreatDoorMNe
import Derived.Test.YtgmenpackpnmaaaGreatDoorPcB
import Derived.Test.YtgmenpackpnmaaaGreatDoorAxE
set_option linter.unusedSimpArgs false
set_option linter.unusedVariables false
namespace Go.MInst
open Go.Proofs Go.Ax Go.Pc
set_option maxRecDepth 100000
theorem d14 (c:Cir) (h:c.wf):∃ r:AV × a06,(∃ v,refs v = [] ∧ r = (.tuple [v,.int .i64 0],[])) ∧ sem L.env Mf 79 [.agg c.enc] [] = some r:=by
 have hn:=h.len
 have hv:=fun H=>b32 (d:=false) H c h
 simp only [Cir.enc] at hv ⊢
 (refine svE Tryz.f79 ?_;simp only [Tryz.f79,gS])
 (repeat first|simp only [ww]|(apply xa;simp +decide only [go_sem,hv];rfl;kernel_rfl))
 refine a24 kp79_0 (fun n F H=>∃ (i:Nat) (l:List (List AV)),n = c.nodes.length - i ∧ i ≤ c.nodes.length ∧ F = [(5,grV 0 l),(15,sl c.nc (c.nodes.map Nd.enc)),(16,.int .i64 c.nodes.length),(17,.int .i64 i)] ∧ H = grH 2 l ∧ FlatR l ∧ l.length ≤ 20 * i) (c.nodes.length - 0) ?_ ?_
 ·refine ⟨_,_,?_,0,[],rfl,Nat.zero_le _,rfl,rfl,FlatR.nil,Nat.zero_le _⟩
  (simp +decide only [go_sem,a02,a00,a0q,a0r]<;>rfl)<;>rfl
 ·rintro n F H ⟨i,l,rfl,hi,rfl,rfl,hfl,hll⟩
  by_cases hlt:i < c.nodes.length
  ·obtain ⟨x,hx⟩:∃ x,c.nodes[i]? = some x:=⟨_,z9e hlt⟩
   have c1:(i:Int) < c.nodes.length:=by omega
   have hw:=wI1 (n:=i) (by omega)
   have hil:=h.insl (List.mem_of_getElem? hx)
   have hwl:=wI1 (n:=x.ins.length) (by omega)
   have h1:=a03 hfl
   have h2:=fun π=>a01 π hfl
   cases l with
   | nil=>
    (repeat first|simp only [ww]|(apply xa;simp +decide only [go_sem,c1,hlt,hx,hw,hwl,a0q,a0r];rfl;kernel_rfl))
    refine a24 kp79_2 (fun n F H=>∃ (k:Nat) (l:List (List AV)),n = x.ins.length + 1 - k ∧ k ≤ x.ins.length + 1 ∧ F = [(5,grV 0 l),(6,.int .i64 i),(15,sl c.nc (c.nodes.map Nd.enc)),(16,.int .i64 c.nodes.length),(17,.int .i64 i),(25,.int .i64 (x.ins.length + 1:Nat)),(26,.int .i64 k)] ∧ H = grH 2 l ∧ FlatR l ∧ l.length ≤ 20 * i + k) (x.ins.length + 1 - 0) ?_ ?_
    ·refine ⟨_,_,?_,0,[],rfl,Nat.zero_le _,rfl,rfl,hfl,hll⟩
     (simp +decide only [go_sem,a02,a00,a0q,a0r,h1,h2]<;>rfl)<;>rfl
    ·
     clear hll hfl h1 h2
     rintro n F H ⟨k,l,rfl,hk,rfl,rfl,hfl,hll⟩
     by_cases hkl:k < x.ins.length + 1
     ·have c2:(k:Int) < ((x.ins.length + 1:Nat):Int):=by omega
      have hw2:=wI1 (n:=k) (by omega)
      have hw3:IntKind.i64.wrap ((k:Int) - 1) = (k:Int) - 1:=w64 (by omega) (by omega)
      have h1:=a03 hfl
      have h2:=fun π=>a01 π hfl
      have hf2:FlatR (l ++ [[.int .i64 i,.int .i64 ((k:Int) - 1)]]):=hfl.append (FlatR.cons rfl FlatR.nil)
      cases l with
      | nil=>
       (repeat first|simp only [ww]|(apply xa;simp +decide only [go_sem,c2,hw2,hw3,a0q,a0r];rfl;kernel_rfl))
       refine a12 (x.ins.length + 1 - (k + 1)) (by omega) ⟨_,_,?_,k + 1,_,rfl,hkl,rfl,rfl,hf2,by simp;omega⟩
       (simp +decide only [go_sem,a02,a00,a0a,a0b,List.nil_append,List.length_nil]<;>rfl)<;>rfl
      | cons a r=>
       simp only [List.length_cons] at hll
       have hrm:r.length + 1 + 1 ≤ 1000000000:=by omega
       simp only [List.flatMap_cons] at h1
       simp only [List.map_cons,List.cons.injEq] at h2
       (repeat first|simp only [ww]|(apply xa;simp +decide only [go_sem,c2,hw2,hw3,a0a,a0b,hrm];rfl;kernel_rfl))
       refine a12 (x.ins.length + 1 - (k + 1)) (by omega) ⟨_,_,?_,k + 1,_,rfl,hkl,rfl,rfl,hf2,by simp;omega⟩
       (simp +decide only [go_sem,a02,a00,a0a,a0b,List.cons_append,h1,h2]<;>rfl)<;>rfl
     ·obtain rfl:k = x.ins.length + 1:=by omega
      have c2:¬ (((x.ins.length + 1:Nat):Int) < ((x.ins.length + 1:Nat):Int)):=by omega
      have h1:=a03 hfl
      have h2:=fun π=>a01 π hfl
      (repeat first|simp only [ww]|(apply xa;simp +decide only [go_sem,c2,hw];rfl;kernel_rfl))
      refine a12 (c.nodes.length - (i + 1)) (by omega) ⟨_,_,?_,i + 1,l,rfl,hlt,rfl,rfl,hfl,by omega⟩
      cases l with
      | nil=>(simp +decide only [go_sem,a02,a00,a0q,a0r]<;>rfl)<;>rfl
      | cons a r=>
       simp only [List.flatMap_cons] at h1
       simp only [List.map_cons,List.cons.injEq] at h2
       (simp +decide only [go_sem,a02,a00,a0a,a0b,h1,h2]<;>rfl)<;>rfl
   | cons a r=>
    simp only [List.flatMap_cons] at h1
    simp only [List.map_cons,List.cons.injEq] at h2
    (repeat first|simp only [ww]|(apply xa;simp +decide only [go_sem,c1,hlt,hx,hw,hwl,a0a,a0b];rfl;kernel_rfl))
    refine a24 kp79_2 (fun n F H=>∃ (k:Nat) (l:List (List AV)),n = x.ins.length + 1 - k ∧ k ≤ x.ins.length + 1 ∧ F = [(5,grV 0 l),(6,.int .i64 i),(15,sl c.nc (c.nodes.map Nd.enc)),(16,.int .i64 c.nodes.length),(17,.int .i64 i),(25,.int .i64 (x.ins.length + 1:Nat)),(26,.int .i64 k)] ∧ H = grH 2 l ∧ FlatR l ∧ l.length ≤ 20 * i + k) (x.ins.length + 1 - 0) ?_ ?_
    ·refine ⟨_,_,?_,0,(a :: r),rfl,Nat.zero_le _,rfl,rfl,hfl,hll⟩
     (simp +decide only [go_sem,a02,a00,a0a,a0b,h1,h2]<;>rfl)<;>rfl
    ·
     clear hll hfl h1 h2
     rintro n F H ⟨k,l,rfl,hk,rfl,rfl,hfl,hll⟩
     by_cases hkl:k < x.ins.length + 1
     ·have c2:(k:Int) < ((x.ins.length + 1:Nat):Int):=by omega
      have hw2:=wI1 (n:=k) (by omega)
      have hw3:IntKind.i64.wrap ((k:Int) - 1) = (k:Int) - 1:=w64 (by omega) (by omega)
      have h1:=a03 hfl
      have h2:=fun π=>a01 π hfl
      have hf2:FlatR (l ++ [[.int .i64 i,.int .i64 ((k:Int) - 1)]]):=hfl.append (FlatR.cons rfl FlatR.nil)
      cases l with
      | nil=>
       (repeat first|simp only [ww]|(apply xa;simp +decide only [go_sem,c2,hw2,hw3,a0q,a0r];rfl;kernel_rfl))
       refine a12 (x.ins.length + 1 - (k + 1)) (by omega) ⟨_,_,?_,k + 1,_,rfl,hkl,rfl,rfl,hf2,by simp;omega⟩
       (simp +decide only [go_sem,a02,a00,a0a,a0b,List.nil_append,List.length_nil]<;>rfl)<;>rfl
      | cons a r=>
       simp only [List.length_cons] at hll
       have hrm:r.length + 1 + 1 ≤ 1000000000:=by omega
       simp only [List.flatMap_cons] at h1
       simp only [List.map_cons,List.cons.injEq] at h2
       (repeat first|simp only [ww]|(apply xa;simp +decide only [go_sem,c2,hw2,hw3,a0a,a0b,hrm];rfl;kernel_rfl))
       refine a12 (x.ins.length + 1 - (k + 1)) (by omega) ⟨_,_,?_,k + 1,_,rfl,hkl,rfl,rfl,hf2,by simp;omega⟩
       (simp +decide only [go_sem,a02,a00,a0a,a0b,List.cons_append,h1,h2]<;>rfl)<;>rfl
     ·obtain rfl:k = x.ins.length + 1:=by omega
      have c2:¬ (((x.ins.length + 1:Nat):Int) < ((x.ins.length + 1:Nat):Int)):=by omega
      have h1:=a03 hfl
      have h2:=fun π=>a01 π hfl
      (repeat first|simp only [ww]|(apply xa;simp +decide only [go_sem,c2,hw];rfl;kernel_rfl))
      refine a12 (c.nodes.length - (i + 1)) (by omega) ⟨_,_,?_,i + 1,l,rfl,hlt,rfl,rfl,hfl,by omega⟩
      cases l with
      | nil=>(simp +decide only [go_sem,a02,a00,a0q,a0r]<;>rfl)<;>rfl
      | cons a r=>
       simp only [List.flatMap_cons] at h1
       simp only [List.map_cons,List.cons.injEq] at h2
       (simp +decide only [go_sem,a02,a00,a0a,a0b,h1,h2]<;>rfl)<;>rfl
  ·obtain rfl:i = c.nodes.length:=by omega
   have c1:¬ (c.nodes.length:Int) < c.nodes.length:=by omega
   cases l with
   | nil=>
    have hcl:=fun H=>b3g (d:=false) H
    (repeat first|simp only [ww]|(apply xa;simp +decide only [go_sem,c1,a0q,a0r,hcl];rfl;kernel_rfl))
    refine a4s (vs:=[.nilslice,.int .i64 0]) (r:=(.tuple [.nilslice,.int .i64 0],[])) (by simp +decide only [go_sem]) ?_ ⟨.nilslice,rfl,rfl⟩
    simp +decide only [go_sem]
   | cons a r=>
    have hcl:=b5c (d:=false) (H:=[some (.row 2 (a :: r))]) (b:=0) (n:=r.length + 1) hfl rfl
    have hz:∀ m d,a7m m d (a :: r) = some (a :: r):=fun m d=>a0s m d hfl
    (repeat first|simp only [ww]|(apply xa;simp +decide only [go_sem,c1,a0a,a0b,hcl];rfl;kernel_rfl))
    refine a4s (vs:=[.slice 0 0 (r.length + 1) (some (r.length + 1)),.int .i64 0]) (r:=(.tuple [.islice (a :: r) (some (r.length + 1)),.int .i64 0],[])) (by simp +decide only [go_sem]) ?_ ⟨.islice (a :: r) (some (r.length + 1)),rfl,rfl⟩
    show a2a false 0 (.tuple [.slice 0 0 (r.length + 1) (some (r.length + 1)),.int .i64 0]) _ = _
    have htk:List.take (r.length + 1) (a :: r) = a :: r:=List.take_length (l:=a :: r)
    rw [a87,b8d,a85,a6s,decide_eq_false (Nat.not_lt_zero 0),cond_false,a5c (eq_true (by omega:0 < 12))]
    have hb:a04 [some (AObj.row 2 (a :: r))] 0 = some (.row 2 (a :: r)):=rfl
    rw [hb]
    simp only [a7t,a0j,List.drop_zero,Nat.zero_add,List.length_cons,htk,hz,decide_true,cond_true,Nat.le_refl]
    rfl
theorem c3k (c:Cir) (h:c.wf):∃ v,∀ (d:Bool) (H:a06),a0e L.env d (sem L.env Mf) (.func (.func 79) [] []) [.agg c.enc] H = some (.tuple [v,.int .i64 0],H,[]):=by
 obtain ⟨r,⟨v,h1,rfl⟩,h2⟩:=d14 c h
 exact ⟨v,fun d H=>a05 (by kernel_rfl) (by kernel_rfl) rfl (a3w c) h2 (by simp only [b4k,a0c,a3d,h1];rfl)⟩
theorem c28 (l:List Flt):(l.map Flt.enc).flatMap a0d = []:=a03 (FlatR.map fun _=>rfl)
theorem c5w (π:Nat → Option Nat) (l:List Flt):(l.map Flt.enc).map (fun r=>r.map (ren π)) = l.map Flt.enc:=a01 π (FlatR.map fun _=>rfl)
theorem d4d (l:List Pat):FlatR (l.map Pat.enc):=FlatR.map fun _=>by simp only [Pat.enc,go_sem]
theorem c27 (l:List Pat):(l.map Pat.enc).flatMap a0d = []:=a03 (d4d l)
theorem c5v (π:Nat → Option Nat) (l:List Pat):(l.map Pat.enc).map (fun r=>r.map (ren π)) = l.map Pat.enc:=a01 π (d4d l)
theorem d6b (c:Cir) (h:c.wf) (rl rt:Rep) (l:List Flt) (tests:List Pat) (hl:l.length ≤ 65536) (ht:tests.length ≤ 4096) (hf:∀ f ∈ l,FltOk c.nodes f) (hp:∀ p ∈ tests,PatOk c.nodes p) :
 sem L.env Mf 50 [.agg c.enc,sl rl (l.map Flt.enc),sl rt (tests.map Pat.enc)] [] = some (.int .i64 0,[]):=by
 have c1:¬ (65536:Int) < l.length:=by omega
 have c2:¬ (4096:Int) < tests.length:=by omega
 obtain ⟨v,hv⟩:=c3k c h
 have hv:=hv false
 have hfc:=fun H f hf=>c0f (d:=false) H c h f hf
 have hsc:=fun H p hp=>b9o (d:=false) H c h p hp
 simp only [Cir.enc] at hv hfc hsc ⊢
 (refine sv Tryz.f50 ?_;simp only [Tryz.f50,gS])
 (repeat first|simp only [ww]|(apply xa;simp +decide only [go_sem,c1,c2,hv];rfl;kernel_rfl))
 refine a0l (σ:=Nat) kp50_0 (fun i=>[(2,sl rt (tests.map Pat.enc)),(3,.ptr 0 0 0),(31,sl rl (l.map Flt.enc)),(32,.int .i64 l.length),(33,.int .i64 i)])
  (fun i=>[some (.row 4 [[sl c.nc (c.nodes.map Nd.enc),sl c.mc (c.names.map a44),.nilslice,sl c.oc (c.outs.map a0n)]])]) (fun i=>l.length - i) (fun i=>i ≤ l.length) 0 ?_ (Nat.zero_le _) ?_
 ·(simp +decide only [go_sem,a02,a00,c28,c5w,c27,c5v]<;>rfl)
 ·intro i hi
  by_cases hlt:i < l.length
  ·obtain ⟨f,hx⟩:∃ f,l[i]? = some f:=⟨_,z9e hlt⟩
   have hfm:=hf f (List.mem_of_getElem? hx)
   have c3:(i:Int) < l.length:=by omega
   have hw:=wI1 (n:=i) (by omega)
   have hcx:=fun H=>hfc H f hfm
   have c4:¬ (f.model:Int) = 1:=by rcases hfm.model with e|e|e<;>omega
   simp only [Flt.enc] at hcx
   (repeat first|simp only [ww]|(apply xa;simp +decide only [go_sem,c3,hlt,hx,hw,hcx,c4];rfl;kernel_rfl))
   refine a1m (i + 1) ?_ (by omega) (by omega)
   (simp +decide only [go_sem,a02,a00,c28,c5w,c27,c5v]<;>rfl)
  ·obtain rfl:i = l.length:=by omega
   have c3:¬ (l.length:Int) < l.length:=by omega
   (repeat first|simp only [ww]|(apply xa;simp +decide only [go_sem,c3];rfl;kernel_rfl))
   refine a0l (σ:=Nat) kp50_2 (fun i=>[(3,.ptr 0 0 0),(47,sl rt (tests.map Pat.enc)),(48,.int .i64 tests.length),(49,.int .i64 i)])
    (fun i=>[some (.row 4 [[sl c.nc (c.nodes.map Nd.enc),sl c.mc (c.names.map a44),.nilslice,sl c.oc (c.outs.map a0n)]])]) (fun i=>tests.length - i) (fun i=>i ≤ tests.length) 0 ?_ (Nat.zero_le _) ?_
   ·(simp +decide only [go_sem,a02,a00,c28,c5w,c27,c5v]<;>rfl)
   ·intro i hi
    by_cases hlt:i < tests.length
    ·obtain ⟨p,hx⟩:∃ p,tests[i]? = some p:=⟨_,z9e hlt⟩
     have hpm:=hp p (List.mem_of_getElem? hx)
     have c3:(i:Int) < tests.length:=by omega
     have hw:=wI1 (n:=i) (by omega)
     have hcx:=fun H=>hsc H p hpm
     simp only [Pat.enc] at hcx
     (repeat first|simp only [ww]|(apply xa;simp +decide only [go_sem,c3,hlt,hx,hw,hcx];rfl;kernel_rfl))
     refine a1m (i + 1) ?_ (by omega) (by omega)
     (simp +decide only [go_sem,a02,a00,c28,c5w,c27,c5v]<;>rfl)
    ·obtain rfl:i = tests.length:=by omega
     have c3:¬ (tests.length:Int) < tests.length:=by omega
     (repeat first|simp only [ww]|(apply xa;simp +decide only [go_sem,c3];rfl;kernel_rfl))
     (apply fqb;simp +decide only [go_sem,c5w,c5v]<;>rfl)
set_option maxHeartbeats 200000000
def a4u (c:Cir) (ord:List Nat) (net pin:AV):List AV:=[sl c.nc (c.nodes.map Nd.enc),sl c.mc (c.names.map a44),.nilslice,sl c.oc (c.outs.map a0n),.islice (ord.map a0n) (some c.nodes.length),c4r (kinds c.nodes 0),c4r (kinds c.nodes 14),net,pin]
theorem d5p (n:Int) (w:W):sem L.env Mf 81 [.int .i64 n,.agg w.enc] [] = some (.agg w.enc,[]):=by
 (refine sv Tryz.f81 ?_;simp only [Tryz.f81,gS])
 (repeat first|simp only [ww]|(apply xa;simp +decide only [go_sem];rfl;kernel_rfl))
 (apply fqb;simp +decide only [go_sem]<;>rfl)
theorem d0c (n p:Int) (w:W):sem L.env Mf 82 [.int .i64 n,.int .i64 p,.agg w.enc] [] = some (.agg w.enc,[]):=by
 (refine sv Tryz.f82 ?_;simp only [Tryz.f82,gS])
 (repeat first|simp only [ww]|(apply xa;simp +decide only [go_sem];rfl;kernel_rfl))
 (apply fqb;simp +decide only [go_sem]<;>rfl)
structure NetF (N:Nat) (f:AV) (g:Nat → W → W):Prop where
 flat:refs f = []
 call:∀ (d:Bool) (H:a06) (n:Nat) (w:W),n < N → a0e L.env d (sem L.env Mf) f [.int .i64 n,.agg w.enc] H = some (.agg (g n w).enc,H,[])
structure PinF (N:Nat) (f:AV) (g:Nat → Nat → W → W):Prop where
 flat:refs f = []
 call:∀ (d:Bool) (H:a06) (n p:Nat) (w:W),n < N → a0e L.env d (sem L.env Mf) f [.int .i64 n,.int .i64 p,.agg w.enc] H = some (.agg (g n p w).enc,H,[])
def net0V:AV:=.func (.func 81) [] []
def pin0V:AV:=.func (.func 82) [] []
theorem e1e (N:Nat):NetF N net0V (hk0:Hk W).net:=⟨rfl,fun d H n w _=>a05 (by kernel_rfl) (by kernel_rfl) rfl rfl (d5p n w) rfl⟩
theorem e0z (N:Nat):PinF N pin0V (hk0:Hk W).pin:=⟨rfl,fun d H n p w _=>a05 (by kernel_rfl) (by kernel_rfl) rfl rfl (d0c n p w) rfl⟩
theorem a73 (c:Cir) (ord:List Nat) (net pin:AV) (h1:refs net = []) (h2:refs pin = []):a0d (a4u c ord net pin) = []:=by
 simp only [a4u,a0c,a2r,a9k,h1,h2,a93,b5w,a3d,List.append_nil]
structure OrdOf (c:Cir) (ord:List Nat):Prop where
 perm:ord.Perm (List.range c.nodes.length)
 topo:e50 c.nodes ord
 call:∀ (d:Bool) (H:a06),a0e L.env d (sem L.env Mf) (.func (.func 61) [] []) [.agg c.enc] H = some (.tuple [.islice (ord.map a0n) (some c.nodes.length),.int .i64 0],H,[])
theorem e13 (c:Cir) (h:c.wf):∃ ord,OrdOf c ord:=by obtain ⟨ord,h1,h2,h3⟩:=c3f c h;exact ⟨ord,h1,h2,h3⟩
theorem d05 (c:Cir) (h:c.wf) (ord:List Nat) (hO:OrdOf c ord):∃ r:AV × a06,(r = (.agg (a4u c ord net0V pin0V),[])) ∧ sem L.env Mf 51 [.agg c.enc] [] = some r:=by
 have hn:=h.len
 have ho:=hO.call false
 have hi:=fun H=>b2x (d:=true) H c (by omega)
 have hs:=fun H=>b20 (d:=true) H c (by omega)
 obtain ⟨r0,e0⟩:=a3b (kinds c.nodes 0)
 obtain ⟨r1,e1⟩:=a3b (kinds c.nodes 14)
 rw [e0] at hi
 rw [e1] at hs
 simp only [Cir.enc] at ho hi hs ⊢
 (refine svE Tryz.f51 ?_;simp only [Tryz.f51,gS])
 (repeat first|simp only [ww]|(apply xa;simp +decide only [go_sem,ho,hi,hs];rfl;kernel_rfl))
 refine a4s (vs:=[.agg (a4u c ord net0V pin0V)]) (r:=(.agg (a4u c ord net0V pin0V),[])) (by unfold a4u net0V pin0V;rw [e0,e1];simp +decide only [go_sem]<;>rfl) ?_ rfl
 show a2a false 0 (.agg (a4u c ord net0V pin0V)) _ = _
 unfold a4u net0V pin0V
 rw [e0,e1]
 simp +decide only [go_sem]<;>rfl
theorem d06 (c:Cir) (h:c.wf) (ord:List Nat) (hO:OrdOf c ord):∀ (d:Bool) (H:a06),a0e L.env d (sem L.env Mf) (.func (.func 51) [] []) [.agg c.enc] H = some (.agg (a4u c ord net0V pin0V),H,[]):=by
 obtain ⟨r,rfl,h3⟩:=d05 c h ord hO
 exact fun d H=>a05 (by kernel_rfl) (by kernel_rfl) rfl (a3w c) h3 (by rw [a10];exact a73 _ _ _ _ rfl rfl)
theorem b38 (l:List W):FlatR (l.map W.enc):=FlatR.map fun _=>rfl
theorem d1x {m:Nat} {d:AV → Option AV} (l:List W):a7m m d (l.map W.enc) = some (l.map W.enc):=a0s m d (b38 l)
theorem d0p (c:Cir) (hc:c.wf) (ord:List Nat) (net pin:AV) (g:Hk W) (h1:refs net = []) (h2:PinF c.nodes.length pin g.pin) (nets:List W) (hl:nets.length = c.nodes.length) (n:Nat) (hn:n < c.nodes.length) :
 sem L.env Mf 127 [.agg (a4u c ord net pin),.slice 0 0 c.nodes.length (some c.nodes.length),.int .i64 n] [some (.row 2 (nets.map W.enc))] = some (sl none ((a1u a1t c.nodes g nets n).map W.enc),[some (.row 2 (nets.map W.enc))]):=by
 have hnl:=hc.len
 obtain ⟨x,hx⟩:∃ x,c.nodes[n]? = some x:=⟨_,z9e hn⟩
 have hxm:=List.mem_of_getElem? hx
 have hil:=hc.insl hxm
 have hrl:(a1u a1t c.nodes g nets n).length = x.ins.length:=by rw [b0j,a2g hx]
 have h3:=h2.flat
 have e1:∀ π,ren π net = net:=fun π=>a2b π _ h1
 have e2:∀ π,ren π pin = pin:=fun π=>a2b π _ h3
 obtain ⟨r0,e3⟩:=a3b (kinds c.nodes 0)
 obtain ⟨r1,e4⟩:=a3b (kinds c.nodes 14)
 unfold a4u
 rw [e3,e4]
 (refine sv Tryz.f127 ?_;simp only [Tryz.f127,gS])
 (repeat first|simp only [ww]|(apply xa;simp +decide only [go_sem,hx,hn];rfl;kernel_rfl))
 refine a0l (σ:=Nat) kp127_0 (fun i=>[(1,.slice 0 0 c.nodes.length (some c.nodes.length)),(2,.int .i64 n),(3,.ptr 1 0 0),(7,grV 2 (((a1u a1t c.nodes g nets n).take i).map W.enc)),(16,sl x.c (x.ins.map a0n)),(17,.int .i64 x.ins.length),(18,.int .i64 i)])
  (fun i=>[some (.row 2 (nets.map W.enc)),some (.row 9 [[sl c.nc (c.nodes.map Nd.enc),sl c.mc (c.names.map a44),.nilslice,sl c.oc (c.outs.map a0n),.islice (ord.map a0n) (some c.nodes.length),sl r0 ((kinds c.nodes 0).map a0n),sl r1 ((kinds c.nodes 14).map a0n),net,pin]])] ++ grH 2 (((a1u a1t c.nodes g nets n).take i).map W.enc)) (fun i=>x.ins.length - i) (fun i=>i ≤ x.ins.length) 0 ?_ (Nat.zero_le _) ?_
 ·(simp +decide only [go_sem,a02,a00,List.take_zero,List.map_nil,a0q,a0r,h1,h3,e1,e2]<;>rfl)
 ·intro i hi
  by_cases hlt:i < x.ins.length
  ·obtain ⟨m,hm⟩:∃ m,x.ins[i]? = some m:=⟨_,z9e hlt⟩
   have hmn:=hc.ins x hxm m (List.mem_of_getElem? hm)
   obtain ⟨w,hw⟩:∃ w,nets[m]? = some w:=⟨_,z9e (by omega)⟩
   have c1:(i:Int) < x.ins.length:=by omega
   have hwi:=wI1 (n:=i) (by omega)
   have hpc:=fun H=>h2.call true H n i w hn
   simp only [W.enc] at hpc
   have hs:=c35 (A:=a1t) (h:=g) (nets:=nets) (by rw [a2g hx];exact hm) hw
   have htl:((a1u a1t c.nodes g nets n).take i).length = i:=by rw [List.length_take];omega
   generalize (a1u a1t c.nodes g nets n).take i = T at hs htl
   cases T with
   | nil=>
    (repeat first|simp only [ww]|(apply xa;simp +decide only [go_sem,c1,hlt,hm,hmn,hw,hwi,hpc,hl,List.map_nil,a0q,a0r];rfl;kernel_rfl))
    refine a1m (i + 1) ?_ (by omega) (by omega)
    rw [hs]
    (simp +decide only [go_sem,a02,a00,List.map_cons,List.map_nil,List.nil_append,a0a,a0b,List.length_nil,h1,h3,e1,e2,a39,a54]<;>rfl)
   | cons a r=>
    simp only [List.length_cons] at htl
    have hrm:r.length + 1 + 1 ≤ 1000000000:=by omega
    (repeat first|simp only [ww]|(apply xa;simp +decide only [go_sem,c1,hlt,hm,hmn,hw,hwi,hpc,hl,List.map_cons,a0a,a0b,hrm,List.length_cons];rfl;kernel_rfl))
    refine a1m (i + 1) ?_ (by omega) (by omega)
    rw [hs]
    (simp +decide only [go_sem,a02,a00,List.map_cons,List.map_nil,List.cons_append,a0a,a0b,List.length_cons,h1,h3,e1,e2,a39,a54]<;>rfl)
  ·obtain rfl:i = x.ins.length:=by omega
   have c1:¬ (x.ins.length:Int) < x.ins.length:=by omega
   rw [List.take_of_length_le (by omega)]
   generalize a1u a1t c.nodes g nets n = T
   cases T with
   | nil=>
    (repeat first|simp only [ww]|(apply xa;simp +decide only [go_sem,c1,List.map_nil,a0q,a0r];rfl;kernel_rfl))
    (apply fqb;simp +decide only [go_sem,a54,List.map_nil]<;>rfl)
   | cons a r=>
    (repeat first|simp only [ww]|(apply xa;simp +decide only [go_sem,c1,List.map_cons,a0a,a0b];rfl;kernel_rfl))
    (apply fqb;simp +decide only [go_sem,a54,d1x,List.map_cons,a5x]<;>rfl)
theorem c36 {d:Bool} {H:a06} {b:Nat} (c:Cir) (hc:c.wf) (ord:List Nat) (net pin:AV) (g:Hk W) (h1:refs net = []) (h2:PinF c.nodes.length pin g.pin) (nets:List W) (hl:nets.length = c.nodes.length) (n:Nat) (hn:n < c.nodes.length) (hb:a04 H b = some (.row 2 (nets.map W.enc))) :
 a0e L.env d (sem L.env Mf) (.func (.func 127) [] []) [.agg (a4u c ord net pin),.slice b 0 c.nodes.length (some c.nodes.length),.int .i64 n] H = some (sl none ((a1u a1t c.nodes g nets n).map W.enc),H,[b]):=by
 have he:=a73 c ord net pin h1 h2.flat
 exact a3f (E:=L.env) (draw:=d) (call:=sem L.env Mf) (g:=127) (fs:=[]) (cs:=[]) (ar:=[.agg (a4u c ord net pin),.slice b 0 c.nodes.length (some c.nodes.length),.int .i64 n]) (H:=H) (b:=b) (by kernel_rfl) (by kernel_rfl) rfl hb (a0t (b38 nets)) (FlatO.row (b38 nets)) (by simp only [List.nil_append,List.append_nil,a0c,a10,he,a6o,b1j,a3d]) (args':=[.agg (a4u c ord net pin),.slice 0 0 c.nodes.length (some c.nodes.length),.int .i64 n]) (by simp only [List.nil_append,List.append_nil,List.map_cons,List.map_nil,a59,a2b _ (.agg (a4u c ord net pin)) (by rw [a10];exact he),a2b _ (.int .i64 (n:Int)) rfl]) (d0p c hc ord net pin g h1 h2 nets hl n hn) (a2r _ _)
theorem c40 {d:Bool} (H:a06) (r:Rep) (k:Nat) (hk:k < 16) (l:List W) (hl:l.length < 1000):a0e L.env d (sem L.env Mf) (.func (.func 126) [] []) [.int .u8 k,sl r (l.map W.enc)] H = some (.agg (a3t k l).enc,H,[]):=
 a05 (by kernel_rfl) (by kernel_rfl) rfl (by simp only [List.nil_append,List.append_nil,a0c,go_sem]) (d27 r k hk l hl) rfl
theorem b2t {nodes:List Nd} {k i n:Nat} (h:(kinds nodes k)[i]? = some n):n < nodes.length ∧ a1h nodes n = k:=by
 have:=List.mem_of_getElem? h
 unfold kinds a3l at this
 rw [List.mem_filter] at this
 exact ⟨by simpa using this.1,by simpa using this.2⟩
def a2i (c:Cir) (ord:List Nat):Sim:=⟨c.nodes,ord,kinds c.nodes 0,kinds c.nodes 14,c.outs⟩
theorem e0q (c:Cir) (hc:c.wf) (ord:List Nat) (ho:∀ n ∈ ord,n < c.nodes.length) (hol:ord.length ≤ 1000) (net pin:AV) (g:Hk W) (h0:NetF c.nodes.length net g.net) (h2:PinF c.nodes.length pin g.pin) (ri rs:Rep) (vi vs:List W) (hvi:vi.length = (kinds c.nodes 0).length) (hvs:vs.length = (kinds c.nodes 14).length) :
 sem L.env Mf 86 [.agg (a4u c ord net pin),sl ri (vi.map W.enc),sl rs (vs.map W.enc)] [] = some (.tuple [.islice (((a2i c ord).nets a1t g vi vs).map W.enc) (some c.nodes.length),sl none (((a2i c ord).seen a1t g ((a2i c ord).nets a1t g vi vs)).map W.enc)],[]):=by
 have hnl:=hc.len
 have h1:=h0.flat
 have h3:=h2.flat
 have e1:∀ π,ren π net = net:=fun π=>a2b π _ h1
 have e2:∀ π,ren π pin = pin:=fun π=>a2b π _ h3
 obtain ⟨r0,e3⟩:=a3b (kinds c.nodes 0)
 obtain ⟨r1,e4⟩:=a3b (kinds c.nodes 14)
 have hk0:=a63 c.nodes 0
 have hk14:=a63 c.nodes 14
 have hrm:c.nodes.length ≤ 1000000000:=by omega
 have hrd:=fun (H:a06) (b:Nat) nets hl n hn hb=>c36 (d:=false) (H:=H) (b:=b) c hc ord net pin g h1 h2 nets hl n hn hb
 unfold a4u at hrd ⊢
 rw [e3,e4] at hrd ⊢
 (refine sv Tryz.f86 ?_;simp only [Tryz.f86,gS])
 (repeat first|simp only [ww]|(apply xa;simp +decide only [go_sem,hrm];rfl;kernel_rfl))
 refine a0l (σ:=Nat) kp86_0 (fun i=>[(1,sl ri (vi.map W.enc)),(2,sl rs (vs.map W.enc)),(3,.ptr 0 0 0),(6,.slice 1 0 c.nodes.length (some c.nodes.length)),(7,.nilslice),(25,sl r0 ((kinds c.nodes 0).map a0n)),(26,.int .i64 (kinds c.nodes 0).length),(27,.int .i64 i)])
  (fun i=>[some (.row 9 [[sl c.nc (c.nodes.map Nd.enc),sl c.mc (c.names.map a44),.nilslice,sl c.oc (c.outs.map a0n),.islice (ord.map a0n) (some c.nodes.length),sl r0 ((kinds c.nodes 0).map a0n),sl r1 ((kinds c.nodes 14).map a0n),net,pin]]),some (.row 2 ((a68 (List.replicate c.nodes.length zW) ((kinds c.nodes 0).take i) (vi.take i)).map W.enc))]) (fun i=>(kinds c.nodes 0).length - i) (fun i=>i ≤ (kinds c.nodes 0).length) 0 ?_ (Nat.zero_le _) ?_
 ·rw [List.take_zero,List.take_zero,show a68 (List.replicate c.nodes.length zW) [] [] = List.replicate c.nodes.length zW from rfl]
  (simp +decide only [go_sem,a02,a00,h1,h3,e1,e2,a39,a54,zW]<;>rfl)<;>rfl
 ·intro i hi
  have hll:=a7y ((kinds c.nodes 0).take i) (vi.take i) (List.replicate c.nodes.length zW)
  rw [List.length_replicate] at hll
  by_cases hlt:i < (kinds c.nodes 0).length
  ·obtain ⟨n,hn⟩:∃ n,(kinds c.nodes 0)[i]? = some n:=⟨_,z9e hlt⟩
   obtain ⟨w,hw⟩:∃ w,vi[i]? = some w:=⟨_,z9e (by omega)⟩
   have hnn:=(b2t hn).1
   have hs:=b4t (nets:=List.replicate c.nodes.length zW) hn hw
   have c1:(i:Int) < (kinds c.nodes 0).length:=by omega
   have hwi:=wI1 (n:=i) (by omega)
   have hiv:i < vi.length:=by omega
   generalize a68 (List.replicate c.nodes.length zW) ((kinds c.nodes 0).take i) (vi.take i) = N at hs hll
   obtain ⟨w0,hw0⟩:∃ w,N[n]? = some w:=⟨_,z9e (by omega)⟩
   have hst:(N.map W.enc).set n [u64 w.one,u64 w.zero] = (N.set n w).map W.enc:=by rw [List.map_set];rfl
   (repeat first|simp only [ww]|(apply xa;simp +decide only [go_sem,c1,hlt,hn,hw,hnn,hwi,hiv,hll,hw0,hst];rfl;kernel_rfl))
   refine a1m (i + 1) ?_ (by omega) (by omega)
   rw [hs]
   (simp +decide only [go_sem,a02,a00,h1,h3,e1,e2,a39,a54]<;>rfl)<;>rfl
  have hie:i = (kinds c.nodes 0).length:=by omega
  subst hie
  have c1:¬ ((kinds c.nodes 0).length:Int) < (kinds c.nodes 0).length:=by omega
  rw [List.take_length,List.take_of_length_le (by omega)] at hll ⊢
  generalize hN0:a68 (List.replicate c.nodes.length zW) (kinds c.nodes 0) vi = N0 at hll ⊢
  (repeat first|simp only [ww]|(apply xa;simp +decide only [go_sem,c1];rfl;kernel_rfl))
  refine a0l (σ:=Nat) kp86_2 (fun i=>[(2,sl rs (vs.map W.enc)),(3,.ptr 0 0 0),(6,.slice 1 0 c.nodes.length (some c.nodes.length)),(7,.nilslice),(41,sl r1 ((kinds c.nodes 14).map a0n)),(42,.int .i64 (kinds c.nodes 14).length),(43,.int .i64 i)])
   (fun i=>[some (.row 9 [[sl c.nc (c.nodes.map Nd.enc),sl c.mc (c.names.map a44),.nilslice,sl c.oc (c.outs.map a0n),.islice (ord.map a0n) (some c.nodes.length),sl r0 ((kinds c.nodes 0).map a0n),sl r1 ((kinds c.nodes 14).map a0n),net,pin]]),some (.row 2 ((a68 N0 ((kinds c.nodes 14).take i) (vs.take i)).map W.enc))]) (fun i=>(kinds c.nodes 14).length - i) (fun i=>i ≤ (kinds c.nodes 14).length) 0 ?_ (Nat.zero_le _) ?_
  ·rw [List.take_zero,List.take_zero,show a68 N0 [] [] = N0 from rfl]
   (simp +decide only [go_sem,a02,a00,h1,h3,e1,e2,a39,a54]<;>rfl)<;>rfl
  ·intro i hi
   have hll2:=a7y ((kinds c.nodes 14).take i) (vs.take i) N0
   rw [hll] at hll2
   by_cases hlt:i < (kinds c.nodes 14).length
   ·obtain ⟨n,hn⟩:∃ n,(kinds c.nodes 14)[i]? = some n:=⟨_,z9e hlt⟩
    obtain ⟨w,hw⟩:∃ w,vs[i]? = some w:=⟨_,z9e (by omega)⟩
    have hnn:=(b2t hn).1
    have hs:=b4t (nets:=N0) hn hw
    have c1:(i:Int) < (kinds c.nodes 14).length:=by omega
    have hwi:=wI1 (n:=i) (by omega)
    have hiv:i < vs.length:=by omega
    generalize a68 N0 ((kinds c.nodes 14).take i) (vs.take i) = N at hs hll2
    obtain ⟨w0,hw0⟩:∃ w,N[n]? = some w:=⟨_,z9e (by omega)⟩
    have hst:(N.map W.enc).set n [u64 w.one,u64 w.zero] = (N.set n w).map W.enc:=by rw [List.map_set];rfl
    (repeat first|simp only [ww]|(apply xa;simp +decide only [go_sem,c1,hlt,hn,hw,hnn,hwi,hiv,hll2,hw0,hst];rfl;kernel_rfl))
    refine a1m (i + 1) ?_ (by omega) (by omega)
    rw [hs]
    (simp +decide only [go_sem,a02,a00,h1,h3,e1,e2,a39,a54]<;>rfl)<;>rfl
   have hie:i = (kinds c.nodes 14).length:=by omega
   subst hie
   have c1:¬ ((kinds c.nodes 14).length:Int) < (kinds c.nodes 14).length:=by omega
   rw [List.take_length,List.take_of_length_le (by omega)] at hll2 ⊢
   generalize hN1:a68 N0 (kinds c.nodes 14) vs = N1 at hll2 ⊢
   (repeat first|simp only [ww]|(apply xa;simp +decide only [go_sem,c1];rfl;kernel_rfl))
   refine a0l (σ:=Nat) kp86_4 (fun i=>[(3,.ptr 0 0 0),(6,.slice 1 0 c.nodes.length (some c.nodes.length)),(7,.nilslice),(57,.islice (ord.map a0n) (some c.nodes.length)),(58,.int .i64 ord.length),(59,.int .i64 i)])
    (fun i=>[some (.row 9 [[sl c.nc (c.nodes.map Nd.enc),sl c.mc (c.names.map a44),.nilslice,sl c.oc (c.outs.map a0n),.islice (ord.map a0n) (some c.nodes.length),sl r0 ((kinds c.nodes 0).map a0n),sl r1 ((kinds c.nodes 14).map a0n),net,pin]]),some (.row 2 (((ord.take i).foldl (Pc.stepG a1t c.nodes g) N1).map W.enc))]) (fun i=>ord.length - i) (fun i=>i ≤ ord.length) 0 ?_ (Nat.zero_le _) ?_
   ·rw [List.take_zero,List.foldl_nil]
    (simp +decide only [go_sem,a02,a00,h1,h3,e1,e2,a39,a54]<;>rfl)<;>rfl
   ·intro i hi
    have hll3:=c23 (A:=a1t) (nodes:=c.nodes) (h:=g) (ord.take i) N1
    rw [hll2] at hll3
    by_cases hlt:i < ord.length
    ·obtain ⟨n,hn⟩:∃ n,ord[i]? = some n:=⟨_,z9e hlt⟩
     have hnn:=ho n (List.mem_of_getElem? hn)
     obtain ⟨x,hx⟩:∃ x,c.nodes[n]? = some x:=⟨_,z9e hnn⟩
     have hxm:=List.mem_of_getElem? hx
     have hs:=c7q (A:=a1t) (nodes:=c.nodes) (h:=g) (nets:=N1) hn
     have c1:(i:Int) < ord.length:=by omega
     have hwi:=wI1 (n:=i) (by omega)
     have k14:=hc.kind x hxm
     have hil:=hc.insl hxm
     generalize (ord.take i).foldl (Pc.stepG a1t c.nodes g) N1 = N at hs hll3
     obtain ⟨w0,hw0⟩:∃ w,N[n]? = some w:=⟨_,z9e (by omega)⟩
     have hka:=a1k hx
     by_cases hk:x.kind ≠ 0 ∧ x.kind ≠ 14
     ·have c2:¬ (x.kind:Int) = 0:=by omega
      have c3:¬ (x.kind:Int) = 14:=by omega
      have hrl:(a1u a1t c.nodes g N n).length = x.ins.length:=by rw [b0j,a2g hx]
      have hrd1:=hrd [some (.row 9 [[sl c.nc (c.nodes.map Nd.enc),sl c.mc (c.names.map a44),.nilslice,sl c.oc (c.outs.map a0n),.islice (ord.map a0n) (some c.nodes.length),sl r0 ((kinds c.nodes 0).map a0n),sl r1 ((kinds c.nodes 14).map a0n),net,pin]]),some (.row 2 (N.map W.enc))] 1 N hll3 n hnn rfl
      have hev:=fun H=>c40 (d:=false) H none x.kind (by omega) (a1u a1t c.nodes g N n) (by omega)
      have hstep:Pc.stepG a1t c.nodes g N n = N.set n (g.net n (a3t x.kind (a1u a1t c.nodes g N n))):=by unfold Pc.stepG;rw [hka,if_pos hk];rfl
      rw [hstep] at hs
      generalize a3t x.kind (a1u a1t c.nodes g N n) = v at hev hs
      generalize a1u a1t c.nodes g N n = R at hrd1 hev hrl
      have hnc:=fun H=>h0.call true H n v hnn
      have hst:(N.map W.enc).set n [u64 v.one,u64 v.zero] = (N.set n v).map W.enc:=by rw [List.map_set];rfl
      have hgv:(N.set n v)[n]? = some v:=by rw [List.getElem?_set];simp;omega
      have hlv:(N.set n v).length = c.nodes.length:=by rw [List.length_set];exact hll3
      generalize hw:g.net n v = w at hs hnc
      have hst2:((N.set n v).map W.enc).set n [u64 w.one,u64 w.zero] = (N.set n w).map W.enc:=by
       rw [show [u64 w.one,u64 w.zero] = W.enc w from rfl,← List.map_set,List.set_set]
      simp only [W.enc] at hnc hev
      (repeat first|simp only [ww]|(apply xa;simp +decide only [go_sem,c1,hlt,hn,hnn,hx,hwi,c2,c3,hll3,hw0,hrd1,hev,hst,hgv,hlv,hnc,hst2];rfl;kernel_rfl))
      refine a1m (i + 1) ?_ (by omega) (by omega)
      rw [hs]
      (simp +decide only [go_sem,a02,a00,h1,h3,e1,e2,a39,a54]<;>rfl)<;>rfl
     ·have hstep:Pc.stepG a1t c.nodes g N n = N.set n (g.net n w0):=by
       unfold Pc.stepG;rw [hka,if_neg hk,List.getD,hw0];rfl
      rw [hstep] at hs
      have hnc:=fun H=>h0.call true H n w0 hnn
      generalize hw:g.net n w0 = w at hs hnc
      have hst2:(N.map W.enc).set n [u64 w.one,u64 w.zero] = (N.set n w).map W.enc:=by rw [List.map_set];rfl
      simp only [W.enc] at hnc
      have hk':x.kind = 0 ∨ x.kind = 14:=by omega
      rcases hk' with hk'|hk'
      ·have c2:decide ((x.kind:Int) = 0) = true:=decide_eq_true (by omega)
       (repeat first|simp only [ww]|(apply xa;simp +decide only [go_sem,c1,hlt,hn,hnn,hx,hwi,c2,hll3,hw0,hnc,hst2];rfl;kernel_rfl))
       refine a1m (i + 1) ?_ (by omega) (by omega)
       rw [hs]
       (simp +decide only [go_sem,a02,a00,h1,h3,e1,e2,a39,a54]<;>rfl)<;>rfl
      ·have c2:¬ (x.kind:Int) = 0:=by omega
       have c3:decide ((x.kind:Int) = 14) = true:=decide_eq_true (by omega)
       (repeat first|simp only [ww]|(apply xa;simp +decide only [go_sem,c1,hlt,hn,hnn,hx,hwi,c2,c3,hll3,hw0,hnc,hst2];rfl;kernel_rfl))
       refine a1m (i + 1) ?_ (by omega) (by omega)
       rw [hs]
       (simp +decide only [go_sem,a02,a00,h1,h3,e1,e2,a39,a54]<;>rfl)<;>rfl
    have hie:i = ord.length:=by omega
    subst hie
    have c1:¬ (ord.length:Int) < ord.length:=by omega
    rw [List.take_length] at hll3 ⊢
    have hNN:(a2i c ord).nets a1t g vi vs = ord.foldl (Pc.stepG a1t c.nodes g) N1:=by rw [← hN1,← hN0];rfl
    rw [hNN]
    generalize ord.foldl (Pc.stepG a1t c.nodes g) N1 = N at hll3 ⊢
    clear hN0 hN1 hll hll2 hNN hrm
    (repeat first|simp only [ww]|(apply xa;simp +decide only [go_sem,c1];rfl;kernel_rfl))
    refine a0l (σ:=Nat) kp86_6 (fun i=>[(3,.ptr 0 0 0),(6,.slice 1 0 c.nodes.length (some c.nodes.length)),(7,grV 2 (((c.outs.take i).map fun n=>N.getD n zW).map W.enc)),(99,sl c.oc (c.outs.map a0n)),(100,.int .i64 c.outs.length),(101,.int .i64 i)])
     (fun i=>[some (.row 9 [[sl c.nc (c.nodes.map Nd.enc),sl c.mc (c.names.map a44),.nilslice,sl c.oc (c.outs.map a0n),.islice (ord.map a0n) (some c.nodes.length),sl r0 ((kinds c.nodes 0).map a0n),sl r1 ((kinds c.nodes 14).map a0n),net,pin]]),some (.row 2 (N.map W.enc))] ++ grH 2 (((c.outs.take i).map fun n=>N.getD n zW).map W.enc)) (fun i=>c.outs.length - i) (fun i=>i ≤ c.outs.length) 0 ?_ (Nat.zero_le _) ?_
    ·(simp +decide only [go_sem,a02,a00,List.take_zero,List.map_nil,a0q,a0r,h1,h3,e1,e2,a39,a54]<;>rfl)<;>rfl
    ·intro i hi
     have hoo:=hc.outl
     by_cases hlt:i < c.outs.length
     ·obtain ⟨n,hn⟩:∃ n,c.outs[i]? = some n:=⟨_,z9e hlt⟩
      have hnn:=hc.outs n (List.mem_of_getElem? hn)
      obtain ⟨w,hw⟩:∃ w,N[n]? = some w:=⟨_,z9e (by omega)⟩
      have hs:(c.outs.take (i + 1)).map (fun n=>N.getD n zW) = (c.outs.take i).map (fun n=>N.getD n zW) ++ [w]:=by rw [a15 hn,List.map_append];simp [hw]
      have c1:(i:Int) < c.outs.length:=by omega
      have hwi:=wI1 (n:=i) (by omega)
      have htl:((c.outs.take i).map fun n=>N.getD n zW).length = i:=by rw [List.length_map,List.length_take];omega
      generalize (c.outs.take i).map (fun n=>N.getD n zW) = T at hs htl
      cases T with
      | nil=>
       (repeat first|simp only [ww]|(apply xa;simp +decide only [go_sem,c1,hlt,hn,hnn,hw,hwi,hll3,List.map_nil,a0q,a0r];rfl;kernel_rfl))
       refine a1m (i + 1) ?_ (by omega) (by omega)
       rw [hs]
       (simp +decide only [go_sem,a02,a00,List.map_cons,List.map_nil,List.nil_append,a0a,a0b,List.length_nil,h1,h3,e1,e2,a39,a54]<;>rfl)<;>rfl
      | cons a r=>
       simp only [List.length_cons] at htl
       have hrm:r.length + 1 + 1 ≤ 1000000000:=by omega
       (repeat first|simp only [ww]|(apply xa;simp +decide only [go_sem,c1,hlt,hn,hnn,hw,hwi,hll3,hrm,List.map_cons,a0a,a0b,List.length_cons];rfl;kernel_rfl))
       refine a1m (i + 1) ?_ (by omega) (by omega)
       rw [hs]
       (simp +decide only [go_sem,a02,a00,List.map_cons,List.map_nil,List.cons_append,a0a,a0b,List.length_cons,h1,h3,e1,e2,a39,a54]<;>rfl)<;>rfl
     have hie:i = c.outs.length:=by omega
     subst hie
     have c1:¬ (c.outs.length:Int) < c.outs.length:=by omega
     rw [List.take_length]
     have hseen:(a2i c ord).seen a1t g N = (c.outs.map fun n=>N.getD n zW) ++ (kinds c.nodes 14).map (fun n=>(a1u a1t c.nodes g N n).getD 0 zW):=rfl
     rw [hseen]
     have hol2:(c.outs.map fun n=>N.getD n zW).length = c.outs.length:=List.length_map ..
     generalize c.outs.map (fun n=>N.getD n zW) = O at hol2
     (repeat first|simp only [ww]|(apply xa;simp +decide only [go_sem,c1];rfl;kernel_rfl))
     refine a0l (σ:=Nat) kp86_8 (fun i=>[(3,.ptr 0 0 0),(6,.slice 1 0 c.nodes.length (some c.nodes.length)),(7,grV 2 ((O ++ ((kinds c.nodes 14).take i).map fun n=>(a1u a1t c.nodes g N n).getD 0 zW).map W.enc)),(114,sl r1 ((kinds c.nodes 14).map a0n)),(115,.int .i64 (kinds c.nodes 14).length),(116,.int .i64 i)])
      (fun i=>[some (.row 9 [[sl c.nc (c.nodes.map Nd.enc),sl c.mc (c.names.map a44),.nilslice,sl c.oc (c.outs.map a0n),.islice (ord.map a0n) (some c.nodes.length),sl r0 ((kinds c.nodes 0).map a0n),sl r1 ((kinds c.nodes 14).map a0n),net,pin]]),some (.row 2 (N.map W.enc))] ++ grH 2 ((O ++ ((kinds c.nodes 14).take i).map fun n=>(a1u a1t c.nodes g N n).getD 0 zW).map W.enc)) (fun i=>(kinds c.nodes 14).length - i) (fun i=>i ≤ (kinds c.nodes 14).length) 0 ?_ (Nat.zero_le _) ?_
     ·rw [List.take_zero,List.map_nil,List.append_nil]
      cases O with
      | nil=>(simp +decide only [go_sem,a02,a00,List.map_nil,a0q,a0r,h1,h3,e1,e2,a39,a54]<;>rfl)<;>rfl
      | cons a r=>(simp +decide only [go_sem,a02,a00,List.map_cons,a0a,a0b,h1,h3,e1,e2,a39,a54]<;>rfl)<;>rfl
     ·intro i hi
      by_cases hlt:i < (kinds c.nodes 14).length
      ·obtain ⟨n,hn⟩:∃ n,(kinds c.nodes 14)[i]? = some n:=⟨_,z9e hlt⟩
       obtain ⟨hnn,hkd⟩:=b2t hn
       obtain ⟨x,hx⟩:∃ x,c.nodes[n]? = some x:=⟨_,z9e hnn⟩
       rw [a1k hx] at hkd
       have hlo:=hc.lo x (List.mem_of_getElem? hx)
       rw [hkd] at hlo
       have hrl:(a1u a1t c.nodes g N n).length = x.ins.length:=by rw [b0j,a2g hx]
       have hlo2:1 ≤ x.ins.length:=hlo
       have hrd1:=fun X=>hrd (some (.row 9 [[sl c.nc (c.nodes.map Nd.enc),sl c.mc (c.names.map a44),.nilslice,sl c.oc (c.outs.map a0n),.islice (ord.map a0n) (some c.nodes.length),sl r0 ((kinds c.nodes 0).map a0n),sl r1 ((kinds c.nodes 14).map a0n),net,pin]]) :: some (.row 2 (N.map W.enc)) :: X) 1 N hll3 n hnn rfl
       obtain ⟨w,hw⟩:∃ w,(a1u a1t c.nodes g N n)[0]? = some w:=⟨_,z9e (by omega)⟩
       have hs:(O ++ ((kinds c.nodes 14).take (i + 1)).map fun n=>(a1u a1t c.nodes g N n).getD 0 zW) = (O ++ ((kinds c.nodes 14).take i).map fun n=>(a1u a1t c.nodes g N n).getD 0 zW) ++ [w]:=by
        rw [a15 hn,List.map_append,List.append_assoc];simp [hw]
       have c1:(i:Int) < (kinds c.nodes 14).length:=by omega
       have hwi:=wI1 (n:=i) (by omega)
       have hr0:0 < (a1u a1t c.nodes g N n).length:=by omega
       have htl:(O ++ ((kinds c.nodes 14).take i).map fun n=>(a1u a1t c.nodes g N n).getD 0 zW).length = c.outs.length + i:=by rw [List.length_append,List.length_map,List.length_take];omega
       generalize a1u a1t c.nodes g N n = R at hrd1 hw hr0
       have hrow0:Ax.rowAt (R.map W.enc) 0 = some [u64 w.one,u64 w.zero]:=by
        have h:=Ax.rowAt_nat (R.map W.enc) 0
        rw [List.getElem?_map,hw] at h
        exact h
       generalize (O ++ ((kinds c.nodes 14).take i).map fun n=>(a1u a1t c.nodes g N n).getD 0 zW) = T at hs htl
       cases T with
       | nil=>
        (repeat first|simp only [ww]|(apply xa;simp +decide only [go_sem,c1,hlt,hn,hnn,hw,hwi,hll3,hrd1,hr0,hrow0,List.map_nil,a0q,a0r];rfl;kernel_rfl))
        refine a1m (i + 1) ?_ (by omega) (by omega)
        rw [hs]
        (simp +decide only [go_sem,a02,a00,List.map_cons,List.map_nil,List.nil_append,a0a,a0b,List.length_nil,h1,h3,e1,e2,a39,a54]<;>rfl)<;>rfl
       | cons a r=>
        simp only [List.length_cons] at htl
        have hrm:r.length + 1 + 1 ≤ 1000000000:=by omega
        (repeat first|simp only [ww]|(apply xa;simp +decide only [go_sem,c1,hlt,hn,hnn,hw,hwi,hll3,hrd1,hr0,hrow0,hrm,List.map_cons,a0a,a0b,List.length_cons];rfl;kernel_rfl))
        refine a1m (i + 1) ?_ (by omega) (by omega)
        rw [hs]
        (simp +decide only [go_sem,a02,a00,List.map_cons,List.map_nil,List.cons_append,a0a,a0b,List.length_cons,h1,h3,e1,e2,a39,a54]<;>rfl)<;>rfl
      have hie:i = (kinds c.nodes 14).length:=by omega
      subst hie
      have c1:¬ ((kinds c.nodes 14).length:Int) < (kinds c.nodes 14).length:=by omega
      rw [List.take_length]
      generalize (O ++ (kinds c.nodes 14).map fun n=>(a1u a1t c.nodes g N n).getD 0 zW) = T
      cases T with
      | nil=>
       (repeat first|simp only [ww]|(apply xa;simp +decide only [go_sem,c1,List.map_nil,a0q,a0r];rfl;kernel_rfl))
       rw [← hll3]
       (apply fqb;simp +decide only [go_sem,d1x,List.map_nil]<;>rfl)
      | cons a r=>
       (repeat first|simp only [ww]|(apply xa;simp +decide only [go_sem,c1,List.map_cons,a0a,a0b];rfl;kernel_rfl))
       rw [← hll3]
       (apply fqb;simp +decide only [go_sem,d1x,List.map_cons,a5x]<;>rfl)
theorem c0j (ca cb:Rep) (a b:List W) (hab:a.length ≤ b.length) (hl:a.length < 1000000):sem L.env Mf 88 [sl ca (a.map W.enc),sl cb (b.map W.enc)] [] = some (u64 (b7a a b 0),[]):=by
 rw [← c89 a b 0 hab]
 (refine sv Tryz.f88 ?_;simp only [Tryz.f88,gS])
 (repeat first|simp only [ww]|(apply xa;simp +decide only [go_sem];rfl;kernel_rfl))
 refine a0l (σ:=Nat) kp88_0 (fun i=>[(0,sl ca (a.map W.enc)),(1,sl cb (b.map W.enc)),(4,u64 (b7a (a.take i) (b.take i) 0)),(9,.int .i64 a.length),(10,.int .i64 i)]) (fun _=>[]) (fun i=>a.length - i) (fun i=>i ≤ a.length) 0 ?_ (Nat.zero_le _) ?_
 ·have e:b7a (a.take 0) (b.take 0) 0 = BitVec.ofInt 64 0:=by rw [List.take_zero];rfl
  (simp +decide only [go_sem,a02,a00,e]<;>rfl)<;>rfl
 ·intro i hi
  by_cases hlt:i < a.length
  ·obtain ⟨x,hx⟩:∃ x,a[i]? = some x:=⟨_,z9e hlt⟩
   obtain ⟨y,hy⟩:∃ y,b[i]? = some y:=⟨_,z9e (by omega)⟩
   have c1:(i:Int) < a.length:=by omega
   have hib:i < b.length:=by omega
   have hw:=wI1 (n:=i) (by omega)
   have hs:=c88 hx hy
   (repeat first|simp only [ww]|(apply xa;simp +decide only [go_sem,c1,hlt,hx,hy,hib,hw];rfl;kernel_rfl))
   refine a1m (i + 1) ?_ (by omega) (by omega)
   rw [hs]
   (simp +decide only [go_sem,a02,a00,ctr]<;>rfl)
  ·obtain rfl:i = a.length:=by omega
   have c1:¬ (a.length:Int) < a.length:=by omega
   rw [List.take_length]
   (repeat first|simp only [ww]|(apply xa;simp +decide only [go_sem,c1];rfl;kernel_rfl))
   (apply fqb;simp +decide only [go_sem]<;>rfl)
theorem b6s {d:Bool} (H:a06) (ca cb:Rep) (a b:List W) (hab:a.length ≤ b.length) (hl:a.length < 1000000):a0e L.env d (sem L.env Mf) (.func (.func 88) [] []) [sl ca (a.map W.enc),sl cb (b.map W.enc)] H = some (u64 (b7a a b 0),H,[]):=
 a05 (by kernel_rfl) (by kernel_rfl) rfl (by simp only [List.nil_append,List.append_nil,a0c,go_sem]) (c0j ca cb a b hab hl) rfl
theorem b54 {d:Bool} {H:a06} {b:Nat} (k:Nat) (hk:k < 16) (l:List W) (hl:l.length < 1000) {n:Int} (hn:n = k) {m:Nat} (hm:m = l.length) (hb:a04 H b = some (.row 2 (l.map W.enc))):a0e L.env d (sem L.env Mf) (.func (.func 126) [] []) [.int .u8 n,.slice b 0 m (some m)] H = some (.agg (a3t k l).enc,H,[b]):=by
 subst hn;subst hm
 exact a3f (fs:=[]) (cs:=[]) (ar:=[.int .u8 k,.slice b 0 l.length (some l.length)]) (by kernel_rfl) (by kernel_rfl) rfl hb (a0t (b38 l)) (FlatO.row (b38 l)) rfl (args':=[.int .u8 k,.slice 0 0 l.length (some l.length)]) (by simp only [List.nil_append,List.append_nil,List.map_cons,List.map_nil,a59];rfl) (d26 k hk l hl) rfl
theorem c4f (nodes:List Nd) (f:Flt) (hf:FltOk nodes f) (hm:f.model ≠ 0) (r:Rep) (good:List W) (hg:good.length = nodes.length):sem L.env Mf 129 [.agg f.enc,sl r (good.map W.enc)] [] = some (.agg (a1w a1t good f).enc,[]):=by
 have hn:=hf.node
 have ho:=hf.other
 obtain ⟨a,ha⟩:∃ a,good[f.node]? = some a:=⟨_,z9e (by omega)⟩
 obtain ⟨b,hb⟩:∃ b,good[f.other]? = some b:=⟨_,z9e (by omega)⟩
 have hnl:f.node < good.length:=by omega
 have hol:f.other < good.length:=by omega
 have hmm:f.model = 2 ∨ f.model = 3:=by rcases hf.model with e|e|e;exact absurd e hm;exact .inl e;exact .inr e
 rcases hmm with e|e
 ·have c1:¬ (((2:Nat):Int) = 3):=by decide
  by_cases hv:f.value = 0
  ·have hF:a1w a1t good f = a3t 5 [a,b]:=by
    unfold a1w;rw [if_neg hm,if_neg (by omega),if_pos hv];simp [List.getD,ha,hb];rfl
   rw [hF]
   have he:=fun X Y=>b54 (d:=true) (H:=[X,Y,some (.row 2 ([a,b].map W.enc))]) (b:=2) 5 (by omega) [a,b] (by simp) (n:=5) rfl (m:=2) rfl rfl
   generalize a3t 5 [a,b] = v at he
   simp only [List.map_cons,List.map_nil,W.enc] at he
   simp only [Flt.enc,e,hv]
   (refine sv Tryz.f129 ?_;simp only [Tryz.f129,gS])
   (repeat first|simp only [ww]|(apply xa;simp +decide only [go_sem,ha,hb,hnl,hol,he];rfl;kernel_rfl))
   (apply fqb;simp +decide only [go_sem]<;>rfl)
  ·have cv:¬ (f.value:Int) = 0:=by omega
   have hF:a1w a1t good f = a3t 7 [a,b]:=by
    unfold a1w;rw [if_neg hm,if_neg (by omega),if_neg hv];simp [List.getD,ha,hb];rfl
   rw [hF]
   have he:=fun X Y=>b54 (d:=true) (H:=[X,Y,some (.row 2 ([a,b].map W.enc))]) (b:=2) 7 (by omega) [a,b] (by simp) (n:=7) rfl (m:=2) rfl rfl
   generalize a3t 7 [a,b] = v at he
   simp only [List.map_cons,List.map_nil,W.enc] at he
   simp only [Flt.enc,e]
   (refine sv Tryz.f129 ?_;simp only [Tryz.f129,gS])
   (repeat first|simp only [ww]|(apply xa;simp +decide only [go_sem,ha,hb,hnl,hol,he,cv];rfl;kernel_rfl))
   (apply fqb;simp +decide only [go_sem]<;>rfl)
 ·have hF:a1w a1t good f = b:=by
   unfold a1w;rw [if_neg hm,if_pos e];simp [List.getD,hb]
  rw [hF]
  simp only [Flt.enc,e]
  (refine sv Tryz.f129 ?_;simp only [Tryz.f129,gS])
  (repeat first|simp only [ww]|(apply xa;simp +decide only [go_sem,hb,hol];rfl;kernel_rfl))
  (apply fqb;simp +decide only [go_sem]<;>rfl)
theorem b8z {d:Bool} (H:a06) (nodes:List Nd) (f:Flt) (hf:FltOk nodes f) (hm:f.model ≠ 0) (r:Rep) (good:List W) (hg:good.length = nodes.length):a0e L.env d (sem L.env Mf) (.func (.func 129) [] []) [.agg f.enc,sl r (good.map W.enc)] H = some (.agg (a1w a1t good f).enc,H,[]):=
 a05 (by kernel_rfl) (by kernel_rfl) rfl (by simp only [List.nil_append,List.append_nil,a0c,a10,Flt.enc,go_sem]) (c4f nodes f hf hm r good hg) rfl
/- one fault in all lanes -/
def d4v (f:Flt) (w:W):AV:=.func (.func 131) [] [.iptr f.enc,.iptr w.enc]
def e08 (f:Flt) (w:W):AV:=.func (.func 130) [] [.iptr f.enc,.iptr w.enc]
theorem d4u (f:Flt) (hp:f.pin < 0) (hmm:f.model = 0 ∨ f.model = 2 ∨ f.model = 3) (v w:W) (n:Nat):sem L.env Mf 131 [.int .i64 n,.agg w.enc,.iptr f.enc,.iptr v.enc] [] = some (.agg ((hkF f v).net n w).enc,[]):=by
 have hH:(hkF f v).net n w = if n = f.node ∨ (f.model = 2 ∧ n = f.other) then v else w:=by
  unfold hkF Flt.hitsNet
  simp only [decide_eq_true hp,Bool.true_and,Bool.or_eq_true,Bool.and_eq_true,decide_eq_true_eq]
 rw [hH]
 simp only [Flt.enc]
 by_cases h1:n = f.node
 ·have c1:decide ((n:Int) = f.node) = true:=decide_eq_true (by omega)
  rw [if_pos (.inl h1)]
  (refine sv Tryz.f131 ?_;simp only [Tryz.f131,gS])
  (repeat first|simp only [ww]|(apply xa;simp +decide only [go_sem,c1];rfl;kernel_rfl))
  (apply fqb;simp +decide only [go_sem]<;>rfl)
 have c1:¬ (n:Int) = f.node:=by omega
 by_cases h2:f.model = 2
 ·have c2:decide ((f.model:Int) = 2) = true:=decide_eq_true (by omega)
  by_cases h3:n = f.other
  ·have c3:decide ((n:Int) = f.other) = true:=decide_eq_true (by omega)
   rw [if_pos (.inr ⟨h2,h3⟩)]
   (refine sv Tryz.f131 ?_;simp only [Tryz.f131,gS])
   (repeat first|simp only [ww]|(apply xa;simp +decide only [go_sem,c1,c2,c3];rfl;kernel_rfl))
   (apply fqb;simp +decide only [go_sem]<;>rfl)
  ·have c3:¬ (n:Int) = f.other:=by omega
   rw [if_neg (by rintro (h|⟨_,h⟩);exact h1 h;exact h3 h)]
   (refine sv Tryz.f131 ?_;simp only [Tryz.f131,gS])
   (repeat first|simp only [ww]|(apply xa;simp +decide only [go_sem,c1,c2,c3];rfl;kernel_rfl))
   (apply fqb;simp +decide only [go_sem]<;>rfl)
 ·have c2:¬ (f.model:Int) = 2:=by omega
  rw [if_neg (by rintro (h|⟨h,_⟩);exact h1 h;exact h2 h)]
  (refine sv Tryz.f131 ?_;simp only [Tryz.f131,gS])
  (repeat first|simp only [ww]|(apply xa;simp +decide only [go_sem,c1,c2];rfl;kernel_rfl))
  (apply fqb;simp +decide only [go_sem]<;>rfl)
theorem d4s (f:Flt) (hp:0 ≤ f.pin) (v w:W) (n p:Nat):sem L.env Mf 130 [.int .i64 n,.int .i64 p,.agg w.enc,.iptr f.enc,.iptr v.enc] [] = some (.agg ((hkF f v).pin n p w).enc,[]):=by
 have hH:(hkF f v).pin n p w = if n = f.node ∧ (p:Int) = f.pin then v else w:=by
  unfold hkF Flt.hitsPin
  simp only [decide_eq_true hp,Bool.true_and,Bool.and_eq_true,decide_eq_true_eq]
 rw [hH]
 simp only [Flt.enc]
 by_cases h1:n = f.node
 ·have c1:decide ((n:Int) = f.node) = true:=decide_eq_true (by omega)
  by_cases h2:(p:Int) = f.pin
  ·have c2:decide ((p:Int) = f.pin) = true:=decide_eq_true h2
   rw [if_pos ⟨h1,h2⟩]
   (refine sv Tryz.f130 ?_;simp only [Tryz.f130,gS])
   (repeat first|simp only [ww]|(apply xa;simp +decide only [go_sem,c1,c2];rfl;kernel_rfl))
   (apply fqb;simp +decide only [go_sem]<;>rfl)
  ·rw [if_neg (fun h=>h2 h.2)]
   (refine sv Tryz.f130 ?_;simp only [Tryz.f130,gS])
   (repeat first|simp only [ww]|(apply xa;simp +decide only [go_sem,c1,h2];rfl;kernel_rfl))
   (apply fqb;simp +decide only [go_sem]<;>rfl)
 ·have c1:¬ (n:Int) = f.node:=by omega
  rw [if_neg (fun h=>h1 h.1)]
  (refine sv Tryz.f130 ?_;simp only [Tryz.f130,gS])
  (repeat first|simp only [ww]|(apply xa;simp +decide only [go_sem,c1];rfl;kernel_rfl))
  (apply fqb;simp +decide only [go_sem]<;>rfl)
theorem c3r {f:Flt} (hp:0 ≤ f.pin) (v:W):(hkF f v).net = (hk0:Hk W).net:=by
 funext n w;unfold hkF Flt.hitsNet hk0;simp [show ¬ f.pin < 0 by omega]
theorem c3q {f:Flt} (hp:f.pin < 0) (v:W):(hkF f v).pin = (hk0:Hk W).pin:=by
 funext n p w;unfold hkF Flt.hitsPin hk0;simp [show ¬ 0 ≤ f.pin by omega]
def d4w (f:Flt) (w:W):AV:=if f.pin < 0 then d4v f w else net0V
def d4t (f:Flt) (w:W):AV:=if f.pin < 0 then pin0V else e08 f w
theorem e0a (N:Nat) (f:Flt) (hmm:f.model = 0 ∨ f.model = 2 ∨ f.model = 3) (w:W):NetF N (d4w f w) (hkF f w).net:=by
 unfold d4w
 by_cases h:f.pin < 0
 ·rw [if_pos h]
  exact ⟨rfl,fun d H n x _=>a05 (by kernel_rfl) (by kernel_rfl) rfl rfl (d4u f h hmm w x n) rfl⟩
 ·rw [if_neg h,c3r (by omega)];exact e1e N
theorem e09 (N:Nat) (f:Flt) (w:W):PinF N (d4t f w) (hkF f w).pin:=by
 unfold d4t
 by_cases h:f.pin < 0
 ·rw [if_pos h,c3q h];exact e0z N
 ·rw [if_neg h]
  exact ⟨rfl,fun d H n p x _=>a05 (by kernel_rfl) (by kernel_rfl) rfl rfl (d4s f (by omega) w x n p) rfl⟩
theorem c9n (c:Cir) (ord:List Nat) (f:Flt) (hf:FltOk c.nodes f) (r:Rep) (good:List W) (hg:good.length = c.nodes.length):sem L.env Mf 87 [.agg (a4u c ord net0V pin0V),.agg f.enc,sl r (good.map W.enc)] [] = some (.agg (a4u c ord (d4w f (a1w a1t good f)) (d4t f (a1w a1t good f))),[]):=by
 have hfl:=fun H=>b3a (d:=false) H f.value (by have:=hf.value;omega)
 obtain ⟨r0,e3⟩:=a3b (kinds c.nodes 0)
 obtain ⟨r1,e4⟩:=a3b (kinds c.nodes 14)
 simp only [W.enc] at hfl
 by_cases hm:f.model = 0
 ·have hF:a1w a1t good f = a2l f.value:=by unfold a1w;rw [if_pos hm];rfl
  rw [hF]
  generalize a2l f.value = v at hfl
  by_cases hp:f.pin < 0
  ·have cp:¬ 0 ≤ f.pin:=by omega
   unfold d4w d4t
   rw [if_pos hp,if_pos hp]
   unfold a4u net0V pin0V d4v
   rw [e3,e4]
   simp only [Flt.enc,hm]
   (refine sv Tryz.f87 ?_;simp only [Tryz.f87,gS])
   (repeat first|simp only [ww]|(apply xa;simp +decide only [go_sem,hfl,cp];rfl;kernel_rfl))
   (apply fqb;simp +decide only [go_sem]<;>rfl)
  ·have cp:0 ≤ f.pin:=by omega
   unfold d4w d4t
   rw [if_neg hp,if_neg hp]
   unfold a4u net0V pin0V e08
   rw [e3,e4]
   simp only [Flt.enc,hm]
   (refine sv Tryz.f87 ?_;simp only [Tryz.f87,gS])
   (repeat first|simp only [ww]|(apply xa;simp +decide only [go_sem,hfl,cp];rfl;kernel_rfl))
   (apply fqb;simp +decide only [go_sem]<;>rfl)
 ·have hb:=fun H=>b8z (d:=false) H c.nodes f hf hm r good hg
  have hp:f.pin < 0:=by have:=(hf.bridge hm).1;omega
  have cp:¬ 0 ≤ f.pin:=by omega
  have cm:¬ (f.model:Int) = 0:=by omega
  generalize a1w a1t good f = v at hb
  unfold d4w d4t
  rw [if_pos hp,if_pos hp]
  unfold a4u net0V pin0V d4v
  rw [e3,e4]
  simp only [Flt.enc,W.enc] at hb
  simp only [Flt.enc]
  (refine sv Tryz.f87 ?_;simp only [Tryz.f87,gS])
  (repeat first|simp only [ww]|(apply xa;simp +decide only [go_sem,hfl,cp,cm,hb];rfl;kernel_rfl))
  (apply fqb;simp +decide only [go_sem]<;>rfl)
theorem c2u {d:Bool} (H:a06) (c:Cir) (ord:List Nat) (f:Flt) (hf:FltOk c.nodes f) (r:Rep) (good:List W) (hg:good.length = c.nodes.length):a0e L.env d (sem L.env Mf) (.func (.func 87) [] []) [.agg (a4u c ord net0V pin0V),.agg f.enc,sl r (good.map W.enc)] H = some (.agg (a4u c ord (d4w f (a1w a1t good f)) (d4t f (a1w a1t good f))),H,[]):=
 a05 (by kernel_rfl) (by kernel_rfl) rfl (by simp only [List.nil_append,List.append_nil,a0c,a10,a73 c ord net0V pin0V rfl rfl,Flt.enc,go_sem]) (c9n c ord f hf r good hg) (by rw [a10];exact a73 _ _ _ _ (e0a 0 f hf.model _).flat (e09 0 f _).flat)
theorem c17 {d:Bool} (H:a06) (c:Cir) (hc:c.wf) (ord:List Nat) (ho:∀ n ∈ ord,n < c.nodes.length) (hol:ord.length ≤ 1000) (net pin:AV) (g:Hk W) (h0:NetF c.nodes.length net g.net) (h2:PinF c.nodes.length pin g.pin) (ri rs:Rep) (vi vs:List W) (hvi:vi.length = (kinds c.nodes 0).length) (hvs:vs.length = (kinds c.nodes 14).length) :
 a0e L.env d (sem L.env Mf) (.func (.func 86) [] []) [.agg (a4u c ord net pin),sl ri (vi.map W.enc),sl rs (vs.map W.enc)] H = some (.tuple [.islice (((a2i c ord).nets a1t g vi vs).map W.enc) (some c.nodes.length),sl none (((a2i c ord).seen a1t g ((a2i c ord).nets a1t g vi vs)).map W.enc)],H,[]):=
 a05 (by kernel_rfl) (by kernel_rfl) rfl (by simp only [List.nil_append,List.append_nil,a0c,a10,a73 c ord net pin h0.flat h2.flat,go_sem]) (e0q c hc ord ho hol net pin g h0 h2 ri rs vi vs hvi hvs) (by simp only [b4k,a0c,a93,a2r,a3d,List.append_nil])
theorem d5m (p:Pat):sem L.env Mf 84 [.agg p.enc] [] = some (sl p.ic (p.ins.map u8R),[]):=by
 simp only [Pat.enc]
 (refine sv Tryz.f84 ?_;simp only [Tryz.f84,gS])
 (repeat first|simp only [ww]|(apply xa;simp +decide only [go_sem];rfl;kernel_rfl))
 (apply fqb;simp +decide only [go_sem]<;>rfl)
theorem d5k (p:Pat):sem L.env Mf 85 [.agg p.enc] [] = some (sl p.sc (p.sts.map u8R),[]):=by
 simp only [Pat.enc]
 (refine sv Tryz.f85 ?_;simp only [Tryz.f85,gS])
 (repeat first|simp only [ww]|(apply xa;simp +decide only [go_sem];rfl;kernel_rfl))
 (apply fqb;simp +decide only [go_sem]<;>rfl)
def c3a (vs:List (List Nat)) (i:Nat):W:=a2u (vs.map fun l=>l.getD i 0) 0 zW
def a62 (vs:List (List Nat)) (many i:Nat):List W:=(List.range many).map fun j=>if j < i then c3a vs j else zW
def a4w (vs:List (List Nat)) (many:Nat):List W:=(List.range many).map (c3a vs)
theorem b0k (vs:List (List Nat)) (many i:Nat):(a62 vs many i).length = many:=by simp [a62]
theorem c3b (vs:List (List Nat)) (many:Nat):a62 vs many many = a4w vs many:=by
 unfold a62 a4w
 refine List.map_congr_left fun j hj=>?_
 rw [if_pos (by simpa using hj)]
theorem b9x (vs:List (List Nat)) (many:Nat):a62 vs many 0 = List.replicate many zW:=by
 unfold a62
 apply List.ext_getElem?
 intro j
 simp only [List.getElem?_map,List.getElem?_replicate,Nat.not_lt_zero,if_false]
 by_cases h:j < many
 ·rw [List.getElem?_range h];simp [h]
 ·rw [List.getElem?_eq_none (by simpa using h)];simp [h]
theorem b0l {vs:List (List Nat)} {many i j:Nat} (h:j < many):(a62 vs many i)[j]? = some (if j < i then c3a vs j else zW):=by
 simp [a62,List.getElem?_range h]
theorem b9y {vs:List (List Nat)} {many i:Nat} (h:i < many):(a62 vs many i).set i (c3a vs i) = a62 vs many (i + 1):=by
 apply List.ext_getElem?
 intro j
 rw [List.getElem?_set,b0k]
 by_cases hj:j < many
 ·rw [b0l hj,b0l hj]
  by_cases hij:i = j
  ·subst hij;simp [h]
  ·by_cases h2:j < i
   ·simp [hij,h2,show j < i + 1 by omega]
   ·simp [hij,h2,show ¬ j < i + 1 by omega]
 ·have e:∀ i,(a62 vs many i)[j]? = none:=fun i=>List.getElem?_eq_none (by rw [b0k];omega)
  rw [e,e]
  simp [show i ≠ j by omega]
structure SelF (f:AV) (rep:Pat → Rep) (sel:Pat → List Nat):Prop where
 flat:refs f = []
 call:∀ (d:Bool) (H:a06) (p:Pat),a0e L.env d (sem L.env Mf) f [.agg p.enc] H = some (sl (rep p) ((sel p).map u8R),H,[])
def d5n:AV:=.func (.func 84) [] []
def d5l:AV:=.func (.func 85) [] []
theorem e5m:SelF d5n Pat.ic Pat.ins:=⟨rfl,fun d H p=>a05 (by kernel_rfl) (by kernel_rfl) rfl (by simp only [List.nil_append,List.append_nil,a0c,a10,Pat.enc,go_sem]) (d5m p) (a2r _ _)⟩
theorem e5l:SelF d5l Pat.sc Pat.sts:=⟨rfl,fun d H p=>a05 (by kernel_rfl) (by kernel_rfl) rfl (by simp only [List.nil_append,List.append_nil,a0c,a10,Pat.enc,go_sem]) (d5k p) (a2r _ _)⟩
theorem c6b (rp:Rep) (ps:List Pat) (f:AV) (rep:Pat → Rep) (sel:Pat → List Nat) (hf:SelF f rep sel) (many:Nat) (hm:many ≤ 1000) (hp:ps.length ≤ 64) (hv:∀ p ∈ ps,(sel p).length = many ∧ ∀ v ∈ sel p,v ≤ 3) :
 sem L.env Mf 83 [sl rp (ps.map Pat.enc),.int .i64 many,f] [] = some (.islice ((a4w (ps.map sel) many).map W.enc) (some many),[]):=by
 have h1:=hf.flat
 have e1:∀ π,ren π f = f:=fun π=>a2b π _ h1
 have hrm:many ≤ 1000000000:=by omega
 rw [← c3b]
 (refine sv Tryz.f83 ?_;simp only [Tryz.f83,gS])
 (repeat first|simp only [ww]|(apply xa;simp +decide only [go_sem,hrm];rfl;kernel_rfl))
 refine a0l (σ:=Nat) kp83_0 (fun i=>[(0,sl rp (ps.map Pat.enc)),(2,f),(7,.slice 0 0 many (some many)),(14,.int .i64 many),(15,.int .i64 i)])
  (fun i=>[some (.row 2 ((a62 (ps.map sel) many i).map W.enc))]) (fun i=>many - i) (fun i=>i ≤ many) 0 ?_ (Nat.zero_le _) ?_
 ·rw [b9x]
  (simp +decide only [go_sem,a02,a00,h1,e1,a39,a54,zW]<;>rfl)<;>rfl
 ·intro i hi
  have hpl:=b0k (ps.map sel) many i
  by_cases hlt:i < many
  ·have c1:(i:Int) < many:=by omega
   have hwi:=wI1 (n:=i) (by omega)
   have hsucc:=b9y (vs:=ps.map sel) hlt
   have hgi:=b0l (vs:=ps.map sel) (i:=i) hlt
   rw [if_neg (Nat.lt_irrefl i)] at hgi
   have hPW:c3a (ps.map sel) i = a2u ((ps.map sel).map fun l=>l.getD i 0) 0 zW:=rfl
   rw [hPW] at hsucc
   have hVl:((ps.map sel).map fun l=>l.getD i 0).length = ps.length:=by simp
   have hVg:∀ (k:Nat) p,ps[k]? = some p → ((ps.map sel).map fun l=>l.getD i 0)[k]? = some ((sel p).getD i 0):=by intro k p hk;simp [hk]
   generalize ((ps.map sel).map fun l=>l.getD i 0) = V at hsucc hVl hVg
   generalize a62 (ps.map sel) many i = N at hpl hsucc hgi
   (repeat first|simp only [ww]|(apply xa;simp +decide only [go_sem,c1];rfl;kernel_rfl))
   refine a0l (σ:=Nat) kp83_2 (fun k=>[(0,sl rp (ps.map Pat.enc)),(2,f),(7,.slice 0 0 many (some many)),(8,.int .i64 i),(14,.int .i64 many),(15,.int .i64 i),(18,sl rp (ps.map Pat.enc)),(19,.int .i64 ps.length),(20,.int .i64 k)])
    (fun k=>[some (.row 2 ((N.set i (a2u (V.take k) 0 zW)).map W.enc))]) (fun k=>ps.length - k) (fun k=>k ≤ ps.length) 0 ?_ (Nat.zero_le _) ?_
   ·have e:N.set i (a2u (V.take 0) 0 zW) = N:=by
     apply List.ext_getElem?
     intro j
     rw [List.getElem?_set]
     by_cases hij:i = j
     ·subst hij;rw [if_pos rfl,if_pos (by omega),hgi];rfl
     ·simp [hij]
    rw [e]
    (simp +decide only [go_sem,a02,a00,h1,e1,a39,a54]<;>rfl)<;>rfl
   ·intro k hk
    by_cases hkl:k < ps.length
    ·obtain ⟨p,hpk⟩:∃ p,ps[k]? = some p:=⟨_,z9e hkl⟩
     obtain ⟨hsl,hsv⟩:=hv p (List.mem_of_getElem? hpk)
     obtain ⟨v,hv2⟩:∃ v,(sel p)[i]? = some v:=⟨_,z9e (by omega)⟩
     have hv3:=hsv v (List.mem_of_getElem? hv2)
     have c2:(k:Int) < ps.length:=by omega
     have hwk:=wI1 (n:=k) (by omega)
     have hcf:=fun H=>hf.call true H p
     simp only [Pat.enc] at hcf
     have hVk:=hVg k p hpk
     rw [List.getD,hv2,Option.getD_some] at hVk
     have hps:=b5z (w:=zW) hVk
     generalize a2u (V.take k) 0 zW = w at hps
     have hpc:=fun H=>c38 (d:=true) H w k v (by omega) (by omega)
     rw [← hps] at hpc
     clear hps
     generalize hw2:a2u (V.take (k + 1)) 0 zW = w2 at hpc
     simp only [W.enc] at hpc
     have hgw:(N.set i w)[i]? = some w:=by rw [List.getElem?_set];simp;omega
     have hlw:(N.set i w).length = many:=by rw [List.length_set];exact hpl
     have hst:((N.set i w).map W.enc).set i [u64 w2.one,u64 w2.zero] = (N.set i w2).map W.enc:=by
      rw [show [u64 w2.one,u64 w2.zero] = W.enc w2 from rfl,← List.map_set,List.set_set]
     have hil:i < (sel p).length:=by omega
     (repeat first|simp only [ww]|(apply xa;simp +decide only [go_sem,c2,hkl,hpk,hwk,hcf,hpc,hgw,hlw,hst,hlt,hv2,hil];rfl;kernel_rfl))
     refine a1m (k + 1) ?_ (by omega) (by omega)
     (simp +decide only [go_sem,a02,a00,h1,e1,a39,a54,hw2]<;>rfl)<;>rfl
    ·obtain rfl:k = ps.length:=by omega
     have c2:¬ (ps.length:Int) < ps.length:=by omega
     rw [List.take_of_length_le (by omega),hsucc]
     (repeat first|simp only [ww]|(apply xa;simp +decide only [go_sem,c2,hwi];rfl;kernel_rfl))
     refine a1m (i + 1) ?_ (by omega) (by omega)
     (simp +decide only [go_sem,a02,a00,h1,e1,a39,a54]<;>rfl)<;>rfl
  ·obtain rfl:i = many:=by omega
   have c1:¬ (i:Int) < i:=by omega
   generalize a62 (ps.map sel) i i = N at hpl
   subst hpl
   (repeat first|simp only [ww]|(apply xa;simp +decide only [go_sem,c1];rfl;kernel_rfl))
   (apply fqb;simp +decide only [go_sem,d1x]<;>rfl)
theorem b2e {d:Bool} (H:a06) (rp:Rep) (ps:List Pat) (f:AV) (rep:Pat → Rep) (sel:Pat → List Nat) (hf:SelF f rep sel) (many:Nat) (hm:many ≤ 1000) (hp:ps.length ≤ 64) (hv:∀ p ∈ ps,(sel p).length = many ∧ ∀ v ∈ sel p,v ≤ 3) :
 a0e L.env d (sem L.env Mf) (.func (.func 83) [] []) [sl rp (ps.map Pat.enc),.int .i64 many,f] H = some (.islice ((a4w (ps.map sel) many).map W.enc) (some many),H,[]):=
 a05 (by kernel_rfl) (by kernel_rfl) rfl (by simp only [List.nil_append,List.append_nil,a0c,hf.flat,go_sem]) (c6b rp ps f rep sel hf many hm hp hv) rfl
theorem d57 (H:a06) (a b q:Nat) (ids:Nat → Nat) (w:Nat) (fo:List (List (BitVec 64))) (fr:Nat) (ht:Tbl H a b q ids w fo fr) (hall:∀ c,c < H.length → c ∈ Tbl.blocks a b q ids fo.length) (i:Nat) (f:List (BitVec 64)) (hf:fo[i]? = some f) (hk:fr / 64 < w) (hfr:fr < 1000000) (x:BitVec 64) :
 ∃ H1,sem L.env Mf 53 [.int .i64 i,u64 x,.ptr a 0 0,.ptr q 0 0] H = some (.tuple [],H1) ∧ H1.length = H.length ∧ Tbl H1 a b q ids w (fo.set i (f.set (fr / 64) x)) fr:=by
 have hi:i < fo.length:=(List.getElem?_eq_some_iff.1 hf).1
 obtain ⟨g1,g2,g3,g4,g5⟩:=ht.sub i f hf
 have hout:=ht.out
 have htop:=ht.top
 have hfrm:=ht.frm
 have hw:=wI (n:=fr / 64) (by omega)
 have hget:((List.range fo.length).map fun j=>[AV.slice (ids j) 0 w (some w)])[i]? = some [.slice (ids i) 0 w (some w)]:=by rw [List.getElem?_map,List.getElem?_range hi];rfl
 have hkf:fr / 64 < f.length:=by omega
 obtain ⟨y,hy⟩:∃ y,f[fr / 64]? = some y:=⟨_,z9e hkf⟩
 have hgy:(f.map b3v)[fr / 64]? = some [u64 y]:=by rw [List.getElem?_map,hy];rfl
 have hst:(f.map b3v).set (fr / 64) [u64 x] = (f.set (fr / 64) x).map b3v:=by rw [List.map_set];rfl
 have hlt:=a0k g1
 have hput:=ht.put (k:=fr / 64) (x:=x) hf
 have hal:=a0k hout
 suffices hs:∃ r:AV × a06,(∃ H1,r = (.tuple [],H1) ∧ H1.length = H.length ∧ Tbl H1 a b q ids w (fo.set i (f.set (fr / 64) x)) fr) ∧ sem L.env Mf 53 [.int .i64 i,u64 x,.ptr a 0 0,.ptr q 0 0] H = some r by
  obtain ⟨r,⟨H1,rfl,h1,h2⟩,h3⟩:=hs
  exact ⟨H1,h3,h1,h2⟩
 (refine svE Tryz.f53 ?_;simp only [Tryz.f53,gS])
 (repeat first|simp only [ww]|((with_reducible first|apply xs2|apply xI);(·simp +decide only [go_sem,hout,htop,hfrm,hw,hget,hi,hk,g1,hgy,hst,hlt,List.length_range];rfl);with_reducible first|apply xT|apply xF|(·kernel_rfl)))
 refine a5v (vs:=[]) (r:=(.tuple [],((H.set (ids i) (some (.row 1 ((f.set (fr / 64) x).map b3v)))).take H.length).map (Option.map (a0m (a19 H.length))))) (by simp +decide only [go_sem]) (by rw [show L.env.thaw 53 = false from rfl,a87];rfl) ⟨_,rfl,by simp,?_⟩
 have hl2:(H.set (ids i) (some (.row 1 ((f.set (fr / 64) x).map b3v)))).length = H.length:=List.length_set
 have htk:(H.set (ids i) (some (.row 1 ((f.set (fr / 64) x).map b3v)))).take H.length = H.set (ids i) (some (.row 1 ((f.set (fr / 64) x).map b3v))):=List.take_of_length_le (by omega)
 rw [htk]
 generalize H.set (ids i) (some (.row 1 ((f.set (fr / 64) x).map b3v))) = Hs at hput hl2
 have hpb:∀ c,c < H.length → a19 H.length c = some c:=fun c hc=>by rw [a6q];simp [hc]
 have hbl:∀ c ∈ Tbl.blocks a b q ids (fo.set i (f.set (fr / 64) x)).length,c < H.length:=by
  intro c hc
  rw [← hl2]
  rw [Tbl.mem_blocks] at hc
  rcases hc with rfl|rfl|rfl|⟨j,hj,rfl⟩
  ·exact a0k hput.out
  ·exact a0k hput.top
  ·exact a0k hput.frm
  ·obtain ⟨f',hf'⟩:∃ f',(fo.set i (f.set (fr / 64) x))[j]? = some f':=⟨_,z9e hj⟩
   exact a0k (hput.sub j f' hf').1
 refine hput.stay (R:=(·∈ Tbl.blocks a b q ids (fo.set i (f.set (fr / 64) x)).length)) (π:=a19 H.length) ⟨?_,hput.closed,fun c hc=>⟨c,hpb c (hbl c hc)⟩,?_⟩ (Tbl.mem_blocks.2 (.inl rfl)) (Tbl.mem_blocks.2 (.inr (.inr (.inl rfl)))) (fun c hc=>hpb c (hbl c hc))
 ·intro x y z hx hy
  rw [a6q] at hx hy
  cases h1:decide (x < H.length)<;>cases h2:decide (y < H.length)<;>simp [h1,h2] at hx hy
  omega
 ·intro c d hc hd
  rw [hpb c (hbl c hc)] at hd
  cases hd
  unfold a04
  rw [List.getElem?_map]
  cases Hs[c]? with
  | none=>rfl
  | some o=>rfl
theorem c53 {d:Bool} {H:a06} {m a b q:Nat} {ids:Nat → Nat} {w:Nat} {fo:List (List (BitVec 64))} {fr:Nat} (h:TSt H m a b q ids w fo fr) (hm:m ≤ H.length) (hn:fo.length ≤ 1000) (i:Nat) (f:List (BitVec 64)) (hf:fo[i]? = some f) (hk:fr / 64 < w) (hfr:fr < 1000000) (x:BitVec 64) :
 ∃ H' σ,a0e L.env d (sem L.env Mf) (.func (.func 53) [] [.ptr a 0 0,.ptr q 0 0]) [.int .i64 i,u64 x] H = some (.tuple [],H',σ) ∧ TSt H' m a b q ids w (fo.set i (f.set (fr / 64) x)) fr ∧ H'.length = H.length ∧ ∀ c,c ∉ Tbl.blocks a b q ids fo.length → a04 H' c = a04 H c:=by
 refine c8i (by kernel_rfl) (by kernel_rfl) h hm hn rfl List.length_set ?_
 intro H0 a' b' q' ids' ht hall
 exact d57 H0 a' b' q' ids' w fo fr ht hall i f hf hk hfr x
def b50 (c:Cir) (ord:List Nat) (f:Flt) (vi vs:List W):BitVec 64:=
 b7a ((a2i c ord).seen a1t hk0 ((a2i c ord).nets a1t hk0 vi vs)) ((a2i c ord).seen a1t (hkF f (a1w a1t ((a2i c ord).nets a1t hk0 vi vs) f)) ((a2i c ord).nets a1t (hkF f (a1w a1t ((a2i c ord).nets a1t hk0 vi vs) f)) vi vs)) 0
def c9p (c:Cir) (ps:List Pat):List W:=a4w (ps.map Pat.ins) (kinds c.nodes 0).length
def c9o (c:Cir) (ps:List Pat):List W:=a4w (ps.map Pat.sts) (kinds c.nodes 14).length
def b41 (c:Cir) (ord:List Nat) (f:Flt) (ps:List Pat):BitVec 64:=
 if ps.length < 64 then b50 c ord f (c9p c ps) (c9o c ps) &&& (BitVec.ofInt 64 1 <<< ps.length - BitVec.ofInt 64 1) else b50 c ord f (c9p c ps) (c9o c ps)
def b79 (l:List Flt) (hit:Flt → BitVec 64) (k:Nat) (fo:List (List (BitVec 64))) (i:Nat):List (List (BitVec 64)):=fo.mapIdx fun j f=>if j < i then f.set k (hit (l.getD j ⟨0,0,0,0,0⟩)) else f
theorem b1u (l:List Flt) (hit:Flt → BitVec 64) (k:Nat) (fo:List (List (BitVec 64))) (i:Nat):(b79 l hit k fo i).length = fo.length:=by simp [b79]
theorem c7r (l:List Flt) (hit:Flt → BitVec 64) (k:Nat) (fo:List (List (BitVec 64))):b79 l hit k fo 0 = fo:=by
 unfold b79
 apply List.ext_getElem?
 intro j
 rw [List.getElem?_mapIdx]
 cases fo[j]?<;>simp
theorem d1y {l:List Flt} {hit:Flt → BitVec 64} {k:Nat} {fo:List (List (BitVec 64))} {i:Nat} {r:List (BitVec 64)} (h:fo[i]? = some r):(b79 l hit k fo i)[i]? = some r:=by
 unfold b79;rw [List.getElem?_mapIdx,h];simp
theorem c7s {l:List Flt} {hit:Flt → BitVec 64} {k:Nat} {fo:List (List (BitVec 64))} {i:Nat} {f:Flt} {r:List (BitVec 64)} (hf:l[i]? = some f) (h:fo[i]? = some r):(b79 l hit k fo i).set i (r.set k (hit f)) = b79 l hit k fo (i + 1):=by
 apply List.ext_getElem?
 intro j
 rw [List.getElem?_set,b1u]
 unfold b79
 rw [List.getElem?_mapIdx,List.getElem?_mapIdx]
 have hi:=(List.getElem?_eq_some_iff.1 h).1
 by_cases hij:i = j
 ·subst hij
  have hr:fo[i] = r:=(List.getElem?_eq_some_iff.1 h).2
  simp [hi,h,List.getD,hf,hr]
 ·by_cases h2:j < i
  ·simp [hij,h2,show j < i + 1 by omega]
  ·simp [hij,h2,show ¬ j < i + 1 by omega]
theorem TSt.grow {H:a06} {a b q:Nat} {ids:Nat → Nat} {w:Nat} {fo:List (List (BitVec 64))} {fr:Int} {L:a06} (h:TSt H H.length a b q ids w fo fr):TSt (H ++ L) H.length a b q ids w fo fr:=
 ⟨h.tbl.more,fun c hc=>by rw [a55 (eq_true hc)];exact h.lowf c hc,h.bnd⟩
theorem b2f (vs:List (List Nat)) (n:Nat):(a4w vs n).length = n:=by simp [a4w]
def b9i (a q:Nat):AV:=.func (.func 53) [] [.ptr a 0 0,.ptr q 0 0]
theorem exi {A P Q:Frm → a06 → Prop} (h:∃ F1 H1,A F1 H1 ∧ P F1 H1) (hq:∀ F1 H1,P F1 H1 → Q F1 H1):∃ F1 H1,A F1 H1 ∧ Q F1 H1:=by
 obtain ⟨F1,H1,h1,h2⟩:=h;exact ⟨F1,H1,h1,hq _ _ h2⟩
theorem c7v (l:List Flt):FlatR (l.map Flt.enc):=FlatR.map fun _=>rfl
theorem b5o (c:Cir) (ord:List Nat) (h:Hk W) (nets:List W):((a2i c ord).seen a1t h nets).length = c.outs.length + (kinds c.nodes 14).length:=by
 show (c31 a1t c.nodes h c.outs (kinds c.nodes 14) nets).length = _
 unfold c31;simp
theorem e5o (c:Cir) (hc:c.wf) (ord:List Nat) (ho:∀ n ∈ ord,n < c.nodes.length) (hol:ord.length ≤ 1000) (rl:Rep) (rp:Rep) (l:List Flt) (ps:List Pat) (hf:∀ f ∈ l,FltOk c.nodes f) (hp:∀ p ∈ ps,PatOk c.nodes p) (hpl:ps.length ≤ 64)
 (H:a06) (a b q:Nat) (ids:Nat → Nat) (w:Nat) (fo:List (List (BitVec 64))) (fr:Nat) (ht:TSt H H.length a b q ids w fo fr) (hfo:fo.length = l.length) (hll:l.length ≤ 1000) (hk:fr / 64 < w) (hfr:fr < 1000000) :
 ∃ H1,sem L.env Mf 52 [.agg (a4u c ord net0V pin0V),sl rl (l.map Flt.enc),sl rp (ps.map Pat.enc),b9i a q] H = some (.tuple [],H1) ∧ H1.length = H.length ∧ Tbl H1 a b q ids w (b79 l (fun f=>b41 c ord f ps) (fr / 64) fo l.length) fr:=by
 have hnl:=hc.len
 have hki:=a63 c.nodes 0
 have hk14:=a63 c.nodes 14
 have hpi:=fun H=>b2e (d:=false) H rp ps d5n Pat.ic Pat.ins e5m (kinds c.nodes 0).length (by omega) hpl (fun p hm=>⟨(hp p hm).ins,(hp p hm).inv⟩)
 have hps:=fun H=>b2e (d:=false) H rp ps d5l Pat.sc Pat.sts e5l (kinds c.nodes 14).length (by omega) hpl (fun p hm=>⟨(hp p hm).sts,(hp p hm).stv⟩)
 have hvl:(c9p c ps).length = (kinds c.nodes 0).length:=b2f _ _
 have hsl:(c9o c ps).length = (kinds c.nodes 14).length:=b2f _ _
 have hhw:∀ f:Flt,b41 c ord f ps = if ps.length < 64 then b50 c ord f (c9p c ps) (c9o c ps) &&& (BitVec.ofInt 64 1 <<< ps.length - BitVec.ofInt 64 1) else b50 c ord f (c9p c ps) (c9o c ps):=fun _=>rfl
 rw [show a4w (ps.map Pat.ins) (kinds c.nodes 0).length = c9p c ps from rfl] at hpi
 rw [show a4w (ps.map Pat.sts) (kinds c.nodes 14).length = c9o c ps from rfl] at hps
 generalize c9p c ps = vi at hpi hvl hhw
 generalize c9o c ps = vs at hps hsl hhw
 have hr0:=fun d H=>c17 (d:=d) H c hc ord ho hol net0V pin0V hk0 (e1e _) (e0z _) (some (some (kinds c.nodes 0).length)) (some (some (kinds c.nodes 14).length)) vi vs hvl hsl
 have hgl:((a2i c ord).nets a1t hk0 vi vs).length = c.nodes.length:=c6j _ _ _ _ _
 have hwh:=fun H f hfm=>c2u (d:=true) H c ord f hfm (some (some c.nodes.length)) ((a2i c ord).nets a1t hk0 vi vs) hgl
 have hrf:=fun H (f:Flt) (hfm:FltOk c.nodes f)=>c17 (d:=true) H c hc ord ho hol _ _ (hkF f (a1w a1t ((a2i c ord).nets a1t hk0 vi vs) f)) (e0a _ f hfm.model _) (e09 _ f _) (some (some (kinds c.nodes 0).length)) (some (some (kinds c.nodes 14).length)) vi vs hvl hsl
 have hct:=fun H (f:Flt)=>b6s (d:=false) H none none ((a2i c ord).seen a1t hk0 ((a2i c ord).nets a1t hk0 vi vs)) ((a2i c ord).seen a1t (hkF f (a1w a1t ((a2i c ord).nets a1t hk0 vi vs) f)) ((a2i c ord).nets a1t (hkF f (a1w a1t ((a2i c ord).nets a1t hk0 vi vs) f)) vi vs)) (by rw [b5o,b5o];omega) (by rw [b5o];have:=hc.outl;omega)
 have hraw:∀ f:Flt,b7a ((a2i c ord).seen a1t hk0 ((a2i c ord).nets a1t hk0 vi vs)) ((a2i c ord).seen a1t (hkF f (a1w a1t ((a2i c ord).nets a1t hk0 vi vs) f)) ((a2i c ord).nets a1t (hkF f (a1w a1t ((a2i c ord).nets a1t hk0 vi vs) f)) vi vs)) 0 = b50 c ord f vi vs:=fun _=>rfl
 simp only [hraw] at hct
 generalize hG:(a2i c ord).nets a1t hk0 vi vs = G at hr0 hgl hwh hrf hct hraw
 generalize hS:(a2i c ord).seen a1t hk0 G = SG at hr0 hct
 obtain ⟨r0,e3⟩:=a3b (kinds c.nodes 0)
 obtain ⟨r1,e4⟩:=a3b (kinds c.nodes 14)
 have hxfl:a0d (a4u c ord net0V pin0V) = []:=a73 _ _ _ _ rfl rfl
 have hxR:FlatR [a4u c ord net0V pin0V]:=FlatR.cons hxfl FlatR.nil
 have hEe:a4u c ord net0V pin0V = [sl c.nc (c.nodes.map Nd.enc),sl c.mc (c.names.map a44),.nilslice,sl c.oc (c.outs.map a0n),.islice (ord.map a0n) (some c.nodes.length),sl r0 ((kinds c.nodes 0).map a0n),sl r1 ((kinds c.nodes 14).map a0n),net0V,pin0V]:=by unfold a4u;rw [e3,e4]
 simp only [a2v] at hr0 hwh hrf
 generalize hm:H.length = m at ht
 suffices hs:∃ r:AV × a06,(∃ H1,r = (.tuple [],H1) ∧ H1.length = m ∧ Tbl H1 a b q ids w (b79 l (fun f=>b41 c ord f ps) (fr / 64) fo l.length) fr) ∧ sem L.env Mf 52 [.agg (a4u c ord net0V pin0V),sl rl (l.map Flt.enc),sl rp (ps.map Pat.enc),b9i a q] H = some r by
  obtain ⟨r,⟨H1,rfl,h1,h2⟩,h3⟩:=hs
  exact ⟨H1,h3,h1,h2⟩
 have hnet:refs net0V = []:=rfl
 have hpin:refs pin0V = []:=rfl
 unfold d5n at hpi
 unfold d5l at hps
 unfold b9i
 have hfr0:∀ i,a1j [1,2,3,4,8,9,10,11,34,35] [(1,sl rl (l.map Flt.enc)),(2,sl rp (ps.map Pat.enc)),(3,b9i a q),(4,AV.ptr m 0 0),(8,.islice (vi.map W.enc) (some (kinds c.nodes 0).length)),(9,.islice (vs.map W.enc) (some (kinds c.nodes 14).length)),(10,.islice (G.map W.enc) (some c.nodes.length)),(11,sl none (SG.map W.enc)),(34,.int .i64 l.length),(35,.int .i64 (i:Nat))] = [(1,sl rl (l.map Flt.enc)),(2,sl rp (ps.map Pat.enc)),(3,b9i a q),(4,AV.ptr m 0 0),(8,.islice (vi.map W.enc) (some (kinds c.nodes 0).length)),(9,.islice (vs.map W.enc) (some (kinds c.nodes 14).length)),(10,.islice (G.map W.enc) (some c.nodes.length)),(11,sl none (SG.map W.enc)),(34,.int .i64 l.length),(35,.int .i64 (i:Nat))]:=fun i=>by simp +decide only [go_sem,a1j]
 have hhead:∀ (F:Frm) (H2:a06) (i:Nat),a1j [1,2,3,4,8,9,10,11,34,35] F = [(1,sl rl (l.map Flt.enc)),(2,sl rp (ps.map Pat.enc)),(3,b9i a q),(4,AV.ptr m 0 0),(8,.islice (vi.map W.enc) (some (kinds c.nodes 0).length)),(9,.islice (vs.map W.enc) (some (kinds c.nodes 14).length)),(10,.islice (G.map W.enc) (some c.nodes.length)),(11,sl none (SG.map W.enc)),(34,.int .i64 l.length),(35,.int .i64 (i:Nat))] →
  TSt H2 m a b q ids w (b79 l (fun f=>b41 c ord f ps) (fr / 64) fo i) fr → a04 H2 m = some (.row 9 [a4u c ord net0V pin0V]) →
  ∃ F1 H1,gcD m [1,2,3,4,8,9,10,11,34,35] F H2 = some (F1,H1) ∧ F1 = [(1,sl rl (l.map Flt.enc)),(2,sl rp (ps.map Pat.enc)),(3,b9i a q),(4,AV.ptr m 0 0),(8,.islice (vi.map W.enc) (some (kinds c.nodes 0).length)),(9,.islice (vs.map W.enc) (some (kinds c.nodes 14).length)),(10,.islice (G.map W.enc) (some c.nodes.length)),(11,sl none (SG.map W.enc)),(34,.int .i64 l.length),(35,.int .i64 (i:Nat))] ∧ TSt H1 m a b q ids w (b79 l (fun f=>b41 c ord f ps) (fr / 64) fo i) fr ∧ a04 H1 m = some (.row 9 [a4u c ord net0V pin0V]) ∧ H1.length = m + 1:=by
  intro F H2 i hkF ht2 hx2
  have hrefs:a0d ((a1j [1,2,3,4,8,9,10,11,34,35] F).map (·.2)) = [a,q,m]:=by rw [hkF];simp only [b9i,List.map_cons,List.map_nil,a0c,a3d,a2r,b7p,b1i,a6o,a93,b1j,List.append_nil,List.nil_append,List.cons_append]
  have ha:=ht2.bnd a (Tbl.mem_blocks.2 (.inl rfl))
  have hq:=ht2.bnd q (Tbl.mem_blocks.2 (.inr (.inr (.inl rfl))))
  obtain ⟨H1,k1,k2,k3,k4,k5⟩:=ht2.head (keep:=[1,2,3,4,8,9,10,11,34,35]) (F:=F) hx2 (a0t hxR) (FlatO.row hxR) (by rw [b1u];omega) (by rw [hrefs];intro x hx;simp only [List.mem_cons,List.not_mem_nil,or_false] at hx;omega) (by rw [hrefs];simp) (by rw [hrefs];simp) (by rw [hrefs];simp) (by rw [hrefs];simp) (by
   rw [hrefs];intro x hx
   simp only [List.mem_cons,List.not_mem_nil,or_false] at hx
   rcases hx with rfl|rfl|rfl;exact .inr (.inl (Tbl.mem_blocks.2 (.inl rfl)));exact .inr (.inl (Tbl.mem_blocks.2 (.inr (.inr (.inl rfl)))));exact .inl rfl)
  exact ⟨_,H1,k1,hkF,k2,k3,k4⟩
 unfold b9i at hhead
 (refine svE Tryz.f52 ?_;simp only [Tryz.f52,gS])
 rw [hEe] at hr0 hwh ⊢
 rw [hm]
 have hHm:∀ L:a06,a04 (H ++ L) m = a04 L 0:=by intro L;rw [← hm];exact a4q
 (repeat first|simp only [ww]|(apply xa;simp +decide only [go_sem,hHm,hpi,hps,hr0,hm,a7x];rfl;kernel_rfl))
 refine a24 kp52_0 (fun n F H1=>∃ i,n = l.length - i ∧ i ≤ l.length ∧ F = [(1,sl rl (l.map Flt.enc)),(2,sl rp (ps.map Pat.enc)),(3,b9i a q),(4,AV.ptr m 0 0),(8,.islice (vi.map W.enc) (some (kinds c.nodes 0).length)),(9,.islice (vs.map W.enc) (some (kinds c.nodes 14).length)),(10,.islice (G.map W.enc) (some c.nodes.length)),(11,sl none (SG.map W.enc)),(34,.int .i64 l.length),(35,.int .i64 (i:Nat))] ∧ TSt H1 m a b q ids w (b79 l (fun f=>b41 c ord f ps) (fr / 64) fo i) fr ∧ a04 H1 m = some (.row 9 [a4u c ord net0V pin0V]) ∧ H1.length = m + 1) (l.length - 0) ?_ ?_
 ·have htg:=TSt.grow (L:=[some (AObj.row 9 [a4u c ord net0V pin0V])]) (hm.symm ▸ ht)
  rw [hm] at htg
  rw [hEe] at htg
  refine exi (hhead _ _ 0 (by simp +decide only [go_sem,a1j]<;>rfl) (by rw [c7r];exact htg) (by rw [hHm,hEe];rfl)) ?_
  rintro F3 H3 ⟨k2,k3,k4,k5⟩
  exact ⟨0,rfl,Nat.zero_le _,k2,k3,k4,k5⟩
 ·rintro n F H1 ⟨i,rfl,hi,rfl,ht1,hx1,hlen1⟩
  have hx1':=hx1
  rw [hEe] at hx1'
  by_cases hlt:i < l.length
  ·obtain ⟨f,hfi⟩:∃ f,l[i]? = some f:=⟨_,z9e hlt⟩
   have hfm:=hf f (List.mem_of_getElem? hfi)
   obtain ⟨r,hr⟩:∃ r,fo[i]? = some r:=⟨_,z9e (by omega)⟩
   have hgt:=d1y (l:=l) (hit:=fun f=>b41 c ord f ps) (k:=fr / 64) hr
   have hsc:=c7s (hit:=fun f=>b41 c ord f ps) (k:=fr / 64) hfi hr
   obtain ⟨H2,σ,hcb,ht2,hl2,hout2⟩:=c53 (d:=false) ht1 (by omega) (by rw [b1u];omega) i r hgt hk hfr (b41 c ord f ps)
   rw [hsc] at ht2
   have hmn:m ∉ Tbl.blocks a b q ids (b79 l (fun f=>b41 c ord f ps) (fr / 64) fo i).length:=by
    rw [b1u];intro hm2;have:=ht.bnd m hm2;omega
   have hx2:=(hout2 m hmn).trans hx1
   have c1:(i:Int) < l.length:=by omega
   have hwi:=wI1 (n:=i) (by omega)
   have hwf:=fun H=>hwh H f hfm
   have hrff:=fun H=>hrf H f hfm
   have hctf:=fun H=>hct H f
   simp only [Flt.enc] at hwf
   unfold b9i
   have hml:m < H1.length:=by omega
   have hhwf:=hhw f
   by_cases h64:ps.length < 64
   ·have c2:(ps.length:Int) < 64:=by omega
    rw [if_pos h64] at hhwf
    rw [hhwf] at hcb
    have c0:¬ (ps.length:Int) < 0:=by omega
    (repeat first|simp only [ww]|(apply xa;simp +decide only [go_sem,c0,c1,hlt,hfi,hwi,hx1',hml,hwf,hrff,hctf,c2,hcb];rfl;kernel_rfl))
    refine a12 (l.length - (i + 1)) (by omega) ?_
    refine exi (hhead _ _ (i + 1) (by simp +decide only [go_sem,a1j]<;>rfl) ht2 hx2) ?_
    rintro F3 H3 ⟨k2,k3,k4,k5⟩
    exact ⟨i + 1,rfl,hlt,k2,k3,k4,k5⟩
   ·have c2:¬ (ps.length:Int) < 64:=by omega
    rw [if_neg h64] at hhwf
    rw [hhwf] at hcb
    (repeat first|simp only [ww]|(apply xa;simp +decide only [go_sem,c1,hlt,hfi,hwi,hx1',hml,hwf,hrff,hctf,c2,hcb];rfl;kernel_rfl))
    refine a12 (l.length - (i + 1)) (by omega) ?_
    refine exi (hhead _ _ (i + 1) (by simp +decide only [go_sem,a1j]<;>rfl) ht2 hx2) ?_
    rintro F3 H3 ⟨k2,k3,k4,k5⟩
    exact ⟨i + 1,rfl,hlt,k2,k3,k4,k5⟩
  ·obtain rfl:i = l.length:=by omega
   have c1:¬ (l.length:Int) < l.length:=by omega
   (repeat first|simp only [ww]|(apply xa;simp +decide only [go_sem,c1];rfl;kernel_rfl))
   generalize hfoT:b79 l (fun f=>b41 c ord f ps) (fr / 64) fo l.length = FT at ht1 ⊢
   have hid:∀ c o,c < m → a04 H1 c = some o → (∀ d ∈ a0v (some o),d < m) → a04 ((H1.take m).map (Option.map (a0m (a19 m)))) c = some o:=by
    intro c o hcm hco hd
    have hb:∀ d,d < m → a19 m d = some d:=fun d hd=>by rw [a6q];simp [hd]
    unfold a04 at hco ⊢
    rw [List.getElem?_map,List.getElem?_take,if_pos hcm]
    cases hcc:H1[c]? with
    | none=>rw [hcc] at hco;cases hco
    | some o'=>
     rw [hcc] at hco
     simp only [Option.join_some] at hco
     subst hco
     simp only [Option.map_some,Option.join_some]
     rw [b4i hb o hd]
   have hbl:∀ c o,c ∈ Tbl.blocks a b q ids FT.length → a04 H1 c = some o → a04 ((H1.take m).map (Option.map (a0m (a19 m)))) c = some o:=by
    intro c o hcb hco
    refine hid c o (ht1.bnd c hcb) hco fun d hd=>ht1.bnd d (ht1.tbl.closed c hcb d (by rw [hco];exact hd))
   refine a5v (vs:=[]) (r:=(.tuple [],(H1.take m).map (Option.map (a0m (a19 m))))) (by simp +decide only [go_sem]) (by rw [show L.env.thaw 52 = false from rfl,a87];rfl) ⟨_,rfl,by simp;omega,?_⟩
   ·refine ht1.tbl.same fun c hc=>?_
    have hcb:=Tbl.mem_blocks.2 hc
    cases hco:a04 H1 c with
    | some o=>exact hbl c o hcb hco
    | none=>
     exfalso
     rcases hc with rfl|rfl|rfl|⟨j,hj,rfl⟩
     ·rw [ht1.tbl.out] at hco;cases hco
     ·rw [ht1.tbl.top] at hco;cases hco
     ·rw [ht1.tbl.frm] at hco;cases hco
     ·obtain ⟨f',hf'⟩:∃ f',FT[j]? = some f':=⟨_,z9e hj⟩
      rw [(ht1.tbl.sub j f' hf').1] at hco;cases hco
theorem b28 (c:Cir) (ord:List Nat):a0d (a4u c ord net0V pin0V) = []:=a73 _ _ _ _ rfl rfl
def a3k (tests:List Pat) (t:Nat):List Pat:=(tests.drop (64 * t)).take 64
def b3x (c:Cir) (ord:List Nat) (l:List Flt) (tests:List Pat):List (List (BitVec 64)):=l.map fun f=>(List.range ((tests.length + 63) / 64)).map fun t=>b41 c ord f (a3k tests t)
def foT (c:Cir) (ord:List Nat) (l:List Flt) (tests:List Pat) (w t:Nat):List (List (BitVec 64)):=l.map fun f=>(List.range w).map fun k=>if k < t then b41 c ord f (a3k tests k) else 0#64
theorem b36 (c:Cir) (ord:List Nat) (l:List Flt) (tests:List Pat) (w t:Nat):(foT c ord l tests w t).length = l.length:=by simp [foT]
theorem d1z (c:Cir) (ord:List Nat) (l:List Flt) (tests:List Pat) (w:Nat):foT c ord l tests w 0 = List.replicate l.length (List.replicate w 0#64):=by
 unfold foT
 have e1:(List.range w).map (fun k=>if k < 0 then (0#64:BitVec 64) else 0#64) = List.replicate w 0#64:=by
  refine (List.map_congr_left (g:=fun _=>0#64) (fun j _=>if_neg (Nat.not_lt_zero _))).trans ?_
  rw [List.map_const',List.length_range]
 refine (List.map_congr_left (g:=fun _=>List.replicate w 0#64) (fun f _=>?_)).trans (by rw [List.map_const'])
 refine (List.map_congr_left (g:=fun _=>0#64) (fun j _=>if_neg (Nat.not_lt_zero _))).trans ?_
 rw [List.map_const',List.length_range]
theorem d21 (c:Cir) (ord:List Nat) (l:List Flt) (tests:List Pat):foT c ord l tests ((tests.length + 63) / 64) ((tests.length + 63) / 64) = b3x c ord l tests:=by
 unfold foT b3x
 refine List.map_congr_left fun f _=>List.map_congr_left fun k hk=>if_pos (by simpa using hk)
theorem d20 {c:Cir} {ord:List Nat} {l:List Flt} {tests:List Pat} {w t:Nat} (h:t < w):b79 l (fun f=>b41 c ord f (a3k tests t)) t (foT c ord l tests w t) l.length = foT c ord l tests w (t + 1):=by
 apply List.ext_getElem?
 intro j
 unfold b79 foT
 rw [List.getElem?_mapIdx,List.getElem?_map,List.getElem?_map]
 cases hj:l[j]? with
 | none=>rfl
 | some f=>
  have hjl:=(List.getElem?_eq_some_iff.1 hj).1
  simp only [Option.map_some,if_pos hjl]
  congr 1
  apply List.ext_getElem?
  intro k
  rw [List.getElem?_set]
  have hgd:l.getD j ⟨0,0,0,0,0⟩ = f:=by rw [List.getD_eq_getElem?_getD,hj];rfl
  by_cases htk:t = k
  ·subst htk
   simp [h,hj]
  ·rw [if_neg htk]
   by_cases hkw:k < w
   ·rw [List.getElem?_map,List.getElem?_map,List.getElem?_range hkw]
    simp only [Option.map_some]
    congr 1
    by_cases h1:k < t
    ·rw [if_pos h1,if_pos (by omega)]
    ·rw [if_neg h1,if_neg (by omega)]
   ·rw [List.getElem?_eq_none (by simp;omega),List.getElem?_eq_none (by simp;omega)]
theorem b6u (tests:List Pat) (t:Nat) (h:64 * t < tests.length):(tests.take (min (64 * t + 64) tests.length)).drop (64 * t) = a3k tests t:=by
 unfold a3k
 rw [List.drop_take]
 by_cases h1:64 * t + 64 ≤ tests.length
 ·rw [Nat.min_eq_left h1,Nat.add_sub_cancel_left]
 ·rw [Nat.min_eq_right (by omega),List.take_of_length_le (by simp),List.take_of_length_le (by simp;omega)]
theorem c5e (c:Rep) (rows:List (List AV)) (i j:Nat):∃ rp:Rep,slP c rows i j = sl rp ((rows.take j).drop i):=by
 cases c with
 | some c=>exact ⟨some (c.map (·- i)),by rw [a2v];rfl⟩
 | none=>cases rows with
  | nil=>exact ⟨none,by simp [slP,sl]⟩
  | cons r rs=>exact ⟨some none,by rw [a2v];rfl⟩
theorem a88 {tests:List Pat} {t:Nat} {p:Pat} (h:p ∈ a3k tests t):p ∈ tests:=List.mem_of_mem_drop (List.mem_of_mem_take h)
theorem a6w (tests:List Pat) (t:Nat):(a3k tests t).length ≤ 64:=by unfold a3k;simp;omega
theorem d0o (π:Nat → Option Nat) (c:Cir) (ord:List Nat):ren π (.agg (a4u c ord net0V pin0V)) = .agg (a4u c ord net0V pin0V):=a2b π _ (by rw [a10,b28])
theorem b4y {i n:Nat} (h:i ≤ n):inB (i:Int) n = true:=by simp [inB];omega
theorem d8l (k k':IntKind) (a b:Int):d8m (.int k a) [.int k' b] = some (.int k (if b < a then b else a)):=by rfl
theorem b4h (π:Nat → Option Nat) (k:Nat) (rows:List (List AV)):a0m π (.row k rows) = .row k (rows.map fun r=>r.map (ren π)):=by rfl
theorem e0f (c:Cir) (h:c.wf) (rl rt:Rep) (l:List Flt) (tests:List Pat) (hll:l.length ≤ 1000) (htl:tests.length ≤ 4096) (hf:∀ f ∈ l,FltOk c.nodes f) (hp:∀ p ∈ tests,PatOk c.nodes p) (ord:List Nat) (hop:ord.Perm (List.range c.nodes.length))
 (hst:∀ (d:Bool) (H:a06),a0e L.env d (sem L.env Mf) (.func (.func 51) [] []) [.agg c.enc] H = some (.agg (a4u c ord net0V pin0V),H,[])) :
 sem L.env Mf 31 [.agg c.enc,sl rl (l.map Flt.enc),sl rt (tests.map Pat.enc)] [] = some (.tuple [.islice ((b3x c ord l tests).map fun r=>[.islice (r.map b3v) (some ((tests.length + 63) / 64))]) (some l.length),.int .i64 0],[]):=by
 have hnl:=h.len
 have hll':l.length ≤ 65536:=by omega
 have hck:=fun H=>a05 (E:=L.env) (draw:=false) (call:=sem L.env Mf) (g:=50) (fs:=[]) (cs:=[]) (ar:=[.agg c.enc,sl rl (l.map Flt.enc),sl rt (tests.map Pat.enc)]) (H:=H) (by kernel_rfl) (by kernel_rfl) rfl (by simp only [List.nil_append,List.append_nil,a0c,a10,Cir.enc,go_sem]) (d6b c h rl rt l tests hll' htl hf hp) rfl
 have hrm:l.length ≤ 1000000000:=by omega
 have hw1:IntKind.i64.wrap ((tests.length:Int) + 64) = ((tests.length + 64:Nat):Int):=by rw [w64 (by omega) (by omega)];omega
 have hw2:IntKind.i64.wrap (((tests.length + 64:Nat):Int) - 1) = ((tests.length + 63:Nat):Int):=by rw [w64 (by omega) (by omega)];omega
 have hw3:=wI (n:=(tests.length + 63) / 64) (by omega)
 have hrw:(tests.length + 63) / 64 ≤ 1000000000:=by omega
 have hst1:=fun H=>hst false H
 obtain ⟨r0,e3⟩:=a3b (kinds c.nodes 0)
 obtain ⟨r1,e4⟩:=a3b (kinds c.nodes 14)
 suffices hs:∃ r:AV × a06,(r = (.tuple [.islice ((b3x c ord l tests).map fun r=>[.islice (r.map b3v) (some ((tests.length + 63) / 64))]) (some l.length),.int .i64 0],[])) ∧ sem L.env Mf 31 [.agg c.enc,sl rl (l.map Flt.enc),sl rt (tests.map Pat.enc)] [] = some r by
  obtain ⟨r,rfl,h3⟩:=hs
  exact h3
 have hEe:a4u c ord net0V pin0V = [sl c.nc (c.nodes.map Nd.enc),sl c.mc (c.names.map a44),.nilslice,sl c.oc (c.outs.map a0n),.islice (ord.map a0n) (some c.nodes.length),sl r0 ((kinds c.nodes 0).map a0n),sl r1 ((kinds c.nodes 14).map a0n),net0V,pin0V]:=by unfold a4u;rw [e3,e4]
 rw [hEe] at hst1
 have hor:∀ n ∈ ord,n < c.nodes.length:=fun n hn=>by have:=hop.mem_iff.1 hn;simpa using this
 have hol:ord.length ≤ 1000:=by rw [hop.length_eq];simp;omega
 have hs0:net0V.storable = true:=rfl
 have hs1:pin0V.storable = true:=rfl
 simp only [Cir.enc] at hck hst1 ⊢
 have hhead0:∀ (F:Frm) (H2:a06) (i cb a b:Nat) (ids:Nat → Nat),i ≤ l.length → a1j [1,2,3,9,24,25] F = [(1,sl rl (l.map Flt.enc)),(2,sl rt (tests.map Pat.enc)),(3,.ptr cb 0 0),(9,.ptr a 0 0),(24,.int .i64 l.length),(25,.int .i64 (i:Nat))] →
  Tb0 H2 a b ids ((tests.length + 63) / 64) l.length i → a04 H2 cb = some (.row 4 [[sl c.nc (c.nodes.map Nd.enc),sl c.mc (c.names.map a44),.nilslice,sl c.oc (c.outs.map a0n)]]) → 0 ≤ H2.length →
  ∃ F1 H1,gcD 0 [1,2,3,9,24,25] F H2 = some (F1,H1) ∧ (fun N F H1=>∃ (i cb a b:Nat) (ids:Nat → Nat),N = l.length - i ∧ i ≤ l.length ∧ F = [(1,sl rl (l.map Flt.enc)),(2,sl rt (tests.map Pat.enc)),(3,.ptr cb 0 0),(9,.ptr a 0 0),(24,.int .i64 l.length),(25,.int .i64 (i:Nat))] ∧ Tb0 H1 a b ids ((tests.length + 63) / 64) l.length i ∧ a04 H1 cb = some (.row 4 [[sl c.nc (c.nodes.map Nd.enc),sl c.mc (c.names.map a44),.nilslice,sl c.oc (c.outs.map a0n)]]) ∧ 0 ≤ H1.length) (l.length - i) F1 H1:=by
  intro F H2 i cb a b ids hi hkF ht hcb hmm
  have hrefs:a0d ((a1j [1,2,3,9,24,25] F).map (·.2)) = [cb,a]:=by rw [hkF];simp only [List.map_cons,List.map_nil,a0c,a3d,a2r,b1i,a6o,b1j,List.append_nil,List.nil_append,List.cons_append]
  have hcbf:a0v (a04 H2 cb) = []:=by rw [hcb];simp only [go_sem]
  have hcost:=ht.cost
  refine d46 hmm (cb :: Tb0.blocks a b ids i) ?_ ?_ ?_ ?_ (by rw [hrefs];simp) ?_
  ·rw [hrefs];intro x hx;simp only [List.mem_cons,List.not_mem_nil,or_false] at hx ⊢
   rcases hx with rfl|rfl
   ·exact .inl rfl
   ·exact .inr (Tb0.mem_blocks.2 (.inl rfl))
  ·intro x hx
   omega
  ·intro x hx y hy
   simp only [List.mem_cons] at hx ⊢
   rcases hx with rfl|hx
   ·rw [hcbf] at hy;simp at hy
   ·exact .inr (ht.closed hi x hx y hy)
  ·simp only [List.map_cons,List.sum_cons,hcbf,List.length_nil];omega
  ·intro R π H1 hg hl1
   have hRa:=hg.refs a (by rw [hrefs];simp)
   have hRc:=hg.refs cb (by rw [hrefs];simp)
   obtain ⟨a',b',ids',ea,ht'⟩:=ht.mv hi hg.mv hRa
   obtain ⟨cb',ec⟩:=hg.here cb hRc
   refine ⟨i,cb',a',b',ids',rfl,hi,?_,ht',?_,hl1⟩
   ·rw [hkF]
    simp +decide only [go_sem,ea,ec]
   ·rw [hg.heap _ _ ec,hcb];simp only [go_sem,Option.map_some,b4h]
 have hhead2:∀ (F:Frm) (H2:a06) (t eb a b q:Nat) (ids:Nat → Nat),t ≤ ((tests.length + 63) / 64) → a1j [1,2,9,11,12] F = [(1,sl rl (l.map Flt.enc)),(2,sl rt (tests.map Pat.enc)),(9,.ptr a 0 0),(11,.ptr eb 0 0),(12,.ptr q 0 0)] →
  Tbl H2 a b q ids ((tests.length + 63) / 64) (foT c ord l tests ((tests.length + 63) / 64) t) ((64 * t:Nat):Int) → a04 H2 eb = some (.row 9 [a4u c ord net0V pin0V]) → 0 ≤ H2.length →
  ∃ F1 H1,gcD 0 [1,2,9,11,12] F H2 = some (F1,H1) ∧ (fun N F H1=>∃ (t eb a b q:Nat) (ids:Nat → Nat),N = ((tests.length + 63) / 64) - t ∧ t ≤ ((tests.length + 63) / 64) ∧ F = [(1,sl rl (l.map Flt.enc)),(2,sl rt (tests.map Pat.enc)),(9,.ptr a 0 0),(11,.ptr eb 0 0),(12,.ptr q 0 0)] ∧ Tbl H1 a b q ids ((tests.length + 63) / 64) (foT c ord l tests ((tests.length + 63) / 64) t) ((64 * t:Nat):Int) ∧ a04 H1 eb = some (.row 9 [a4u c ord net0V pin0V]) ∧ 0 ≤ H1.length) (((tests.length + 63) / 64) - t) F1 H1:=by
  intro F H2 t eb a b q ids hi hkF ht heb hmm
  have hrefs:a0d ((a1j [1,2,9,11,12] F).map (·.2)) = [a,eb,q]:=by rw [hkF];simp only [List.map_cons,List.map_nil,a0c,a3d,a2r,b1i,a6o,b1j,List.append_nil,List.nil_append,List.cons_append]
  have hxR:FlatR [a4u c ord net0V pin0V]:=FlatR.cons (b28 c ord) FlatR.nil
  have hebf:a0v (a04 H2 eb) = []:=by rw [heb];exact a0t hxR
  have hcost:=ht.cost
  have hfl:=b36 c ord l tests ((tests.length + 63) / 64) t
  refine d46 hmm (eb :: Tbl.blocks a b q ids (foT c ord l tests ((tests.length + 63) / 64) t).length) ?_ ?_ ?_ ?_ (by rw [hrefs];simp) ?_
  ·rw [hrefs];intro x hx;simp only [List.mem_cons,List.not_mem_nil,or_false] at hx ⊢
   rcases hx with rfl|rfl|rfl
   ·exact .inr (Tbl.mem_blocks.2 (.inl rfl))
   ·exact .inl rfl
   ·exact .inr (Tbl.mem_blocks.2 (.inr (.inr (.inl rfl))))
  ·intro x hx
   omega
  ·intro x hx y hy
   simp only [List.mem_cons] at hx ⊢
   rcases hx with rfl|hx
   ·rw [hebf] at hy;simp at hy
   ·exact .inr (ht.closed x hx y hy)
  ·simp only [List.map_cons,List.sum_cons,hebf,List.length_nil];omega
  ·intro R π H1 hg hl1
   have hRa:=hg.refs a (by rw [hrefs];simp)
   have hRe:=hg.refs eb (by rw [hrefs];simp)
   have hRq:=hg.refs q (by rw [hrefs];simp)
   obtain ⟨a',b',q',ids',ea,_,eq,_,ht'⟩:=ht.mv hg.mv hRa hRq
   obtain ⟨eb',ee⟩:=hg.here eb hRe
   refine ⟨t,eb',a',b',q',ids',rfl,hi,?_,ht',?_,hl1⟩
   ·rw [hkF]
    simp +decide only [go_sem,ea,ee,eq]
   ·rw [hg.heap _ _ ee,heb];exact FlatO.row hxR _
 (refine svE Tryz.f31 ?_;simp only [Tryz.f31,gS])
 (repeat first|simp only [ww]|(apply xa;simp +decide only [go_sem,hck,hrm];rfl;kernel_rfl))
 refine a24 kp31_0 (fun N F H1=>∃ (i cb a b:Nat) (ids:Nat → Nat),N = l.length - i ∧ i ≤ l.length ∧ F = [(1,sl rl (l.map Flt.enc)),(2,sl rt (tests.map Pat.enc)),(3,.ptr cb 0 0),(9,.ptr a 0 0),(24,.int .i64 l.length),(25,.int .i64 (i:Nat))] ∧ Tb0 H1 a b ids ((tests.length + 63) / 64) l.length i ∧ a04 H1 cb = some (.row 4 [[sl c.nc (c.nodes.map Nd.enc),sl c.mc (c.names.map a44),.nilslice,sl c.oc (c.outs.map a0n)]]) ∧ 0 ≤ H1.length) (l.length - 0) ?_ ?_
 ·refine hhead0 _ _ 0 0 2 1 (fun _=>0) (Nat.zero_le _) (by simp +decide only [go_sem,a1j]<;>rfl) ⟨rfl,?_,fun j hj=>by omega,by omega,fun j k hj=>by omega⟩ rfl (by simp)
  show some (AObj.row 1 (List.replicate l.length [AV.nilslice])) = _
  have e0:(List.range l.length).map (fun j=>if j < 0 then [AV.slice 0 0 ((tests.length + 63) / 64) (some ((tests.length + 63) / 64))] else [AV.nilslice]) = List.replicate l.length [AV.nilslice]:=by
   refine (List.map_congr_left (g:=fun _=>[AV.nilslice]) (fun j _=>if_neg (Nat.not_lt_zero _))).trans ?_
   rw [List.map_const',List.length_range]
  rw [e0]
 ·rintro N F H1 ⟨i,cb,a,b,ids,rfl,hi,rfl,ht,hcb,hlen⟩
  have hout:=ht.out
  have htop:=ht.top
  have hw0:=wI (n:=i) (by omega)
  have hw1':=wI (n:=i + 1) (by omega)
  by_cases hlt:i < l.length
  ·have hadd:=ht.add hlt
   have hbl:=a0k htop
   have hal:=a0k hout
   have c1:(i:Int) < l.length:=by omega
   have hwi:=wI1 (n:=i) (by omega)
   have htop':∀ L,a04 (H1 ++ L) b = _:=fun L=>(a55 (eq_true hbl)).trans htop
   have hget:((List.range l.length).map fun j=>if j < i then [AV.slice (ids j) 0 ((tests.length + 63) / 64) (some ((tests.length + 63) / 64))] else [.nilslice])[i]? = some [.nilslice]:=by rw [List.getElem?_map,List.getElem?_range hlt];simp
   have hb1:b < H1.length + 1:=by omega
   have hcl:=a0k hcb
   have hcbb:cb ≠ b:=by intro e;rw [e,htop] at hcb;cases hcb
   (repeat first|simp only [ww]|((with_reducible first|apply xs3|apply xI);(·simp +decide only [go_sem,hget,hb1,c5f,htop',hout,htop,hlt,hw1,hw2,hw3,hrw,c1,hwi,hbl,hal,List.length_map,List.length_range];rfl);first|with_reducible apply xT|with_reducible apply xF|(·repeat' (first|exact c1r|exact c19|refine b82 ?_ ?_|refine c18 (by simp only [List.length_cons,List.length_nil];decide +kernel) ?_|refine c1a (b8s (by simp<;>omega) (by simp<;>omega) (by simp<;>omega)) ?_))))
   refine a12 (l.length - (i + 1)) (by omega) ?_
   exact hhead0 _ _ (i + 1) cb a b _ hlt (by simp +decide only [go_sem,a1j]<;>rfl) hadd (by rw [a4p hcl,if_neg (Ne.symm hcbb)];exact hcb) (by simp)
  ·obtain rfl:i = l.length:=by omega
   have c1:¬ (l.length:Int) < l.length:=by omega
   (repeat first|simp only [ww]|(apply xa;simp +decide only [go_sem,c1,hcb,hst1,a4q,a78,b22,b7h,a7x,b69,List.append_assoc,List.cons_append,List.nil_append,hs0,hs1];rfl;kernel_rfl))
   refine a24 kp31_2 (fun N F H1=>∃ (t eb a b q:Nat) (ids:Nat → Nat),N = ((tests.length + 63) / 64) - t ∧ t ≤ ((tests.length + 63) / 64) ∧ F = [(1,sl rl (l.map Flt.enc)),(2,sl rt (tests.map Pat.enc)),(9,.ptr a 0 0),(11,.ptr eb 0 0),(12,.ptr q 0 0)] ∧ Tbl H1 a b q ids ((tests.length + 63) / 64) (foT c ord l tests ((tests.length + 63) / 64) t) ((64 * t:Nat):Int) ∧ a04 H1 eb = some (.row 9 [a4u c ord net0V pin0V]) ∧ 0 ≤ H1.length) (((tests.length + 63) / 64) - 0) ?_ ?_
   ·have hdone:=ht.lt
    refine hhead2 _ _ 0 H1.length a b (H1.length + 1) ids (Nat.zero_le _) (by simp +decide only [go_sem,a1j]<;>rfl) ?_ (by rw [a4q,hEe];rfl) (by simp)
    rw [d1z]
    exact ht.more.done (by rw [a78];rfl) (by omega) (by omega) (fun j hj=>by have:=hdone.2.2 j hj;omega)
   ·rintro N F H1 ⟨t,eb,a,b,q,ids,rfl,hi,rfl,ht,heb,hlen⟩
    have hout:=ht.out
    have hfrm:=ht.frm
    have hb0:=a0k ht.top
    have hal:=a0k hout
    have hw64:IntKind.i64.wrap (((64 * t:Nat):Int) + 64) = ((64 * (t + 1):Nat):Int):=by rw [w64 (by omega) (by omega)];omega
    by_cases hlt:64 * t < tests.length
    ·have c1:((64 * t:Nat):Int) < tests.length:=by omega
     have heb':=heb
     rw [hEe] at heb'
     obtain ⟨rp,hrp⟩:=c5e rt (tests.map Pat.enc) (64 * t) (min (64 * t + 64) tests.length)
     rw [← List.map_take,← List.map_drop,b6u tests t hlt] at hrp
     have hmn:(if (tests.length:Int) < ((64 * (t + 1):Nat):Int) then (tests.length:Int) else ((64 * (t + 1):Nat):Int)) = ((min (64 * t + 64) tests.length:Nat):Int):=by split<;>omega
     have hi1:inB ((min (64 * t + 64) tests.length:Nat):Int) tests.length = true:=b4y (by omega)
     have hi2:inB ((64 * t:Nat):Int) (min (64 * t + 64) tests.length) = true:=b4y (by omega)
     have hal1:(tests.map Pat.enc).all (fun r=>decide (r.length = 2)) = true:=by simp [Pat.enc]
     obtain ⟨H2,σ,hcb,ht2,hl2,hout2⟩:=c8j (E:=L.env) (d:=true) (call:=sem L.env Mf) (g:=52) (H:=H1) (by kernel_rfl) (by kernel_rfl) (fun y z=>[.agg (a4u c ord net0V pin0V),sl rl (l.map Flt.enc),sl rp ((a3k tests t).map Pat.enc),b9i y z])
      (by intro y z;simp only [b9i,a0c,a3d,a2r,b7p,b1i,a6o,a10,b28,List.append_nil,List.nil_append,List.cons_append])
      (by intro π y z y' z' e1 e2;simp only [b9i,List.map_cons,List.map_nil,c1d,c1e,d5z,c5t,c5y,d0o,e1,e2]) ht (by rw [b36];omega) (fo':=foT c ord l tests ((tests.length + 63) / 64) (t + 1)) (by rw [b36,b36]) (by
      intro H0 a' b' q' ids' hT
      have hrw:=e5o c h ord hor hol rl rp l (a3k tests t) hf (fun p hp'=>hp p (a88 hp')) (a6w tests t) H0 a' b' q' ids' ((tests.length + 63) / 64) (foT c ord l tests ((tests.length + 63) / 64) t) (64 * t) hT (b36 c ord l tests ((tests.length + 63) / 64) t) hll (by omega) (by omega)
      rw [show 64 * t / 64 = t by omega,d20 (by omega)] at hrw
      exact hrw)
     unfold b9i at hcb
     rw [hEe] at hcb
     have hfrm2:=ht2.frm
     have hnq:=ht2.newq ((64 * (t + 1):Nat):Int)
     have hel:=a0k heb
     (repeat first|simp only [ww]|((with_reducible first|apply xs3|apply xI);(·simp +decide only [go_sem,hout,hfrm,hfrm2,c1,heb',hw64,hrp,hmn,hi1,hi2,hal1,hcb,d8l,a4q,b22,a7x];rfl);first|with_reducible apply xT|with_reducible apply xF|(·repeat' (first|exact c1r|exact c19|refine b82 ?_ ?_|refine c18 (by simp only [List.length_cons,List.length_nil];decide +kernel) ?_|refine c1a (b8s (by simp<;>omega) (by simp<;>omega) (by simp<;>omega)) ?_))))
     refine a12 (((tests.length + 63) / 64) - (t + 1)) (by omega) ?_
     exact hhead2 _ _ (t + 1) eb a b H2.length ids (by omega) (by simp +decide only [go_sem,a1j]<;>rfl) hnq (by rw [a55 (eq_true (by omega))];exact (hout2 eb (ht.other heb (by omega))).trans heb) (by simp)
    ·have c1:¬ ((64 * t:Nat):Int) < tests.length:=by omega
     obtain rfl:t = ((tests.length + 63) / 64):=by omega
     rw [d21] at ht
     have htl:(b3x c ord l tests).length = l.length:=by simp [b3x]
     have hout9:=ht.out
     rw [htl] at hout9
     have hz:=ht.frz (m:=0) (Nat.zero_le _) (fun j _=>Nat.zero_le _)
     rw [htl] at hz
     (repeat first|simp only [ww]|(apply xa;simp +decide only [go_sem,hout9,hfrm,c1];rfl;kernel_rfl))
     refine a4s (vs:=[.slice b 0 l.length (some l.length),.int .i64 0]) (r:=(_,_)) (by simp +decide only [go_sem]) ?_ rfl
     show a2a false 0 (.tuple [.slice b 0 l.length (some l.length),.int .i64 0]) H1 = _
     rw [a87,b8d,a85,hz,a85,b6j]
     simp only [a0j,c6e,d79]
     rfl
end Go.MInst
