/- Part of a proof. No condition. -/
import Derived.Test.YtgmenpackpnmaaaGreatDoorMFl
import Derived.Test.YtgmenpackpnmaaaGreatDoorPcB
set_option linter.unusedSimpArgs false
set_option linter.unusedVariables false
namespace Go.MInst
open Go.Proofs Go.Ax Go.Pc
set_option maxRecDepth 100000
theorem d2n (c:Cir) (h:c.wf):∃ r:AV × a05,(∃ v,refs v = [] ∧ r = (.tuple [v,.int .i64 0],[])) ∧ sem L.env Mf 79 [.agg c.enc] [] = some r:=by
 have hn:=h.len
 have hv:=fun H=>b3m (d:=false) H c h
 simp only [Cir.enc] at hv ⊢
 (refine svE Tryz.f79 ?_;simp only [Tryz.f79,gS])
 (repeat first|simp only [ww]|(apply xa;simp +decide only [go_sem,hv];rfl;kernel_rfl))
 refine a30 kp79_0 (fun n F H=>∃ (i:Nat) (l:List (List AV)),n = c.nodes.length - i ∧ i ≤ c.nodes.length ∧ F = [(5,grV 0 l),(15,sl c.nc (c.nodes.map Nd.enc)),(16,.int .i64 c.nodes.length),(17,.int .i64 i)] ∧ H = grH 2 l ∧ FlatR l ∧ l.length ≤ 20 * i) (c.nodes.length - 0) ?_ ?_
 ·refine ⟨_,_,?_,0,[],rfl,Nat.zero_le _,rfl,rfl,FlatR.nil,Nat.zero_le _⟩
  (simp +decide only [go_sem,a01,a00,a0f,a0g]<;>rfl)<;>rfl
 ·rintro n F H ⟨i,l,rfl,hi,rfl,rfl,hfl,hll⟩
  by_cases hlt:i < c.nodes.length
  ·obtain ⟨x,hx⟩:∃ x,c.nodes[i]? = some x:=⟨_,List.getElem?_eq_getElem hlt⟩
   have c1:(i:Int) < c.nodes.length:=by omega
   have hw:=wI1 (n:=i) (by omega)
   have hil:=h.insl (List.mem_of_getElem? hx)
   have hwl:=wI1 (n:=x.ins.length) (by omega)
   have h1:=a06 hfl
   have h2:=fun π=>a04 π hfl
   cases l with
   | nil=>
    (repeat first|simp only [ww]|(apply xa;simp +decide only [go_sem,c1,hlt,hx,hw,hwl,a0f,a0g];rfl;kernel_rfl))
    refine a30 kp79_2 (fun n F H=>∃ (k:Nat) (l:List (List AV)),n = x.ins.length + 1 - k ∧ k ≤ x.ins.length + 1 ∧ F = [(5,grV 0 l),(6,.int .i64 i),(15,sl c.nc (c.nodes.map Nd.enc)),(16,.int .i64 c.nodes.length),(17,.int .i64 i),(25,.int .i64 (x.ins.length + 1:Nat)),(26,.int .i64 k)] ∧ H = grH 2 l ∧ FlatR l ∧ l.length ≤ 20 * i + k) (x.ins.length + 1 - 0) ?_ ?_
    ·refine ⟨_,_,?_,0,[],rfl,Nat.zero_le _,rfl,rfl,hfl,hll⟩
     (simp +decide only [go_sem,a01,a00,a0f,a0g,h1,h2]<;>rfl)<;>rfl
    ·
     clear hll hfl h1 h2
     rintro n F H ⟨k,l,rfl,hk,rfl,rfl,hfl,hll⟩
     by_cases hkl:k < x.ins.length + 1
     ·have c2:(k:Int) < ((x.ins.length + 1:Nat):Int):=by omega
      have hw2:=wI1 (n:=k) (by omega)
      have hw3:IntKind.i64.wrap ((k:Int) - 1) = (k:Int) - 1:=w64 (by omega) (by omega)
      have h1:=a06 hfl
      have h2:=fun π=>a04 π hfl
      have hf2:FlatR (l ++ [[.int .i64 i,.int .i64 ((k:Int) - 1)]]):=hfl.append (FlatR.cons rfl FlatR.nil)
      cases l with
      | nil=>
       (repeat first|simp only [ww]|(apply xa;simp +decide only [go_sem,c2,hw2,hw3,a0f,a0g];rfl;kernel_rfl))
       refine a17 (x.ins.length + 1 - (k + 1)) (by omega) ⟨_,_,?_,k + 1,_,rfl,hkl,rfl,rfl,hf2,by simp;omega⟩
       (simp +decide only [go_sem,a01,a00,a07,a08,List.nil_append,List.length_nil]<;>rfl)<;>rfl
      | cons a r=>
       simp only [List.length_cons] at hll
       have hrm:r.length + 1 + 1 ≤ 1000000000:=by omega
       simp only [List.flatMap_cons] at h1
       simp only [List.map_cons,List.cons.injEq] at h2
       (repeat first|simp only [ww]|(apply xa;simp +decide only [go_sem,c2,hw2,hw3,a07,a08,hrm];rfl;kernel_rfl))
       refine a17 (x.ins.length + 1 - (k + 1)) (by omega) ⟨_,_,?_,k + 1,_,rfl,hkl,rfl,rfl,hf2,by simp;omega⟩
       (simp +decide only [go_sem,a01,a00,a07,a08,List.cons_append,h1,h2]<;>rfl)<;>rfl
     ·obtain rfl:k = x.ins.length + 1:=by omega
      have c2:¬ (((x.ins.length + 1:Nat):Int) < ((x.ins.length + 1:Nat):Int)):=by omega
      have h1:=a06 hfl
      have h2:=fun π=>a04 π hfl
      (repeat first|simp only [ww]|(apply xa;simp +decide only [go_sem,c2,hw];rfl;kernel_rfl))
      refine a17 (c.nodes.length - (i + 1)) (by omega) ⟨_,_,?_,i + 1,l,rfl,hlt,rfl,rfl,hfl,by omega⟩
      cases l with
      | nil=>(simp +decide only [go_sem,a01,a00,a0f,a0g]<;>rfl)<;>rfl
      | cons a r=>
       simp only [List.flatMap_cons] at h1
       simp only [List.map_cons,List.cons.injEq] at h2
       (simp +decide only [go_sem,a01,a00,a07,a08,h1,h2]<;>rfl)<;>rfl
   | cons a r=>
    simp only [List.flatMap_cons] at h1
    simp only [List.map_cons,List.cons.injEq] at h2
    (repeat first|simp only [ww]|(apply xa;simp +decide only [go_sem,c1,hlt,hx,hw,hwl,a07,a08];rfl;kernel_rfl))
    refine a30 kp79_2 (fun n F H=>∃ (k:Nat) (l:List (List AV)),n = x.ins.length + 1 - k ∧ k ≤ x.ins.length + 1 ∧ F = [(5,grV 0 l),(6,.int .i64 i),(15,sl c.nc (c.nodes.map Nd.enc)),(16,.int .i64 c.nodes.length),(17,.int .i64 i),(25,.int .i64 (x.ins.length + 1:Nat)),(26,.int .i64 k)] ∧ H = grH 2 l ∧ FlatR l ∧ l.length ≤ 20 * i + k) (x.ins.length + 1 - 0) ?_ ?_
    ·refine ⟨_,_,?_,0,(a :: r),rfl,Nat.zero_le _,rfl,rfl,hfl,hll⟩
     (simp +decide only [go_sem,a01,a00,a07,a08,h1,h2]<;>rfl)<;>rfl
    ·
     clear hll hfl h1 h2
     rintro n F H ⟨k,l,rfl,hk,rfl,rfl,hfl,hll⟩
     by_cases hkl:k < x.ins.length + 1
     ·have c2:(k:Int) < ((x.ins.length + 1:Nat):Int):=by omega
      have hw2:=wI1 (n:=k) (by omega)
      have hw3:IntKind.i64.wrap ((k:Int) - 1) = (k:Int) - 1:=w64 (by omega) (by omega)
      have h1:=a06 hfl
      have h2:=fun π=>a04 π hfl
      have hf2:FlatR (l ++ [[.int .i64 i,.int .i64 ((k:Int) - 1)]]):=hfl.append (FlatR.cons rfl FlatR.nil)
      cases l with
      | nil=>
       (repeat first|simp only [ww]|(apply xa;simp +decide only [go_sem,c2,hw2,hw3,a0f,a0g];rfl;kernel_rfl))
       refine a17 (x.ins.length + 1 - (k + 1)) (by omega) ⟨_,_,?_,k + 1,_,rfl,hkl,rfl,rfl,hf2,by simp;omega⟩
       (simp +decide only [go_sem,a01,a00,a07,a08,List.nil_append,List.length_nil]<;>rfl)<;>rfl
      | cons a r=>
       simp only [List.length_cons] at hll
       have hrm:r.length + 1 + 1 ≤ 1000000000:=by omega
       simp only [List.flatMap_cons] at h1
       simp only [List.map_cons,List.cons.injEq] at h2
       (repeat first|simp only [ww]|(apply xa;simp +decide only [go_sem,c2,hw2,hw3,a07,a08,hrm];rfl;kernel_rfl))
       refine a17 (x.ins.length + 1 - (k + 1)) (by omega) ⟨_,_,?_,k + 1,_,rfl,hkl,rfl,rfl,hf2,by simp;omega⟩
       (simp +decide only [go_sem,a01,a00,a07,a08,List.cons_append,h1,h2]<;>rfl)<;>rfl
     ·obtain rfl:k = x.ins.length + 1:=by omega
      have c2:¬ (((x.ins.length + 1:Nat):Int) < ((x.ins.length + 1:Nat):Int)):=by omega
      have h1:=a06 hfl
      have h2:=fun π=>a04 π hfl
      (repeat first|simp only [ww]|(apply xa;simp +decide only [go_sem,c2,hw];rfl;kernel_rfl))
      refine a17 (c.nodes.length - (i + 1)) (by omega) ⟨_,_,?_,i + 1,l,rfl,hlt,rfl,rfl,hfl,by omega⟩
      cases l with
      | nil=>(simp +decide only [go_sem,a01,a00,a0f,a0g]<;>rfl)<;>rfl
      | cons a r=>
       simp only [List.flatMap_cons] at h1
       simp only [List.map_cons,List.cons.injEq] at h2
       (simp +decide only [go_sem,a01,a00,a07,a08,h1,h2]<;>rfl)<;>rfl
  ·obtain rfl:i = c.nodes.length:=by omega
   have c1:¬ (c.nodes.length:Int) < c.nodes.length:=by omega
   cases l with
   | nil=>
    have hcl:=fun H=>b45 (d:=false) H
    (repeat first|simp only [ww]|(apply xa;simp +decide only [go_sem,c1,a0f,a0g,hcl];rfl;kernel_rfl))
    refine a2s (vs:=[.nilslice,.int .i64 0]) (r:=(.tuple [.nilslice,.int .i64 0],[])) (by simp +decide only [go_sem]) ?_ ⟨.nilslice,rfl,rfl⟩
    simp +decide only [go_sem]
   | cons a r=>
    have hcl:=b60 (d:=false) (H:=[some (.row 2 (a :: r))]) (b:=0) (n:=r.length + 1) hfl rfl
    have hz:∀ m d,a7z m d (a :: r) = some (a :: r):=fun m d=>a0r m d hfl
    (repeat first|simp only [ww]|(apply xa;simp +decide only [go_sem,c1,a07,a08,hcl];rfl;kernel_rfl))
    refine a2s (vs:=[.slice 0 0 (r.length + 1) (some (r.length + 1)),.int .i64 0]) (r:=(.tuple [.islice (a :: r) (some (r.length + 1)),.int .i64 0],[])) (by simp +decide only [go_sem]) ?_ ⟨.islice (a :: r) (some (r.length + 1)),rfl,rfl⟩
    show a1v false 0 (.tuple [.slice 0 0 (r.length + 1) (some (r.length + 1)),.int .i64 0]) _ = _
    have htk:List.take (r.length + 1) (a :: r) = a :: r:=List.take_length (l:=a :: r)
    rw [a8i,b9b,a8h,a8g,decide_eq_false (Nat.not_lt_zero 0),cond_false,a76 (eq_true (by omega:0 < 12))]
    have hb:a02 [some (AObj.row 2 (a :: r))] 0 = some (.row 2 (a :: r)):=rfl
    rw [hb]
    simp only [a80,a0i,List.drop_zero,Nat.zero_add,List.length_cons,htk,hz,decide_true,cond_true,Nat.le_refl]
    rfl
theorem c4p (c:Cir) (h:c.wf):∃ v,∀ (d:Bool) (H:a05),a0c L.env d (sem L.env Mf) (.func (.func 79) [] []) [.agg c.enc] H = some (.tuple [v,.int .i64 0],H,[]):=by
 obtain ⟨r,⟨v,h1,rfl⟩,h2⟩:=d2n c h
 exact ⟨v,fun d H=>a03 (by kernel_rfl) (by kernel_rfl) rfl (a45 c) h2 (by simp only [a6y,a09,a1u,h1];rfl)⟩
open Go.Proofs Go.Ax Go.Pc
set_option maxRecDepth 100000
theorem c3d (l:List Flt):(l.map Flt.enc).flatMap a0e = []:=a06 (FlatR.map fun _=>rfl)
theorem c78 (π:Nat → Option Nat) (l:List Flt):(l.map Flt.enc).map (fun r=>r.map (ren π)) = l.map Flt.enc:=a04 π (FlatR.map fun _=>rfl)
theorem d62 (l:List Pat):FlatR (l.map Pat.enc):=FlatR.map fun _=>by simp only [Pat.enc,go_sem]
theorem c3c (l:List Pat):(l.map Pat.enc).flatMap a0e = []:=a06 (d62 l)
theorem c76 (π:Nat → Option Nat) (l:List Pat):(l.map Pat.enc).map (fun r=>r.map (ren π)) = l.map Pat.enc:=a04 π (d62 l)
theorem d83 (c:Cir) (h:c.wf) (rl rt:Rep) (l:List Flt) (tests:List Pat) (hl:l.length ≤ 65536) (ht:tests.length ≤ 4096) (hf:∀ f ∈ l,FltOk c.nodes f) (hp:∀ p ∈ tests,PatOk c.nodes p) :
 sem L.env Mf 50 [.agg c.enc,sl rl (l.map Flt.enc),sl rt (tests.map Pat.enc)] [] = some (.int .i64 0,[]):=by
 have c1:¬ (65536:Int) < l.length:=by omega
 have c2:¬ (4096:Int) < tests.length:=by omega
 obtain ⟨v,hv⟩:=c4p c h
 have hv:=hv false
 have hfc:=fun H f hf=>b3x (d:=false) H c h f hf
 have hsc:=fun H p hp=>c0q (d:=false) H c h p hp
 simp only [Cir.enc] at hv hfc hsc ⊢
 (refine sv Tryz.f50 ?_;simp only [Tryz.f50,gS])
 (repeat first|simp only [ww]|(apply xa;simp +decide only [go_sem,c1,c2,hv];rfl;kernel_rfl))
 refine a0s (σ:=Nat) kp50_0 (fun i=>[(2,sl rt (tests.map Pat.enc)),(3,.ptr 0 0 0),(31,sl rl (l.map Flt.enc)),(32,.int .i64 l.length),(33,.int .i64 i)])
  (fun i=>[some (.row 4 [[sl c.nc (c.nodes.map Nd.enc),sl c.mc (c.names.map a1r),.nilslice,sl c.oc (c.outs.map a0d)]])]) (fun i=>l.length - i) (fun i=>i ≤ l.length) 0 ?_ (Nat.zero_le _) ?_
 ·(simp +decide only [go_sem,a01,a00,c3d,c78,c3c,c76]<;>rfl)
 ·intro i hi
  by_cases hlt:i < l.length
  ·obtain ⟨f,hx⟩:∃ f,l[i]? = some f:=⟨_,List.getElem?_eq_getElem hlt⟩
   have hfm:=hf f (List.mem_of_getElem? hx)
   have c3:(i:Int) < l.length:=by omega
   have hw:=wI1 (n:=i) (by omega)
   have hcx:=fun H=>hfc H f hfm
   have c4:¬ (f.model:Int) = 1:=by rcases hfm.model with e|e|e<;>omega
   simp only [Flt.enc] at hcx
   (repeat first|simp only [ww]|(apply xa;simp +decide only [go_sem,c3,hlt,hx,hw,hcx,c4];rfl;kernel_rfl))
   refine a1w (i + 1) ?_ (by omega) (by omega)
   (simp +decide only [go_sem,a01,a00,c3d,c78,c3c,c76]<;>rfl)
  ·obtain rfl:i = l.length:=by omega
   have c3:¬ (l.length:Int) < l.length:=by omega
   (repeat first|simp only [ww]|(apply xa;simp +decide only [go_sem,c3];rfl;kernel_rfl))
   refine a0s (σ:=Nat) kp50_2 (fun i=>[(3,.ptr 0 0 0),(47,sl rt (tests.map Pat.enc)),(48,.int .i64 tests.length),(49,.int .i64 i)])
    (fun i=>[some (.row 4 [[sl c.nc (c.nodes.map Nd.enc),sl c.mc (c.names.map a1r),.nilslice,sl c.oc (c.outs.map a0d)]])]) (fun i=>tests.length - i) (fun i=>i ≤ tests.length) 0 ?_ (Nat.zero_le _) ?_
   ·(simp +decide only [go_sem,a01,a00,c3d,c78,c3c,c76]<;>rfl)
   ·intro i hi
    by_cases hlt:i < tests.length
    ·obtain ⟨p,hx⟩:∃ p,tests[i]? = some p:=⟨_,List.getElem?_eq_getElem hlt⟩
     have hpm:=hp p (List.mem_of_getElem? hx)
     have c3:(i:Int) < tests.length:=by omega
     have hw:=wI1 (n:=i) (by omega)
     have hcx:=fun H=>hsc H p hpm
     simp only [Pat.enc] at hcx
     (repeat first|simp only [ww]|(apply xa;simp +decide only [go_sem,c3,hlt,hx,hw,hcx];rfl;kernel_rfl))
     refine a1w (i + 1) ?_ (by omega) (by omega)
     (simp +decide only [go_sem,a01,a00,c3d,c78,c3c,c76]<;>rfl)
    ·obtain rfl:i = tests.length:=by omega
     have c3:¬ (tests.length:Int) < tests.length:=by omega
     (repeat first|simp only [ww]|(apply xa;simp +decide only [go_sem,c3];rfl;kernel_rfl))
     (apply fqb;simp +decide only [go_sem,c78,c76]<;>rfl)
set_option maxHeartbeats 200000000
open Go.Proofs Go.Ax Go.Pc
set_option maxRecDepth 100000
def a58 (c:Cir) (ord:List Nat) (net pin:AV):List AV:=[sl c.nc (c.nodes.map Nd.enc),sl c.mc (c.names.map a1r),.nilslice,sl c.oc (c.outs.map a0d),.islice (ord.map a0d) (some c.nodes.length),b4j (kinds c.nodes 0),b4j (kinds c.nodes 14),net,pin]
theorem d7e (n:Int) (w:W):sem L.env Mf 81 [.int .i64 n,.agg w.enc] [] = some (.agg w.enc,[]):=by
 (refine sv Tryz.f81 ?_;simp only [Tryz.f81,gS])
 (repeat first|simp only [ww]|(apply xa;simp +decide only [go_sem];rfl;kernel_rfl))
 (apply fqb;simp +decide only [go_sem]<;>rfl)
theorem d1v (n p:Int) (w:W):sem L.env Mf 82 [.int .i64 n,.int .i64 p,.agg w.enc] [] = some (.agg w.enc,[]):=by
 (refine sv Tryz.f82 ?_;simp only [Tryz.f82,gS])
 (repeat first|simp only [ww]|(apply xa;simp +decide only [go_sem];rfl;kernel_rfl))
 (apply fqb;simp +decide only [go_sem]<;>rfl)
structure NetF (N:Nat) (f:AV) (g:Nat → W → W):Prop where
 flat:refs f = []
 call:∀ (d:Bool) (H:a05) (n:Nat) (w:W),n < N → a0c L.env d (sem L.env Mf) f [.int .i64 n,.agg w.enc] H = some (.agg (g n w).enc,H,[])
structure PinF (N:Nat) (f:AV) (g:Nat → Nat → W → W):Prop where
 flat:refs f = []
 call:∀ (d:Bool) (H:a05) (n p:Nat) (w:W),n < N → a0c L.env d (sem L.env Mf) f [.int .i64 n,.int .i64 p,.agg w.enc] H = some (.agg (g n p w).enc,H,[])
def net0V:AV:=.func (.func 81) [] []
def pin0V:AV:=.func (.func 82) [] []
theorem e34 (N:Nat):NetF N net0V (hk0:Hk W).net:=⟨rfl,fun d H n w _=>a03 (by kernel_rfl) (by kernel_rfl) rfl rfl (d7e n w) rfl⟩
theorem e2t (N:Nat):PinF N pin0V (hk0:Hk W).pin:=⟨rfl,fun d H n p w _=>a03 (by kernel_rfl) (by kernel_rfl) rfl rfl (d1v n p w) rfl⟩
theorem a7h (c:Cir) (ord:List Nat) (net pin:AV) (h1:refs net = []) (h2:refs pin = []):a0e (a58 c ord net pin) = []:=by
 simp only [a58,a09,a2f,a52,h1,h2,a9a,b6l,a1u,List.append_nil]
structure OrdOf (c:Cir) (ord:List Nat):Prop where
 perm:ord.Perm (List.range c.nodes.length)
 topo:e1z c.nodes ord
 call:∀ (d:Bool) (H:a05),a0c L.env d (sem L.env Mf) (.func (.func 61) [] []) [.agg c.enc] H = some (.tuple [.islice (ord.map a0d) (some c.nodes.length),.int .i64 0],H,[])
theorem e2u (c:Cir) (h:c.wf):∃ ord,OrdOf c ord:=by obtain ⟨ord,h1,h2,h3⟩:=c4l c h;exact ⟨ord,h1,h2,h3⟩
theorem d1n (c:Cir) (h:c.wf) (ord:List Nat) (hO:OrdOf c ord):∃ r:AV × a05,(r = (.agg (a58 c ord net0V pin0V),[])) ∧ sem L.env Mf 51 [.agg c.enc] [] = some r:=by
 have hn:=h.len
 have ho:=hO.call false
 have hi:=fun H=>a7n (d:=true) H c (by omega)
 have hs:=fun H=>a5w (d:=true) H c (by omega)
 obtain ⟨r0,e0⟩:=a2g (kinds c.nodes 0)
 obtain ⟨r1,e1⟩:=a2g (kinds c.nodes 14)
 rw [e0] at hi
 rw [e1] at hs
 simp only [Cir.enc] at ho hi hs ⊢
 (refine svE Tryz.f51 ?_;simp only [Tryz.f51,gS])
 (repeat first|simp only [ww]|(apply xa;simp +decide only [go_sem,ho,hi,hs];rfl;kernel_rfl))
 refine a2s (vs:=[.agg (a58 c ord net0V pin0V)]) (r:=(.agg (a58 c ord net0V pin0V),[])) (by unfold a58 net0V pin0V;rw [e0,e1];simp +decide only [go_sem]<;>rfl) ?_ rfl
 show a1v false 0 (.agg (a58 c ord net0V pin0V)) _ = _
 unfold a58 net0V pin0V
 rw [e0,e1]
 simp +decide only [go_sem]<;>rfl
theorem d1o (c:Cir) (h:c.wf) (ord:List Nat) (hO:OrdOf c ord):∀ (d:Bool) (H:a05),a0c L.env d (sem L.env Mf) (.func (.func 51) [] []) [.agg c.enc] H = some (.agg (a58 c ord net0V pin0V),H,[]):=by
 obtain ⟨r,rfl,h3⟩:=d1n c h ord hO
 exact fun d H=>a03 (by kernel_rfl) (by kernel_rfl) rfl (a45 c) h3 (by rw [a0y];exact a7h _ _ _ _ rfl rfl)
theorem b3t (l:List W):FlatR (l.map W.enc):=FlatR.map fun _=>rfl
theorem d3n {m:Nat} {d:AV → Option AV} (l:List W):a7z m d (l.map W.enc) = some (l.map W.enc):=a0r m d (b3t l)
theorem d26 (c:Cir) (hc:c.wf) (ord:List Nat) (net pin:AV) (g:Hk W) (h1:refs net = []) (h2:PinF c.nodes.length pin g.pin) (nets:List W) (hl:nets.length = c.nodes.length) (n:Nat) (hn:n < c.nodes.length) :
 sem L.env Mf 127 [.agg (a58 c ord net pin),.slice 0 0 c.nodes.length (some c.nodes.length),.int .i64 n] [some (.row 2 (nets.map W.enc))] = some (sl none ((a0p a20 c.nodes g nets n).map W.enc),[some (.row 2 (nets.map W.enc))]):=by
 have hnl:=hc.len
 obtain ⟨x,hx⟩:∃ x,c.nodes[n]? = some x:=⟨_,List.getElem?_eq_getElem hn⟩
 have hxm:=List.mem_of_getElem? hx
 have hil:=hc.insl hxm
 have hrl:(a0p a20 c.nodes g nets n).length = x.ins.length:=by rw [a3t,a1l hx]
 have h3:=h2.flat
 have e1:∀ π,ren π net = net:=fun π=>a1a π _ h1
 have e2:∀ π,ren π pin = pin:=fun π=>a1a π _ h3
 obtain ⟨r0,e3⟩:=a2g (kinds c.nodes 0)
 obtain ⟨r1,e4⟩:=a2g (kinds c.nodes 14)
 unfold a58
 rw [e3,e4]
 (refine sv Tryz.f127 ?_;simp only [Tryz.f127,gS])
 (repeat first|simp only [ww]|(apply xa;simp +decide only [go_sem,hx,hn];rfl;kernel_rfl))
 refine a0s (σ:=Nat) kp127_0 (fun i=>[(1,.slice 0 0 c.nodes.length (some c.nodes.length)),(2,.int .i64 n),(3,.ptr 1 0 0),(7,grV 2 (((a0p a20 c.nodes g nets n).take i).map W.enc)),(16,sl x.c (x.ins.map a0d)),(17,.int .i64 x.ins.length),(18,.int .i64 i)])
  (fun i=>[some (.row 2 (nets.map W.enc)),some (.row 9 [[sl c.nc (c.nodes.map Nd.enc),sl c.mc (c.names.map a1r),.nilslice,sl c.oc (c.outs.map a0d),.islice (ord.map a0d) (some c.nodes.length),sl r0 ((kinds c.nodes 0).map a0d),sl r1 ((kinds c.nodes 14).map a0d),net,pin]])] ++ grH 2 (((a0p a20 c.nodes g nets n).take i).map W.enc)) (fun i=>x.ins.length - i) (fun i=>i ≤ x.ins.length) 0 ?_ (Nat.zero_le _) ?_
 ·(simp +decide only [go_sem,a01,a00,List.take_zero,List.map_nil,a0f,a0g,h1,h3,e1,e2]<;>rfl)
 ·intro i hi
  by_cases hlt:i < x.ins.length
  ·obtain ⟨m,hm⟩:∃ m,x.ins[i]? = some m:=⟨_,List.getElem?_eq_getElem hlt⟩
   have hmn:=hc.ins x hxm m (List.mem_of_getElem? hm)
   obtain ⟨w,hw⟩:∃ w,nets[m]? = some w:=⟨_,List.getElem?_eq_getElem (by omega)⟩
   have c1:(i:Int) < x.ins.length:=by omega
   have hwi:=wI1 (n:=i) (by omega)
   have hpc:=fun H=>h2.call true H n i w hn
   simp only [W.enc] at hpc
   have hs:=b10 (A:=a20) (h:=g) (nets:=nets) (by rw [a1l hx];exact hm) hw
   have htl:((a0p a20 c.nodes g nets n).take i).length = i:=by rw [List.length_take];omega
   generalize (a0p a20 c.nodes g nets n).take i = T at hs htl
   cases T with
   | nil=>
    (repeat first|simp only [ww]|(apply xa;simp +decide only [go_sem,c1,hlt,hm,hmn,hw,hwi,hpc,hl,List.map_nil,a0f,a0g];rfl;kernel_rfl))
    refine a1w (i + 1) ?_ (by omega) (by omega)
    rw [hs]
    (simp +decide only [go_sem,a01,a00,List.map_cons,List.map_nil,List.nil_append,a07,a08,List.length_nil,h1,h3,e1,e2,a3k,a5i]<;>rfl)
   | cons a r=>
    simp only [List.length_cons] at htl
    have hrm:r.length + 1 + 1 ≤ 1000000000:=by omega
    (repeat first|simp only [ww]|(apply xa;simp +decide only [go_sem,c1,hlt,hm,hmn,hw,hwi,hpc,hl,List.map_cons,a07,a08,hrm,List.length_cons];rfl;kernel_rfl))
    refine a1w (i + 1) ?_ (by omega) (by omega)
    rw [hs]
    (simp +decide only [go_sem,a01,a00,List.map_cons,List.map_nil,List.cons_append,a07,a08,List.length_cons,h1,h3,e1,e2,a3k,a5i]<;>rfl)
  ·obtain rfl:i = x.ins.length:=by omega
   have c1:¬ (x.ins.length:Int) < x.ins.length:=by omega
   rw [List.take_of_length_le (by omega)]
   generalize a0p a20 c.nodes g nets n = T
   cases T with
   | nil=>
    (repeat first|simp only [ww]|(apply xa;simp +decide only [go_sem,c1,List.map_nil,a0f,a0g];rfl;kernel_rfl))
    (apply fqb;simp +decide only [go_sem,a5i,List.map_nil]<;>rfl)
   | cons a r=>
    (repeat first|simp only [ww]|(apply xa;simp +decide only [go_sem,c1,List.map_cons,a07,a08];rfl;kernel_rfl))
    (apply fqb;simp +decide only [go_sem,a5i,d3n,List.map_cons,a51]<;>rfl)
set_option maxHeartbeats 200000000
open Go.Proofs Go.Ax Go.Pc
set_option maxRecDepth 100000
theorem c4d {d:Bool} {H:a05} {b:Nat} (c:Cir) (hc:c.wf) (ord:List Nat) (net pin:AV) (g:Hk W) (h1:refs net = []) (h2:PinF c.nodes.length pin g.pin) (nets:List W) (hl:nets.length = c.nodes.length) (n:Nat) (hn:n < c.nodes.length) (hb:a02 H b = some (.row 2 (nets.map W.enc))) :
 a0c L.env d (sem L.env Mf) (.func (.func 127) [] []) [.agg (a58 c ord net pin),.slice b 0 c.nodes.length (some c.nodes.length),.int .i64 n] H = some (sl none ((a0p a20 c.nodes g nets n).map W.enc),H,[b]):=by
 have he:=a7h c ord net pin h1 h2.flat
 exact a2d (E:=L.env) (draw:=d) (call:=sem L.env Mf) (g:=127) (fs:=[]) (cs:=[]) (ar:=[.agg (a58 c ord net pin),.slice b 0 c.nodes.length (some c.nodes.length),.int .i64 n]) (H:=H) (b:=b) (by kernel_rfl) (by kernel_rfl) rfl hb (a0u (b3t nets)) (FlatO.row (b3t nets)) (by simp only [List.nil_append,List.append_nil,a09,a0y,he,a5o,b23,a1u]) (args':=[.agg (a58 c ord net pin),.slice 0 0 c.nodes.length (some c.nodes.length),.int .i64 n]) (by simp only [List.nil_append,List.append_nil,List.map_cons,List.map_nil,a29,a1a _ (.agg (a58 c ord net pin)) (by rw [a0y];exact he),a1a _ (.int .i64 (n:Int)) rfl]) (d26 c hc ord net pin g h1 h2 nets hl n hn) (a2f _ _)
theorem c56 {d:Bool} (H:a05) (r:Rep) (k:Nat) (hk:k < 16) (l:List W) (hl:l.length < 1000):a0c L.env d (sem L.env Mf) (.func (.func 126) [] []) [.int .u8 k,sl r (l.map W.enc)] H = some (.agg (a41 k l).enc,H,[]):=
 a03 (by kernel_rfl) (by kernel_rfl) rfl (by simp only [List.nil_append,List.append_nil,a09,go_sem]) (d3x r k hk l hl) rfl
theorem a4a {nodes:List Nd} {k i n:Nat} (h:(kinds nodes k)[i]? = some n):n < nodes.length ∧ a0q nodes n = k:=by
 have:=List.mem_of_getElem? h
 unfold kinds a3n at this
 rw [List.mem_filter] at this
 exact ⟨by simpa using this.1,by simpa using this.2⟩
def a2b (c:Cir) (ord:List Nat):Sim:=⟨c.nodes,ord,kinds c.nodes 0,kinds c.nodes 14,c.outs⟩
theorem e2j (c:Cir) (hc:c.wf) (ord:List Nat) (ho:∀ n ∈ ord,n < c.nodes.length) (hol:ord.length ≤ 1000) (net pin:AV) (g:Hk W) (h0:NetF c.nodes.length net g.net) (h2:PinF c.nodes.length pin g.pin) (ri rs:Rep) (vi vs:List W) (hvi:vi.length = (kinds c.nodes 0).length) (hvs:vs.length = (kinds c.nodes 14).length) :
 sem L.env Mf 86 [.agg (a58 c ord net pin),sl ri (vi.map W.enc),sl rs (vs.map W.enc)] [] = some (.tuple [.islice (((a2b c ord).nets a20 g vi vs).map W.enc) (some c.nodes.length),sl none (((a2b c ord).seen a20 g ((a2b c ord).nets a20 g vi vs)).map W.enc)],[]):=by
 have hnl:=hc.len
 have h1:=h0.flat
 have h3:=h2.flat
 have e1:∀ π,ren π net = net:=fun π=>a1a π _ h1
 have e2:∀ π,ren π pin = pin:=fun π=>a1a π _ h3
 obtain ⟨r0,e3⟩:=a2g (kinds c.nodes 0)
 obtain ⟨r1,e4⟩:=a2g (kinds c.nodes 14)
 have hk0:=a37 c.nodes 0
 have hk14:=a37 c.nodes 14
 have hrm:c.nodes.length ≤ 1000000000:=by omega
 have hrd:=fun (H:a05) (b:Nat) nets hl n hn hb=>c4d (d:=false) (H:=H) (b:=b) c hc ord net pin g h1 h2 nets hl n hn hb
 unfold a58 at hrd ⊢
 rw [e3,e4] at hrd ⊢
 (refine sv Tryz.f86 ?_;simp only [Tryz.f86,gS])
 (repeat first|simp only [ww]|(apply xa;simp +decide only [go_sem,hrm];rfl;kernel_rfl))
 refine a0s (σ:=Nat) kp86_0 (fun i=>[(1,sl ri (vi.map W.enc)),(2,sl rs (vs.map W.enc)),(3,.ptr 0 0 0),(6,.slice 1 0 c.nodes.length (some c.nodes.length)),(7,.nilslice),(25,sl r0 ((kinds c.nodes 0).map a0d)),(26,.int .i64 (kinds c.nodes 0).length),(27,.int .i64 i)])
  (fun i=>[some (.row 9 [[sl c.nc (c.nodes.map Nd.enc),sl c.mc (c.names.map a1r),.nilslice,sl c.oc (c.outs.map a0d),.islice (ord.map a0d) (some c.nodes.length),sl r0 ((kinds c.nodes 0).map a0d),sl r1 ((kinds c.nodes 14).map a0d),net,pin]]),some (.row 2 ((a1i (List.replicate c.nodes.length zW) ((kinds c.nodes 0).take i) (vi.take i)).map W.enc))]) (fun i=>(kinds c.nodes 0).length - i) (fun i=>i ≤ (kinds c.nodes 0).length) 0 ?_ (Nat.zero_le _) ?_
 ·rw [List.take_zero,List.take_zero,show a1i (List.replicate c.nodes.length zW) [] [] = List.replicate c.nodes.length zW from rfl]
  (simp +decide only [go_sem,a01,a00,h1,h3,e1,e2,a3k,a5i,zW]<;>rfl)<;>rfl
 ·intro i hi
  have hll:=a2c ((kinds c.nodes 0).take i) (vi.take i) (List.replicate c.nodes.length zW)
  rw [List.length_replicate] at hll
  by_cases hlt:i < (kinds c.nodes 0).length
  ·obtain ⟨n,hn⟩:∃ n,(kinds c.nodes 0)[i]? = some n:=⟨_,List.getElem?_eq_getElem hlt⟩
   obtain ⟨w,hw⟩:∃ w,vi[i]? = some w:=⟨_,List.getElem?_eq_getElem (by omega)⟩
   have hnn:=(a4a hn).1
   have hs:=a5p (nets:=List.replicate c.nodes.length zW) hn hw
   have c1:(i:Int) < (kinds c.nodes 0).length:=by omega
   have hwi:=wI1 (n:=i) (by omega)
   have hiv:i < vi.length:=by omega
   generalize a1i (List.replicate c.nodes.length zW) ((kinds c.nodes 0).take i) (vi.take i) = N at hs hll
   obtain ⟨w0,hw0⟩:∃ w,N[n]? = some w:=⟨_,List.getElem?_eq_getElem (by omega)⟩
   have hst:(N.map W.enc).set n [u64 w.one,u64 w.zero] = (N.set n w).map W.enc:=by rw [List.map_set];rfl
   (repeat first|simp only [ww]|(apply xa;simp +decide only [go_sem,c1,hlt,hn,hw,hnn,hwi,hiv,hll,hw0,hst];rfl;kernel_rfl))
   refine a1w (i + 1) ?_ (by omega) (by omega)
   rw [hs]
   (simp +decide only [go_sem,a01,a00,h1,h3,e1,e2,a3k,a5i]<;>rfl)<;>rfl
  have hie:i = (kinds c.nodes 0).length:=by omega
  subst hie
  have c1:¬ ((kinds c.nodes 0).length:Int) < (kinds c.nodes 0).length:=by omega
  rw [List.take_length,List.take_of_length_le (by omega)] at hll ⊢
  generalize hN0:a1i (List.replicate c.nodes.length zW) (kinds c.nodes 0) vi = N0 at hll ⊢
  (repeat first|simp only [ww]|(apply xa;simp +decide only [go_sem,c1];rfl;kernel_rfl))
  refine a0s (σ:=Nat) kp86_2 (fun i=>[(2,sl rs (vs.map W.enc)),(3,.ptr 0 0 0),(6,.slice 1 0 c.nodes.length (some c.nodes.length)),(7,.nilslice),(41,sl r1 ((kinds c.nodes 14).map a0d)),(42,.int .i64 (kinds c.nodes 14).length),(43,.int .i64 i)])
   (fun i=>[some (.row 9 [[sl c.nc (c.nodes.map Nd.enc),sl c.mc (c.names.map a1r),.nilslice,sl c.oc (c.outs.map a0d),.islice (ord.map a0d) (some c.nodes.length),sl r0 ((kinds c.nodes 0).map a0d),sl r1 ((kinds c.nodes 14).map a0d),net,pin]]),some (.row 2 ((a1i N0 ((kinds c.nodes 14).take i) (vs.take i)).map W.enc))]) (fun i=>(kinds c.nodes 14).length - i) (fun i=>i ≤ (kinds c.nodes 14).length) 0 ?_ (Nat.zero_le _) ?_
  ·rw [List.take_zero,List.take_zero,show a1i N0 [] [] = N0 from rfl]
   (simp +decide only [go_sem,a01,a00,h1,h3,e1,e2,a3k,a5i]<;>rfl)<;>rfl
  ·intro i hi
   have hll2:=a2c ((kinds c.nodes 14).take i) (vs.take i) N0
   rw [hll] at hll2
   by_cases hlt:i < (kinds c.nodes 14).length
   ·obtain ⟨n,hn⟩:∃ n,(kinds c.nodes 14)[i]? = some n:=⟨_,List.getElem?_eq_getElem hlt⟩
    obtain ⟨w,hw⟩:∃ w,vs[i]? = some w:=⟨_,List.getElem?_eq_getElem (by omega)⟩
    have hnn:=(a4a hn).1
    have hs:=a5p (nets:=N0) hn hw
    have c1:(i:Int) < (kinds c.nodes 14).length:=by omega
    have hwi:=wI1 (n:=i) (by omega)
    have hiv:i < vs.length:=by omega
    generalize a1i N0 ((kinds c.nodes 14).take i) (vs.take i) = N at hs hll2
    obtain ⟨w0,hw0⟩:∃ w,N[n]? = some w:=⟨_,List.getElem?_eq_getElem (by omega)⟩
    have hst:(N.map W.enc).set n [u64 w.one,u64 w.zero] = (N.set n w).map W.enc:=by rw [List.map_set];rfl
    (repeat first|simp only [ww]|(apply xa;simp +decide only [go_sem,c1,hlt,hn,hw,hnn,hwi,hiv,hll2,hw0,hst];rfl;kernel_rfl))
    refine a1w (i + 1) ?_ (by omega) (by omega)
    rw [hs]
    (simp +decide only [go_sem,a01,a00,h1,h3,e1,e2,a3k,a5i]<;>rfl)<;>rfl
   have hie:i = (kinds c.nodes 14).length:=by omega
   subst hie
   have c1:¬ ((kinds c.nodes 14).length:Int) < (kinds c.nodes 14).length:=by omega
   rw [List.take_length,List.take_of_length_le (by omega)] at hll2 ⊢
   generalize hN1:a1i N0 (kinds c.nodes 14) vs = N1 at hll2 ⊢
   (repeat first|simp only [ww]|(apply xa;simp +decide only [go_sem,c1];rfl;kernel_rfl))
   refine a0s (σ:=Nat) kp86_4 (fun i=>[(3,.ptr 0 0 0),(6,.slice 1 0 c.nodes.length (some c.nodes.length)),(7,.nilslice),(57,.islice (ord.map a0d) (some c.nodes.length)),(58,.int .i64 ord.length),(59,.int .i64 i)])
    (fun i=>[some (.row 9 [[sl c.nc (c.nodes.map Nd.enc),sl c.mc (c.names.map a1r),.nilslice,sl c.oc (c.outs.map a0d),.islice (ord.map a0d) (some c.nodes.length),sl r0 ((kinds c.nodes 0).map a0d),sl r1 ((kinds c.nodes 14).map a0d),net,pin]]),some (.row 2 (((ord.take i).foldl (Pc.stepG a20 c.nodes g) N1).map W.enc))]) (fun i=>ord.length - i) (fun i=>i ≤ ord.length) 0 ?_ (Nat.zero_le _) ?_
   ·rw [List.take_zero,List.foldl_nil]
    (simp +decide only [go_sem,a01,a00,h1,h3,e1,e2,a3k,a5i]<;>rfl)<;>rfl
   ·intro i hi
    have hll3:=a8w (A:=a20) (nodes:=c.nodes) (h:=g) (ord.take i) N1
    rw [hll2] at hll3
    by_cases hlt:i < ord.length
    ·obtain ⟨n,hn⟩:∃ n,ord[i]? = some n:=⟨_,List.getElem?_eq_getElem hlt⟩
     have hnn:=ho n (List.mem_of_getElem? hn)
     obtain ⟨x,hx⟩:∃ x,c.nodes[n]? = some x:=⟨_,List.getElem?_eq_getElem hnn⟩
     have hxm:=List.mem_of_getElem? hx
     have hs:=b3q (A:=a20) (nodes:=c.nodes) (h:=g) (nets:=N1) hn
     have c1:(i:Int) < ord.length:=by omega
     have hwi:=wI1 (n:=i) (by omega)
     have k14:=hc.kind x hxm
     have hil:=hc.insl hxm
     generalize (ord.take i).foldl (Pc.stepG a20 c.nodes g) N1 = N at hs hll3
     obtain ⟨w0,hw0⟩:∃ w,N[n]? = some w:=⟨_,List.getElem?_eq_getElem (by omega)⟩
     have hka:=a15 hx
     by_cases hk:x.kind ≠ 0 ∧ x.kind ≠ 14
     ·have c2:¬ (x.kind:Int) = 0:=by omega
      have c3:¬ (x.kind:Int) = 14:=by omega
      have hrl:(a0p a20 c.nodes g N n).length = x.ins.length:=by rw [a3t,a1l hx]
      have hrd1:=hrd [some (.row 9 [[sl c.nc (c.nodes.map Nd.enc),sl c.mc (c.names.map a1r),.nilslice,sl c.oc (c.outs.map a0d),.islice (ord.map a0d) (some c.nodes.length),sl r0 ((kinds c.nodes 0).map a0d),sl r1 ((kinds c.nodes 14).map a0d),net,pin]]),some (.row 2 (N.map W.enc))] 1 N hll3 n hnn rfl
      have hev:=fun H=>c56 (d:=false) H none x.kind (by omega) (a0p a20 c.nodes g N n) (by omega)
      have hstep:Pc.stepG a20 c.nodes g N n = N.set n (g.net n (a41 x.kind (a0p a20 c.nodes g N n))):=by unfold Pc.stepG;rw [hka,if_pos hk];rfl
      rw [hstep] at hs
      generalize a41 x.kind (a0p a20 c.nodes g N n) = v at hev hs
      generalize a0p a20 c.nodes g N n = R at hrd1 hev hrl
      have hnc:=fun H=>h0.call true H n v hnn
      have hst:(N.map W.enc).set n [u64 v.one,u64 v.zero] = (N.set n v).map W.enc:=by rw [List.map_set];rfl
      have hgv:(N.set n v)[n]? = some v:=by rw [List.getElem?_set];simp;omega
      have hlv:(N.set n v).length = c.nodes.length:=by rw [List.length_set];exact hll3
      generalize hw:g.net n v = w at hs hnc
      have hst2:((N.set n v).map W.enc).set n [u64 w.one,u64 w.zero] = (N.set n w).map W.enc:=by
       rw [show [u64 w.one,u64 w.zero] = W.enc w from rfl,← List.map_set,List.set_set]
      simp only [W.enc] at hnc hev
      (repeat first|simp only [ww]|(apply xa;simp +decide only [go_sem,c1,hlt,hn,hnn,hx,hwi,c2,c3,hll3,hw0,hrd1,hev,hst,hgv,hlv,hnc,hst2];rfl;kernel_rfl))
      refine a1w (i + 1) ?_ (by omega) (by omega)
      rw [hs]
      (simp +decide only [go_sem,a01,a00,h1,h3,e1,e2,a3k,a5i]<;>rfl)<;>rfl
     ·have hstep:Pc.stepG a20 c.nodes g N n = N.set n (g.net n w0):=by
       unfold Pc.stepG;rw [hka,if_neg hk,List.getD,hw0];rfl
      rw [hstep] at hs
      have hnc:=fun H=>h0.call true H n w0 hnn
      generalize hw:g.net n w0 = w at hs hnc
      have hst2:(N.map W.enc).set n [u64 w.one,u64 w.zero] = (N.set n w).map W.enc:=by rw [List.map_set];rfl
      simp only [W.enc] at hnc
      have hk':x.kind = 0 ∨ x.kind = 14:=by omega
      rcases hk' with hk'|hk'
      ·have c2:decide ((x.kind:Int) = 0) = true:=decide_eq_true (by omega)
       (repeat first|simp only [ww]|(apply xa;simp +decide only [go_sem,c1,hlt,hn,hnn,hx,hwi,c2,hll3,hw0,hnc,hst2];rfl;kernel_rfl))
       refine a1w (i + 1) ?_ (by omega) (by omega)
       rw [hs]
       (simp +decide only [go_sem,a01,a00,h1,h3,e1,e2,a3k,a5i]<;>rfl)<;>rfl
      ·have c2:¬ (x.kind:Int) = 0:=by omega
       have c3:decide ((x.kind:Int) = 14) = true:=decide_eq_true (by omega)
       (repeat first|simp only [ww]|(apply xa;simp +decide only [go_sem,c1,hlt,hn,hnn,hx,hwi,c2,c3,hll3,hw0,hnc,hst2];rfl;kernel_rfl))
       refine a1w (i + 1) ?_ (by omega) (by omega)
       rw [hs]
       (simp +decide only [go_sem,a01,a00,h1,h3,e1,e2,a3k,a5i]<;>rfl)<;>rfl
    have hie:i = ord.length:=by omega
    subst hie
    have c1:¬ (ord.length:Int) < ord.length:=by omega
    rw [List.take_length] at hll3 ⊢
    have hNN:(a2b c ord).nets a20 g vi vs = ord.foldl (Pc.stepG a20 c.nodes g) N1:=by rw [← hN1,← hN0];rfl
    rw [hNN]
    generalize ord.foldl (Pc.stepG a20 c.nodes g) N1 = N at hll3 ⊢
    clear hN0 hN1 hll hll2 hNN hrm
    (repeat first|simp only [ww]|(apply xa;simp +decide only [go_sem,c1];rfl;kernel_rfl))
    refine a0s (σ:=Nat) kp86_6 (fun i=>[(3,.ptr 0 0 0),(6,.slice 1 0 c.nodes.length (some c.nodes.length)),(7,grV 2 (((c.outs.take i).map fun n=>N.getD n zW).map W.enc)),(99,sl c.oc (c.outs.map a0d)),(100,.int .i64 c.outs.length),(101,.int .i64 i)])
     (fun i=>[some (.row 9 [[sl c.nc (c.nodes.map Nd.enc),sl c.mc (c.names.map a1r),.nilslice,sl c.oc (c.outs.map a0d),.islice (ord.map a0d) (some c.nodes.length),sl r0 ((kinds c.nodes 0).map a0d),sl r1 ((kinds c.nodes 14).map a0d),net,pin]]),some (.row 2 (N.map W.enc))] ++ grH 2 (((c.outs.take i).map fun n=>N.getD n zW).map W.enc)) (fun i=>c.outs.length - i) (fun i=>i ≤ c.outs.length) 0 ?_ (Nat.zero_le _) ?_
    ·(simp +decide only [go_sem,a01,a00,List.take_zero,List.map_nil,a0f,a0g,h1,h3,e1,e2,a3k,a5i]<;>rfl)<;>rfl
    ·intro i hi
     have hoo:=hc.outl
     by_cases hlt:i < c.outs.length
     ·obtain ⟨n,hn⟩:∃ n,c.outs[i]? = some n:=⟨_,List.getElem?_eq_getElem hlt⟩
      have hnn:=hc.outs n (List.mem_of_getElem? hn)
      obtain ⟨w,hw⟩:∃ w,N[n]? = some w:=⟨_,List.getElem?_eq_getElem (by omega)⟩
      have hs:(c.outs.take (i + 1)).map (fun n=>N.getD n zW) = (c.outs.take i).map (fun n=>N.getD n zW) ++ [w]:=by rw [a0z hn,List.map_append];simp [hw]
      have c1:(i:Int) < c.outs.length:=by omega
      have hwi:=wI1 (n:=i) (by omega)
      have htl:((c.outs.take i).map fun n=>N.getD n zW).length = i:=by rw [List.length_map,List.length_take];omega
      generalize (c.outs.take i).map (fun n=>N.getD n zW) = T at hs htl
      cases T with
      | nil=>
       (repeat first|simp only [ww]|(apply xa;simp +decide only [go_sem,c1,hlt,hn,hnn,hw,hwi,hll3,List.map_nil,a0f,a0g];rfl;kernel_rfl))
       refine a1w (i + 1) ?_ (by omega) (by omega)
       rw [hs]
       (simp +decide only [go_sem,a01,a00,List.map_cons,List.map_nil,List.nil_append,a07,a08,List.length_nil,h1,h3,e1,e2,a3k,a5i]<;>rfl)<;>rfl
      | cons a r=>
       simp only [List.length_cons] at htl
       have hrm:r.length + 1 + 1 ≤ 1000000000:=by omega
       (repeat first|simp only [ww]|(apply xa;simp +decide only [go_sem,c1,hlt,hn,hnn,hw,hwi,hll3,hrm,List.map_cons,a07,a08,List.length_cons];rfl;kernel_rfl))
       refine a1w (i + 1) ?_ (by omega) (by omega)
       rw [hs]
       (simp +decide only [go_sem,a01,a00,List.map_cons,List.map_nil,List.cons_append,a07,a08,List.length_cons,h1,h3,e1,e2,a3k,a5i]<;>rfl)<;>rfl
     have hie:i = c.outs.length:=by omega
     subst hie
     have c1:¬ (c.outs.length:Int) < c.outs.length:=by omega
     rw [List.take_length]
     have hseen:(a2b c ord).seen a20 g N = (c.outs.map fun n=>N.getD n zW) ++ (kinds c.nodes 14).map (fun n=>(a0p a20 c.nodes g N n).getD 0 zW):=rfl
     rw [hseen]
     have hol2:(c.outs.map fun n=>N.getD n zW).length = c.outs.length:=List.length_map ..
     generalize c.outs.map (fun n=>N.getD n zW) = O at hol2
     (repeat first|simp only [ww]|(apply xa;simp +decide only [go_sem,c1];rfl;kernel_rfl))
     refine a0s (σ:=Nat) kp86_8 (fun i=>[(3,.ptr 0 0 0),(6,.slice 1 0 c.nodes.length (some c.nodes.length)),(7,grV 2 ((O ++ ((kinds c.nodes 14).take i).map fun n=>(a0p a20 c.nodes g N n).getD 0 zW).map W.enc)),(114,sl r1 ((kinds c.nodes 14).map a0d)),(115,.int .i64 (kinds c.nodes 14).length),(116,.int .i64 i)])
      (fun i=>[some (.row 9 [[sl c.nc (c.nodes.map Nd.enc),sl c.mc (c.names.map a1r),.nilslice,sl c.oc (c.outs.map a0d),.islice (ord.map a0d) (some c.nodes.length),sl r0 ((kinds c.nodes 0).map a0d),sl r1 ((kinds c.nodes 14).map a0d),net,pin]]),some (.row 2 (N.map W.enc))] ++ grH 2 ((O ++ ((kinds c.nodes 14).take i).map fun n=>(a0p a20 c.nodes g N n).getD 0 zW).map W.enc)) (fun i=>(kinds c.nodes 14).length - i) (fun i=>i ≤ (kinds c.nodes 14).length) 0 ?_ (Nat.zero_le _) ?_
     ·rw [List.take_zero,List.map_nil,List.append_nil]
      cases O with
      | nil=>(simp +decide only [go_sem,a01,a00,List.map_nil,a0f,a0g,h1,h3,e1,e2,a3k,a5i]<;>rfl)<;>rfl
      | cons a r=>(simp +decide only [go_sem,a01,a00,List.map_cons,a07,a08,h1,h3,e1,e2,a3k,a5i]<;>rfl)<;>rfl
     ·intro i hi
      by_cases hlt:i < (kinds c.nodes 14).length
      ·obtain ⟨n,hn⟩:∃ n,(kinds c.nodes 14)[i]? = some n:=⟨_,List.getElem?_eq_getElem hlt⟩
       obtain ⟨hnn,hkd⟩:=a4a hn
       obtain ⟨x,hx⟩:∃ x,c.nodes[n]? = some x:=⟨_,List.getElem?_eq_getElem hnn⟩
       rw [a15 hx] at hkd
       have hlo:=hc.lo x (List.mem_of_getElem? hx)
       rw [hkd] at hlo
       have hrl:(a0p a20 c.nodes g N n).length = x.ins.length:=by rw [a3t,a1l hx]
       have hlo2:1 ≤ x.ins.length:=hlo
       have hrd1:=fun X=>hrd (some (.row 9 [[sl c.nc (c.nodes.map Nd.enc),sl c.mc (c.names.map a1r),.nilslice,sl c.oc (c.outs.map a0d),.islice (ord.map a0d) (some c.nodes.length),sl r0 ((kinds c.nodes 0).map a0d),sl r1 ((kinds c.nodes 14).map a0d),net,pin]]) :: some (.row 2 (N.map W.enc)) :: X) 1 N hll3 n hnn rfl
       obtain ⟨w,hw⟩:∃ w,(a0p a20 c.nodes g N n)[0]? = some w:=⟨_,List.getElem?_eq_getElem (by omega)⟩
       have hs:(O ++ ((kinds c.nodes 14).take (i + 1)).map fun n=>(a0p a20 c.nodes g N n).getD 0 zW) = (O ++ ((kinds c.nodes 14).take i).map fun n=>(a0p a20 c.nodes g N n).getD 0 zW) ++ [w]:=by
        rw [a0z hn,List.map_append,List.append_assoc];simp [hw]
       have c1:(i:Int) < (kinds c.nodes 14).length:=by omega
       have hwi:=wI1 (n:=i) (by omega)
       have hr0:0 < (a0p a20 c.nodes g N n).length:=by omega
       have htl:(O ++ ((kinds c.nodes 14).take i).map fun n=>(a0p a20 c.nodes g N n).getD 0 zW).length = c.outs.length + i:=by rw [List.length_append,List.length_map,List.length_take];omega
       generalize a0p a20 c.nodes g N n = R at hrd1 hw hr0
       have hrow0:Ax.rowAt (R.map W.enc) 0 = some [u64 w.one,u64 w.zero]:=by
        have h:=Ax.rowAt_nat (R.map W.enc) 0
        rw [List.getElem?_map,hw] at h
        exact h
       generalize (O ++ ((kinds c.nodes 14).take i).map fun n=>(a0p a20 c.nodes g N n).getD 0 zW) = T at hs htl
       cases T with
       | nil=>
        (repeat first|simp only [ww]|(apply xa;simp +decide only [go_sem,c1,hlt,hn,hnn,hw,hwi,hll3,hrd1,hr0,hrow0,List.map_nil,a0f,a0g];rfl;kernel_rfl))
        refine a1w (i + 1) ?_ (by omega) (by omega)
        rw [hs]
        (simp +decide only [go_sem,a01,a00,List.map_cons,List.map_nil,List.nil_append,a07,a08,List.length_nil,h1,h3,e1,e2,a3k,a5i]<;>rfl)<;>rfl
       | cons a r=>
        simp only [List.length_cons] at htl
        have hrm:r.length + 1 + 1 ≤ 1000000000:=by omega
        (repeat first|simp only [ww]|(apply xa;simp +decide only [go_sem,c1,hlt,hn,hnn,hw,hwi,hll3,hrd1,hr0,hrow0,hrm,List.map_cons,a07,a08,List.length_cons];rfl;kernel_rfl))
        refine a1w (i + 1) ?_ (by omega) (by omega)
        rw [hs]
        (simp +decide only [go_sem,a01,a00,List.map_cons,List.map_nil,List.cons_append,a07,a08,List.length_cons,h1,h3,e1,e2,a3k,a5i]<;>rfl)<;>rfl
      have hie:i = (kinds c.nodes 14).length:=by omega
      subst hie
      have c1:¬ ((kinds c.nodes 14).length:Int) < (kinds c.nodes 14).length:=by omega
      rw [List.take_length]
      generalize (O ++ (kinds c.nodes 14).map fun n=>(a0p a20 c.nodes g N n).getD 0 zW) = T
      cases T with
      | nil=>
       (repeat first|simp only [ww]|(apply xa;simp +decide only [go_sem,c1,List.map_nil,a0f,a0g];rfl;kernel_rfl))
       rw [← hll3]
       (apply fqb;simp +decide only [go_sem,d3n,List.map_nil]<;>rfl)
      | cons a r=>
       (repeat first|simp only [ww]|(apply xa;simp +decide only [go_sem,c1,List.map_cons,a07,a08];rfl;kernel_rfl))
       rw [← hll3]
       (apply fqb;simp +decide only [go_sem,d3n,List.map_cons,a51]<;>rfl)
end Go.MInst
