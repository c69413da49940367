/- Part of a proof. No condition. -/
import Derived.Test.YtllalbnibhofiaaGreatDoorZNe
import Derived.Test.YtllalbnibhofiaaGreatDoorPcB
import Derived.Test.YtllalbnibhofiaaGreatDoorAxE
set_option linter.unusedSimpArgs false
set_option linter.unusedVariables false
namespace Go.ZInst
open Go.Proofs Go.Ax Go.Pc
set_option maxRecDepth 100000
def foE (fo:List (List (Nat × Nat))):List (List (List AV)):=fo.map (·.map lineR)
theorem foE_len (fo:List (List (Nat × Nat))):(foE fo).length = fo.length:=by unfold foE;simp
theorem foE_get {fo:List (List (Nat × Nat))} {j:Nat} {L:List (Nat × Nat)} (h:fo[j]? = some L):(foE fo)[j]? = some (L.map lineR):=by unfold foE;rw [List.getElem?_map,h];rfl
theorem foE_set (fo:List (List (Nat × Nat))) (j:Nat) (L:List (Nat × Nat)) (i k:Nat):(foE fo).set j (L.map lineR ++ [lineR (i,k)]) = foE (fo.set j (L ++ [(i,k)])):=by unfold foE;rw [List.map_set,List.map_append];rfl
/-- At the head of the outer loop. -/
def J0 (c:Cir) (n:Nat) (F:Frm) (H:Heap):Prop:=∃ i b ids fo,n = c.nodes.length - i ∧ i ≤ c.nodes.length ∧
 F = [(3,.slice b 0 c.nodes.length (some c.nodes.length)),(4,outV c),(18,sl c.nc (c.nodes.map Nd.enc)),(19,.int .i64 c.nodes.length),(20,.int .i64 i)] ∧ Two H b 2 ids (fun _=>none) (foE fo) ∧ FoOk c.nodes i 0 fo
/-- At the head of the inner loop. -/
def J2 (c:Cir) (i:Nat) (x:Nd) (n:Nat) (F:Frm) (H:Heap):Prop:=∃ k b ids fo,n = x.ins.length - k ∧ k ≤ x.ins.length ∧
 F = [(3,.slice b 0 c.nodes.length (some c.nodes.length)),(4,outV c),(5,.int .i64 i),(18,sl c.nc (c.nodes.map Nd.enc)),(19,.int .i64 c.nodes.length),(20,.int .i64 i),(26,sl x.c (x.ins.map intR)),(27,.int .i64 x.ins.length),(28,.int .i64 k)] ∧ Two H b 2 ids (fun _=>none) (foE fo) ∧ FoOk c.nodes i k fo
def cpT (fo:List (List (Nat × Nat))) (t:Nat):Nat → Option Nat:=fun j=>if j < t then (fo[j]?).map List.length else none
/-- At the head of the last loop. -/
def J4 (c:Cir) (fo:List (List (Nat × Nat))) (n:Nat) (F:Frm) (H:Heap):Prop:=∃ t b ids,n = c.nodes.length - t ∧ t ≤ c.nodes.length ∧
 F = [(3,.slice b 0 c.nodes.length (some c.nodes.length)),(51,.slice b 0 c.nodes.length (some c.nodes.length)),(52,.int .i64 c.nodes.length),(53,.int .i64 t)] ∧ Two H b 2 ids (cpT fo t) (foE fo)
theorem two_init (H:Heap) (n:Nat) (b:Nat) (h:HeapF H b = some (.row 1 (List.replicate n [.nilslice]))):Two H b 2 (fun _=>0) (fun _=>none) (foE (List.replicate n [])):=by
 have hfo:foE (List.replicate n []) = List.replicate n []:=by unfold foE;rw [List.map_replicate];rfl
 rw [hfo]
 have hno:∀ (j:Nat) (f:List (List AV)),(List.replicate n ([]:List (List AV)))[j]? = some f → f = []:=by
  intro j f hf
  rw [List.getElem?_replicate] at hf
  split at hf
  ·cases hf;rfl
  ·cases hf
 refine ⟨?_,fun j f hf hne=>absurd (hno j f hf) hne,fun i j f g hf _ hne=>absurd (hno i f hf) hne,fun f hf=>?_⟩
 ·rw [h]
  congr 2
  apply List.ext_getElem?
  intro j
  unfold rows2
  rw [List.getElem?_mapIdx,List.getElem?_replicate,List.getElem?_replicate]
  split<;>rfl
 ·rw [(List.mem_replicate.1 hf).2];exact FlatR.nil
theorem cpT_zero (fo:List (List (Nat × Nat))):cpT fo 0 = fun _=>none:=by funext j;simp [cpT]
theorem cpT_succ {fo:List (List (Nat × Nat))} {t:Nat} {L:List (Nat × Nat)} (h:fo[t]? = some L):(fun i=>if i = t then some L.length else cpT fo t i) = cpT fo (t + 1):=by
 funext j
 unfold cpT
 by_cases h1:j = t
 ·subst h1;simp [h]
 ·by_cases h2:j < t
  ·simp [h1,h2,show j < t + 1 by omega]
  ·simp [h1,h2,show ¬ j < t + 1 by omega]
theorem clipL_nil:sem L.env Mf 62 [.nilslice] [] = some (.nilslice,[]):=by
 (refine sem_wp (code:=(Tryz.f62.body).getD .skip) (N:=9) (results:=[.tmp 2]) (by kernel_rfl) (no _ (by rfl)) rfl rfl ?_;simp only [Tryz.f62,Option.getD_some])
 (repeat first|simp only [ww]|((with_reducible first|apply xs|apply xI);(·simp +decide only [go_sem];rfl);with_reducible first|apply xT|apply xF|(·kernel_rfl)))
 (first|with_reducible apply fq_r|with_reducible apply fq_n);(·simp +decide only [go_sem]<;>rfl);(·simp +decide only [go_sem]<;>rfl)
theorem clipL_ok (n:Nat) (rows:List (List AV)) (hf:FlatR rows):sem L.env Mf 62 [.slice 0 0 n none] [some (.row 2 rows)] = some (.slice 0 0 n (some n),[some (.row 2 rows)]):=by
 have h1:=fun π=>renR_flat π hf
 (refine sem_wp (code:=(Tryz.f62.body).getD .skip) (N:=9) (results:=[.tmp 2]) (by kernel_rfl) (no _ (by rfl)) rfl rfl ?_;simp only [Tryz.f62,Option.getD_some])
 (repeat first|simp only [ww]|((with_reducible first|apply xs|apply xI);(·simp +decide only [go_sem];rfl);with_reducible first|apply xT|apply xF|(·kernel_rfl)))
 (first|with_reducible apply fq_r|with_reducible apply fq_n);(·simp +decide only [go_sem,h1]<;>rfl);(·simp +decide only [go_sem,h1]<;>rfl)
theorem clipL_callN {d:Bool} (H:Heap):callV L.env d (sem L.env Mf) (.func (.func 62) [] []) [.nilslice] H = some (.nilslice,H,[]):=
 callV_flat (by kernel_rfl) (by kernel_rfl) rfl rfl clipL_nil rfl
theorem clipL_call {d:Bool} {H:Heap} {b n:Nat} {rows:List (List AV)} (hf:FlatR rows) (hb:HeapF H b = some (.row 2 rows)):callV L.env d (sem L.env Mf) (.func (.func 62) [] []) [.slice b 0 n none] H = some (.slice b 0 n (some n),H,[b]):=by
 have h:=callV_one' (E:=L.env) (draw:=d) (call:=sem L.env Mf) (g:=62) (fs:=[]) (cs:=[]) (ar:=[.slice b 0 n none]) (H:=H) (b:=b) (by kernel_rfl) (by kernel_rfl) rfl hb (refsO_flat hf) (FlatO.row hf) rfl (args':=[AV.slice 0 0 n none]) (by simp only [List.nil_append,List.append_nil,List.map_cons,List.map_nil,ren_slice1]) (clipL_ok n rows hf) (FlatO.row hf) (back_slice1 b 0 _ n _)
 rw [set_same hb] at h
 exact h
theorem fanout_ok (c:Cir) (h:c.wf):∃ r:AV × Heap,(∃ fo,FoOk c.nodes c.nodes.length 0 fo ∧ r = (AV.islice ((foE fo).mapIdx fun j f=>[slF (cpT fo c.nodes.length j) f]) (some c.nodes.length),[])) ∧ sem L.env Mf 102 [.agg c.enc] [] = some r:=by
 have hn:=h.len
 have hou:=fun H=>outside_call (d:=false) H c
 have hrm:c.nodes.length ≤ 1000000000:=by omega
 have hov:refs (outV c) = []:=rfl
 have hor:∀ π,ren π (outV c) = outV c:=fun π=>ren_flat π _ rfl
 have ho1:=fun H m hm=>out1_call (d:=false) H c m hm
 generalize hO:outV c = O at hou hov hor ho1
 simp only [Cir.enc] at hou ⊢
 (refine sem_wpE (code:=(Tryz.f102.body).getD .skip) (N:=65) (results:=[.tmp 2]) (by kernel_rfl) (no _ (by rfl)) rfl rfl ?_;simp only [Tryz.f102,Option.getD_some])
 (repeat first|simp only [ww]|((with_reducible first|apply xs|apply xI);(·simp +decide only [go_sem,hou,hrm];rfl);with_reducible first|apply xT|apply xF|(·kernel_rfl)))
 refine xp_lp kp102_0 (J0 c) (c.nodes.length - 0) ?_ ?_
 ·refine two_head (two_init _ c.nodes.length 1 rfl) ?_ (by rw [foE_len];simp;omega) ?_
  ·exact .inl (by simp +decide only [go_sem,hov])
  ·intro π b' ids' H1 hb hT
   refine ⟨0,b',ids',_,rfl,Nat.zero_le _,?_,hT,FoOk.zero _⟩
   simp +decide only [go_sem,hb,hor,hO]<;>rfl
 ·rintro n F H ⟨i,b,ids,fo,rfl,hi,rfl,hT,hF⟩
  by_cases hlt:i < c.nodes.length
  ·obtain ⟨x,hx⟩:∃ x,c.nodes[i]? = some x:=⟨_,List.getElem?_eq_getElem hlt⟩
   have c1:(i:Int) < c.nodes.length:=by omega
   have hw:=wI1 (n:=i) (by omega)
   have hbl:=heapF_lt hT.top
   have hxi:=insAt_get hx
   rw [hO]
   (repeat first|simp only [ww]|((with_reducible first|apply xs|apply xI);(·simp +decide only [go_sem,c1,hlt,hx,hw,heapF_hi0,heapF_hi,set_hi0,set_hi,lt_add1];rfl);with_reducible first|apply xT|apply xF|(·kernel_rfl)))
   refine xp_lp kp102_2 (J2 c i x) (x.ins.length - 0) ?_ ?_
   ·refine two_head (hT.more) ?_ (by rw [foE_len,hF.len];omega) ?_
    ·exact .inl (by simp +decide only [go_sem,hov])
    ·intro π b' ids' H1 hb hT
     refine ⟨0,b',ids',_,rfl,Nat.zero_le _,?_,hT,hF⟩
     simp +decide only [go_sem,hb,hor,hO]<;>rfl
   ·rintro n F H ⟨k,b,ids,fo,rfl,hk,rfl,hT,hF⟩
    rw [hO]
    by_cases hkl:k < x.ins.length
    ·obtain ⟨m,hm⟩:∃ m,x.ins[k]? = some m:=⟨_,List.getElem?_eq_getElem hkl⟩
     have hmn:=h.ins x (List.mem_of_getElem? hx) m (List.mem_of_getElem? hm)
     have hom:=fun H=>ho1 H m hmn
     have c2:(k:Int) < x.ins.length:=by omega
     have hil:=h.insl (List.mem_of_getElem? hx)
     have hw2:=wI1 (n:=k) (by omega)
     have hbl:=heapF_lt hT.top
     have htop:=hT.top
     have hmf:m < fo.length:=by rw [hF.len];exact hmn
     obtain ⟨L,hL⟩:∃ L,fo[m]? = some L:=⟨_,List.getElem?_eq_getElem hmf⟩
     have hget:=rows2_get (ids:=ids) (cp:=fun _=>none) (foE_get hL)
     have hstep:=hF.step (by rw [hxi];exact hm) hL
     have hrl:(rows2 ids (fun _=>none) (foE fo)).length = c.nodes.length:=by rw [rows2_len,foE_len,hF.len]
     cases L with
     | nil=>
      simp only [List.map_nil,slV] at hget
      (repeat first|simp only [ww]|((with_reducible first|apply xs|apply xI);(·simp +decide only [go_sem,c2,hkl,hm,hw2,hom,hbl,htop,hmn,hget,heapF_hi0,heapF_hi,heapF_lo,set_hi0,set_hi,set_lo,lt_add1,lt_add_s,List.append_assoc,List.cons_append,List.nil_append,hrl];rfl);with_reducible first|apply xT|apply xF|(·kernel_rfl)))
      refine lpJ_n (x.ins.length - (k + 1)) (by omega) ?_
      have hT2:=hT.app1 (o:=some (.row 2 [lineR (i,k)])) (x:=lineR (i,k)) (foE_get hL) rfl rfl
      have e2:(foE fo).set m [lineR (i,k)] = foE (fo.set m ([] ++ [(i,k)])):=foE_set fo m [] i k
      rw [e2] at hT2
      refine two_head hT2 ?_ (by rw [foE_len,List.length_set,hF.len];omega) ?_
      ·exact .inl (by simp +decide only [go_sem,hov])
      ·intro π b' ids' H1 hb hT
       refine ⟨k + 1,b',ids',_,rfl,hkl,?_,hT,hstep⟩
       simp +decide only [go_sem,hb,hor,hO]<;>rfl
     | cons a r=>
      simp only [List.map_cons,slV] at hget
      have hsub:=hT.sub m _ (foE_get hL) (by simp)
      obtain ⟨s1,s2⟩:=hsub
      have s3:=heapF_lt s1
      simp only [List.map_cons] at s1
      have hLl:r.length + 1 + 1 ≤ 1000000000:=by
       have:=hF.total hL (h.len) (fun y hy=>h.insl hy)
       simp only [List.length_cons] at this;omega
      (repeat first|simp only [ww]|((with_reducible first|apply xs|apply xI);(·simp +decide only [go_sem,c2,hkl,hm,hw2,hom,hbl,htop,hmn,hget,heapF_hi0,heapF_hi,heapF_lo,heapF_setF,List.length_set,s1,s2,s3,hLl,set_hi0,set_hi,set_lo,lt_add1,lt_add_s,List.append_assoc,List.cons_append,List.nil_append,hrl];rfl);with_reducible first|apply xT|apply xF|(·kernel_rfl)))
      refine lpJ_n (x.ins.length - (k + 1)) (by omega) ?_
      have hT2:=hT.app2 (o:=some (.row 2 [lineR (i,k)])) (x:=lineR (i,k)) (foE_get hL) rfl rfl
      have e2:(foE fo).set m (lineR a :: List.map lineR r ++ [lineR (i,k)]) = foE (fo.set m (a :: r ++ [(i,k)])):=foE_set fo m (a :: r) i k
      rw [e2] at hT2
      rw [List.length_map] at hT2
      refine two_head hT2 ?_ (by rw [foE_len,List.length_set,hF.len];omega) ?_
      ·exact .inl (by simp +decide only [go_sem,hov])
      ·intro π b' ids' H1 hb hT
       refine ⟨k + 1,b',ids',_,rfl,hkl,?_,hT,hstep⟩
       simp +decide only [go_sem,hb,hor,hO]<;>rfl
    ·obtain rfl:k = x.ins.length:=by omega
     have c2:¬ (x.ins.length:Int) < x.ins.length:=by omega
     (repeat first|simp only [ww]|((with_reducible first|apply xs|apply xI);(·simp +decide only [go_sem,c2,hw];rfl);with_reducible first|apply xT|apply xF|(·kernel_rfl)))
     refine lpJ_n (c.nodes.length - (i + 1)) (by omega) ?_
     refine two_head hT ?_ (by rw [foE_len,hF.len];omega) ?_
     ·exact .inl (by simp +decide only [go_sem,hov])
     ·intro π b' ids' H1 hb hT
      refine ⟨i + 1,b',ids',_,rfl,by omega,?_,hT,hF.next (by rw [hxi])⟩
      simp +decide only [go_sem,hb,hor,hO]<;>rfl
  ·obtain rfl:i = c.nodes.length:=by omega
   have c1:¬ (c.nodes.length:Int) < c.nodes.length:=by omega
   rw [hO]
   (repeat first|simp only [ww]|((with_reducible first|apply xs|apply xI);(·simp +decide only [go_sem,c1];rfl);with_reducible first|apply xT|apply xF|(·kernel_rfl)))
   refine xp_lp kp102_4 (J4 c fo) (c.nodes.length - 0) ?_ ?_
   ·refine two_head hT ?_ (by rw [foE_len,hF.len];omega) ?_
    ·exact .inr (by simp +decide only [go_sem,hov])
    ·intro π b' ids' H1 hb hT
     refine ⟨0,b',ids',rfl,Nat.zero_le _,?_,by rw [cpT_zero];exact hT⟩
     simp +decide only [go_sem,hb,hor,hO]<;>rfl
   ·rintro n F H ⟨t,b,ids,rfl,ht,rfl,hT⟩
    by_cases htl:t < c.nodes.length
    ·have c2:(t:Int) < c.nodes.length:=by omega
     have hw2:=wI1 (n:=t) (by omega)
     have hbl:=heapF_lt hT.top
     have htop:=hT.top
     obtain ⟨L,hL⟩:∃ L,fo[t]? = some L:=⟨_,List.getElem?_eq_getElem (by rw [hF.len];exact htl)⟩
     have hget:=rows2_get (ids:=ids) (cp:=cpT fo t) (foE_get hL)
     have hct:cpT fo t t = none:=by simp [cpT]
     have hrl:(rows2 ids (cpT fo t) (foE fo)).length = c.nodes.length:=by rw [rows2_len,foE_len,hF.len]
     rw [hct] at hget
     have hfin:∀ H1,H1 = H.set b (some (.row 1 ((rows2 ids (cpT fo t) (foE fo)).set t [slV (ids t) (some L.length) (L.map lineR)]))) → Two H1 b 2 ids (cpT fo (t + 1)) (foE fo):=by
      intro H1 hH1
      have:=hT.clip (H1:=H1) (foE_get hL) (by rw [hH1,heapF_set_eq hbl]) (fun c hc=>by rw [hH1,heapF_set_ne (Ne.symm hc)])
      rwa [cpT_succ hL] at this
     cases L with
     | nil=>
      simp only [List.map_nil,slV] at hget
      have hcl:=fun H=>clipL_callN (d:=false) H
      (repeat first|simp only [ww]|((with_reducible first|apply xs|apply xI);(·simp +decide only [go_sem,c2,htl,hw2,hbl,htop,hget,hcl,hrl,List.length_set];rfl);with_reducible first|apply xT|apply xF|(·kernel_rfl)))
      refine lpJ_n (c.nodes.length - (t + 1)) (by omega) ?_
      refine two_head (hfin _ rfl) ?_ (by rw [foE_len,hF.len];omega) ?_
      ·exact .inr (by simp +decide only [go_sem,hov])
      ·intro π b' ids' H1 hb hT
       refine ⟨t + 1,b',ids',rfl,by omega,?_,hT⟩
       simp +decide only [go_sem,hb,hor,hO]<;>rfl
     | cons a r=>
      simp only [List.map_cons,slV] at hget
      obtain ⟨s1,s2⟩:=hT.sub t _ (foE_get hL) (by simp)
      have hcl:=clipL_call (d:=false) (H:=H) (b:=ids t) (n:=r.length + 1) (hT.flat _ (List.mem_of_getElem? (foE_get hL))) s1
      (repeat first|simp only [ww]|((with_reducible first|apply xs|apply xI);(·simp +decide only [go_sem,c2,htl,hw2,hbl,htop,hget,hcl,hrl,List.length_set];rfl);with_reducible first|apply xT|apply xF|(·kernel_rfl)))
      refine lpJ_n (c.nodes.length - (t + 1)) (by omega) ?_
      refine two_head (hfin _ (by simp only [List.map_cons,slV,List.length_map,List.length_cons])) ?_ (by rw [foE_len,hF.len];omega) ?_
      ·exact .inr (by simp +decide only [go_sem,hov])
      ·intro π b' ids' H1 hb hT
       refine ⟨t + 1,b',ids',rfl,by omega,?_,hT⟩
       simp +decide only [go_sem,hb,hor,hO]<;>rfl
    ·obtain rfl:t = c.nodes.length:=by omega
     have c2:¬ (c.nodes.length:Int) < c.nodes.length:=by omega
     have hz:=hT.frz (some c.nodes.length)
     rw [foE_len,hF.len] at hz
     (repeat first|simp only [ww]|((with_reducible first|apply xs|apply xI);(·simp +decide only [go_sem,c2];rfl);with_reducible first|apply xT|apply xF|(·kernel_rfl)))
     refine fqE_n (vs:=[.slice b 0 c.nodes.length (some c.nodes.length)]) (r:=(_,[])) (by simp +decide only [go_sem]) ?_ ⟨fo,hF,rfl⟩
     show finish false 0 (.slice b 0 c.nodes.length (some c.nodes.length)) H = _
     rw [finish_eq,hz]
     rfl
open Go.Proofs Go.Ax Go.Pc
set_option maxRecDepth 100000
def foR (c:Cir) (fo:List (List (Nat × Nat))):List (List AV):=(foE fo).mapIdx fun j f=>[slF (cpT fo c.nodes.length j) f]
theorem foR_get {c:Cir} {fo:List (List (Nat × Nat))} {j:Nat} {L:List (Nat × Nat)} (h:fo[j]? = some L) (hj:j < c.nodes.length):(foR c fo)[j]? = some [slF (some L.length) (L.map lineR)]:=by
 unfold foR
 rw [List.getElem?_mapIdx,foE_get h]
 simp [cpT,hj,h]
theorem fanout_call (c:Cir) (h:c.wf):∃ fo,FoOk c.nodes c.nodes.length 0 fo ∧ ∀ (d:Bool) (H:Heap),callV L.env d (sem L.env Mf) (.func (.func 102) [] []) [.agg c.enc] H = some (.islice (foR c fo) (some c.nodes.length),H,[]):=by
 obtain ⟨r,⟨fo,h1,rfl⟩,h2⟩:=fanout_ok c h
 exact ⟨fo,h1,fun d H=>callV_flat (by kernel_rfl) (by kernel_rfl) rfl (refs_cirA c) h2 rfl⟩
def kcb (c:Cir):Option AObj:=some (.row 4 [[sl c.nc (c.nodes.map Nd.enc),sl c.mc (c.names.map strR),.nilslice,sl c.oc (c.outs.map intR)]])
attribute [go_sem] kcb
def JL2 (c:Cir) (fo:List (List (Nat × Nat))) (n:Nat) (F:Frm) (H:Heap):Prop:=∃ (out left ready:List Nat) (done:Nat),n = c.nodes.length - done ∧
 F = [(1,.ptr 0 0 0),(5,.slice 1 0 c.nodes.length (some c.nodes.length)),(6,.slice 2 0 c.nodes.length (some c.nodes.length)),(7,grV 3 (ready.map intR)),(10,.islice (foR c fo) (some c.nodes.length)),(11,.int .i64 done)] ∧
 H = [kcb c,some (.row 1 (out.map intR)),some (.row 1 (left.map intR))] ++ grH 1 (ready.map intR) ∧ Kahn c.nodes left ready done [] ∧ out.length = c.nodes.length ∧ ∀ v ∈ out,v ≤ 300 * done
def JL4 (c:Cir) (fo:List (List (Nat × Nat))) (done x:Nat) (L:List (Nat × Nat)) (n:Nat) (F:Frm) (H:Heap):Prop:=∃ (out left ready:List Nat) (q:Nat),n = L.length - q ∧ q ≤ L.length ∧
 F = [(1,.ptr 0 0 0),(5,.slice 1 0 c.nodes.length (some c.nodes.length)),(6,.slice 2 0 c.nodes.length (some c.nodes.length)),(7,grV 3 (ready.map intR)),(10,.islice (foR c fo) (some c.nodes.length)),(11,.int .i64 (done + 1:Nat)),(12,.int .i64 x),(76,.islice (L.map lineR) (some L.length)),(77,.int .i64 L.length),(78,.int .i64 q)] ∧
 H = [kcb c,some (.row 1 (out.map intR)),some (.row 1 (left.map intR))] ++ grH 1 (ready.map intR) ∧ Kahn c.nodes left ready done (L.take q) ∧ ready[done]? = some x ∧ out.length = c.nodes.length ∧ ∀ v ∈ out,v ≤ 300 * done + q
theorem rep0 (n:Nat):List.replicate n [AV.int .i64 0] = (List.replicate n 0).map intR:=by rw [List.map_replicate];rfl
theorem amax_nat (a b:Nat):amax (.int .i64 a) [.int .i64 (b:Int)] = some (.int .i64 ((max a b:Nat):Int)):=by
 simp only [amax]
 by_cases h:(b:Int) > a
 ·rw [if_pos h];congr 2;omega
 ·rw [if_neg h];congr 2;omega
theorem levels_ok (c:Cir) (h:c.wf):∃ r:AV × Heap,(∃ lv:List Nat,lv.length = c.nodes.length ∧ (∀ v ∈ lv,v ≤ 100000) ∧ r = (.tuple [.islice (lv.map intR) (some c.nodes.length),.int .i64 0],[])) ∧ sem L.env Mf 67 [.agg c.enc] [] = some r:=by
 have hn:=h.len
 obtain ⟨fo,hfo,hfc⟩:=fanout_call c h
 have hfc:=hfc false
 have hsh:=fun H=>shape_call (d:=false) H c h
 have hrm:c.nodes.length ≤ 1000000000:=by omega
 have hko:refsO (kcb c) = []:=by simp only [go_sem]
 simp only [Cir.enc] at hfc hsh ⊢
 (refine sem_wpE (code:=(Tryz.f67.body).getD .skip) (N:=131) (results:=[.tmp 2,.tmp 3]) (by kernel_rfl) (no _ (by rfl)) rfl rfl ?_;simp only [Tryz.f67,Option.getD_some])
 (repeat first|simp only [ww]|((with_reducible first|apply xs|apply xI);(·simp +decide only [go_sem,hsh,hrm];rfl);with_reducible first|apply xT|apply xF|(·kernel_rfl)))
 refine xp_loop3 (σ:=Nat) kp67_0 (fun i=>[(1,.ptr 0 0 0),(5,.slice 1 0 c.nodes.length (some c.nodes.length)),(6,.slice 2 0 c.nodes.length (some c.nodes.length)),(7,grV 3 ((readyTo c.nodes i).map intR)),(29,sl c.nc (c.nodes.map Nd.enc)),(30,.int .i64 c.nodes.length),(31,.int .i64 i)])
  (fun i=>[kcb c,some (.row 1 ((List.replicate c.nodes.length 0).map intR)),some (.row 1 ((leftTo c.nodes i).map intR))] ++ grH 1 ((readyTo c.nodes i).map intR)) (fun i=>c.nodes.length - i) (fun i=>i ≤ c.nodes.length) 0 ?_ (Nat.zero_le _) ?_
 ·rw [leftTo_zero,show readyTo c.nodes 0 = [] from rfl]
  (simp +decide only [go_sem,gcD_eq,gcIds_eq,rep0,List.map_nil,grV_nil,grH_nil,flat_i,ren_i]<;>rfl)
 ·intro i hi
  by_cases hlt:i < c.nodes.length
  ·obtain ⟨x,hx⟩:∃ x,c.nodes[i]? = some x:=⟨_,List.getElem?_eq_getElem hlt⟩
   have c1:(i:Int) < c.nodes.length:=by omega
   have hw:=wI1 (n:=i) (by omega)
   have k14:=h.kind x (List.mem_of_getElem? hx)
   have hcb:=fun H=>comb_call (d:=false) H x.kind (by omega)
   have hll:(leftTo c.nodes i).length = c.nodes.length:=by simp [leftTo]
   have hgl:(leftTo c.nodes i)[i]? = some 0:=by rw [leftTo_get hlt];simp
   have hrl:=readyTo_le c.nodes i
   have hrs:=readyTo_succ c.nodes i
   have hset:=leftTo_succ hlt
   have hgl2:(leftTo c.nodes (i + 1))[i]? = some (need c.nodes i):=by rw [leftTo_get hlt];simp
   have hnd:need c.nodes i = if isComb x.kind = true then x.ins.length else 0:=by unfold need;rw [kindAt_get hx,insAt_get hx]
   have hsetR:((leftTo c.nodes i).map intR).set i [AV.int .i64 (need c.nodes i)] = (leftTo c.nodes (i + 1)).map intR:=by rw [← hset,List.map_set];rfl
   by_cases hcm:isComb x.kind = true
   ·rw [if_pos hcm] at hnd
    rw [hnd] at hsetR hgl2 hrs
    by_cases hz:x.ins.length = 0
    ·rw [if_pos hz] at hrs
     have hz':(x.ins.length:Int) = 0:=by omega
     rw [hz] at hsetR hgl2
     generalize readyTo c.nodes i = l at hrl hrs
     cases l with
     | nil=>
      (repeat first|simp only [ww]|((with_reducible first|apply xs|apply xI);(·simp +decide only [go_sem,c1,hlt,hx,hw,hcb,hcm,hll,hgl,hsetR,hgl2,hz,List.map_nil,grV_nil,grH_nil];rfl);with_reducible first|apply xT|apply xF|(·kernel_rfl)))
      refine lp_n (i + 1) ?_ (by omega) (by omega)
      rw [hrs]
      (simp +decide only [go_sem,gcD_eq,gcIds_eq,List.map_nil,List.nil_append,List.map_cons,grV_cons,grH_cons,List.length_nil,flat_i,ren_i]<;>rfl)
     | cons a r=>
      simp only [List.length_cons] at hrl
      have hrm2:r.length + 1 + 1 ≤ 1000000000:=by omega
      (repeat first|simp only [ww]|((with_reducible first|apply xs|apply xI);(·simp +decide only [go_sem,c1,hlt,hx,hw,hcb,hcm,hll,hgl,hsetR,hgl2,hz,List.map_cons,grV_cons,grH_cons,hrm2,List.length_cons];rfl);with_reducible first|apply xT|apply xF|(·kernel_rfl)))
      refine lp_n (i + 1) ?_ (by omega) (by omega)
      rw [hrs]
      (simp +decide only [go_sem,gcD_eq,gcIds_eq,List.cons_append,List.map_cons,grV_cons,grH_cons,flat_i,ren_i,List.length_cons]<;>rfl)
    ·rw [if_neg hz] at hrs
     have hz':¬ (x.ins.length:Int) = 0:=by omega
     generalize readyTo c.nodes i = l at hrl hrs
     cases l with
     | nil=>
      (repeat first|simp only [ww]|((with_reducible first|apply xs|apply xI);(·simp +decide only [go_sem,c1,hlt,hx,hw,hcb,hcm,hll,hgl,hsetR,hgl2,hz',List.map_nil,grV_nil,grH_nil];rfl);with_reducible first|apply xT|apply xF|(·kernel_rfl)))
      refine lp_n (i + 1) ?_ (by omega) (by omega)
      rw [hrs]
      (simp +decide only [go_sem,gcD_eq,gcIds_eq,List.map_nil,grV_nil,grH_nil,flat_i,ren_i]<;>rfl)
     | cons a r=>
      (repeat first|simp only [ww]|((with_reducible first|apply xs|apply xI);(·simp +decide only [go_sem,c1,hlt,hx,hw,hcb,hcm,hll,hgl,hsetR,hgl2,hz',List.map_cons,grV_cons,grH_cons];rfl);with_reducible first|apply xT|apply xF|(·kernel_rfl)))
      refine lp_n (i + 1) ?_ (by omega) (by omega)
      rw [hrs]
      (simp +decide only [go_sem,gcD_eq,gcIds_eq,List.map_cons,grV_cons,grH_cons,flat_i,ren_i]<;>rfl)
   ·have hcm:isComb x.kind = false:=by simpa using hcm
    rw [hcm] at hnd
    have hnd:need c.nodes i = 0:=hnd
    rw [hnd,if_pos rfl] at hrs
    have hsame:=leftTo_same hlt hnd
    ·
     generalize readyTo c.nodes i = l at hrl hrs
     cases l with
     | nil=>
      (repeat first|simp only [ww]|((with_reducible first|apply xs|apply xI);(·simp +decide only [go_sem,c1,hlt,hx,hw,hcb,hcm,hll,hgl,List.map_nil,grV_nil,grH_nil];rfl);with_reducible first|apply xT|apply xF|(·kernel_rfl)))
      refine lp_n (i + 1) ?_ (by omega) (by omega)
      rw [hrs,← hsame]
      (simp +decide only [go_sem,gcD_eq,gcIds_eq,List.map_nil,List.nil_append,List.map_cons,grV_cons,grH_cons,List.length_nil,flat_i,ren_i]<;>rfl)
     | cons a r=>
      simp only [List.length_cons] at hrl
      have hrm2:r.length + 1 + 1 ≤ 1000000000:=by omega
      (repeat first|simp only [ww]|((with_reducible first|apply xs|apply xI);(·simp +decide only [go_sem,c1,hlt,hx,hw,hcb,hcm,hll,hgl,List.map_cons,grV_cons,grH_cons,hrm2,List.length_cons];rfl);with_reducible first|apply xT|apply xF|(·kernel_rfl)))
      refine lp_n (i + 1) ?_ (by omega) (by omega)
      rw [hrs,← hsame]
      (simp +decide only [go_sem,gcD_eq,gcIds_eq,List.cons_append,List.map_cons,grV_cons,grH_cons,flat_i,ren_i,List.length_cons]<;>rfl)
  ·obtain rfl:i = c.nodes.length:=by omega
   have c1:¬ (c.nodes.length:Int) < c.nodes.length:=by omega
   have hK:=Kahn.start c.nodes
   generalize readyTo c.nodes c.nodes.length = ready at hK
   generalize leftTo c.nodes c.nodes.length = left at hK
   (repeat first|simp only [ww]|((with_reducible first|apply xs|apply xI);(·simp +decide only [go_sem,c1,hfc];rfl);with_reducible first|apply xT|apply xF|(·kernel_rfl)))
   refine xp_lp kp67_2 (JL2 c fo) (c.nodes.length - 0) ?_ ?_
   ·refine ⟨_,_,?_,List.replicate c.nodes.length 0,left,ready,0,rfl,rfl,rfl,hK,by simp,by simp⟩
    cases ready with
    | nil=>(simp +decide only [go_sem,gcD_eq,gcIds_eq,List.map_nil,grV_nil,grH_nil,flat_i,ren_i]<;>rfl)
    | cons a r=>(simp +decide only [go_sem,gcD_eq,gcIds_eq,List.map_cons,grV_cons,grH_cons,flat_i,ren_i]<;>rfl)
   ·rintro n F H ⟨out,left,ready,done,rfl,rfl,rfl,hK,hol,hob⟩
    have hne:ready ≠ []:=by
     rintro rfl
     have hd0:done = 0:=by have:=hK.dle;simpa using this
     subst hd0
     have h1:c.nodes.length ≤ 0:=hK.all h.acyc
     have h2:=h.pos
     omega
    have hbd:=hK.bound
    have hdl:=hK.dle
    have hneE:ready.map intR ≠ []:=by simpa using hne
    rw [grV_ne 3 hneE,grH_ne 1 hneE,List.length_map]
    have hwd:=wI1 (n:=done) (by omega)
    have hll:=hK.ll
    by_cases hlt:done < ready.length
    ·obtain ⟨x,hx⟩:∃ x,ready[done]? = some x:=⟨_,List.getElem?_eq_getElem hlt⟩
     have hxn:=hK.rn x (List.mem_of_getElem? hx)
     have c1:(done:Int) < ready.length:=by omega
     obtain ⟨L,hL⟩:∃ L,fo[x]? = some L:=⟨_,List.getElem?_eq_getElem (by rw [hfo.len];exact hxn)⟩
     have hLn:=hfo.node hL (Nat.le_refl _)
     have hLt:=hfo.total hL hn (fun y hy=>h.insl hy)
     have hLc:∀ a,a < c.nodes.length → cnt L a = (insAt c.nodes a).count x:=fun a ha=>by rw [hfo.num x L hL a,if_pos ha]
     have hg:=foR_get hL hxn
     cases hLL:L with
     | nil=>
      subst hLL
      simp only [List.map_nil,slF] at hg
      (repeat first|simp only [ww]|((with_reducible first|apply xs|apply xI);(·simp +decide only [go_sem,c1,hlt,hx,hwd,hg];rfl);with_reducible first|apply xT|apply xF|(·kernel_rfl)))
      refine lpJ_n (c.nodes.length - (done + 1)) (by omega) ⟨_,_,?_,out,left,ready,done + 1,rfl,rfl,rfl,hK.next hx hLc,hol,fun v hv=>by have:=hob v hv;omega⟩
      rw [grV_ne 3 hneE,grH_ne 1 hneE]
      (simp +decide only [go_sem,gcD_eq,gcIds_eq,flat_i,ren_i]<;>rfl)
     | cons l0 lr=>
      rw [hLL] at hg
      simp only [List.map_cons,slF] at hg
      rw [← List.map_cons,← hLL] at hg
      have hLp:L.length ≠ 0:=by rw [hLL];simp
      have hLi:¬ (L.length:Int) = 0:=by omega
      have hLl:(L.map lineR).length = L.length:=List.length_map ..
      (repeat first|simp only [ww]|((with_reducible first|apply xs|apply xI);(·simp +decide only [go_sem,c1,hlt,hx,hwd,hg,hLi,hLl];rfl);with_reducible first|apply xT|apply xF|(·kernel_rfl)))
      refine xp_lp kp67_4 (JL4 c fo done x L) (L.length - 0) ?_ ?_
      ·refine ⟨_,_,?_,out,left,ready,0,rfl,Nat.zero_le _,rfl,rfl,by rw [List.take_zero];exact hK,hx,hol,fun v hv=>by have:=hob v hv;omega⟩
       rw [grV_ne 3 hneE,grH_ne 1 hneE]
       (simp +decide only [go_sem,gcD_eq,gcIds_eq,flat_i,ren_i]<;>rfl)<;>rfl
      ·clear hK hbd hdl hneE hll hob hol hx hlt c1 hne
       rintro n F H ⟨out,left,ready,q,rfl,hq,rfl,rfl,hK,hx,hol,hob⟩
       have hbd:=hK.bound
       have hdlt:=(List.getElem?_eq_some_iff.1 hx).1
       have hne:ready ≠ []:=by rintro rfl;simp at hdlt
       have hneE:ready.map intR ≠ []:=by simpa using hne
       rw [grV_ne 3 hneE,grH_ne 1 hneE,List.length_map]
       have hll:=hK.ll
       have hwq:=wI1 (n:=q) (by omega)
       by_cases hql:q < L.length
       ·obtain ⟨l,hl⟩:∃ l,L[q]? = some l:=⟨_,List.getElem?_eq_getElem hql⟩
        obtain ⟨a,p⟩:=l
        have han:a < c.nodes.length:=hLn (a,p) (List.mem_of_getElem? hl)
        obtain ⟨y,hy⟩:∃ y,c.nodes[a]? = some y:=⟨_,List.getElem?_eq_getElem han⟩
        have c2:(q:Int) < L.length:=by omega
        have k14:=h.kind y (List.mem_of_getElem? hy)
        have hcb:=fun H=>comb_call (d:=false) H y.kind (by omega)
        have ht:=take_snoc hl
        have hlR:(L.map lineR)[q]? = some [.int .i64 a,.int .i64 p]:=by rw [List.getElem?_map,hl];rfl
        by_cases hcm:isComb y.kind = true
        ·have hkc:isComb (kindAt c.nodes a) = true:=by rw [kindAt_get hy];exact hcm
         have hcn:Pc.cnt (L.take q ++ [(a,p)]) a ≤ pend c.nodes ready done a:=by
          refine Nat.le_trans ?_ (pend_ge hK.nd hx)
          rw [← hLc a han,← ht]
          unfold Pc.cnt
          exact List.Sublist.count_le _ ((List.take_sublist _ _).map _)
         have hps:=hK.pos han hkc hcn
         have hdc:=hK.dec han hkc hcn
         rw [← ht] at hdc
         obtain ⟨va,hva⟩:∃ v,out[a]? = some v:=⟨_,List.getElem?_eq_getElem (by omega)⟩
         obtain ⟨vx,hvx⟩:∃ v,out[x]? = some v:=⟨_,List.getElem?_eq_getElem (by omega)⟩
         obtain ⟨w,hw⟩:∃ v,left[a]? = some v:=⟨_,List.getElem?_eq_getElem (by omega)⟩
         have hwD:left.getD a 0 = w:=by rw [List.getD,hw];rfl
         rw [hwD] at hps hdc
         have bx:=hob vx (List.mem_of_getElem? hvx)
         have ba:=hob va (List.mem_of_getElem? hva)
         have hw1:=wI1 (n:=vx) (by omega)
         have hw2:IntKind.i64.wrap ((w:Int) - 1) = ((w - 1:Nat):Int):=by
          have hwl:w ≤ 100000:=by
           have h1:=hK.eq a han hkc
           rw [hwD] at h1
           have h2:pend c.nodes ready done a ≤ (insAt c.nodes a).length:=List.length_filter_le _ _
           rw [insAt_get hy] at h2
           have h3:=h.insl (List.mem_of_getElem? hy)
           omega
          rw [w64 (by omega) (by omega)];omega
         have hmx:amax (.int .i64 va) [.int .i64 ((vx + 1:Nat):Int)] = some (.int .i64 ((max va (vx + 1):Nat):Int)):=amax_nat _ _
         have hsO:(out.map intR).set a [AV.int .i64 ((max va (vx + 1):Nat):Int)] = (out.set a (max va (vx + 1))).map intR:=by rw [List.map_set];rfl
         have hsL:(left.map intR).set a [AV.int .i64 ((w - 1:Nat):Int)] = (left.set a (w - 1)).map intR:=by rw [List.map_set];rfl
         have hgw:(left.set a (w - 1))[a]? = some (w - 1):=by rw [List.getElem?_set];simp;omega
         have hlo:(left.set a (w - 1)).length = c.nodes.length:=by rw [List.length_set];exact hll
         have hoO:(out.set a (max va (vx + 1))).length = c.nodes.length:=by rw [List.length_set];exact hol
         have hob2:∀ v ∈ out.set a (max va (vx + 1)),v ≤ 300 * done + (q + 1):=by
          intro v hv
          rcases List.mem_or_eq_of_mem_set hv with hv|rfl
          ·have:=hob v hv;omega
          ·omega
         have hdn:done < c.nodes.length:=by omega
         have han':a < left.length:=by omega
         have hxl:x < out.length:=by omega
         by_cases hz:w - 1 = 0
         ·rw [if_pos hz] at hdc
          have hz':decide (((w - 1:Nat):Int) = 0) = true:=decide_eq_true (by omega)
          have hrm2:ready.length + 1 ≤ 1000000000:=by omega
          have hx':(ready ++ [a])[done]? = some x:=by rw [List.getElem?_append_left hdlt];exact hx
          (repeat first|simp only [ww]|((with_reducible first|apply xs|apply xI);(·simp +decide only [go_sem,c2,hql,hlR,hy,hcb,hcm,hwq,han,hva,hvx,hw,hol,hll,hxn,hw1,hw2,hmx,hsO,hsL,hgw,hlo,hoO,hz',hrm2];rfl);with_reducible first|apply xT|apply xF|(·kernel_rfl)))
          refine lpJ_n (L.length - (q + 1)) (by omega) ⟨_,_,?_,out.set a (max va (vx + 1)),left.set a (w - 1),ready ++ [a],q + 1,rfl,hql,rfl,rfl,hdc,hx',hoO,hob2⟩
          (simp +decide only [go_sem,gcD_eq,gcIds_eq,grV_snoc,grH_snoc,flat_i,ren_i]<;>rfl)<;>rfl
         ·rw [if_neg hz] at hdc
          have hz':¬ ((w - 1:Nat):Int) = 0:=by omega
          (repeat first|simp only [ww]|((with_reducible first|apply xs|apply xI);(·simp +decide only [go_sem,c2,hql,hlR,hy,hcb,hcm,hwq,han,hva,hvx,hw,hol,hll,hxn,hw1,hw2,hmx,hsO,hsL,hgw,hlo,hoO,hz'];rfl);with_reducible first|apply xT|apply xF|(·kernel_rfl)))
          refine lpJ_n (L.length - (q + 1)) (by omega) ⟨_,_,?_,out.set a (max va (vx + 1)),left.set a (w - 1),ready,q + 1,rfl,hql,rfl,rfl,hdc,hx,hoO,hob2⟩
          rw [grV_ne 3 hneE,grH_ne 1 hneE]
          (simp +decide only [go_sem,gcD_eq,gcIds_eq,flat_i,ren_i]<;>rfl)<;>rfl
        ·have hcm:isComb y.kind = false:=by simpa using hcm
         (repeat first|simp only [ww]|((with_reducible first|apply xs|apply xI);(·simp +decide only [go_sem,c2,hql,hlR,hy,hcb,hcm,hwq,han];rfl);with_reducible first|apply xT|apply xF|(·kernel_rfl)))
         refine lpJ_n (L.length - (q + 1)) (by omega) ⟨_,_,?_,out,left,ready,q + 1,rfl,hql,rfl,rfl,by rw [ht];exact hK.skip (by rw [kindAt_get hy];exact hcm),hx,hol,fun v hv=>by have:=hob v hv;omega⟩
         rw [grV_ne 3 hneE,grH_ne 1 hneE]
         (simp +decide only [go_sem,gcD_eq,gcIds_eq,flat_i,ren_i]<;>rfl)<;>rfl
       ·obtain rfl:q = L.length:=by omega
        have c2:¬ (L.length:Int) < L.length:=by omega
        rw [List.take_length] at hK
        (repeat first|simp only [ww]|((with_reducible first|apply xs|apply xI);(·simp +decide only [go_sem,c2];rfl);with_reducible first|apply xT|apply xF|(·kernel_rfl)))
        refine lpJ_n (c.nodes.length - (done + 1)) (by omega) ⟨_,_,?_,out,left,ready,done + 1,rfl,rfl,rfl,hK.next hx hLc,hol,fun v hv=>by have:=hob v hv;omega⟩
        rw [grV_ne 3 hneE,grH_ne 1 hneE]
        (simp +decide only [go_sem,gcD_eq,gcIds_eq,flat_i,ren_i]<;>rfl)<;>rfl
    ·obtain rfl:done = ready.length:=by omega
     have c1:¬ (ready.length:Int) < ready.length:=by omega
     have hall:=hK.all h.acyc
     have c2:¬ (ready.length:Int) < c.nodes.length:=by omega
     (repeat first|simp only [ww]|((with_reducible first|apply xs|apply xI);(·simp +decide only [go_sem,c1,c2];rfl);with_reducible first|apply xT|apply xF|(·kernel_rfl)))
     refine fqE_r (vs:=[.slice 1 0 c.nodes.length (some c.nodes.length),.int .i64 0]) (r:=(_,[])) (by simp +decide only [go_sem]) ?_ ⟨out,hol,fun v hv=>by have:=hob v hv;omega,rfl⟩
     show finish false 0 (.tuple [.slice 1 0 c.nodes.length (some c.nodes.length),.int .i64 0]) _ = _
     rw [← hol]
     simp +decide only [go_sem,frz_i]
open Go.Proofs Go.Ax Go.Pc
set_option maxRecDepth 100000
theorem levels_call (c:Cir) (h:c.wf):∃ lv:List Nat,lv.length = c.nodes.length ∧ (∀ v ∈ lv,v ≤ 100000) ∧ ∀ (d:Bool) (H:Heap),callV L.env d (sem L.env Mf) (.func (.func 67) [] []) [.agg c.enc] H = some (.tuple [.islice (lv.map intR) (some c.nodes.length),.int .i64 0],H,[]):=by
 obtain ⟨r,⟨lv,h1,h2,rfl⟩,h3⟩:=levels_ok c h
 exact ⟨lv,h1,h2,fun d H=>callV_flat (by kernel_rfl) (by kernel_rfl) rfl (refs_cirA c) h3 rfl⟩
theorem ncheck_ok (c:Cir) (h:c.wf):sem L.env Mf 65 [.agg c.enc] [] = some (.int .i64 0,[]):=by
 obtain ⟨lv,_,_,hc⟩:=levels_call c h
 have hc:=hc false
 simp only [Cir.enc] at hc ⊢
 (refine sem_wp (code:=(Tryz.f65.body).getD .skip) (N:=11) (results:=[.tmp 2]) (by kernel_rfl) (no _ (by rfl)) rfl rfl ?_;simp only [Tryz.f65,Option.getD_some])
 (repeat first|simp only [ww]|((with_reducible first|apply xs|apply xI);(·simp +decide only [go_sem,hc];rfl);with_reducible first|apply xT|apply xF|(·kernel_rfl)))
 (first|with_reducible apply fq_r|with_reducible apply fq_n);(·simp +decide only [go_sem]<;>rfl);(·simp +decide only [go_sem]<;>rfl)
theorem ncheck_call {d:Bool} (H:Heap) (c:Cir) (h:c.wf):callV L.env d (sem L.env Mf) (.func (.func 65) [] []) [.agg c.enc] H = some (.int .i64 0,H,[]):=
 callV_flat (by kernel_rfl) (by kernel_rfl) rfl (refs_cirA c) (ncheck_ok c h) rfl
theorem isnan_ok (i:Int):sem L.env Mf 104 [.int .i64 i] [] = some (.bool false,[]):=by
 (refine sem_wp (code:=(Tryz.f104.body).getD .skip) (N:=6) (results:=[.tmp 2]) (by kernel_rfl) (no _ (by rfl)) rfl rfl ?_;simp only [Tryz.f104,Option.getD_some])
 (repeat first|simp only [ww]|((with_reducible first|apply xs|apply xI);(·simp +decide only [go_sem];rfl);with_reducible first|apply xT|apply xF|(·kernel_rfl)))
 (first|with_reducible apply fq_r|with_reducible apply fq_n);(·simp +decide only [go_sem]<;>rfl);(·simp +decide only [go_sem]<;>rfl)
theorem isnan_call {d:Bool} (H:Heap) (i:Int):callV L.env d (sem L.env Mf) (.func (.func 104) [] []) [.int .i64 i] H = some (.bool false,H,[]):=
 callV_flat (by kernel_rfl) (by kernel_rfl) rfl rfl (isnan_ok i) rfl
theorem compare_ok (a b:Nat):sem L.env Mf 70 [.int .i64 a,.int .i64 b] [] = some (.int .i64 (cmpI a b),[]):=by
 have hn:=fun H i=>isnan_call (d:=false) H i
 unfold cmpI
 by_cases h1:a < b
 ·have c1:(a:Int) < b:=by omega
  rw [if_pos h1]
  (refine sem_wp (code:=(Tryz.f70.body).getD .skip) (N:=20) (results:=[.tmp 4]) (by kernel_rfl) (no _ (by rfl)) rfl rfl ?_;simp only [Tryz.f70,Option.getD_some])
  (repeat first|simp only [ww]|((with_reducible first|apply xs|apply xI);(·simp +decide only [go_sem,hn,c1];rfl);with_reducible first|apply xT|apply xF|(·kernel_rfl)))
  (first|with_reducible apply fq_r|with_reducible apply fq_n);(·simp +decide only [go_sem]<;>rfl);(·simp +decide only [go_sem]<;>rfl)
 have c1:¬ (a:Int) < b:=by omega
 rw [if_neg h1]
 by_cases h2:b < a
 ·have c2:(b:Int) < a:=by omega
  rw [if_pos h2]
  (refine sem_wp (code:=(Tryz.f70.body).getD .skip) (N:=20) (results:=[.tmp 4]) (by kernel_rfl) (no _ (by rfl)) rfl rfl ?_;simp only [Tryz.f70,Option.getD_some])
  (repeat first|simp only [ww]|((with_reducible first|apply xs|apply xI);(·simp +decide only [go_sem,hn,c1,c2];rfl);with_reducible first|apply xT|apply xF|(·kernel_rfl)))
  (first|with_reducible apply fq_r|with_reducible apply fq_n);(·simp +decide only [go_sem]<;>rfl);(·simp +decide only [go_sem]<;>rfl)
 ·have c2:¬ (b:Int) < a:=by omega
  rw [if_neg h2]
  (refine sem_wp (code:=(Tryz.f70.body).getD .skip) (N:=20) (results:=[.tmp 4]) (by kernel_rfl) (no _ (by rfl)) rfl rfl ?_;simp only [Tryz.f70,Option.getD_some])
  (repeat first|simp only [ww]|((with_reducible first|apply xs|apply xI);(·simp +decide only [go_sem,hn,c1,c2];rfl);with_reducible first|apply xT|apply xF|(·kernel_rfl)))
  (first|with_reducible apply fq_r|with_reducible apply fq_n);(·simp +decide only [go_sem]<;>rfl);(·simp +decide only [go_sem]<;>rfl)
theorem compare_call {d:Bool} (H:Heap) (a b:Nat):callV L.env d (sem L.env Mf) (.func (.func 70) [] []) [.int .i64 a,.int .i64 b] H = some (.int .i64 (cmpI a b),H,[]):=
 callV_flat (by kernel_rfl) (by kernel_rfl) rfl rfl (compare_ok a b) rfl
def lvO (lv:List Nat):AObj:=.row 1 [[.islice (lv.map intR) (some lv.length)]]
attribute [go_sem] lvO
theorem lvO_flat (lv:List Nat):FlatR [[AV.islice (lv.map intR) (some lv.length)]]:=FlatR.cons rfl FlatR.nil
theorem order1_ok (lv:List Nat) (x y vx vy:Nat) (hx:lv[x]? = some vx) (hy:lv[y]? = some vy):sem L.env Mf 69 [.int .i64 x,.int .i64 y,.ptr 0 0 0] [some (lvO lv)] = some (.int .i64 (cmpI vx vy),[some (lvO lv)]):=by
 have hc:=fun H=>compare_call (d:=true) H vx vy
 have h1:=(List.getElem?_eq_some_iff.1 hx).1
 have h2:=(List.getElem?_eq_some_iff.1 hy).1
 (refine sem_wp (code:=(Tryz.f69.body).getD .skip) (N:=15) (results:=[.tmp 5]) (by kernel_rfl) (no _ (by rfl)) rfl rfl ?_;simp only [Tryz.f69,Option.getD_some])
 (repeat first|simp only [ww]|((with_reducible first|apply xs|apply xI);(·simp +decide only [go_sem,hc,hx,hy,h1,h2];rfl);with_reducible first|apply xT|apply xF|(·kernel_rfl)))
 (first|with_reducible apply fq_r|with_reducible apply fq_n);(·simp +decide only [go_sem]<;>rfl);(·simp +decide only [go_sem]<;>rfl)
theorem order1_call {d:Bool} {H:Heap} {b:Nat} (lv:List Nat) (x y vx vy:Nat) (hx:lv[x]? = some vx) (hy:lv[y]? = some vy) (hb:HeapF H b = some (lvO lv)):callV L.env d (sem L.env Mf) (.func (.func 69) [] [.ptr b 0 0]) [.int .i64 x,.int .i64 y] H = some (.int .i64 (cmpI vx vy),H,[b]):=
 callV_one (fs:=[]) (cs:=[.ptr b 0 0]) (ar:=[.int .i64 x,.int .i64 y]) (by kernel_rfl) (by kernel_rfl) rfl hb (refsO_flat (lvO_flat lv)) (FlatO.row (lvO_flat lv)) rfl (args':=[.int .i64 x,.int .i64 y,.ptr 0 0 0]) (by simp [ren,piOf]) (order1_ok lv x y vx vy hx hy) rfl
def cmpV:AV:=.func (.func 69) [] [.ptr 1 0 0]
def JI0 (lv d0:List Nat) (n:Nat) (F:Frm) (H:Heap):Prop:=∃ (i:Nat) (data:List Nat),n = d0.length - i ∧ 1 ≤ i ∧
 F = [(0,.slice 0 0 d0.length (some d0.length)),(1,.int .i64 0),(2,.int .i64 d0.length),(3,cmpV),(8,.int .i64 i)] ∧ H = [some (.row 1 (data.map intR)),some (lvO lv)] ∧ data.Perm d0
def JI2 (lv d0:List Nat) (i:Nat) (n:Nat) (F:Frm) (H:Heap):Prop:=∃ (j:Nat) (data:List Nat),n = j ∧ j < d0.length ∧
 F = [(0,.slice 0 0 d0.length (some d0.length)),(1,.int .i64 0),(2,.int .i64 d0.length),(3,cmpV),(8,.int .i64 i),(9,.int .i64 j)] ∧ H = [some (.row 1 (data.map intR)),some (lvO lv)] ∧ data.Perm d0
theorem insertion_ok (lv d0:List Nat) (hl:d0.length ≤ 1000) (hd:∀ v ∈ d0,v < lv.length):∃ r:AV × Heap,(∃ data:List Nat,data.Perm d0 ∧ r = (.tuple [],[some (.row 1 (data.map intR)),some (lvO lv)])) ∧
 sem L.env Mf 126 [.slice 0 0 d0.length (some d0.length),.int .i64 0,.int .i64 d0.length,cmpV] [some (.row 1 (d0.map intR)),some (lvO lv)] = some r:=by
 unfold cmpV
 (refine sem_wpE (code:=(Tryz.f126.body).getD .skip) (N:=53) (results:=[]) (by kernel_rfl) (no _ (by rfl)) rfl rfl ?_;simp only [Tryz.f126,Option.getD_some])
 (repeat first|simp only [ww]|((with_reducible first|apply xs|apply xI);(·simp +decide only [go_sem];rfl);with_reducible first|apply xT|apply xF|(·kernel_rfl)))
 refine xp_lp kp126_0 (JI0 lv d0) (d0.length - 1) ?_ ?_
 ·refine ⟨_,_,?_,1,d0,rfl,Nat.le_refl _,rfl,rfl,List.Perm.refl _⟩
  unfold cmpV
  (simp +decide only [go_sem,gcD_eq,gcIds_eq,flat_i,ren_i]<;>rfl)<;>rfl
 ·rintro n F H ⟨i,data,rfl,hi1,rfl,rfl,hp⟩
  unfold cmpV
  have hw:=wI1 (n:=i) 
  by_cases hlt:i < d0.length
  ·have c1:(i:Int) < d0.length:=by omega
   have hw:=wI1 (n:=i) (by omega)
   (repeat first|simp only [ww]|((with_reducible first|apply xs|apply xI);(·simp +decide only [go_sem,c1];rfl);with_reducible first|apply xT|apply xF|(·kernel_rfl)))
   refine xp_lp kp126_2 (JI2 lv d0 i) i ?_ ?_
   ·refine ⟨_,_,?_,i,data,rfl,hlt,rfl,rfl,hp⟩
    unfold cmpV
    (simp +decide only [go_sem,gcD_eq,gcIds_eq,flat_i,ren_i]<;>rfl)<;>rfl
   ·rintro n F H ⟨j,data,rfl,hj,rfl,rfl,hp⟩
    unfold cmpV
    have hlen:=hp.length_eq
    cases n with
    | zero=>
     (repeat first|simp only [ww]|((with_reducible first|apply xs|apply xI);(·simp +decide only [go_sem];rfl);with_reducible first|apply xT|apply xF|(·kernel_rfl)))
     refine lpJ_n (d0.length - (i + 1)) (by omega) ⟨_,_,?_,i + 1,data,rfl,by omega,rfl,rfl,hp⟩
     unfold cmpV
     (simp +decide only [go_sem,gcD_eq,gcIds_eq,flat_i,ren_i,hw]<;>rfl)<;>rfl
    | succ j=>
     obtain ⟨x,hx⟩:∃ x,data[j + 1]? = some x:=⟨_,List.getElem?_eq_getElem (by omega)⟩
     obtain ⟨y,hy⟩:∃ y,data[j]? = some y:=⟨_,List.getElem?_eq_getElem (by omega)⟩
     obtain ⟨vx,hvx⟩:∃ v,lv[x]? = some v:=⟨_,List.getElem?_eq_getElem (hd x (hp.mem_iff.1 (List.mem_of_getElem? hx)))⟩
     obtain ⟨vy,hvy⟩:∃ v,lv[y]? = some v:=⟨_,List.getElem?_eq_getElem (hd y (hp.mem_iff.1 (List.mem_of_getElem? hy)))⟩
     have c0:(0:Int) < ((j + 1:Nat):Int):=by omega
     have hj1:j < d0.length:=by omega
     have hj2:j + 1 < data.length:=by omega
     have hj3:j < data.length:=by omega
     have hsub:IntKind.i64.wrap (((j + 1:Nat):Int) - 1) = (j:Int):=by rw [w64 (by omega) (by omega)];omega
     have hcall:=order1_call (d:=true) (H:=[some (.row 1 (data.map intR)),some (lvO lv)]) (b:=1) lv x y vx vy hvx hvy rfl
     simp only [lvO] at hcall
     by_cases hlt2:cmpI vx vy < 0
     ·have hs1:(((data.map intR).set (j + 1) [AV.int .i64 y]).set j [AV.int .i64 x]) = ((data.set (j + 1) y).set j x).map intR:=by rw [List.map_set,List.map_set];rfl
      have hg2:((data.map intR).set (j + 1) [AV.int .i64 y])[j]? = some [AV.int .i64 y]:=by rw [List.getElem?_set_ne (by omega),List.getElem?_map,hy];rfl
      (repeat first|simp only [ww]|((with_reducible first|apply xs|apply xI);(·simp +decide only [go_sem,c0,hj,hj1,hj2,hj3,hx,hy,hsub,hcall,hlt2,hlen,List.length_set,hs1,hg2];rfl);with_reducible first|apply xT|apply xF|(·kernel_rfl)))
      refine lpJ_n j (by omega) ⟨_,_,?_,j,_,rfl,hj1,rfl,rfl,(swap_perm hx hy).trans hp⟩
      unfold cmpV
      (simp +decide only [go_sem,gcD_eq,gcIds_eq,flat_i,ren_i,hs1]<;>rfl)<;>rfl
     ·(repeat first|simp only [ww]|((with_reducible first|apply xs|apply xI);(·simp +decide only [go_sem,c0,hj,hj1,hj2,hj3,hx,hy,hsub,hcall,hlt2,hlen];rfl);with_reducible first|apply xT|apply xF|(·kernel_rfl)))
      refine lpJ_n (d0.length - (i + 1)) (by omega) ⟨_,_,?_,i + 1,data,rfl,by omega,rfl,rfl,hp⟩
      unfold cmpV
      (simp +decide only [go_sem,gcD_eq,gcIds_eq,flat_i,ren_i,hw]<;>rfl)<;>rfl
  ·have c1:¬ (i:Int) < d0.length:=by omega
   (repeat first|simp only [ww]|((with_reducible first|apply xs|apply xI);(·simp +decide only [go_sem,c1];rfl);with_reducible first|apply xT|apply xF|(·kernel_rfl)))
   refine fqE_n (vs:=[]) (r:=(_,[_,_])) (by simp +decide only [go_sem]) ?_ ⟨data,hp,rfl⟩
   simp +decide only [go_sem,ren_i]<;>rfl
def sortV (b:Nat):AV:=.func (.func 69) [] [.ptr b 0 0]
theorem flat_ints7 (l:List Nat):FlatR (l.map intR):=FlatR.map fun _=>rfl
theorem insertion_call (lv d0:List Nat) (hl:d0.length ≤ 1000) (hd:∀ v ∈ d0,v < lv.length):∃ data:List Nat,data.Perm d0 ∧
 callV L.env false (sem L.env Mf) (.func (.func 126) [] []) [.slice 0 0 d0.length (some d0.length),.int .i64 0,.int .i64 d0.length,cmpV] [some (.row 1 (d0.map intR)),some (lvO lv)] = some (.tuple [],[some (.row 1 (data.map intR)),some (lvO lv)],[0,1]):=by
 obtain ⟨r,⟨data,hp,rfl⟩,h⟩:=insertion_ok lv d0 hl hd
 refine ⟨data,hp,?_⟩
 exact callV_two (a:=0) (b:=1) (fs:=[]) (cs:=[]) (ar:=[.slice 0 0 d0.length (some d0.length),.int .i64 0,.int .i64 d0.length,cmpV]) (H:=[some (.row 1 (d0.map intR)),some (lvO lv)]) (by kernel_rfl) (by kernel_rfl) rfl (by decide) rfl rfl (refsO_flat (flat_ints7 d0)) (refsO_flat (lvO_flat lv)) (FlatO.row (flat_ints7 d0)) (FlatO.row (lvO_flat lv)) rfl rfl h (FlatO.row (flat_ints7 data)) (FlatO.row (lvO_flat lv)) rfl
theorem stable_ok (lv d0:List Nat) (hl:d0.length ≤ 19) (hd:∀ v ∈ d0,v < lv.length):∃ r:AV × Heap,(∃ data:List Nat,data.Perm d0 ∧ r = (.tuple [],[some (.row 1 (data.map intR)),some (lvO lv)])) ∧
 sem L.env Mf 103 [.slice 0 0 d0.length (some d0.length),.int .i64 d0.length,cmpV] [some (.row 1 (d0.map intR)),some (lvO lv)] = some r:=by
 obtain ⟨data,hp,hc⟩:=insertion_call lv d0 (by omega) hd
 have c1:¬ (20:Int) ≤ d0.length:=by omega
 have c2:¬ (20:Int) < d0.length:=by omega
 unfold cmpV at hc ⊢
 simp only [lvO] at hc ⊢
 (refine sem_wpE (code:=(Tryz.f103.body).getD .skip) (N:=63) (results:=[]) (by kernel_rfl) (no _ (by rfl)) rfl rfl ?_;simp only [Tryz.f103,Option.getD_some])
 (repeat first|simp only [ww]|((with_reducible first|apply xs|apply xI);(·simp +decide only [go_sem,c1];rfl);with_reducible first|apply xT|apply xF|(·kernel_rfl)))
 refine xp_loop3 (σ:=Nat) kp103_0 (fun i=>[(0,.slice 0 0 d0.length (some d0.length)),(1,.int .i64 d0.length),(2,cmpV),(6,.int .i64 20),(7,.int .i64 0),(8,.int .i64 20)])
  (fun i=>[some (.row 1 (d0.map intR)),some (.row 1 [[.islice (lv.map intR) (some lv.length)]])]) (fun i=>0) (fun i=>True) 0 ?_ trivial ?_
 ·unfold cmpV
  (simp +decide only [go_sem,gcD_eq,gcIds_eq,flat_i,ren_i]<;>rfl)<;>rfl
 ·intro i _
  unfold cmpV
  (repeat first|simp only [ww]|((with_reducible first|apply xs|apply xI);(·simp +decide only [go_sem,c1,hc];rfl);with_reducible first|apply xT|apply xF|(·kernel_rfl)))
  refine xp_loop3 (σ:=Nat) kp103_2 (fun i=>[(0,.slice 0 0 d0.length (some d0.length)),(1,.int .i64 d0.length),(2,cmpV),(6,.int .i64 20)])
   (fun i=>[some (.row 1 (data.map intR)),some (.row 1 [[.islice (lv.map intR) (some lv.length)]])]) (fun i=>0) (fun i=>True) 0 ?_ trivial ?_
  ·unfold cmpV
   (simp +decide only [go_sem,gcD_eq,gcIds_eq,flat_i,ren_i]<;>rfl)<;>rfl
  ·intro i _
   unfold cmpV
   (repeat first|simp only [ww]|((with_reducible first|apply xs|apply xI);(·simp +decide only [go_sem,c2];rfl);with_reducible first|apply xT|apply xF|(·kernel_rfl)))
   refine fqE_n (vs:=[]) (r:=(_,[_,_])) (by simp +decide only [go_sem]) ?_ ⟨data,hp,rfl⟩
   simp +decide only [go_sem,ren_i]<;>rfl
theorem sortstable_ok (lv d0:List Nat) (hl:d0.length ≤ 19) (hd:∀ v ∈ d0,v < lv.length):∃ r:AV × Heap,(∃ data:List Nat,data.Perm d0 ∧ r = (.tuple [],[some (.row 1 (data.map intR)),some (lvO lv)])) ∧
 sem L.env Mf 68 [.slice 0 0 d0.length (some d0.length),cmpV] [some (.row 1 (d0.map intR)),some (lvO lv)] = some r:=by
 obtain ⟨r,⟨data,hp,rfl⟩,h⟩:=stable_ok lv d0 hl hd
 have hc:=callV_two (E:=L.env) (draw:=false) (call:=sem L.env Mf) (g:=103) (a:=0) (b:=1) (fs:=[]) (cs:=[]) (ar:=[.slice 0 0 d0.length (some d0.length),.int .i64 d0.length,cmpV]) (H:=[some (.row 1 (d0.map intR)),some (lvO lv)]) (v':=.tuple []) (by kernel_rfl) (by kernel_rfl) rfl (by decide) rfl rfl (refsO_flat (flat_ints7 d0)) (refsO_flat (lvO_flat lv)) (FlatO.row (flat_ints7 d0)) (FlatO.row (lvO_flat lv)) rfl rfl h (FlatO.row (flat_ints7 data)) (FlatO.row (lvO_flat lv)) rfl
 unfold cmpV at hc ⊢
 simp only [lvO] at hc ⊢
 (refine sem_wpE (code:=(Tryz.f68.body).getD .skip) (N:=9) (results:=[]) (by kernel_rfl) (no _ (by rfl)) rfl rfl ?_;simp only [Tryz.f68,Option.getD_some])
 (repeat first|simp only [ww]|((with_reducible first|apply xs|apply xI);(·simp +decide only [go_sem,hc];rfl);with_reducible first|apply xT|apply xF|(·kernel_rfl)))
 refine fqE_n (vs:=[]) (r:=(_,[_,_])) (by simp +decide only [go_sem]) ?_ ⟨data,hp,rfl⟩
 simp +decide only [go_sem,ren_i]<;>rfl
theorem sortstable_call (lv d0:List Nat) (hl:d0.length ≤ 19) (hd:∀ v ∈ d0,v < lv.length):∃ data:List Nat,data.Perm d0 ∧ ∀ (d:Bool) (H:Heap) (a b:Nat),a ≠ b → HeapF H a = some (.row 1 (d0.map intR)) → HeapF H b = some (lvO lv) →
 callV L.env d (sem L.env Mf) (.func (.func 68) [] []) [.slice a 0 d0.length (some d0.length),sortV b] H = some (.tuple [],(H.set a (some (.row 1 (data.map intR)))).set b (some (lvO lv)),[a,b]):=by
 obtain ⟨r,⟨data,hp,rfl⟩,h⟩:=sortstable_ok lv d0 hl hd
 refine ⟨data,hp,fun d H a b hab ha hb=>?_⟩
 exact callV_two (a:=a) (b:=b) (fs:=[]) (cs:=[]) (ar:=[.slice a 0 d0.length (some d0.length),sortV b]) (H:=H) (by kernel_rfl) (by kernel_rfl) rfl hab ha hb (refsO_flat (flat_ints7 d0)) (refsO_flat (lvO_flat lv)) (FlatO.row (flat_ints7 d0)) (FlatO.row (lvO_flat lv)) rfl
  (by simp only [List.nil_append,List.append_nil,List.map_cons,List.map_nil,ren_slice2a,sortV,ren_func,ren_ptr2b hab];rfl) h (FlatO.row (flat_ints7 data)) (FlatO.row (lvO_flat lv)) rfl
/-- The order of nodes: some order of all of them. -/
theorem order_ok (c:Cir) (h:c.wf):∃ r:AV × Heap,(∃ ord:List Nat,ord.Perm (List.range c.nodes.length) ∧ r = (.tuple [.islice (ord.map intR) (some c.nodes.length),.int .i64 0],[])) ∧ sem L.env Mf 36 [.agg c.enc] [] = some r:=by
 have hn:=h.len
 obtain ⟨lv,hlv,hlb,hc⟩:=levels_call c h
 have hc:=hc false
 have hrm:c.nodes.length ≤ 1000000000:=by omega
 obtain ⟨data,hp,hs⟩:=sortstable_call lv (List.range c.nodes.length) (by simp;omega) (fun v hv=>by rw [hlv];simpa using hv)
 have hdl:data.length = c.nodes.length:=by rw [hp.length_eq];simp
 rw [List.length_range] at hs
 simp only [Cir.enc] at hc ⊢
 (refine sem_wpE (code:=(Tryz.f36.body).getD .skip) (N:=34) (results:=[.tmp 2,.tmp 3]) (by kernel_rfl) (no _ (by rfl)) rfl rfl ?_;simp only [Tryz.f36,Option.getD_some])
 (repeat first|simp only [ww]|((with_reducible first|apply xs|apply xI);(·simp +decide only [go_sem,hc,hrm];rfl);with_reducible first|apply xT|apply xF|(·kernel_rfl)))
 refine xp_loop3 (σ:=Nat) kp36_0 (fun i=>[(4,.ptr 0 0 0),(6,.slice 1 0 c.nodes.length (some c.nodes.length)),(21,.int .i64 c.nodes.length),(22,.int .i64 i)])
  (fun i=>[some (lvO lv),some (.row 1 ((List.range i ++ List.replicate (c.nodes.length - i) 0).map intR))]) (fun i=>c.nodes.length - i) (fun i=>i ≤ c.nodes.length) 0 ?_ (Nat.zero_le _) ?_
 ·rw [lvO,hlv]
  (simp +decide only [go_sem,gcD_eq,gcIds_eq,rep0,flat_i,ren_i,List.range_zero,List.nil_append,Nat.sub_zero]<;>rfl)<;>rfl
 ·intro i hi
  rw [lvO]
  by_cases hlt:i < c.nodes.length
  ·have c1:(i:Int) < c.nodes.length:=by omega
   have hw:=wI1 (n:=i) (by omega)
   have hln:(List.range i ++ List.replicate (c.nodes.length - i) 0).length = c.nodes.length:=by simp;omega
   have hg:(List.range i ++ List.replicate (c.nodes.length - i) 0)[i]? = some 0:=by rw [List.getElem?_append_right (by simp),List.length_range,Nat.sub_self,List.getElem?_replicate,if_pos (by omega)]
   have hst:((List.range i ++ List.replicate (c.nodes.length - i) 0).map intR).set i [AV.int .i64 i] = (List.range (i + 1) ++ List.replicate (c.nodes.length - (i + 1)) 0).map intR:=by
    have e:c.nodes.length - i = (c.nodes.length - (i + 1)) + 1:=by omega
    rw [e,List.replicate_succ]
    rw [show [AV.int IntKind.i64 (i:Int)] = intR i from rfl,← List.map_set,List.set_append_right _ _ (by simp),List.range_succ,List.append_assoc]
    simp
   generalize hA:(List.range i ++ List.replicate (c.nodes.length - i) 0) = A at hln hg hst
   (repeat first|simp only [ww]|((with_reducible first|apply xs|apply xI);(·simp +decide only [go_sem,c1,hlt,hw,hln,hg,hst];rfl);with_reducible first|apply xT|apply xF|(·kernel_rfl)))
   refine lp_n (i + 1) ?_ (by omega) (by omega)
   (simp +decide only [go_sem,gcD_eq,gcIds_eq,flat_i,ren_i]<;>rfl)<;>rfl
  ·obtain rfl:i = c.nodes.length:=by omega
   have c1:¬ (c.nodes.length:Int) < c.nodes.length:=by omega
   rw [Nat.sub_self,List.replicate_zero,List.append_nil]
   have hs2:=hs false [some (lvO lv),some (.row 1 ((List.range c.nodes.length).map intR))] 1 0 (by decide) rfl rfl
   simp only [lvO,sortV] at hs2
   (repeat first|simp only [ww]|((with_reducible first|apply xs|apply xI);(·simp +decide only [go_sem,c1,hs2];rfl);with_reducible first|apply xT|apply xF|(·kernel_rfl)))
   refine fqE_r (vs:=[.slice 1 0 c.nodes.length (some c.nodes.length),.int .i64 0]) (r:=(_,[])) (by simp +decide only [go_sem]) ?_ ⟨data,hp,rfl⟩
   show finish false 0 (.tuple [.slice 1 0 c.nodes.length (some c.nodes.length),.int .i64 0]) _ = _
   rw [← hdl]
   simp +decide only [go_sem,frz_i]
theorem order_call (c:Cir) (h:c.wf):∃ ord:List Nat,ord.Perm (List.range c.nodes.length) ∧ ∀ (d:Bool) (H:Heap),callV L.env d (sem L.env Mf) (.func (.func 36) [] []) [.agg c.enc] H = some (.tuple [.islice (ord.map intR) (some c.nodes.length),.int .i64 0],H,[]):=by
 obtain ⟨r,⟨ord,h1,rfl⟩,h3⟩:=order_ok c h
 exact ⟨ord,h1,fun d H=>callV_flat (by kernel_rfl) (by kernel_rfl) rfl (refs_cirA c) h3 rfl⟩
end Go.ZInst
