/- Part of a proof. No condition. -/
import Derived.Test.YtlldffjabagdbaaGreatDoorTNe
import Derived.Test.YtlldffjabagdbaaGreatDoorPcB
import Derived.Test.YtlldffjabagdbaaGreatDoorAxE
set_option linter.unusedSimpArgs false
set_option linter.unusedVariables false
namespace Go.TInst
open Go.Proofs Go.Ax Go.Pc
set_option maxRecDepth 100000
def foE (fo:List (List (Nat × Nat))):List (List (List AV)):=fo.map (·.map a8j)
theorem a66 (fo:List (List (Nat × Nat))):(foE fo).length = fo.length:=by unfold foE;simp
theorem a7o {fo:List (List (Nat × Nat))} {j:Nat} {L:List (Nat × Nat)} (h:fo[j]? = some L):(foE fo)[j]? = some (L.map a8j):=by unfold foE;rw [List.getElem?_map,h];rfl
theorem c9h (fo:List (List (Nat × Nat))) (j:Nat) (L:List (Nat × Nat)) (i k:Nat):(foE fo).set j (L.map a8j ++ [a8j (i,k)]) = foE (fo.set j (L ++ [(i,k)])):=by unfold foE;rw [List.map_set,List.map_append];rfl
def J0 (c:Cir) (n:Nat) (F:Frm) (H:a03):Prop:=∃ i b ids fo,n = c.nodes.length - i ∧ i ≤ c.nodes.length ∧
 F = [(3,.slice b 0 c.nodes.length (some c.nodes.length)),(4,c59 c),(18,sl c.nc (c.nodes.map Nd.enc)),(19,.int .i64 c.nodes.length),(20,.int .i64 i)] ∧ Two H b 2 ids (fun _=>none) (foE fo) ∧ FoOk c.nodes i 0 fo
def J2 (c:Cir) (i:Nat) (x:Nd) (n:Nat) (F:Frm) (H:a03):Prop:=∃ k b ids fo,n = x.ins.length - k ∧ k ≤ x.ins.length ∧
 F = [(3,.slice b 0 c.nodes.length (some c.nodes.length)),(4,c59 c),(5,.int .i64 i),(18,sl c.nc (c.nodes.map Nd.enc)),(19,.int .i64 c.nodes.length),(20,.int .i64 i),(26,sl x.c (x.ins.map a0k)),(27,.int .i64 x.ins.length),(28,.int .i64 k)] ∧ Two H b 2 ids (fun _=>none) (foE fo) ∧ FoOk c.nodes i k fo
def cpT (fo:List (List (Nat × Nat))) (t:Nat):Nat → Option Nat:=fun j=>if j < t then (fo[j]?).map List.length else none
def J4 (c:Cir) (fo:List (List (Nat × Nat))) (n:Nat) (F:Frm) (H:a03):Prop:=∃ t b ids,n = c.nodes.length - t ∧ t ≤ c.nodes.length ∧
 F = [(3,.slice b 0 c.nodes.length (some c.nodes.length)),(51,.slice b 0 c.nodes.length (some c.nodes.length)),(52,.int .i64 c.nodes.length),(53,.int .i64 t)] ∧ Two H b 2 ids (cpT fo t) (foE fo)
theorem d1c (H:a03) (n:Nat) (b:Nat) (h:a01 H b = some (.row 1 (List.replicate n [.nilslice]))):Two H b 2 (fun _=>0) (fun _=>none) (foE (List.replicate n [])):=by
 have hfo:foE (List.replicate n []) = List.replicate n []:=by unfold foE;rw [List.map_replicate];rfl
 rw [hfo]
 have hno:∀ (j:Nat) (f:List (List AV)),(List.replicate n ([]:List (List AV)))[j]? = some f → f = []:=by
  intro j f hf
  rw [List.getElem?_replicate] at hf
  split at hf
  ·cases hf;rfl
  ·cases hf
 refine ⟨?_,fun j f hf hne=>absurd (hno j f hf) hne,fun i j f g hf _ hne=>absurd (hno i f hf) hne,fun f hf=>?_⟩
 ·rw [h]
  congr 2
  apply List.ext_getElem?
  intro j
  unfold a5x
  rw [List.getElem?_mapIdx,List.getElem?_replicate,List.getElem?_replicate]
  split<;>rfl
 ·rw [(List.mem_replicate.1 hf).2];exact FlatR.nil
theorem d3j (fo:List (List (Nat × Nat))):cpT fo 0 = fun _=>none:=by funext j;simp [cpT]
theorem d3k {fo:List (List (Nat × Nat))} {t:Nat} {L:List (Nat × Nat)} (h:fo[t]? = some L):(fun i=>if i = t then some L.length else cpT fo t i) = cpT fo (t + 1):=by
 funext j
 unfold cpT
 by_cases h1:j = t
 ·subst h1;simp [h]
 ·by_cases h2:j < t
  ·simp [h1,h2,show j < t + 1 by omega]
  ·simp [h1,h2,show ¬ j < t + 1 by omega]
theorem d02:sem L.env Mf 28 [.nilslice] [] = some (.nilslice,[]):=by
 (refine sv Tryz.f28 ?_;simp only [Tryz.f28,gS])
 (repeat first|simp only [ww]|(apply xa;simp +decide only [go_sem];rfl;kernel_rfl))
 (apply fqb;simp +decide only [go_sem]<;>rfl)
theorem d3s (n:Nat) (rows:List (List AV)) (hf:FlatR rows):sem L.env Mf 28 [.slice 0 0 n none] [some (.row 2 rows)] = some (.slice 0 0 n (some n),[some (.row 2 rows)]):=by
 have h1:=fun π=>a0m π hf
 (refine sv Tryz.f28 ?_;simp only [Tryz.f28,gS])
 (repeat first|simp only [ww]|(apply xa;simp +decide only [go_sem];rfl;kernel_rfl))
 (apply fqb;simp +decide only [go_sem,h1]<;>rfl)
theorem c2w {d:Bool} (H:a03):a0g L.env d (sem L.env Mf) (.func (.func 28) [] []) [.nilslice] H = some (.nilslice,H,[]):=
 a04 (by kernel_rfl) (by kernel_rfl) rfl rfl d02 rfl
theorem b6x {d:Bool} {H:a03} {b n:Nat} {rows:List (List AV)} (hf:FlatR rows) (hb:a01 H b = some (.row 2 rows)):a0g L.env d (sem L.env Mf) (.func (.func 28) [] []) [.slice b 0 n none] H = some (.slice b 0 n (some n),H,[b]):=by
 have h:=a4u (E:=L.env) (draw:=d) (call:=sem L.env Mf) (g:=28) (fs:=[]) (cs:=[]) (ar:=[.slice b 0 n none]) (H:=H) (b:=b) (by kernel_rfl) (by kernel_rfl) rfl hb (a0s hf) (FlatO.row hf) rfl (args':=[AV.slice 0 0 n none]) (by simp only [List.nil_append,List.append_nil,List.map_cons,List.map_nil,a20]) (d3s n rows hf) (FlatO.row hf) (a9y b 0 _ n _)
 rw [a8y hb] at h
 exact h
theorem c9n (c:Cir) (h:c.wf):∃ r:AV × a03,(∃ fo,FoOk c.nodes c.nodes.length 0 fo ∧ r = (AV.islice ((foE fo).mapIdx fun j f=>[slF (cpT fo c.nodes.length j) f]) (some c.nodes.length),[])) ∧ sem L.env Mf 94 [.agg c.enc] [] = some r:=by
 have hn:=h.len
 have hou:=fun H=>a8f (d:=false) H c
 have hrm:c.nodes.length ≤ 1000000000:=by omega
 have hov:refs (c59 c) = []:=rfl
 have hor:∀ π,ren π (c59 c) = c59 c:=fun π=>a2m π _ rfl
 have ho1:=fun H m hm=>b9u (d:=false) H c m hm
 generalize hO:c59 c = O at hou hov hor ho1
 simp only [Cir.enc] at hou ⊢
 (refine svE Tryz.f94 ?_;simp only [Tryz.f94,gS])
 (repeat first|simp only [ww]|(apply xa;simp +decide only [go_sem,hou,hrm];rfl;kernel_rfl))
 refine a5k kp94_0 (J0 c) (c.nodes.length - 0) ?_ ?_
 ·refine a6b (d1c _ c.nodes.length 1 rfl) ?_ (by rw [a66];simp;omega) ?_
  ·exact .inl (by simp +decide only [go_sem,hov])
  ·intro π b' ids' H1 hb hT
   refine ⟨0,b',ids',_,rfl,Nat.zero_le _,?_,hT,FoOk.zero _⟩
   simp +decide only [go_sem,hb,hor,hO]<;>rfl
 ·rintro n F H ⟨i,b,ids,fo,rfl,hi,rfl,hT,hF⟩
  by_cases hlt:i < c.nodes.length
  ·obtain ⟨x,hx⟩:∃ x,c.nodes[i]? = some x:=⟨_,z9e hlt⟩
   have c1:(i:Int) < c.nodes.length:=by omega
   have hw:=wI1 (n:=i) (by omega)
   have hbl:=a0z hT.top
   have hxi:=a29 hx
   rw [hO]
   (repeat first|simp only [ww]|(apply xa;simp +decide only [go_sem,c1,hlt,hx,hw,a5a,a5m,a9l,b25,a7l];rfl;kernel_rfl))
   refine a5k kp94_2 (J2 c i x) (x.ins.length - 0) ?_ ?_
   ·refine a6b (hT.more) ?_ (by rw [a66,hF.len];omega) ?_
    ·exact .inl (by simp +decide only [go_sem,hov])
    ·intro π b' ids' H1 hb hT
     refine ⟨0,b',ids',_,rfl,Nat.zero_le _,?_,hT,hF⟩
     simp +decide only [go_sem,hb,hor,hO]<;>rfl
   ·rintro n F H ⟨k,b,ids,fo,rfl,hk,rfl,hT,hF⟩
    rw [hO]
    by_cases hkl:k < x.ins.length
    ·obtain ⟨m,hm⟩:∃ m,x.ins[k]? = some m:=⟨_,z9e hkl⟩
     have hmn:=h.ins x (List.mem_of_getElem? hx) m (List.mem_of_getElem? hm)
     have hom:=fun H=>ho1 H m hmn
     have c2:(k:Int) < x.ins.length:=by omega
     have hil:=h.insl (List.mem_of_getElem? hx)
     have hw2:=wI1 (n:=k) (by omega)
     have hbl:=a0z hT.top
     have htop:=hT.top
     have hmf:m < fo.length:=by rw [hF.len];exact hmn
     obtain ⟨L,hL⟩:∃ L,fo[m]? = some L:=⟨_,z9e hmf⟩
     have hget:=b3k (ids:=ids) (cp:=fun _=>none) (a7o hL)
     have hstep:=hF.step (by rw [hxi];exact hm) hL
     have hrl:(a5x ids (fun _=>none) (foE fo)).length = c.nodes.length:=by rw [a6x,a66,hF.len]
     cases L with
     | nil=>
      simp only [List.map_nil,slV] at hget
      (repeat first|simp only [ww]|(apply xa;simp +decide only [go_sem,c2,hkl,hm,hw2,hom,hbl,htop,hmn,hget,a5a,a5m,a3q,a9l,b25,c3c,a7l,b2v,List.append_assoc,List.cons_append,List.nil_append,hrl];rfl;kernel_rfl))
      refine a21 (x.ins.length - (k + 1)) (by omega) ?_
      have hT2:=hT.app1 (o:=some (.row 2 [a8j (i,k)])) (x:=a8j (i,k)) (a7o hL) rfl rfl
      have e2:(foE fo).set m [a8j (i,k)] = foE (fo.set m ([] ++ [(i,k)])):=c9h fo m [] i k
      rw [e2] at hT2
      refine a6b hT2 ?_ (by rw [a66,List.length_set,hF.len];omega) ?_
      ·exact .inl (by simp +decide only [go_sem,hov])
      ·intro π b' ids' H1 hb hT
       refine ⟨k + 1,b',ids',_,rfl,hkl,?_,hT,hstep⟩
       simp +decide only [go_sem,hb,hor,hO]<;>rfl
     | cons a r=>
      simp only [List.map_cons,slV] at hget
      have hsub:=hT.sub m _ (a7o hL) (by simp)
      obtain ⟨s1,s2⟩:=hsub
      have s3:=a0z s1
      simp only [List.map_cons] at s1
      have hLl:r.length + 1 + 1 ≤ 1000000000:=by
       have:=hF.total hL (h.len) (fun y hy=>h.insl hy)
       simp only [List.length_cons] at this;omega
      (repeat first|simp only [ww]|(apply xa;simp +decide only [go_sem,c2,hkl,hm,hw2,hom,hbl,htop,hmn,hget,a5a,a5m,a3q,b1m,List.length_set,s1,s2,s3,hLl,a9l,b25,c3c,a7l,b2v,List.append_assoc,List.cons_append,List.nil_append,hrl];rfl;kernel_rfl))
      refine a21 (x.ins.length - (k + 1)) (by omega) ?_
      have hT2:=hT.app2 (o:=some (.row 2 [a8j (i,k)])) (x:=a8j (i,k)) (a7o hL) rfl rfl
      have e2:(foE fo).set m (a8j a :: List.map a8j r ++ [a8j (i,k)]) = foE (fo.set m (a :: r ++ [(i,k)])):=c9h fo m (a :: r) i k
      rw [e2] at hT2
      rw [List.length_map] at hT2
      refine a6b hT2 ?_ (by rw [a66,List.length_set,hF.len];omega) ?_
      ·exact .inl (by simp +decide only [go_sem,hov])
      ·intro π b' ids' H1 hb hT
       refine ⟨k + 1,b',ids',_,rfl,hkl,?_,hT,hstep⟩
       simp +decide only [go_sem,hb,hor,hO]<;>rfl
    ·obtain rfl:k = x.ins.length:=by omega
     have c2:¬ (x.ins.length:Int) < x.ins.length:=by omega
     (repeat first|simp only [ww]|(apply xa;simp +decide only [go_sem,c2,hw];rfl;kernel_rfl))
     refine a21 (c.nodes.length - (i + 1)) (by omega) ?_
     refine a6b hT ?_ (by rw [a66,hF.len];omega) ?_
     ·exact .inl (by simp +decide only [go_sem,hov])
     ·intro π b' ids' H1 hb hT
      refine ⟨i + 1,b',ids',_,rfl,by omega,?_,hT,hF.next (by rw [hxi])⟩
      simp +decide only [go_sem,hb,hor,hO]<;>rfl
  ·obtain rfl:i = c.nodes.length:=by omega
   have c1:¬ (c.nodes.length:Int) < c.nodes.length:=by omega
   rw [hO]
   (repeat first|simp only [ww]|(apply xa;simp +decide only [go_sem,c1];rfl;kernel_rfl))
   refine a5k kp94_4 (J4 c fo) (c.nodes.length - 0) ?_ ?_
   ·refine a6b hT ?_ (by rw [a66,hF.len];omega) ?_
    ·exact .inr (by simp +decide only [go_sem,hov])
    ·intro π b' ids' H1 hb hT
     refine ⟨0,b',ids',rfl,Nat.zero_le _,?_,by rw [d3j];exact hT⟩
     simp +decide only [go_sem,hb,hor,hO]<;>rfl
   ·rintro n F H ⟨t,b,ids,rfl,ht,rfl,hT⟩
    by_cases htl:t < c.nodes.length
    ·have c2:(t:Int) < c.nodes.length:=by omega
     have hw2:=wI1 (n:=t) (by omega)
     have hbl:=a0z hT.top
     have htop:=hT.top
     obtain ⟨L,hL⟩:∃ L,fo[t]? = some L:=⟨_,z9e (by rw [hF.len];exact htl)⟩
     have hget:=b3k (ids:=ids) (cp:=cpT fo t) (a7o hL)
     have hct:cpT fo t t = none:=by simp [cpT]
     have hrl:(a5x ids (cpT fo t) (foE fo)).length = c.nodes.length:=by rw [a6x,a66,hF.len]
     rw [hct] at hget
     have hfin:∀ H1,H1 = H.set b (some (.row 1 ((a5x ids (cpT fo t) (foE fo)).set t [slV (ids t) (some L.length) (L.map a8j)]))) → Two H1 b 2 ids (cpT fo (t + 1)) (foE fo):=by
      intro H1 hH1
      have:=hT.clip (H1:=H1) (a7o hL) (by rw [hH1,b2b hbl]) (fun c hc=>by rw [hH1,a6g (Ne.symm hc)])
      rwa [d3k hL] at this
     cases L with
     | nil=>
      simp only [List.map_nil,slV] at hget
      have hcl:=fun H=>c2w (d:=false) H
      (repeat first|simp only [ww]|(apply xa;simp +decide only [go_sem,c2,htl,hw2,hbl,htop,hget,hcl,hrl,List.length_set];rfl;kernel_rfl))
      refine a21 (c.nodes.length - (t + 1)) (by omega) ?_
      refine a6b (hfin _ rfl) ?_ (by rw [a66,hF.len];omega) ?_
      ·exact .inr (by simp +decide only [go_sem,hov])
      ·intro π b' ids' H1 hb hT
       refine ⟨t + 1,b',ids',rfl,by omega,?_,hT⟩
       simp +decide only [go_sem,hb,hor,hO]<;>rfl
     | cons a r=>
      simp only [List.map_cons,slV] at hget
      obtain ⟨s1,s2⟩:=hT.sub t _ (a7o hL) (by simp)
      have hcl:=b6x (d:=false) (H:=H) (b:=ids t) (n:=r.length + 1) (hT.flat _ (List.mem_of_getElem? (a7o hL))) s1
      (repeat first|simp only [ww]|(apply xa;simp +decide only [go_sem,c2,htl,hw2,hbl,htop,hget,hcl,hrl,List.length_set];rfl;kernel_rfl))
      refine a21 (c.nodes.length - (t + 1)) (by omega) ?_
      refine a6b (hfin _ (by simp only [List.map_cons,slV,List.length_map,List.length_cons])) ?_ (by rw [a66,hF.len];omega) ?_
      ·exact .inr (by simp +decide only [go_sem,hov])
      ·intro π b' ids' H1 hb hT
       refine ⟨t + 1,b',ids',rfl,by omega,?_,hT⟩
       simp +decide only [go_sem,hb,hor,hO]<;>rfl
    ·obtain rfl:t = c.nodes.length:=by omega
     have c2:¬ (c.nodes.length:Int) < c.nodes.length:=by omega
     have hz:=hT.frz (some c.nodes.length)
     rw [a66,hF.len] at hz
     (repeat first|simp only [ww]|(apply xa;simp +decide only [go_sem,c2];rfl;kernel_rfl))
     refine c0k (vs:=[.slice b 0 c.nodes.length (some c.nodes.length)]) (r:=(_,[])) (by simp +decide only [go_sem]) ?_ ⟨fo,hF,rfl⟩
     show a1j false 0 (.slice b 0 c.nodes.length (some c.nodes.length)) H = _
     rw [c0m,hz]
     rfl
def foR (c:Cir) (fo:List (List (Nat × Nat))):List (List AV):=(foE fo).mapIdx fun j f=>[slF (cpT fo c.nodes.length j) f]
theorem d82 {c:Cir} {fo:List (List (Nat × Nat))} {j:Nat} {L:List (Nat × Nat)} (h:fo[j]? = some L) (hj:j < c.nodes.length):(foR c fo)[j]? = some [slF (some L.length) (L.map a8j)]:=by
 unfold foR
 rw [List.getElem?_mapIdx,a7o h]
 simp [cpT,hj,h]
theorem c2p (c:Cir) (h:c.wf):∃ fo,FoOk c.nodes c.nodes.length 0 fo ∧ ∀ (d:Bool) (H:a03),a0g L.env d (sem L.env Mf) (.func (.func 94) [] []) [.agg c.enc] H = some (.islice (foR c fo) (some c.nodes.length),H,[]):=by
 obtain ⟨r,⟨fo,h1,rfl⟩,h2⟩:=c9n c h
 exact ⟨fo,h1,fun d H=>a04 (by kernel_rfl) (by kernel_rfl) rfl (a5y c) h2 rfl⟩
def kcb (c:Cir):Option AObj:=some (.row 4 [[sl c.nc (c.nodes.map Nd.enc),sl c.mc (c.names.map a1n),.nilslice,sl c.oc (c.outs.map a0k)]])
attribute [go_sem] kcb
def JL2 (c:Cir) (fo:List (List (Nat × Nat))) (n:Nat) (F:Frm) (H:a03):Prop:=∃ (out left ready:List Nat) (done:Nat),n = c.nodes.length - done ∧
 F = [(1,.ptr 0 0 0),(5,.slice 1 0 c.nodes.length (some c.nodes.length)),(6,.slice 2 0 c.nodes.length (some c.nodes.length)),(7,grV 3 (ready.map a0k)),(10,.islice (foR c fo) (some c.nodes.length)),(11,.int .i64 done)] ∧
 H = [kcb c,some (.row 1 (out.map a0k)),some (.row 1 (left.map a0k))] ++ grH 1 (ready.map a0k) ∧ Kahn c.nodes left ready done [] ∧ out.length = c.nodes.length ∧ (∀ v ∈ out,v ≤ 300 * done) ∧ Lev c.nodes out ready done []
def JL4 (c:Cir) (fo:List (List (Nat × Nat))) (done x:Nat) (L:List (Nat × Nat)) (n:Nat) (F:Frm) (H:a03):Prop:=∃ (out left ready:List Nat) (q:Nat),n = L.length - q ∧ q ≤ L.length ∧
 F = [(1,.ptr 0 0 0),(5,.slice 1 0 c.nodes.length (some c.nodes.length)),(6,.slice 2 0 c.nodes.length (some c.nodes.length)),(7,grV 3 (ready.map a0k)),(10,.islice (foR c fo) (some c.nodes.length)),(11,.int .i64 (done + 1:Nat)),(12,.int .i64 x),(76,.islice (L.map a8j) (some L.length)),(77,.int .i64 L.length),(78,.int .i64 q)] ∧
 H = [kcb c,some (.row 1 (out.map a0k)),some (.row 1 (left.map a0k))] ++ grH 1 (ready.map a0k) ∧ Kahn c.nodes left ready done (L.take q) ∧ ready[done]? = some x ∧ out.length = c.nodes.length ∧ (∀ v ∈ out,v ≤ 300 * done + q) ∧ Lev c.nodes out ready done (L.take q)
theorem e7n (n:Nat):List.replicate n [AV.int .i64 0] = (List.replicate n 0).map a0k:=by rw [List.map_replicate];rfl
theorem d45 (a b:Nat):d46 (.int .i64 a) [.int .i64 (b:Int)] = some (.int .i64 ((max a b:Nat):Int)):=by
 simp only [d46]
 by_cases h:(b:Int) > a
 ·rw [if_pos h];congr 2;omega
 ·rw [if_neg h];congr 2;omega
theorem c8g (c:Cir) (h:c.wf):∃ r:AV × a03,(∃ lv:List Nat,lv.length = c.nodes.length ∧ (∀ v ∈ lv,v ≤ 100000) ∧ Rises c.nodes lv ∧ r = (.tuple [.islice (lv.map a0k) (some c.nodes.length),.int .i64 0],[])) ∧ sem L.env Mf 48 [.agg c.enc] [] = some r:=by
 have hn:=h.len
 obtain ⟨fo,hfo,hfc⟩:=c2p c h
 have hfc:=hfc false
 have hsh:=fun H=>c4w (d:=false) H c h
 have hrm:c.nodes.length ≤ 1000000000:=by omega
 have hko:a15 (kcb c) = []:=by simp only [go_sem]
 simp only [Cir.enc] at hfc hsh ⊢
 (refine svE Tryz.f48 ?_;simp only [Tryz.f48,gS])
 (repeat first|simp only [ww]|(apply xa;simp +decide only [go_sem,hsh,hrm];rfl;kernel_rfl))
 refine a0x (σ:=Nat) kp48_0 (fun i=>[(1,.ptr 0 0 0),(5,.slice 1 0 c.nodes.length (some c.nodes.length)),(6,.slice 2 0 c.nodes.length (some c.nodes.length)),(7,grV 3 ((a3s c.nodes i).map a0k)),(29,sl c.nc (c.nodes.map Nd.enc)),(30,.int .i64 c.nodes.length),(31,.int .i64 i)])
  (fun i=>[kcb c,some (.row 1 ((List.replicate c.nodes.length 0).map a0k)),some (.row 1 ((a38 c.nodes i).map a0k))] ++ grH 1 ((a3s c.nodes i).map a0k)) (fun i=>c.nodes.length - i) (fun i=>i ≤ c.nodes.length) 0 ?_ (Nat.zero_le _) ?_
 ·rw [c29,show a3s c.nodes 0 = [] from rfl]
  (simp +decide only [go_sem,a02,a00,e7n,List.map_nil,a0q,a0r,a1o,a2w]<;>rfl)
 ·intro i hi
  by_cases hlt:i < c.nodes.length
  ·obtain ⟨x,hx⟩:∃ x,c.nodes[i]? = some x:=⟨_,z9e hlt⟩
   have c1:(i:Int) < c.nodes.length:=by omega
   have hw:=wI1 (n:=i) (by omega)
   have k14:=h.kind x (List.mem_of_getElem? hx)
   have hcb:=fun H=>b52 (d:=false) H x.kind (by omega)
   have hll:(a38 c.nodes i).length = c.nodes.length:=by simp [a38]
   have hgl:(a38 c.nodes i)[i]? = some 0:=by rw [a5q hlt];simp
   have hrl:=c54 c.nodes i
   have hrs:=b9m c.nodes i
   have hset:=b4d hlt
   have hgl2:(a38 c.nodes (i + 1))[i]? = some (b0b c.nodes i):=by rw [a5q hlt];simp
   have hnd:b0b c.nodes i = if a1d x.kind = true then x.ins.length else 0:=by unfold b0b;rw [a18 hx,a29 hx]
   have hsetR:((a38 c.nodes i).map a0k).set i [AV.int .i64 (b0b c.nodes i)] = (a38 c.nodes (i + 1)).map a0k:=by rw [← hset,List.map_set];rfl
   by_cases hcm:a1d x.kind = true
   ·rw [if_pos hcm] at hnd
    rw [hnd] at hsetR hgl2 hrs
    by_cases hz:x.ins.length = 0
    ·rw [if_pos hz] at hrs
     have hz':(x.ins.length:Int) = 0:=by omega
     rw [hz] at hsetR hgl2
     generalize a3s c.nodes i = l at hrl hrs
     cases l with
     | nil=>
      (repeat first|simp only [ww]|(apply xa;simp +decide only [go_sem,c1,hlt,hx,hw,hcb,hcm,hll,hgl,hsetR,hgl2,hz,List.map_nil,a0q,a0r];rfl;kernel_rfl))
      refine a1y (i + 1) ?_ (by omega) (by omega)
      rw [hrs]
      (simp +decide only [go_sem,a02,a00,List.map_nil,List.nil_append,List.map_cons,a0d,a0e,List.length_nil,a1o,a2w]<;>rfl)
     | cons a r=>
      simp only [List.length_cons] at hrl
      have hrm2:r.length + 1 + 1 ≤ 1000000000:=by omega
      (repeat first|simp only [ww]|(apply xa;simp +decide only [go_sem,c1,hlt,hx,hw,hcb,hcm,hll,hgl,hsetR,hgl2,hz,List.map_cons,a0d,a0e,hrm2,List.length_cons];rfl;kernel_rfl))
      refine a1y (i + 1) ?_ (by omega) (by omega)
      rw [hrs]
      (simp +decide only [go_sem,a02,a00,List.cons_append,List.map_cons,a0d,a0e,a1o,a2w,List.length_cons]<;>rfl)
    ·rw [if_neg hz] at hrs
     have hz':¬ (x.ins.length:Int) = 0:=by omega
     generalize a3s c.nodes i = l at hrl hrs
     cases l with
     | nil=>
      (repeat first|simp only [ww]|(apply xa;simp +decide only [go_sem,c1,hlt,hx,hw,hcb,hcm,hll,hgl,hsetR,hgl2,hz',List.map_nil,a0q,a0r];rfl;kernel_rfl))
      refine a1y (i + 1) ?_ (by omega) (by omega)
      rw [hrs]
      (simp +decide only [go_sem,a02,a00,List.map_nil,a0q,a0r,a1o,a2w]<;>rfl)
     | cons a r=>
      (repeat first|simp only [ww]|(apply xa;simp +decide only [go_sem,c1,hlt,hx,hw,hcb,hcm,hll,hgl,hsetR,hgl2,hz',List.map_cons,a0d,a0e];rfl;kernel_rfl))
      refine a1y (i + 1) ?_ (by omega) (by omega)
      rw [hrs]
      (simp +decide only [go_sem,a02,a00,List.map_cons,a0d,a0e,a1o,a2w]<;>rfl)
   ·have hcm:a1d x.kind = false:=by simpa using hcm
    rw [hcm] at hnd
    have hnd:b0b c.nodes i = 0:=hnd
    rw [hnd,if_pos rfl] at hrs
    have hsame:=c2a hlt hnd
    ·
     generalize a3s c.nodes i = l at hrl hrs
     cases l with
     | nil=>
      (repeat first|simp only [ww]|(apply xa;simp +decide only [go_sem,c1,hlt,hx,hw,hcb,hcm,hll,hgl,List.map_nil,a0q,a0r];rfl;kernel_rfl))
      refine a1y (i + 1) ?_ (by omega) (by omega)
      rw [hrs,← hsame]
      (simp +decide only [go_sem,a02,a00,List.map_nil,List.nil_append,List.map_cons,a0d,a0e,List.length_nil,a1o,a2w]<;>rfl)
     | cons a r=>
      simp only [List.length_cons] at hrl
      have hrm2:r.length + 1 + 1 ≤ 1000000000:=by omega
      (repeat first|simp only [ww]|(apply xa;simp +decide only [go_sem,c1,hlt,hx,hw,hcb,hcm,hll,hgl,List.map_cons,a0d,a0e,hrm2,List.length_cons];rfl;kernel_rfl))
      refine a1y (i + 1) ?_ (by omega) (by omega)
      rw [hrs,← hsame]
      (simp +decide only [go_sem,a02,a00,List.cons_append,List.map_cons,a0d,a0e,a1o,a2w,List.length_cons]<;>rfl)
  ·obtain rfl:i = c.nodes.length:=by omega
   have c1:¬ (c.nodes.length:Int) < c.nodes.length:=by omega
   have hK:=Kahn.start c.nodes
   generalize a3s c.nodes c.nodes.length = ready at hK
   generalize a38 c.nodes c.nodes.length = left at hK
   (repeat first|simp only [ww]|(apply xa;simp +decide only [go_sem,c1,hfc];rfl;kernel_rfl))
   refine a5k kp48_2 (JL2 c fo) (c.nodes.length - 0) ?_ ?_
   ·refine ⟨_,_,?_,List.replicate c.nodes.length 0,left,ready,0,rfl,rfl,rfl,hK,by simp,by simp,Lev.start _ _ _⟩
    cases ready with
    | nil=>(simp +decide only [go_sem,a02,a00,List.map_nil,a0q,a0r,a1o,a2w]<;>rfl)
    | cons a r=>(simp +decide only [go_sem,a02,a00,List.map_cons,a0d,a0e,a1o,a2w]<;>rfl)
   ·rintro n F H ⟨out,left,ready,done,rfl,rfl,rfl,hK,hol,hob,hV⟩
    have hne:ready ≠ []:=by
     rintro rfl
     have hd0:done = 0:=by have:=hK.dle;simpa using this
     subst hd0
     have h1:c.nodes.length ≤ 0:=hK.all h.acyc
     have h2:=h.pos
     omega
    have hbd:=hK.bound
    have hdl:=hK.dle
    have hneE:ready.map a0k ≠ []:=by simpa using hne
    rw [a6h 3 hneE,a6i 1 hneE,List.length_map]
    have hwd:=wI1 (n:=done) (by omega)
    have hll:=hK.ll
    by_cases hlt:done < ready.length
    ·obtain ⟨x,hx⟩:∃ x,ready[done]? = some x:=⟨_,z9e hlt⟩
     have hxn:=hK.rn x (List.mem_of_getElem? hx)
     have c1:(done:Int) < ready.length:=by omega
     obtain ⟨L,hL⟩:∃ L,fo[x]? = some L:=⟨_,z9e (by rw [hfo.len];exact hxn)⟩
     have hLn:=hfo.node hL (Nat.le_refl _)
     have hLt:=hfo.total hL hn (fun y hy=>h.insl hy)
     have hLc:∀ a,a < c.nodes.length → cnt L a = (a17 c.nodes a).count x:=fun a ha=>by rw [hfo.num x L hL a,if_pos ha]
     have hg:=d82 hL hxn
     cases hLL:L with
     | nil=>
      subst hLL
      simp only [List.map_nil,slF] at hg
      (repeat first|simp only [ww]|(apply xa;simp +decide only [go_sem,c1,hlt,hx,hwd,hg];rfl;kernel_rfl))
      refine a21 (c.nodes.length - (done + 1)) (by omega) ⟨_,_,?_,out,left,ready,done + 1,rfl,rfl,rfl,hK.next hx hLc,hol,fun v hv=>by have:=hob v hv;omega,hV.next hx hLc⟩
      rw [a6h 3 hneE,a6i 1 hneE]
      (simp +decide only [go_sem,a02,a00,a1o,a2w]<;>rfl)
     | cons l0 lr=>
      rw [hLL] at hg
      simp only [List.map_cons,slF] at hg
      rw [← List.map_cons,← hLL] at hg
      have hLp:L.length ≠ 0:=by rw [hLL];simp
      have hLi:¬ (L.length:Int) = 0:=by omega
      have hLl:(L.map a8j).length = L.length:=List.length_map ..
      (repeat first|simp only [ww]|(apply xa;simp +decide only [go_sem,c1,hlt,hx,hwd,hg,hLi,hLl];rfl;kernel_rfl))
      refine a5k kp48_4 (JL4 c fo done x L) (L.length - 0) ?_ ?_
      ·refine ⟨_,_,?_,out,left,ready,0,rfl,Nat.zero_le _,rfl,rfl,by rw [List.take_zero];exact hK,hx,hol,fun v hv=>by have:=hob v hv;omega,by rw [List.take_zero];exact hV⟩
       rw [a6h 3 hneE,a6i 1 hneE]
       (simp +decide only [go_sem,a02,a00,a1o,a2w]<;>rfl)<;>rfl
      ·clear hK hbd hdl hneE hll hob hol hx hlt c1 hne hV
       rintro n F H ⟨out,left,ready,q,rfl,hq,rfl,rfl,hK,hx,hol,hob,hV⟩
       have hbd:=hK.bound
       have hdlt:=(List.getElem?_eq_some_iff.1 hx).1
       have hne:ready ≠ []:=by rintro rfl;simp at hdlt
       have hneE:ready.map a0k ≠ []:=by simpa using hne
       rw [a6h 3 hneE,a6i 1 hneE,List.length_map]
       have hll:=hK.ll
       have hwq:=wI1 (n:=q) (by omega)
       by_cases hql:q < L.length
       ·obtain ⟨l,hl⟩:∃ l,L[q]? = some l:=⟨_,z9e hql⟩
        obtain ⟨a,p⟩:=l
        have han:a < c.nodes.length:=hLn (a,p) (List.mem_of_getElem? hl)
        obtain ⟨y,hy⟩:∃ y,c.nodes[a]? = some y:=⟨_,z9e han⟩
        have c2:(q:Int) < L.length:=by omega
        have k14:=h.kind y (List.mem_of_getElem? hy)
        have hcb:=fun H=>b52 (d:=false) H y.kind (by omega)
        have ht:=a14 hl
        have hlR:(L.map a8j)[q]? = some [.int .i64 a,.int .i64 p]:=by rw [List.getElem?_map,hl];rfl
        by_cases hcm:a1d y.kind = true
        ·have hkc:a1d (a0c c.nodes a) = true:=by rw [a18 hy];exact hcm
         have hcn:Pc.cnt (L.take q ++ [(a,p)]) a ≤ b93 c.nodes ready done a:=by
          refine Nat.le_trans ?_ (d71 hK.nd hx)
          rw [← hLc a han,← ht]
          unfold Pc.cnt
          exact List.Sublist.count_le _ ((List.take_sublist _ _).map _)
         have hps:=hK.pos han hkc hcn
         have hna:a ∉ ready:=fun hm=>by have:=(hK.zero a han).1 hm;omega
         have hdc:=hK.dec han hkc hcn
         rw [← ht] at hdc
         obtain ⟨va,hva⟩:∃ v,out[a]? = some v:=⟨_,z9e (by omega)⟩
         obtain ⟨vx,hvx⟩:∃ v,out[x]? = some v:=⟨_,z9e (by omega)⟩
         obtain ⟨w,hw⟩:∃ v,left[a]? = some v:=⟨_,z9e (by omega)⟩
         have hwD:left.getD a 0 = w:=by rw [List.getD,hw];rfl
         rw [hwD] at hps hdc
         have bx:=hob vx (List.mem_of_getElem? hvx)
         have ba:=hob va (List.mem_of_getElem? hva)
         have hw1:=wI1 (n:=vx) (by omega)
         have hw2:IntKind.i64.wrap ((w:Int) - 1) = ((w - 1:Nat):Int):=by
          have hwl:w ≤ 100000:=by
           have h1:=hK.eq a han hkc
           rw [hwD] at h1
           have h2:b93 c.nodes ready done a ≤ (a17 c.nodes a).length:=List.length_filter_le _ _
           rw [a29 hy] at h2
           have h3:=h.insl (List.mem_of_getElem? hy)
           omega
          rw [w64 (by omega) (by omega)];omega
         have hmx:d46 (.int .i64 va) [.int .i64 ((vx + 1:Nat):Int)] = some (.int .i64 ((max va (vx + 1):Nat):Int)):=d45 _ _
         have hsO:(out.map a0k).set a [AV.int .i64 ((max va (vx + 1):Nat):Int)] = (out.set a (max va (vx + 1))).map a0k:=by rw [List.map_set];rfl
         have hsL:(left.map a0k).set a [AV.int .i64 ((w - 1:Nat):Int)] = (left.set a (w - 1)).map a0k:=by rw [List.map_set];rfl
         have hgw:(left.set a (w - 1))[a]? = some (w - 1):=by rw [List.getElem?_set];simp;omega
         have hlo:(left.set a (w - 1)).length = c.nodes.length:=by rw [List.length_set];exact hll
         have hoO:(out.set a (max va (vx + 1))).length = c.nodes.length:=by rw [List.length_set];exact hol
         have hob2:∀ v ∈ out.set a (max va (vx + 1)),v ≤ 300 * done + (q + 1):=by
          intro v hv
          rcases List.mem_or_eq_of_mem_set hv with hv|rfl
          ·have:=hob v hv;omega
          ·omega
         have hdn:done < c.nodes.length:=by omega
         have han':a < left.length:=by omega
         have hxl:x < out.length:=by omega
         by_cases hz:w - 1 = 0
         ·rw [if_pos hz] at hdc
          have hz':decide (((w - 1:Nat):Int) = 0) = true:=decide_eq_true (by omega)
          have hrm2:ready.length + 1 ≤ 1000000000:=by omega
          have hx':(ready ++ [a])[done]? = some x:=by rw [List.getElem?_append_left hdlt];exact hx
          (repeat first|simp only [ww]|(apply xa;simp +decide only [go_sem,c2,hql,hlR,hy,hcb,hcm,hwq,han,hva,hvx,hw,hol,hll,hxn,hw1,hw2,hmx,hsO,hsL,hgw,hlo,hoO,hz',hrm2];rfl;kernel_rfl))
          refine a21 (L.length - (q + 1)) (by omega) ⟨_,_,?_,out.set a (max va (vx + 1)),left.set a (w - 1),ready ++ [a],q + 1,rfl,hql,rfl,rfl,hdc,hx',hoO,hob2,by rw [ht];exact hV.dec hx hna hva hvx (.inr rfl)⟩
          (simp +decide only [go_sem,a02,a00,b0h,b30,a1o,a2w]<;>rfl)<;>rfl
         ·rw [if_neg hz] at hdc
          have hz':¬ ((w - 1:Nat):Int) = 0:=by omega
          (repeat first|simp only [ww]|(apply xa;simp +decide only [go_sem,c2,hql,hlR,hy,hcb,hcm,hwq,han,hva,hvx,hw,hol,hll,hxn,hw1,hw2,hmx,hsO,hsL,hgw,hlo,hoO,hz'];rfl;kernel_rfl))
          refine a21 (L.length - (q + 1)) (by omega) ⟨_,_,?_,out.set a (max va (vx + 1)),left.set a (w - 1),ready,q + 1,rfl,hql,rfl,rfl,hdc,hx,hoO,hob2,by rw [ht];exact hV.dec hx hna hva hvx (.inl rfl)⟩
          rw [a6h 3 hneE,a6i 1 hneE]
          (simp +decide only [go_sem,a02,a00,a1o,a2w]<;>rfl)<;>rfl
        ·have hcm:a1d y.kind = false:=by simpa using hcm
         (repeat first|simp only [ww]|(apply xa;simp +decide only [go_sem,c2,hql,hlR,hy,hcb,hcm,hwq,han];rfl;kernel_rfl))
         refine a21 (L.length - (q + 1)) (by omega) ⟨_,_,?_,out,left,ready,q + 1,rfl,hql,rfl,rfl,by rw [ht];exact hK.skip (by rw [a18 hy];exact hcm),hx,hol,fun v hv=>by have:=hob v hv;omega,by rw [ht];exact hV.skip (by rw [a18 hy];exact hcm)⟩
         rw [a6h 3 hneE,a6i 1 hneE]
         (simp +decide only [go_sem,a02,a00,a1o,a2w]<;>rfl)<;>rfl
       ·obtain rfl:q = L.length:=by omega
        have c2:¬ (L.length:Int) < L.length:=by omega
        rw [List.take_length] at hK hV
        (repeat first|simp only [ww]|(apply xa;simp +decide only [go_sem,c2];rfl;kernel_rfl))
        refine a21 (c.nodes.length - (done + 1)) (by omega) ⟨_,_,?_,out,left,ready,done + 1,rfl,rfl,rfl,hK.next hx hLc,hol,fun v hv=>by have:=hob v hv;omega,hV.next hx hLc⟩
        rw [a6h 3 hneE,a6i 1 hneE]
        (simp +decide only [go_sem,a02,a00,a1o,a2w]<;>rfl)<;>rfl
    ·obtain rfl:done = ready.length:=by omega
     have c1:¬ (ready.length:Int) < ready.length:=by omega
     have hall:=hK.all h.acyc
     have c2:¬ (ready.length:Int) < c.nodes.length:=by omega
     (repeat first|simp only [ww]|(apply xa;simp +decide only [go_sem,c1,c2];rfl;kernel_rfl))
     refine a77 (vs:=[.slice 1 0 c.nodes.length (some c.nodes.length),.int .i64 0]) (r:=(_,[])) (by simp +decide only [go_sem]) ?_ ⟨out,hol,fun v hv=>by have:=hob v hv;omega,hV.all hK hall,rfl⟩
     show a1j false 0 (.tuple [.slice 1 0 c.nodes.length (some c.nodes.length),.int .i64 0]) _ = _
     rw [← hol]
     simp +decide only [go_sem,d80]
theorem b4a (c:Cir) (h:c.wf):∃ lv:List Nat,lv.length = c.nodes.length ∧ (∀ v ∈ lv,v ≤ 100000) ∧ Rises c.nodes lv ∧ ∀ (d:Bool) (H:a03),a0g L.env d (sem L.env Mf) (.func (.func 48) [] []) [.agg c.enc] H = some (.tuple [.islice (lv.map a0k) (some c.nodes.length),.int .i64 0],H,[]):=by
 obtain ⟨r,⟨lv,h1,h2,hR,rfl⟩,h3⟩:=c8g c h
 exact ⟨lv,h1,h2,hR,fun d H=>a04 (by kernel_rfl) (by kernel_rfl) rfl (a5y c) h3 rfl⟩
theorem c82 (c:Cir) (h:c.wf):sem L.env Mf 66 [.agg c.enc] [] = some (.int .i64 0,[]):=by
 obtain ⟨lv,_,_,_,hc⟩:=b4a c h
 have hc:=hc false
 simp only [Cir.enc] at hc ⊢
 (refine sv Tryz.f66 ?_;simp only [Tryz.f66,gS])
 (repeat first|simp only [ww]|(apply xa;simp +decide only [go_sem,hc];rfl;kernel_rfl))
 (apply fqb;simp +decide only [go_sem]<;>rfl)
theorem b3z {d:Bool} (H:a03) (c:Cir) (h:c.wf):a0g L.env d (sem L.env Mf) (.func (.func 66) [] []) [.agg c.enc] H = some (.int .i64 0,H,[]):=
 a04 (by kernel_rfl) (by kernel_rfl) rfl (a5y c) (c82 c h) rfl
theorem d2p (i:Int):sem L.env Mf 96 [.int .i64 i] [] = some (.bool false,[]):=by
 (refine sv Tryz.f96 ?_;simp only [Tryz.f96,gS])
 (repeat first|simp only [ww]|(apply xa;simp +decide only [go_sem];rfl;kernel_rfl))
 (apply fqb;simp +decide only [go_sem]<;>rfl)
theorem c5k {d:Bool} (H:a03) (i:Int):a0g L.env d (sem L.env Mf) (.func (.func 96) [] []) [.int .i64 i] H = some (.bool false,H,[]):=
 a04 (by kernel_rfl) (by kernel_rfl) rfl rfl (d2p i) rfl
theorem c65 (a b:Nat):sem L.env Mf 51 [.int .i64 a,.int .i64 b] [] = some (.int .i64 (d5k a b),[]):=by
 have hn:=fun H i=>c5k (d:=false) H i
 unfold d5k
 by_cases h1:a < b
 ·have c1:(a:Int) < b:=by omega
  rw [if_pos h1]
  (refine sv Tryz.f51 ?_;simp only [Tryz.f51,gS])
  (repeat first|simp only [ww]|(apply xa;simp +decide only [go_sem,hn,c1];rfl;kernel_rfl))
  (apply fqb;simp +decide only [go_sem]<;>rfl)
 have c1:¬ (a:Int) < b:=by omega
 rw [if_neg h1]
 by_cases h2:b < a
 ·have c2:(b:Int) < a:=by omega
  rw [if_pos h2]
  (refine sv Tryz.f51 ?_;simp only [Tryz.f51,gS])
  (repeat first|simp only [ww]|(apply xa;simp +decide only [go_sem,hn,c1,c2];rfl;kernel_rfl))
  (apply fqb;simp +decide only [go_sem]<;>rfl)
 ·have c2:¬ (b:Int) < a:=by omega
  rw [if_neg h2]
  (refine sv Tryz.f51 ?_;simp only [Tryz.f51,gS])
  (repeat first|simp only [ww]|(apply xa;simp +decide only [go_sem,hn,c1,c2];rfl;kernel_rfl))
  (apply fqb;simp +decide only [go_sem]<;>rfl)
theorem c0u {d:Bool} (H:a03) (a b:Nat):a0g L.env d (sem L.env Mf) (.func (.func 51) [] []) [.int .i64 a,.int .i64 b] H = some (.int .i64 (d5k a b),H,[]):=
 a04 (by kernel_rfl) (by kernel_rfl) rfl rfl (c65 a b) rfl
def lvO (lv:List Nat):AObj:=.row 1 [[.islice (lv.map a0k) (some lv.length)]]
attribute [go_sem] lvO
theorem a4d (lv:List Nat):FlatR [[AV.islice (lv.map a0k) (some lv.length)]]:=FlatR.cons rfl FlatR.nil
theorem c7u (lv:List Nat) (x y vx vy:Nat) (hx:lv[x]? = some vx) (hy:lv[y]? = some vy):sem L.env Mf 50 [.int .i64 x,.int .i64 y,.ptr 0 0 0] [some (lvO lv)] = some (.int .i64 (d5k vx vy),[some (lvO lv)]):=by
 have hc:=fun H=>c0u (d:=true) H vx vy
 have h1:=(List.getElem?_eq_some_iff.1 hx).1
 have h2:=(List.getElem?_eq_some_iff.1 hy).1
 (refine sv Tryz.f50 ?_;simp only [Tryz.f50,gS])
 (repeat first|simp only [ww]|(apply xa;simp +decide only [go_sem,hc,hx,hy,h1,h2];rfl;kernel_rfl))
 (apply fqb;simp +decide only [go_sem]<;>rfl)
theorem c21 {d:Bool} {H:a03} {b:Nat} (lv:List Nat) (x y vx vy:Nat) (hx:lv[x]? = some vx) (hy:lv[y]? = some vy) (hb:a01 H b = some (lvO lv)):a0g L.env d (sem L.env Mf) (.func (.func 50) [] [.ptr b 0 0]) [.int .i64 x,.int .i64 y] H = some (.int .i64 (d5k vx vy),H,[b]):=
 a2b (fs:=[]) (cs:=[.ptr b 0 0]) (ar:=[.int .i64 x,.int .i64 y]) (by kernel_rfl) (by kernel_rfl) rfl hb (a0s (a4d lv)) (FlatO.row (a4d lv)) rfl (args':=[.int .i64 x,.int .i64 y,.ptr 0 0 0]) (by simp [ren,a9o]) (c7u lv x y vx vy hx hy) rfl
def b36:AV:=.func (.func 50) [] [.ptr 1 0 0]
def Srt (lv data:List Nat):Prop:=SortI (fun v=>lv.getD v 0) data data.length
def JI0 (lv d0:List Nat) (n:Nat) (F:Frm) (H:a03):Prop:=∃ (i:Nat) (data:List Nat),n = d0.length - i ∧ 1 ≤ i ∧
 F = [(0,.slice 0 0 d0.length (some d0.length)),(1,.int .i64 0),(2,.int .i64 d0.length),(3,b36),(8,.int .i64 i)] ∧ H = [some (.row 1 (data.map a0k)),some (lvO lv)] ∧ data.Perm d0 ∧ SortI (fun v=>lv.getD v 0) data i
def JI2 (lv d0:List Nat) (i:Nat) (n:Nat) (F:Frm) (H:a03):Prop:=∃ (j:Nat) (data:List Nat),n = j ∧ j < d0.length ∧
 F = [(0,.slice 0 0 d0.length (some d0.length)),(1,.int .i64 0),(2,.int .i64 d0.length),(3,b36),(8,.int .i64 i),(9,.int .i64 j)] ∧ H = [some (.row 1 (data.map a0k)),some (lvO lv)] ∧ data.Perm d0 ∧ j ≤ i ∧ SortJ (fun v=>lv.getD v 0) data i j
theorem c09 (lv d0:List Nat) (hl:d0.length ≤ 1000) (hd:∀ v ∈ d0,v < lv.length):∃ r:AV × a03,(∃ data:List Nat,data.Perm d0 ∧ Srt lv data ∧ r = (.tuple [],[some (.row 1 (data.map a0k)),some (lvO lv)])) ∧
 sem L.env Mf 137 [.slice 0 0 d0.length (some d0.length),.int .i64 0,.int .i64 d0.length,b36] [some (.row 1 (d0.map a0k)),some (lvO lv)] = some r:=by
 unfold b36
 (refine svE Tryz.f137 ?_;simp only [Tryz.f137,gS])
 (repeat first|simp only [ww]|(apply xa;simp +decide only [go_sem];rfl;kernel_rfl))
 refine a5k kp137_0 (JI0 lv d0) (d0.length - 1) ?_ ?_
 ·refine ⟨_,_,?_,1,d0,rfl,Nat.le_refl _,rfl,rfl,List.Perm.refl _,SortI.one⟩
  unfold b36
  (simp +decide only [go_sem,a02,a00,a1o,a2w]<;>rfl)<;>rfl
 ·rintro n F H ⟨i,data,rfl,hi1,rfl,rfl,hp,hS⟩
  unfold b36
  have hw:=wI1 (n:=i) 
  by_cases hlt:i < d0.length
  ·have c1:(i:Int) < d0.length:=by omega
   have hw:=wI1 (n:=i) (by omega)
   (repeat first|simp only [ww]|(apply xa;simp +decide only [go_sem,c1];rfl;kernel_rfl))
   refine a5k kp137_2 (JI2 lv d0 i) i ?_ ?_
   ·refine ⟨_,_,?_,i,data,rfl,hlt,rfl,rfl,hp,Nat.le_refl _,hS.start⟩
    unfold b36
    (simp +decide only [go_sem,a02,a00,a1o,a2w]<;>rfl)<;>rfl
   ·rintro n F H ⟨j,data,rfl,hj,rfl,rfl,hp,hji,hS⟩
    unfold b36
    have hlen:=hp.length_eq
    cases n with
    | zero=>
     (repeat first|simp only [ww]|(apply xa;simp +decide only [go_sem];rfl;kernel_rfl))
     refine a21 (d0.length - (i + 1)) (by omega) ⟨_,_,?_,i + 1,data,rfl,by omega,rfl,rfl,hp,hS.stop (.inl rfl)⟩
     unfold b36
     (simp +decide only [go_sem,a02,a00,a1o,a2w,hw]<;>rfl)<;>rfl
    | succ j=>
     obtain ⟨x,hx⟩:∃ x,data[j + 1]? = some x:=⟨_,z9e (by omega)⟩
     obtain ⟨y,hy⟩:∃ y,data[j]? = some y:=⟨_,z9e (by omega)⟩
     obtain ⟨vx,hvx⟩:∃ v,lv[x]? = some v:=⟨_,z9e (hd x (hp.mem_iff.1 (List.mem_of_getElem? hx)))⟩
     obtain ⟨vy,hvy⟩:∃ v,lv[y]? = some v:=⟨_,z9e (hd y (hp.mem_iff.1 (List.mem_of_getElem? hy)))⟩
     have c0:(0:Int) < ((j + 1:Nat):Int):=by omega
     have hj1:j < d0.length:=by omega
     have hj2:j + 1 < data.length:=by omega
     have hj3:j < data.length:=by omega
     have hsub:IntKind.i64.wrap (((j + 1:Nat):Int) - 1) = (j:Int):=by rw [w64 (by omega) (by omega)];omega
     have hcall:=c21 (d:=true) (H:=[some (.row 1 (data.map a0k)),some (lvO lv)]) (b:=1) lv x y vx vy hvx hvy rfl
     simp only [lvO] at hcall
     have kx:lv.getD x 0 = vx:=by rw [List.getD,hvx];rfl
     have ky:lv.getD y 0 = vy:=by rw [List.getD,hvy];rfl
     by_cases hlt2:d5k vx vy < 0
     ·have hs1:(((data.map a0k).set (j + 1) [AV.int .i64 y]).set j [AV.int .i64 x]) = ((data.set (j + 1) y).set j x).map a0k:=by rw [List.map_set,List.map_set];rfl
      have hg2:((data.map a0k).set (j + 1) [AV.int .i64 y])[j]? = some [AV.int .i64 y]:=by rw [List.getElem?_set_ne (by omega),List.getElem?_map,hy];rfl
      (repeat first|simp only [ww]|(apply xa;simp +decide only [go_sem,c0,hj,hj1,hj2,hj3,hx,hy,hsub,hcall,hlt2,hlen,List.length_set,hs1,hg2];rfl;kernel_rfl))
      refine a21 j (by omega) ⟨_,_,?_,j,_,rfl,hj1,rfl,rfl,(c6x hx hy).trans hp,by omega,hS.swap hji hy hx (by show lv.getD x 0 < lv.getD y 0;rw [kx,ky];unfold d5k at hlt2;split at hlt2<;>first|assumption|(exfalso;split at hlt2<;>omega))⟩
      unfold b36
      (simp +decide only [go_sem,a02,a00,a1o,a2w,hs1]<;>rfl)<;>rfl
     ·(repeat first|simp only [ww]|(apply xa;simp +decide only [go_sem,c0,hj,hj1,hj2,hj3,hx,hy,hsub,hcall,hlt2,hlen];rfl;kernel_rfl))
      refine a21 (d0.length - (i + 1)) (by omega) ⟨_,_,?_,i + 1,data,rfl,by omega,rfl,rfl,hp,hS.stop (.inr ⟨y,x,hy,hx,by show lv.getD y 0 ≤ lv.getD x 0;rw [kx,ky];unfold d5k at hlt2;split at hlt2<;>omega⟩)⟩
      unfold b36
      (simp +decide only [go_sem,a02,a00,a1o,a2w,hw]<;>rfl)<;>rfl
  ·have c1:¬ (i:Int) < d0.length:=by omega
   (repeat first|simp only [ww]|(apply xa;simp +decide only [go_sem,c1];rfl;kernel_rfl))
   refine c0k (vs:=[]) (r:=(_,[_,_])) (by simp +decide only [go_sem]) ?_ ⟨data,hp,fun p q x y h1 h2=>hS p q x y h1 (by have:=hp.length_eq;omega),rfl⟩
   simp +decide only [go_sem,a2w]<;>rfl
def d1m (b:Nat):AV:=.func (.func 50) [] [.ptr b 0 0]
theorem a3g (l:List Nat):FlatR (l.map a0k):=FlatR.map fun _=>rfl
theorem b5n (lv d0:List Nat) (hl:d0.length ≤ 1000) (hd:∀ v ∈ d0,v < lv.length):∃ data:List Nat,data.Perm d0 ∧ Srt lv data ∧
 a0g L.env false (sem L.env Mf) (.func (.func 137) [] []) [.slice 0 0 d0.length (some d0.length),.int .i64 0,.int .i64 d0.length,b36] [some (.row 1 (d0.map a0k)),some (lvO lv)] = some (.tuple [],[some (.row 1 (data.map a0k)),some (lvO lv)],[0,1]):=by
 obtain ⟨r,⟨data,hp,hS,rfl⟩,h⟩:=c09 lv d0 hl hd
 refine ⟨data,hp,hS,?_⟩
 exact b57 (a:=0) (b:=1) (fs:=[]) (cs:=[]) (ar:=[.slice 0 0 d0.length (some d0.length),.int .i64 0,.int .i64 d0.length,b36]) (H:=[some (.row 1 (d0.map a0k)),some (lvO lv)]) (by kernel_rfl) (by kernel_rfl) rfl (by decide) rfl rfl (a0s (a3g d0)) (a0s (a4d lv)) (FlatO.row (a3g d0)) (FlatO.row (a4d lv)) rfl rfl h (FlatO.row (a3g data)) (FlatO.row (a4d lv)) rfl
theorem c74 (lv d0:List Nat) (hl:d0.length ≤ 19) (hd:∀ v ∈ d0,v < lv.length):∃ r:AV × a03,(∃ data:List Nat,data.Perm d0 ∧ Srt lv data ∧ r = (.tuple [],[some (.row 1 (data.map a0k)),some (lvO lv)])) ∧
 sem L.env Mf 95 [.slice 0 0 d0.length (some d0.length),.int .i64 d0.length,b36] [some (.row 1 (d0.map a0k)),some (lvO lv)] = some r:=by
 obtain ⟨data,hp,hS,hc⟩:=b5n lv d0 (by omega) hd
 have c1:¬ (20:Int) ≤ d0.length:=by omega
 have c2:¬ (20:Int) < d0.length:=by omega
 unfold b36 at hc ⊢
 simp only [lvO] at hc ⊢
 (refine svE Tryz.f95 ?_;simp only [Tryz.f95,gS])
 (repeat first|simp only [ww]|(apply xa;simp +decide only [go_sem,c1];rfl;kernel_rfl))
 refine a0x (σ:=Nat) kp95_0 (fun i=>[(0,.slice 0 0 d0.length (some d0.length)),(1,.int .i64 d0.length),(2,b36),(6,.int .i64 20),(7,.int .i64 0),(8,.int .i64 20)])
  (fun i=>[some (.row 1 (d0.map a0k)),some (.row 1 [[.islice (lv.map a0k) (some lv.length)]])]) (fun i=>0) (fun i=>True) 0 ?_ trivial ?_
 ·unfold b36
  (simp +decide only [go_sem,a02,a00,a1o,a2w]<;>rfl)<;>rfl
 ·intro i _
  unfold b36
  (repeat first|simp only [ww]|(apply xa;simp +decide only [go_sem,c1,hc];rfl;kernel_rfl))
  refine a0x (σ:=Nat) kp95_2 (fun i=>[(0,.slice 0 0 d0.length (some d0.length)),(1,.int .i64 d0.length),(2,b36),(6,.int .i64 20)])
   (fun i=>[some (.row 1 (data.map a0k)),some (.row 1 [[.islice (lv.map a0k) (some lv.length)]])]) (fun i=>0) (fun i=>True) 0 ?_ trivial ?_
  ·unfold b36
   (simp +decide only [go_sem,a02,a00,a1o,a2w]<;>rfl)<;>rfl
  ·intro i _
   unfold b36
   (repeat first|simp only [ww]|(apply xa;simp +decide only [go_sem,c2];rfl;kernel_rfl))
   refine c0k (vs:=[]) (r:=(_,[_,_])) (by simp +decide only [go_sem]) ?_ ⟨data,hp,hS,rfl⟩
   simp +decide only [go_sem,a2w]<;>rfl
theorem b79 (lv d0:List Nat) (hl:d0.length ≤ 19) (hd:∀ v ∈ d0,v < lv.length):∃ r:AV × a03,(∃ data:List Nat,data.Perm d0 ∧ Srt lv data ∧ r = (.tuple [],[some (.row 1 (data.map a0k)),some (lvO lv)])) ∧
 sem L.env Mf 49 [.slice 0 0 d0.length (some d0.length),b36] [some (.row 1 (d0.map a0k)),some (lvO lv)] = some r:=by
 obtain ⟨r,⟨data,hp,hS,rfl⟩,h⟩:=c74 lv d0 hl hd
 have hc:=b57 (E:=L.env) (draw:=false) (call:=sem L.env Mf) (g:=95) (a:=0) (b:=1) (fs:=[]) (cs:=[]) (ar:=[.slice 0 0 d0.length (some d0.length),.int .i64 d0.length,b36]) (H:=[some (.row 1 (d0.map a0k)),some (lvO lv)]) (v':=.tuple []) (by kernel_rfl) (by kernel_rfl) rfl (by decide) rfl rfl (a0s (a3g d0)) (a0s (a4d lv)) (FlatO.row (a3g d0)) (FlatO.row (a4d lv)) rfl rfl h (FlatO.row (a3g data)) (FlatO.row (a4d lv)) rfl
 unfold b36 at hc ⊢
 simp only [lvO] at hc ⊢
 (refine svE Tryz.f49 ?_;simp only [Tryz.f49,gS])
 (repeat first|simp only [ww]|(apply xa;simp +decide only [go_sem,hc];rfl;kernel_rfl))
 refine c0k (vs:=[]) (r:=(_,[_,_])) (by simp +decide only [go_sem]) ?_ ⟨data,hp,hS,rfl⟩
 simp +decide only [go_sem,a2w]<;>rfl
theorem b3c (lv d0:List Nat) (hl:d0.length ≤ 19) (hd:∀ v ∈ d0,v < lv.length):∃ data:List Nat,data.Perm d0 ∧ Srt lv data ∧ ∀ (d:Bool) (H:a03) (a b:Nat),a ≠ b → a01 H a = some (.row 1 (d0.map a0k)) → a01 H b = some (lvO lv) →
 a0g L.env d (sem L.env Mf) (.func (.func 49) [] []) [.slice a 0 d0.length (some d0.length),d1m b] H = some (.tuple [],(H.set a (some (.row 1 (data.map a0k)))).set b (some (lvO lv)),[a,b]):=by
 obtain ⟨r,⟨data,hp,hS,rfl⟩,h⟩:=b79 lv d0 hl hd
 refine ⟨data,hp,hS,fun d H a b hab ha hb=>?_⟩
 exact b57 (a:=a) (b:=b) (fs:=[]) (cs:=[]) (ar:=[.slice a 0 d0.length (some d0.length),d1m b]) (H:=H) (by kernel_rfl) (by kernel_rfl) rfl hab ha hb (a0s (a3g d0)) (a0s (a4d lv)) (FlatO.row (a3g d0)) (FlatO.row (a4d lv)) rfl
  (by simp only [List.nil_append,List.append_nil,List.map_cons,List.map_nil,c1w,d1m,d1v,c7c hab];rfl) h (FlatO.row (a3g data)) (FlatO.row (a4d lv)) rfl
theorem d23 (c:Cir) (h:c.wf):∃ r:AV × a03,(∃ ord:List Nat,ord.Perm (List.range c.nodes.length) ∧ d9d c.nodes ord ∧ r = (.tuple [.islice (ord.map a0k) (some c.nodes.length),.int .i64 0],[])) ∧ sem L.env Mf 21 [.agg c.enc] [] = some r:=by
 have hn:=h.len
 obtain ⟨lv,hlv,hlb,hR,hc⟩:=b4a c h
 have hc:=hc false
 have hrm:c.nodes.length ≤ 1000000000:=by omega
 obtain ⟨data,hp,hS,hs⟩:=b3c lv (List.range c.nodes.length) (by simp;omega) (fun v hv=>by rw [hlv];simpa using hv)
 have hdl:data.length = c.nodes.length:=by rw [hp.length_eq];simp
 rw [List.length_range] at hs
 simp only [Cir.enc] at hc ⊢
 (refine svE Tryz.f21 ?_;simp only [Tryz.f21,gS])
 (repeat first|simp only [ww]|(apply xa;simp +decide only [go_sem,hc,hrm];rfl;kernel_rfl))
 refine a0x (σ:=Nat) kp21_0 (fun i=>[(4,.ptr 0 0 0),(6,.slice 1 0 c.nodes.length (some c.nodes.length)),(21,.int .i64 c.nodes.length),(22,.int .i64 i)])
  (fun i=>[some (lvO lv),some (.row 1 ((List.range i ++ List.replicate (c.nodes.length - i) 0).map a0k))]) (fun i=>c.nodes.length - i) (fun i=>i ≤ c.nodes.length) 0 ?_ (Nat.zero_le _) ?_
 ·rw [lvO,hlv]
  (simp +decide only [go_sem,a02,a00,e7n,a1o,a2w,List.range_zero,List.nil_append,Nat.sub_zero]<;>rfl)<;>rfl
 ·intro i hi
  rw [lvO]
  by_cases hlt:i < c.nodes.length
  ·have c1:(i:Int) < c.nodes.length:=by omega
   have hw:=wI1 (n:=i) (by omega)
   have hln:(List.range i ++ List.replicate (c.nodes.length - i) 0).length = c.nodes.length:=by simp;omega
   have hg:(List.range i ++ List.replicate (c.nodes.length - i) 0)[i]? = some 0:=by rw [List.getElem?_append_right (by simp),List.length_range,Nat.sub_self,List.getElem?_replicate,if_pos (by omega)]
   have hst:((List.range i ++ List.replicate (c.nodes.length - i) 0).map a0k).set i [AV.int .i64 i] = (List.range (i + 1) ++ List.replicate (c.nodes.length - (i + 1)) 0).map a0k:=by
    have e:c.nodes.length - i = (c.nodes.length - (i + 1)) + 1:=by omega
    rw [e,List.replicate_succ]
    rw [show [AV.int IntKind.i64 (i:Int)] = a0k i from rfl,← List.map_set,List.set_append_right _ _ (by simp),List.range_succ,List.append_assoc]
    simp
   generalize hA:(List.range i ++ List.replicate (c.nodes.length - i) 0) = A at hln hg hst
   (repeat first|simp only [ww]|(apply xa;simp +decide only [go_sem,c1,hlt,hw,hln,hg,hst];rfl;kernel_rfl))
   refine a1y (i + 1) ?_ (by omega) (by omega)
   (simp +decide only [go_sem,a02,a00,a1o,a2w]<;>rfl)<;>rfl
  ·obtain rfl:i = c.nodes.length:=by omega
   have c1:¬ (c.nodes.length:Int) < c.nodes.length:=by omega
   rw [Nat.sub_self,List.replicate_zero,List.append_nil]
   have hs2:=hs false [some (lvO lv),some (.row 1 ((List.range c.nodes.length).map a0k))] 1 0 (by decide) rfl rfl
   simp only [lvO,d1m] at hs2
   (repeat first|simp only [ww]|(apply xa;simp +decide only [go_sem,c1,hs2];rfl;kernel_rfl))
   refine a77 (vs:=[.slice 1 0 c.nodes.length (some c.nodes.length),.int .i64 0]) (r:=(_,[])) (by simp +decide only [go_sem]) ?_ ⟨data,hp,hR.topo hp hS.pairwise h.inAt,rfl⟩
   show a1j false 0 (.tuple [.slice 1 0 c.nodes.length (some c.nodes.length),.int .i64 0]) _ = _
   rw [← hdl]
   simp +decide only [go_sem,d80]
theorem c5b (c:Cir) (h:c.wf):∃ ord:List Nat,ord.Perm (List.range c.nodes.length) ∧ d9d c.nodes ord ∧ ∀ (d:Bool) (H:a03),a0g L.env d (sem L.env Mf) (.func (.func 21) [] []) [.agg c.enc] H = some (.tuple [.islice (ord.map a0k) (some c.nodes.length),.int .i64 0],H,[]):=by
 obtain ⟨r,⟨ord,h1,h2,rfl⟩,h3⟩:=d23 c h
 exact ⟨ord,h1,h2,fun d H=>a04 (by kernel_rfl) (by kernel_rfl) rfl (a5y c) h3 rfl⟩
end Go.TInst
