/- Part of a proof. No condition. -/
import Derived.Test.YtgmenpackpnmaaaGreatDoorMNf
import Derived.Test.YtgmenpackpnmaaaGreatDoorPcB
set_option linter.unusedSimpArgs false
set_option linter.unusedVariables false
namespace Go.MInst
open Go.Proofs Go.Ax Go.Pc
set_option maxRecDepth 100000
theorem c97 (c:Cir) (h:c.wf):sem L.env Mf 58 [.agg c.enc] [] = some (.int .i64 0,[]):=by
 have hc:=fun H=>b32 (d:=false) H c h
 simp only [Cir.enc] at hc ⊢
 (refine sv Tryz.f58 ?_;simp only [Tryz.f58,gS])
 (repeat first|simp only [ww]|(apply xa;simp +decide only [go_sem,hc];rfl;kernel_rfl))
 (apply fqb;simp +decide only [go_sem]<;>rfl)
theorem b3m {d:Bool} (H:a05) (c:Cir) (h:c.wf):a0c L.env d (sem L.env Mf) (.func (.func 58) [] []) [.agg c.enc] H = some (.int .i64 0,H,[]):=
 a03 (by kernel_rfl) (by kernel_rfl) rfl (a45 c) (c97 c h) rfl
theorem d3t (c:Cir) (h:c.wf) (n:Nat) (p:Int) (hn:n < c.nodes.length) (hp:-1 ≤ p) (hp2:p < (a22 c.nodes n).length):sem L.env Mf 59 [.agg c.enc,.agg [.int .i64 n,.int .i64 p]] [] = some (.bool true,[]):=by
 obtain ⟨x,hx⟩:∃ x,c.nodes[n]? = some x:=⟨_,List.getElem?_eq_getElem hn⟩
 rw [a1l hx] at hp2
 have c1:0 ≤ (n:Int):=by omega
 have c2:(n:Int) < c.nodes.length:=by omega
 simp only [Cir.enc]
 (refine sv Tryz.f59 ?_;simp only [Tryz.f59,gS])
 (repeat first|simp only [ww]|(apply xa;simp +decide only [go_sem,c1,c2,hn,hp,hp2,hx];rfl;kernel_rfl))
 (apply fqb;simp +decide only [go_sem]<;>rfl)
theorem c54 {d:Bool} (H:a05) (c:Cir) (h:c.wf) (n:Nat) (p:Int) (hn:n < c.nodes.length) (hp:-1 ≤ p) (hp2:p < (a22 c.nodes n).length):a0c L.env d (sem L.env Mf) (.func (.func 59) [] []) [.agg c.enc,.agg [.int .i64 n,.int .i64 p]] H = some (.bool true,H,[]):=
 a03 (by kernel_rfl) (by kernel_rfl) rfl (by simp only [a09,a0y,Cir.enc,go_sem]) (d3t c h n p hn hp hp2) rfl
/- dependence, by the statements -/
theorem c59 (c:Cir) (h:c.wf) (b:Nat) (hb:b < c.nodes.length):∀ (k depth a:Nat),c.nodes.length + 1 ≤ depth + k → a < c.nodes.length → depth ≤ 100 →
 ∃ q:Bool,(depth + a ≤ c.nodes.length → DepOn c.nodes a b → q = true) ∧ sem L.env Mf 49 [.agg c.enc,.int .i64 a,.int .i64 b,.int .i64 depth] [] = some (.bool q,[]):=by
 intro k
 induction k with
 | zero=>
  intro depth a hk ha hd
  have hl:=h.len
  by_cases hab:a = b
  ·subst hab
   refine ⟨true,fun _ _=>rfl,?_⟩
   simp only [Cir.enc]
   (refine sv Tryz.f49 ?_;simp only [Tryz.f49,gS])
   (repeat first|simp only [ww]|(apply xa;simp +decide only [go_sem];rfl;kernel_rfl))
   (apply fqb;simp +decide only [go_sem]<;>rfl)
  ·refine ⟨false,fun h1 _=>by omega,?_⟩
   have c1:¬ (a:Int) = b:=by omega
   have c2:(c.nodes.length:Int) < depth:=by omega
   simp only [Cir.enc]
   (refine sv Tryz.f49 ?_;simp only [Tryz.f49,gS])
   (repeat first|simp only [ww]|(apply xa;simp +decide only [go_sem,c1,c2];rfl;kernel_rfl))
   (apply fqb;simp +decide only [go_sem]<;>rfl)
 | succ k ih=>
  intro depth a hk ha hd
  have hl:=h.len
  by_cases hab:a = b
  ·subst hab
   refine ⟨true,fun _ _=>rfl,?_⟩
   simp only [Cir.enc]
   (refine sv Tryz.f49 ?_;simp only [Tryz.f49,gS])
   (repeat first|simp only [ww]|(apply xa;simp +decide only [go_sem];rfl;kernel_rfl))
   (apply fqb;simp +decide only [go_sem]<;>rfl)
  have c1:¬ (a:Int) = b:=by omega
  by_cases hdl:c.nodes.length < depth
  ·refine ⟨false,fun h1 _=>by omega,?_⟩
   have c2:(c.nodes.length:Int) < depth:=by omega
   simp only [Cir.enc]
   (refine sv Tryz.f49 ?_;simp only [Tryz.f49,gS])
   (repeat first|simp only [ww]|(apply xa;simp +decide only [go_sem,c1,c2];rfl;kernel_rfl))
   (apply fqb;simp +decide only [go_sem]<;>rfl)
  have c2:¬ (c.nodes.length:Int) < depth:=by omega
  obtain ⟨x,hx⟩:∃ x,c.nodes[a]? = some x:=⟨_,List.getElem?_eq_getElem ha⟩
  by_cases h14:x.kind = 14
  ·refine ⟨false,fun _ hr=>absurd hr (DepOn.not_dff hab (by rw [a15 hx];exact h14)),?_⟩
   have c3:decide ((x.kind:Int) = 14) = true:=decide_eq_true (by omega)
   simp only [Cir.enc]
   (refine sv Tryz.f49 ?_;simp only [Tryz.f49,gS])
   (repeat first|simp only [ww]|(apply xa;simp +decide only [go_sem,c1,c2,hx,ha,c3];rfl;kernel_rfl))
   (apply fqb;simp +decide only [go_sem]<;>rfl)
  have c3:¬ (x.kind:Int) = 14:=by omega
  have hxm:=List.mem_of_getElem? hx
  have hil:=h.insl hxm
  have hwd:=wI1 (n:=depth) (by omega)
  suffices hs:∃ r:AV × a05,(∃ q:Bool,(depth + a ≤ c.nodes.length → DepOn c.nodes a b → q = true) ∧ r = (.bool q,[])) ∧ sem L.env Mf 49 [.agg c.enc,.int .i64 a,.int .i64 b,.int .i64 depth] [] = some r by
   obtain ⟨r,⟨q,h1,rfl⟩,h2⟩:=hs
   exact ⟨q,h1,h2⟩
  simp only [Cir.enc] at ih ⊢
  (refine svE Tryz.f49 ?_;simp only [Tryz.f49,gS])
  (repeat first|simp only [ww]|(apply xa;simp +decide only [go_sem,c1,c2,hx,ha,c3];rfl;kernel_rfl))
  refine a30 kp49_0 (fun n F H=>∃ i,n = x.ins.length - i ∧ i ≤ x.ins.length ∧ F = [(1,.int .i64 a),(2,.int .i64 b),(3,.int .i64 depth),(4,.ptr 0 0 0),(9,.int .i64 i)] ∧
   H = [some (.row 4 [[sl c.nc (c.nodes.map Nd.enc),sl c.mc (c.names.map a1r),.nilslice,sl c.oc (c.outs.map a0d)]])] ∧ (depth + a ≤ c.nodes.length → ∀ m ∈ x.ins.take i,¬ DepOn c.nodes m b)) (x.ins.length - 0) ?_ ?_
  ·refine ⟨_,_,?_,0,rfl,Nat.zero_le _,rfl,rfl,by simp⟩
   (simp +decide only [go_sem,a01,a00]<;>rfl)<;>rfl
  ·rintro n F H ⟨i,rfl,hi,rfl,rfl,hno⟩
   by_cases hlt:i < x.ins.length
   ·obtain ⟨m,hm⟩:∃ m,x.ins[i]? = some m:=⟨_,List.getElem?_eq_getElem hlt⟩
    have hmn:=h.ins x hxm m (List.mem_of_getElem? hm)
    have c4:(i:Int) < x.ins.length:=by omega
    have hw:=wI1 (n:=i) (by omega)
    obtain ⟨q,hq1,hq2⟩:=ih (depth + 1) m (by omega) hmn (by omega)
    have hcall:=fun H=>a03 (E:=L.env) (draw:=true) (call:=sem L.env Mf) (g:=49) (fs:=[]) (cs:=[]) (ar:=[.agg [sl c.nc (c.nodes.map Nd.enc),sl c.mc (c.names.map a1r),.nilslice,sl c.oc (c.outs.map a0d)],.int .i64 m,.int .i64 b,.int .i64 (depth + 1:Nat)]) (H:=H) (by kernel_rfl) (by kernel_rfl) rfl (by simp only [List.nil_append,List.append_nil,a09,a0y,go_sem]) hq2 rfl
    have hma:depth + a ≤ c.nodes.length → depth + 1 + m ≤ c.nodes.length:=by
     intro hda
     have:=h.acyc a x hx (h.comb_of hxm (by omega) h14) m (List.mem_of_getElem? hm)
     omega
    cases q with
    | true=>
     (repeat first|simp only [ww]|(apply xa;simp +decide only [go_sem,c4,hlt,hx,ha,hm,hw,hwd,hcall];rfl;kernel_rfl))
     refine a2s (vs:=[.bool true]) (r:=(_,[])) (by simp +decide only [go_sem]) ?_ ⟨true,fun _ _=>rfl,rfl⟩
     simp +decide only [go_sem]
    | false=>
     have hr:depth + a ≤ c.nodes.length → ¬ DepOn c.nodes m b:=fun hda hr=>by have:=hq1 (hma hda) hr;cases this
     (repeat first|simp only [ww]|(apply xa;simp +decide only [go_sem,c4,hlt,hx,ha,hm,hw,hwd,hcall];rfl;kernel_rfl))
     refine a17 (x.ins.length - (i + 1)) (by omega) ⟨_,_,?_,i + 1,rfl,hlt,rfl,rfl,?_⟩
     ·(simp +decide only [go_sem,a01,a00]<;>rfl)<;>rfl
     ·intro hda m' hm'
      rw [a0z hm,List.mem_append] at hm'
      rcases hm' with hm'|hm'
      ·exact hno hda m' hm'
      ·simp only [List.mem_singleton] at hm';subst hm';exact hr hda
   ·obtain rfl:i = x.ins.length:=by omega
    have c4:¬ (x.ins.length:Int) < x.ins.length:=by omega
    (repeat first|simp only [ww]|(apply xa;simp +decide only [go_sem,c4,hx,ha];rfl;kernel_rfl))
    refine a2s (vs:=[.bool false]) (r:=(_,[])) (by simp +decide only [go_sem]) ?_ ⟨false,?_,rfl⟩
    ·simp +decide only [go_sem]
    ·intro hda hr
     rw [List.take_length] at hno
     rcases hr.cases with e|⟨_,m,hm,hr⟩
     ·exact absurd e hab
     ·rw [a1l hx] at hm
      exact absurd hr (hno hda m hm)
open Go.Proofs Go.Ax Go.Pc
set_option maxRecDepth 100000
def b1g (b:Bool):List AV:=[.bool b]
attribute [go_sem] b1g
theorem b0e (l:List Bool):(l.map b1g).flatMap a0e = []:=a06 (FlatR.map fun _=>rfl)
theorem b6k (π:Nat → Option Nat) (l:List Bool):(l.map b1g).map (fun r=>r.map (ren π)) = l.map b1g:=a04 π (FlatR.map fun _=>rfl)
theorem e82 {m:Nat} {d:AV → Option AV} (l:List Bool):a7z m d (l.map b1g) = some (l.map b1g):=a0r m d (FlatR.map fun _=>rfl)
theorem b9k {l:List Bool} {m:Nat} (h:l[m]? = some false):(l.set m true).count false + 1 = l.count false:=by
 induction l generalizing m with
 | nil=>simp at h
 | cons a l ih=>
  cases m with
  | zero=>simp only [List.getElem?_cons_zero,Option.some.injEq] at h;subst h;simp
  | succ m=>
   simp only [List.getElem?_cons_succ] at h
   simp only [List.set_cons_succ,List.count_cons]
   have:=ih h
   omega
structure Cone (c:Cir) (a:Nat) (inn:List Bool) (T:List Nat) (J:List (List AV)) (cap:Option Nat):Prop where
 len:inn.length = c.nodes.length
 mark:∀ b:Nat,inn[b]? = some true → DepOn c.nodes a b
 todo:∀ t ∈ T,t < c.nodes.length ∧ DepOn c.nodes a t
 flat:FlatR J
 cap:cap = none ∨ (cap = some 1 ∧ T.length + J.length = 1)
def cnH (c:Cir) (inn:List Bool) (T:List Nat) (J:List (List AV)):a05:=[some (.row 4 [[sl c.nc (c.nodes.map Nd.enc),sl c.mc (c.names.map a1r),.nilslice,sl c.oc (c.outs.map a0d)]]),some (.row 1 (inn.map b1g)),some (.row 1 (T.map a0d ++ J))]
def JC0 (c:Cir) (a:Nat) (n:Nat) (F:Frm) (H:a05):Prop:=∃ inn T J cap,n = inn.count false + T.length ∧ n ≤ c.nodes.length ∧ F = [(2,.ptr 0 0 0),(5,.slice 1 0 c.nodes.length (some c.nodes.length)),(6,.slice 2 0 T.length cap)] ∧ H = cnH c inn T J ∧ Cone c a inn T J cap
def JC2 (c:Cir) (a:Nat) (x:Nd) (N n:Nat) (F:Frm) (H:a05):Prop:=∃ inn T J cap k,n = x.ins.length - k ∧ k ≤ x.ins.length ∧ inn.count false + T.length < N ∧ N ≤ c.nodes.length ∧ F = [(2,.ptr 0 0 0),(5,.slice 1 0 c.nodes.length (some c.nodes.length)),(6,.slice 2 0 T.length cap),(45,sl x.c (x.ins.map a0d)),(46,.int .i64 x.ins.length),(47,.int .i64 k)] ∧ H = cnH c inn T J ∧ Cone c a inn T J cap
theorem e6w (n:Nat):List.replicate n [AV.bool false] = (List.replicate n false).map b1g:=by rw [List.map_replicate];rfl
theorem d9k (c:Cir) (h:c.wf) (a:Nat) (ha:a < c.nodes.length):∃ r:AV × a05,(∃ l:List Bool,l.length = c.nodes.length ∧ (∀ b:Nat,l[b]? = some true → DepOn c.nodes a b) ∧ r = (.islice (l.map b1g) (some c.nodes.length),[])) ∧ sem L.env Mf 102 [.agg c.enc,.int .i64 a] [] = some r:=by
 have hn:=h.len
 have hrm:c.nodes.length ≤ 1000000000:=by omega
 have hst:(List.replicate c.nodes.length [AV.bool false]).set a [AV.bool true] = ((List.replicate c.nodes.length false).set a true).map b1g:=by rw [e6w,List.map_set];rfl
 have hgr:(List.replicate c.nodes.length [AV.bool false])[a]? = some [AV.bool false]:=by rw [List.getElem?_replicate,if_pos ha]
 have hga:(List.replicate c.nodes.length false)[a]? = some false:=by rw [List.getElem?_replicate,if_pos ha]
 have hcnt:((List.replicate c.nodes.length false).set a true).count false + 1 ≤ c.nodes.length:=by
  rw [b9k hga];exact Nat.le_trans List.count_le_length (by simp)
 simp only [Cir.enc]
 (refine svE Tryz.f102 ?_;simp only [Tryz.f102,gS])
 (repeat first|simp only [ww]|(apply xa;simp +decide only [go_sem,hrm,ha,hgr];rfl;kernel_rfl))
 refine a30 kp102_0 (JC0 c a) (((List.replicate c.nodes.length false).set a true).count false + 1) ?_ ?_
 ·refine ⟨_,_,?_,(List.replicate c.nodes.length false).set a true,[a],[],some 1,rfl,hcnt,rfl,rfl,⟨by simp,?_,?_,FlatR.nil,.inr ⟨rfl,rfl⟩⟩⟩
  ·rw [cnH]
   (simp +decide only [go_sem,a01,a00,b0e,b6k,hst]<;>rfl)<;>rfl
  ·intro b hb
   rw [List.getElem?_set] at hb
   by_cases hab:a = b
   ·subst hab;exact .refl _
   ·rw [if_neg hab,List.getElem?_replicate] at hb
    split at hb<;>cases hb
  ·intro t ht
   simp only [List.mem_singleton] at ht
   subst ht;exact ⟨ha,.refl _⟩
 ·rintro N F H ⟨inn,T,J,cap,rfl,hB,rfl,rfl,hC⟩
  rw [cnH]
  rcases List.eq_nil_or_concat T with rfl|⟨T,t,rfl⟩
  · -- nothing is left
   (repeat first|simp only [ww]|(apply xa;simp +decide only [go_sem];rfl;kernel_rfl))
   refine a2s (vs:=[.slice 1 0 c.nodes.length (some c.nodes.length)]) (r:=(_,[])) (by simp +decide only [go_sem]) ?_ ⟨inn,hC.len,hC.mark,rfl⟩
   show a1v false 0 (.slice 1 0 c.nodes.length (some c.nodes.length)) _ = _
   rw [← hC.len]
   simp +decide only [go_sem,e82]
  ·simp only [List.concat_eq_append] at hB hC ⊢
   obtain ⟨htn,htr⟩:=hC.todo t (by simp)
   obtain ⟨x,hx⟩:∃ x,c.nodes[t]? = some x:=⟨_,List.getElem?_eq_getElem htn⟩
   have hlen:(T ++ [t]).length = T.length + 1:=by simp
   rw [hlen] at hB
   have c1:(0:Int) < ((T.length + 1:Nat):Int):=by omega
   have hTl:T.length + 1 ≤ c.nodes.length:=by omega
   have hsub:IntKind.i64.wrap (((T.length + 1:Nat):Int) - 1) = (T.length:Int):=by rw [w64 (by omega) (by omega)];omega
   have hrow:(T ++ [t]).map a0d ++ J = T.map a0d ++ (a0d t :: J):=by simp
   have hget:(T.map a0d ++ (a0d t :: J))[T.length]? = some (a0d t):=by rw [List.getElem?_append_right (by simp)];simp
   have hle:T.length ≤ T.length + 1:=by omega
   have hC2:Cone c a inn T (a0d t :: J) cap:=⟨hC.len,hC.mark,fun s hs=>hC.todo s (by simp [hs]),FlatR.cons rfl hC.flat,hC.cap.imp id (fun ⟨e1,e2⟩=>⟨e1,by rw [hlen] at e2;simp;omega⟩)⟩
   have hfJ:=a06 hC2.flat
   have hrJ:=fun π=>a04 π hC2.flat
   rw [hrow,hlen]
   generalize hJ':a0d t :: J = J' at hget hC2 hfJ hrJ
   have hxm:=List.mem_of_getElem? hx
   have hil:=h.insl hxm
   have hcl:a1j (T.length + 1) cap = T.length + 1 ∨ a1j (T.length + 1) cap = 1:=by
    rcases hC.cap with e|⟨e,_⟩<;>rw [e]
    ·exact .inl rfl
    ·exact .inr rfl
   have hinb:T.length ≤ a1j (T.length + 1) cap:=by
    rcases hC.cap with e|⟨e,e2⟩
    ·rw [e];show T.length ≤ T.length + 1;omega
    ·rw [e];show T.length ≤ 1;rw [hlen] at e2;omega
   by_cases h14:x.kind = 14
   ·have c3:decide ((x.kind:Int) = 14) = true:=decide_eq_true (by omega)
    (repeat first|simp only [ww]|(apply xa;simp +decide only [go_sem,c1,hsub,hget,hx,htn,c3,hinb,hle,a8c];rfl;kernel_rfl))
    refine a17 (inn.count false + T.length) (by omega) ⟨_,_,?_,inn,T,J',cap,rfl,by omega,rfl,rfl,hC2⟩
    rw [cnH]
    (simp +decide only [go_sem,a01,a00,b0e,b6k,a1z,a32,hfJ,hrJ]<;>rfl)<;>rfl
   have c3:¬ (x.kind:Int) = 14:=by omega
   (repeat first|simp only [ww]|(apply xa;simp +decide only [go_sem,c1,hsub,hget,hx,htn,c3,hinb,hle,a8c];rfl;kernel_rfl))
   refine a30 kp102_2 (JC2 c a x (inn.count false + (T.length + 1))) (x.ins.length - 0) ?_ ?_
   ·refine ⟨_,_,?_,inn,T,J',cap,0,rfl,Nat.zero_le _,by omega,hB,rfl,rfl,hC2⟩
    rw [cnH]
    (simp +decide only [go_sem,a01,a00,b0e,b6k,a1z,a32,hfJ,hrJ]<;>rfl)<;>rfl
   ·generalize inn.count false + (T.length + 1) = N at hB ⊢
    clear hC2 hfJ hrJ hget hcl hinb hC hrow hsub c1 hle hTl hlen hJ'
    clear J' inn cap J
    rintro n F H ⟨inn,T,J,cap,k,rfl,hk,hN,hNn,rfl,rfl,hC⟩
    rw [cnH]
    have hfJ:=a06 hC.flat
    have hrJ:=fun π=>a04 π hC.flat
    by_cases hkl:k < x.ins.length
    ·obtain ⟨m,hm⟩:∃ m,x.ins[k]? = some m:=⟨_,List.getElem?_eq_getElem hkl⟩
     have hmn:=h.ins x hxm m (List.mem_of_getElem? hm)
     have c2:(k:Int) < x.ins.length:=by omega
     have hw:=wI1 (n:=k) (by omega)
     obtain ⟨q,hq⟩:∃ q,inn[m]? = some q:=⟨_,List.getElem?_eq_getElem (by rw [hC.len];exact hmn)⟩
     have hil2:=hC.len
     have hmr:DepOn c.nodes a m:=htr.snoc (by rw [a15 hx];exact h14) (by rw [a1l hx];exact List.mem_of_getElem? hm)
     cases q with
     | true=>
      (repeat first|simp only [ww]|(apply xa;simp +decide only [go_sem,c2,hkl,hm,hw,hmn,hq,hil2];rfl;kernel_rfl))
      refine a17 (x.ins.length - (k + 1)) (by omega) ⟨_,_,?_,inn,T,J,cap,k + 1,rfl,hkl,hN,hNn,rfl,rfl,hC⟩
      rw [cnH]
      (simp +decide only [go_sem,a01,a00,b0e,b6k,a1z,a32,hfJ,hrJ]<;>rfl)<;>rfl
     | false=>
      have hst:(inn.map b1g).set m [AV.bool true] = (inn.set m true).map b1g:=by rw [List.map_set];rfl
      have hcs:=b9k hq
      have hTb:T.length + 1 ≤ 1000000000:=by omega
      have hC3:∀ J' cap',FlatR J' → (cap' = none ∨ (cap' = some 1 ∧ (T ++ [m]).length + J'.length = 1)) → Cone c a (inn.set m true) (T ++ [m]) J' cap':=by
       intro J' cap' hf hcap
       refine ⟨by rw [List.length_set];exact hC.len,?_,?_,hf,hcap⟩
       ·intro b hb
        rw [List.getElem?_set] at hb
        by_cases hmb:m = b
        ·subst hmb;exact hmr
        ·rw [if_neg hmb] at hb;exact hC.mark b hb
       ·intro s hs
        simp only [List.mem_append,List.mem_singleton] at hs
        rcases hs with hs|rfl
        ·exact hC.todo s hs
        ·exact ⟨hmn,hmr⟩
      have hN2:(inn.set m true).count false + (T ++ [m]).length < N:=by simp;omega
      rcases hC.cap with rfl|⟨rfl,h1⟩
      ·cases J with
       | nil=>
        (repeat first|simp only [ww]|(apply xa;simp +decide only [go_sem,c2,hkl,hm,hw,hmn,hq,hil2,hst,hTb,List.append_nil];rfl;kernel_rfl))
        refine a17 (x.ins.length - (k + 1)) (by omega) ⟨_,_,?_,inn.set m true,T ++ [m],[],none,k + 1,rfl,hkl,hN2,hNn,rfl,rfl,hC3 [] none FlatR.nil (.inl rfl)⟩
        rw [cnH]
        (simp +decide only [go_sem,a01,a00,b0e,b6k,a1z,a32,hst,List.append_nil]<;>rfl)<;>rfl
       | cons j js=>
        have hne:¬ (T.length = T.length + (js.length + 1)):=by omega
        have hle2:T.length ≤ T.length + (js.length + 1):=by omega
        have htk:(T.map a0d ++ (j :: js)).take T.length = T.map a0d:=by rw [List.take_append_of_le_length (by simp)];exact b88 a0d T
        (repeat first|simp only [ww]|(apply xa;simp +decide only [go_sem,c2,hkl,hm,hw,hmn,hq,hil2,hst,hTb,hne,hle2,htk,List.length_cons];rfl;kernel_rfl))
        refine a17 (x.ins.length - (k + 1)) (by omega) ⟨_,_,?_,inn.set m true,T ++ [m],[],none,k + 1,rfl,hkl,hN2,hNn,rfl,rfl,hC3 [] none FlatR.nil (.inl rfl)⟩
        rw [cnH]
        (simp +decide only [go_sem,a01,a00,b0e,b6k,a1z,a32,hst,List.append_nil]<;>rfl)<;>rfl
      ·cases T with
       | nil=>
        obtain ⟨j,rfl⟩:∃ j,J = [j]:=by
         cases J with
         | nil=>simp at h1
         | cons j js=>cases js with
          | nil=>exact ⟨j,rfl⟩
          | cons=>simp only [List.length_cons,List.length_nil] at h1;omega
        (repeat first|simp only [ww]|(apply xa;simp +decide only [go_sem,c2,hkl,hm,hw,hmn,hq,hil2,hst,hTb,List.map_nil,List.nil_append,List.length_nil,List.length_cons];rfl;kernel_rfl))
        refine a17 (x.ins.length - (k + 1)) (by omega) ⟨_,_,?_,inn.set m true,[m],[],some 1,k + 1,rfl,hkl,hN2,hNn,rfl,rfl,hC3 [] (some 1) FlatR.nil (.inr ⟨rfl,rfl⟩)⟩
        rw [cnH]
        (simp +decide only [go_sem,a01,a00,b0e,b6k,a1z,a32,hst,List.append_nil,List.map_cons,List.map_nil]<;>rfl)<;>rfl
       | cons t0 ts=>
        obtain rfl:ts = []:=by cases ts with
         | nil=>rfl
         | cons=>simp only [List.length_cons,List.length_nil] at h1;omega
        obtain rfl:J = []:=by cases J with
         | nil=>rfl
         | cons=>simp only [List.length_cons,List.length_nil] at h1;omega
        (repeat first|simp only [ww]|(apply xa;simp +decide only [go_sem,c2,hkl,hm,hw,hmn,hq,hil2,hst,hTb,List.map_nil,List.nil_append,List.length_nil,List.length_cons,List.map_cons,List.append_nil];rfl;kernel_rfl))
        refine a17 (x.ins.length - (k + 1)) (by omega) ⟨_,_,?_,inn.set m true,[t0,m],[],none,k + 1,rfl,hkl,hN2,hNn,rfl,rfl,hC3 [] none FlatR.nil (.inl rfl)⟩
        rw [cnH]
        (simp +decide only [go_sem,a01,a00,b0e,b6k,a1z,a32,hst,List.append_nil,List.map_cons,List.map_nil]<;>rfl)<;>rfl
    ·obtain rfl:k = x.ins.length:=by omega
     have c2:¬ (x.ins.length:Int) < x.ins.length:=by omega
     (repeat first|simp only [ww]|(apply xa;simp +decide only [go_sem,c2];rfl;kernel_rfl))
     refine a17 (inn.count false + T.length) hN ⟨_,_,?_,inn,T,J,cap,rfl,by omega,rfl,rfl,hC⟩
     rw [cnH]
     (simp +decide only [go_sem,a01,a00,b0e,b6k,a1z,a32,hfJ,hrJ]<;>rfl)<;>rfl
set_option maxHeartbeats 200000000
open Go.Proofs Go.Ax Go.Pc
set_option maxRecDepth 100000
attribute [go_sem] Flt.enc
theorem b9o (c:Cir) (h:c.wf) (a:Nat) (ha:a < c.nodes.length):∃ l:List Bool,l.length = c.nodes.length ∧ (∀ b:Nat,l[b]? = some true → DepOn c.nodes a b) ∧ ∀ (d:Bool) (H:a05),a0c L.env d (sem L.env Mf) (.func (.func 102) [] []) [.agg c.enc,.int .i64 a] H = some (.islice (l.map b1g) (some c.nodes.length),H,[]):=by
 obtain ⟨r,⟨l,h1,h2,rfl⟩,h3⟩:=d9k c h a ha
 exact ⟨l,h1,h2,fun d H=>a03 (by kernel_rfl) (by kernel_rfl) rfl (by simp only [a09,a0y,Cir.enc,go_sem]) h3 rfl⟩
theorem b1p (c:Cir) (h:c.wf) (a b:Nat) (ha:a < c.nodes.length) (hb:b < c.nodes.length):∃ q:Bool,(DepOn c.nodes a b → q = true) ∧ ∀ (d:Bool) (H:a05),a0c L.env d (sem L.env Mf) (.func (.func 49) [] []) [.agg c.enc,.int .i64 a,.int .i64 b,.int .i64 0] H = some (.bool q,H,[]):=by
 have hn:=h.len
 obtain ⟨q,h1,h2⟩:=c59 c h b hb (c.nodes.length + 1) 0 a (by omega) ha (by omega)
 exact ⟨q,fun hr=>h1 (by omega) hr,fun d H=>a03 (by kernel_rfl) (by kernel_rfl) rfl (by simp only [a09,a0y,Cir.enc,go_sem]) h2 rfl⟩
theorem b98 {l:List Bool} {b n:Nat} (hl:l.length = n) (hb:b < n) {P:Prop} (h:l[b]? = some true → P) (hP:¬ P):l[b]? = some false:=by
 obtain ⟨q,hq⟩:∃ q,l[b]? = some q:=⟨_,List.getElem?_eq_getElem (by omega)⟩
 cases q with
 | false=>exact hq
 | true=>exact absurd (h hq) hP
theorem d08 (c:Cir) (h:c.wf) (f:Flt) (hf:FltOk c.nodes f) (hm:f.model ≠ 0):sem L.env Mf 60 [.agg c.enc,.agg f.enc] [] = some (.int .i64 0,[]):=by
 obtain ⟨b1,b2,b3,b4,b5,b6,b7,b8⟩:=hf.bridge hm
 obtain ⟨x,hx⟩:∃ x,c.nodes[f.node]? = some x:=⟨_,List.getElem?_eq_getElem hf.node⟩
 obtain ⟨y,hy⟩:∃ y,c.nodes[f.other]? = some y:=⟨_,List.getElem?_eq_getElem hf.other⟩
 rw [a15 hx] at b5
 rw [a15 hy] at b6
 obtain ⟨l1,l1n,l1r,hc1⟩:=b9o c h f.node hf.node
 obtain ⟨l2,l2n,l2r,hc2⟩:=b9o c h f.other hf.other
 have g1:=b98 l1n hf.other (l1r f.other) b7
 have g2:=b98 l2n hf.node (l2r f.node) b8
 have hc1:=hc1 false
 have hc2:=hc2 false
 have c0:¬ (f.other:Int) < 0:=by omega
 have c1:¬ (c.nodes.length:Int) ≤ f.other:=by have:=hf.other;omega
 have c2:¬ (f.node:Int) = f.other:=by omega
 have c3:¬ (x.kind:Int) = 12:=by omega
 have c4:¬ (y.kind:Int) = 12:=by omega
 have hn1:=hf.node
 have hn2:=hf.other
 have hmm:f.model = 2 ∨ f.model = 3:=by rcases hf.model with e|e|e;exact absurd e hm;exact .inl e;exact .inr e
 simp only [Cir.enc] at hc1 hc2
 simp only [Cir.enc,Flt.enc]
 rw [b1]
 rcases hmm with e|e
 ·have c5:¬ (f.other:Int) < f.node:=by have:=b3 e;omega
  rw [e]
  (refine sv Tryz.f60 ?_;simp only [Tryz.f60,gS])
  (repeat first|simp only [ww]|(apply xa;simp +decide only [go_sem,c0,c1,c2,c3,c4,c5,hx,hy,hc1,hc2,g1,g2,hn1,hn2];rfl;kernel_rfl))
  (apply fqb;simp +decide only [go_sem]<;>rfl)
 ·have hv:=b4 e
  rw [e,hv]
  (refine sv Tryz.f60 ?_;simp only [Tryz.f60,gS])
  (repeat first|simp only [ww]|(apply xa;simp +decide only [go_sem,c0,c1,c2,c3,c4,hx,hy,hc1,hc2,g1,g2,hn1,hn2];rfl;kernel_rfl))
  (apply fqb;simp +decide only [go_sem]<;>rfl)
theorem c9j (c:Cir) (h:c.wf) (f:Flt) (hf:FltOk c.nodes f):sem L.env Mf 42 [.agg c.enc,.agg f.enc] [] = some (.int .i64 0,[]):=by
 have hv:=fun H=>b3m (d:=false) H c h
 have hl:=fun H=>c54 (d:=false) H c h f.node f.pin hf.node hf.pin.1 hf.pin.2
 have hval:=hf.value
 have c2:¬ (1:Int) < f.value:=by omega
 by_cases hm:f.model = 0
 ·have ho:=hf.stuck hm
  simp only [Cir.enc] at hv hl
  simp only [Cir.enc,Flt.enc,hm,ho]
  (refine sv Tryz.f42 ?_;simp only [Tryz.f42,gS])
  (repeat first|simp only [ww]|(apply xa;simp +decide only [go_sem,hv,hl,c2];rfl;kernel_rfl))
  (apply fqb;simp +decide only [go_sem]<;>rfl)
 ·have hb:=fun H=>a03 (E:=L.env) (draw:=false) (call:=sem L.env Mf) (g:=60) (fs:=[]) (cs:=[]) (ar:=[.agg c.enc,.agg f.enc]) (H:=H) (by kernel_rfl) (by kernel_rfl) rfl (by simp only [List.nil_append,List.append_nil,a09,a0y,Cir.enc,go_sem]) (d08 c h f hf hm) rfl
  have hmm:f.model = 2 ∨ f.model = 3:=by rcases hf.model with e|e|e;exact absurd e hm;exact .inl e;exact .inr e
  have c1:¬ (3:Int) < f.model:=by omega
  have c3:(2:Int) ≤ f.model:=by omega
  simp only [Cir.enc] at hv hl
  simp only [Cir.enc,Flt.enc] at hb ⊢
  (refine sv Tryz.f42 ?_;simp only [Tryz.f42,gS])
  (repeat first|simp only [ww]|(apply xa;simp +decide only [go_sem,hv,hl,c1,c2,c3,hb];rfl;kernel_rfl))
  (apply fqb;simp +decide only [go_sem]<;>rfl)
theorem b3x {d:Bool} (H:a05) (c:Cir) (h:c.wf) (f:Flt) (hf:FltOk c.nodes f):a0c L.env d (sem L.env Mf) (.func (.func 42) [] []) [.agg c.enc,.agg f.enc] H = some (.int .i64 0,H,[]):=
 a03 (by kernel_rfl) (by kernel_rfl) rfl (by simp only [a09,a0y,Cir.enc,go_sem]) (c9j c h f hf) rfl
/- the statements' own check of a bridge -/
structure Cand (nodes:List Nd) (f:Flt):Prop where
 model:f.model = 2 ∨ f.model = 3
 node:f.node < nodes.length
 pin:f.pin = -1
 value:f.value ≤ 1
 other:f.other < nodes.length
 wired:f.model = 2 → f.node ≤ f.other
 strong:f.model = 3 → f.value = 0
theorem c8g (c:Cir) (h:c.wf) (f:Flt) (hf:Cand c.nodes f):∃ e:Nat,(e = 0 → FltOk c.nodes f) ∧ sem L.env Mf 28 [.agg c.enc,.agg f.enc] [] = some (.int .i64 e,[]):=by
 obtain ⟨x,hx⟩:∃ x,c.nodes[f.node]? = some x:=⟨_,List.getElem?_eq_getElem hf.node⟩
 obtain ⟨y,hy⟩:∃ y,c.nodes[f.other]? = some y:=⟨_,List.getElem?_eq_getElem hf.other⟩
 have hval:=hf.value
 have hpin:=hf.pin
 have hn1:=hf.node
 have hn2:=hf.other
 have c0:¬ (1:Int) < f.value:=by omega
 have c1:¬ (f.node:Int) < 0:=by omega
 have c2:¬ (c.nodes.length:Int) ≤ f.node:=by omega
 have c3:¬ (x.ins.length:Int) ≤ -1:=by omega
 have c4:¬ (f.other:Int) < 0:=by omega
 have c5:¬ (c.nodes.length:Int) ≤ f.other:=by omega
 have e1:¬ ((-1:Int) < -1):=by omega
 by_cases hno:f.node = f.other
 ·have c6:decide ((f.node:Int) = f.other) = true:=decide_eq_true (by omega)
  refine ⟨1,by omega,?_⟩
  simp only [Cir.enc,Flt.enc,hpin]
  rcases hf.model with e|e
  ·rw [e]
   (refine sv Tryz.f28 ?_;simp only [Tryz.f28,gS])
   (repeat first|simp only [ww]|(apply xa;simp +decide only [go_sem,c0,c1,c2,c3,c4,c5,c6,hx,hy,hn1,hn2,e1];rfl;kernel_rfl))
   (apply fqb;simp +decide only [go_sem]<;>rfl)
  ·rw [e]
   (refine sv Tryz.f28 ?_;simp only [Tryz.f28,gS])
   (repeat first|simp only [ww]|(apply xa;simp +decide only [go_sem,c0,c1,c2,c3,c4,c5,c6,hx,hy,hn1,hn2,e1];rfl;kernel_rfl))
   (apply fqb;simp +decide only [go_sem]<;>rfl)
 have c6:¬ (f.node:Int) = f.other:=by omega
 by_cases k1:x.kind = 12 ∨ y.kind = 12
 ·refine ⟨7,by omega,?_⟩
  simp only [Cir.enc,Flt.enc,hpin]
  by_cases kx:x.kind = 12
  ·have c7:decide ((x.kind:Int) = 12) = true:=decide_eq_true (by omega)
   rcases hf.model with e|e
   ·have c9:¬ (f.other:Int) < f.node:=by have:=hf.wired e;omega
    rw [e]
    (refine sv Tryz.f28 ?_;simp only [Tryz.f28,gS])
    (repeat first|simp only [ww]|(apply xa;simp +decide only [go_sem,c0,c1,c2,c3,c4,c5,c6,c7,c9,hx,hy,hn1,hn2,e1];rfl;kernel_rfl))
    (apply fqb;simp +decide only [go_sem]<;>rfl)
   ·have hv:=hf.strong e
    rw [e,hv]
    (refine sv Tryz.f28 ?_;simp only [Tryz.f28,gS])
    (repeat first|simp only [ww]|(apply xa;simp +decide only [go_sem,c0,c1,c2,c3,c4,c5,c6,c7,hx,hy,hn1,hn2,e1];rfl;kernel_rfl))
    (apply fqb;simp +decide only [go_sem]<;>rfl)
  ·have c7:¬ (x.kind:Int) = 12:=by omega
   have c8:decide ((y.kind:Int) = 12) = true:=decide_eq_true (by omega)
   rcases hf.model with e|e
   ·have c9:¬ (f.other:Int) < f.node:=by have:=hf.wired e;omega
    rw [e]
    (refine sv Tryz.f28 ?_;simp only [Tryz.f28,gS])
    (repeat first|simp only [ww]|(apply xa;simp +decide only [go_sem,c0,c1,c2,c3,c4,c5,c6,c7,c8,c9,hx,hy,hn1,hn2,e1];rfl;kernel_rfl))
    (apply fqb;simp +decide only [go_sem]<;>rfl)
   ·have hv:=hf.strong e
    rw [e,hv]
    (refine sv Tryz.f28 ?_;simp only [Tryz.f28,gS])
    (repeat first|simp only [ww]|(apply xa;simp +decide only [go_sem,c0,c1,c2,c3,c4,c5,c6,c7,c8,hx,hy,hn1,hn2,e1];rfl;kernel_rfl))
    (apply fqb;simp +decide only [go_sem]<;>rfl)
 have kx:¬ x.kind = 12:=fun e=>k1 (.inl e)
 have ky:¬ y.kind = 12:=fun e=>k1 (.inr e)
 have c7:¬ (x.kind:Int) = 12:=by omega
 have c8:¬ (y.kind:Int) = 12:=by omega
 obtain ⟨q1,r1,d1⟩:=b1p c h f.node f.other hn1 hn2
 obtain ⟨q2,r2,d2⟩:=b1p c h f.other f.node hn2 hn1
 have d1:=d1 false
 have d2:=d2 false
 simp only [Cir.enc] at d1 d2
 have hfin:q1 = false → q2 = false → FltOk c.nodes f:=by
  rintro rfl rfl
  refine ⟨.inr hf.model,hn1,by omega,hval,hn2,fun e=>by rcases hf.model with e2|e2<;>omega,fun _=>⟨hpin,hno,hf.wired,hf.strong,by rw [a15 hx];exact kx,by rw [a15 hy];exact ky,fun hr=>absurd (r1 hr) (by decide),fun hr=>absurd (r2 hr) (by decide)⟩⟩
 refine ⟨if q1 || q2 then 6 else 0,?_,?_⟩
 ·intro e
  cases q1<;>cases q2<;>first|exact hfin rfl rfl|(simp at e)
 ·simp only [Cir.enc,Flt.enc,hpin]
  rcases hf.model with e|e
  ·have c9:¬ (f.other:Int) < f.node:=by have:=hf.wired e;omega
   rw [e]
   cases q1<;>cases q2
   all_goals
    (refine sv Tryz.f28 ?_;simp only [Tryz.f28,gS])
    (repeat first|simp only [ww]|(apply xa;simp +decide only [go_sem,c0,c1,c2,c3,c4,c5,c6,c7,c8,c9,hx,hy,hn1,hn2,e1,d1,d2];rfl;kernel_rfl))
    (apply fqb;simp +decide only [go_sem]<;>rfl)
  ·have hv:=hf.strong e
   rw [e,hv]
   cases q1<;>cases q2
   all_goals
    (refine sv Tryz.f28 ?_;simp only [Tryz.f28,gS])
    (repeat first|simp only [ww]|(apply xa;simp +decide only [go_sem,c0,c1,c2,c3,c4,c5,c6,c7,c8,hx,hy,hn1,hn2,e1,d1,d2];rfl;kernel_rfl))
    (apply fqb;simp +decide only [go_sem]<;>rfl)
theorem a4t (c:Cir) (h:c.wf) (f:Flt) (hf:Cand c.nodes f):∃ e:Nat,(e = 0 → FltOk c.nodes f) ∧ ∀ (d:Bool) (H:a05),a0c L.env d (sem L.env Mf) (.func (.func 28) [] []) [.agg c.enc,.agg f.enc] H = some (.int .i64 e,H,[]):=by
 obtain ⟨e,h1,h2⟩:=c8g c h f hf
 exact ⟨e,h1,fun d H=>a03 (by kernel_rfl) (by kernel_rfl) rfl (by simp only [a09,a0y,Cir.enc,go_sem]) h2 rfl⟩
set_option maxHeartbeats 200000000
open Go.Proofs Go.Ax Go.Pc
set_option maxRecDepth 100000
structure FX where
 model:Nat
 node:Nat
 pin:Nat
 other:Nat
 one:Bool
def FX.enc (f:FX):List AV:=[.int .u8 f.model,.int .u8 f.node,.int .u8 f.pin,.int .u8 f.other,.bool f.one]
structure FX.ok (f:FX):Prop where
 model:f.model < 256
 node:f.node < 256
 pin:f.pin < 256
 other:f.other < 256
attribute [go_sem] FX.enc
theorem a84 {nodes:List Nd} {a p v:Nat} {x:Nd} (hx:nodes[a]? = some x) (hv:v ≤ 1):FltOk nodes ⟨0,a,((p % (x.ins.length + 1):Nat):Int) - 1,v,0⟩:=by
 have ha:=(List.getElem?_eq_some_iff.1 hx).1
 have hp:=Nat.mod_lt p (show 0 < x.ins.length + 1 by omega)
 refine ⟨.inl rfl,ha,?_,hv,by show 0 < nodes.length;omega,fun _=>rfl,fun h=>absurd rfl h⟩
 show -1 ≤ ((p % (x.ins.length + 1):Nat):Int) - 1 ∧ ((p % (x.ins.length + 1):Nat):Int) - 1 < (a22 nodes a).length
 rw [a1l hx]
 generalize p % (x.ins.length + 1) = q at hp ⊢
 omega
theorem e3l (c:Cir) (h:c.wf) (f:FX) (hf:f.ok) (hm:f.model % 4 ≠ 1):∃ r:AV × a05,(∃ g,FltOk c.nodes g ∧ r = (.agg g.enc,[])) ∧ sem L.env Mf 18 [.agg f.enc,.agg c.enc] [] = some r:=by
 obtain ⟨f1,f2,f3,f4⟩:=hf
 have hn:=h.len
 have hp:=h.pos
 have c0:¬ (c.nodes.length:Int) = 0:=by omega
 have hnd:f.node % c.nodes.length < c.nodes.length:=Nat.mod_lt _ hp
 have hot:f.other % c.nodes.length < c.nodes.length:=Nat.mod_lt _ hp
 have w1:=wB (n:=f.model % 4) (by omega)
 have w2:=wI (n:=f.node) (by omega)
 have w3:=wI (n:=f.node % c.nodes.length) (by omega)
 have w4:=wI (n:=f.other) (by omega)
 have w5:=wI (n:=f.other % c.nodes.length) (by omega)
 have w6:=wI (n:=f.pin) (by omega)
 have hpin:∀ x:Nd,x ∈ c.nodes → IntKind.i64.wrap ((x.ins.length:Int) + 1) = ((x.ins.length + 1:Nat):Int) ∧ IntKind.i64.wrap ((f.pin % (x.ins.length + 1):Nat):Int) = ((f.pin % (x.ins.length + 1):Nat):Int) ∧ IntKind.i64.wrap (((f.pin % (x.ins.length + 1):Nat):Int) - 1) = ((f.pin % (x.ins.length + 1):Nat):Int) - 1 ∧ ¬ ((x.ins.length + 1:Nat):Int) = 0:=by
  intro x hx
  have:=h.insl hx
  have hq:=Nat.mod_lt f.pin (show 0 < x.ins.length + 1 by omega)
  generalize f.pin % (x.ins.length + 1) = q at hq ⊢
  exact ⟨wI1 (by omega),wI (by omega),w64 (by omega) (by omega),by omega⟩
 generalize hN1:f.node % c.nodes.length = nd at hnd w3
 generalize hN2:f.other % c.nodes.length = ot at hot w5
 have hmm:f.model % 4 = 0 ∨ f.model % 4 = 2 ∨ f.model % 4 = 3:=by omega
 rcases hmm with hm0|hm2|hm3
 ·obtain ⟨x,hx⟩:∃ x,c.nodes[nd]? = some x:=⟨_,List.getElem?_eq_getElem hnd⟩
  obtain ⟨p1,p2,p3,p4⟩:=hpin x (List.mem_of_getElem? hx)
  cases ho:f.one
  ·simp only [Cir.enc,FX.enc,ho]
   (refine svE Tryz.f18 ?_;simp only [Tryz.f18,gS])
   (repeat first|simp only [ww]|(apply xa;simp +decide only [go_sem,c0,w1,w2,w3,w6,hN1,hm0,hx,hnd,p1,p2,p3,p4];rfl;kernel_rfl))
   refine a2s (vs:=[.agg (Flt.enc ⟨0,nd,((f.pin % (x.ins.length + 1):Nat):Int) - 1,0,0⟩)]) (r:=(.agg (Flt.enc ⟨0,nd,((f.pin % (x.ins.length + 1):Nat):Int) - 1,0,0⟩),[])) (by simp +decide only [go_sem,hm0,hx,hN1,p1,p2,p3,p4]<;>rfl) ?_ ⟨_,a84 hx (p:=f.pin) (v:=0) (by omega),rfl⟩
   simp +decide only [go_sem]
  ·simp only [Cir.enc,FX.enc,ho]
   (refine svE Tryz.f18 ?_;simp only [Tryz.f18,gS])
   (repeat first|simp only [ww]|(apply xa;simp +decide only [go_sem,c0,w1,w2,w3,w6,hN1,hm0,hx,hnd,p1,p2,p3,p4];rfl;kernel_rfl))
   refine a2s (vs:=[.agg (Flt.enc ⟨0,nd,((f.pin % (x.ins.length + 1):Nat):Int) - 1,1,0⟩)]) (r:=(.agg (Flt.enc ⟨0,nd,((f.pin % (x.ins.length + 1):Nat):Int) - 1,1,0⟩),[])) (by simp +decide only [go_sem,hm0,hx,hN1,p1,p2,p3,p4]<;>rfl) ?_ ⟨_,a84 hx (p:=f.pin) (v:=1) (by omega),rfl⟩
   simp +decide only [go_sem]
 ·by_cases hlt:ot < nd
  ·have hsw:(ot:Int) < nd:=by omega
   cases ho:f.one
   ·obtain ⟨e,he,hce⟩:=a4t c h ⟨2,ot,-1,0,nd⟩ ⟨.inl rfl,hot,rfl,by show 0 ≤ 1;omega,hnd,fun _=>by show ot ≤ nd;omega,fun hh=>by have hh:(2:Nat) = 3:=hh;omega⟩
    have hce:∀ H,a0c L.env false (sem L.env Mf) (.func (.func 28) [] []) [.agg [sl c.nc (c.nodes.map Nd.enc),sl c.mc (c.names.map a1r),.nilslice,sl c.oc (c.outs.map a0d)],.agg [.int .u8 ((2:Nat):Int),.int .i64 ot,.int .i64 (-1),.int .u8 0,.int .i64 nd]] H = some (.int .i64 e,H,[]):=hce false
    obtain ⟨x,hx⟩:∃ x,c.nodes[ot]? = some x:=⟨_,List.getElem?_eq_getElem hot⟩
    obtain ⟨p1,p2,p3,p4⟩:=hpin x (List.mem_of_getElem? hx)
    simp only [Cir.enc,FX.enc,ho]
    by_cases he0:e = 0
    ·subst he0
     (refine svE Tryz.f18 ?_;simp only [Tryz.f18,gS])
     (repeat first|simp only [ww]|(apply xa;simp +decide only [go_sem,c0,w1,w2,w3,w4,w5,w6,hN1,hN2,hm2,hx,hnd,hot,p1,p2,p3,p4,hce,hsw];rfl;kernel_rfl))
     refine a2s (vs:=[.agg (Flt.enc ⟨2,ot,-1,0,nd⟩)]) (r:=(.agg (Flt.enc ⟨2,ot,-1,0,nd⟩),[])) (by simp +decide only [go_sem,hm2,hN1,hN2]<;>rfl) ?_ ⟨_,he rfl,rfl⟩
     simp +decide only [go_sem]
    ·have ce:¬ (e:Int) = 0:=by omega
     (refine svE Tryz.f18 ?_;simp only [Tryz.f18,gS])
     (repeat first|simp only [ww]|(apply xa;simp +decide only [go_sem,c0,w1,w2,w3,w4,w5,w6,hN1,hN2,hm2,hx,hnd,hot,p1,p2,p3,p4,hce,ce,hsw];rfl;kernel_rfl))
     refine a2s (vs:=[.agg (Flt.enc ⟨0,ot,((f.pin % (x.ins.length + 1):Nat):Int) - 1,0,0⟩)]) (r:=(.agg (Flt.enc ⟨0,ot,((f.pin % (x.ins.length + 1):Nat):Int) - 1,0,0⟩),[])) (by simp +decide only [go_sem,hx,hN1,hN2,p1,p2,p3,p4]<;>rfl) ?_ ⟨_,a84 hx (p:=f.pin) (v:=0) (by omega),rfl⟩
     simp +decide only [go_sem]
   ·obtain ⟨e,he,hce⟩:=a4t c h ⟨2,ot,-1,1,nd⟩ ⟨.inl rfl,hot,rfl,by show 1 ≤ 1;omega,hnd,fun _=>by show ot ≤ nd;omega,fun hh=>by have hh:(2:Nat) = 3:=hh;omega⟩
    have hce:∀ H,a0c L.env false (sem L.env Mf) (.func (.func 28) [] []) [.agg [sl c.nc (c.nodes.map Nd.enc),sl c.mc (c.names.map a1r),.nilslice,sl c.oc (c.outs.map a0d)],.agg [.int .u8 ((2:Nat):Int),.int .i64 ot,.int .i64 (-1),.int .u8 1,.int .i64 nd]] H = some (.int .i64 e,H,[]):=hce false
    obtain ⟨x,hx⟩:∃ x,c.nodes[ot]? = some x:=⟨_,List.getElem?_eq_getElem hot⟩
    obtain ⟨p1,p2,p3,p4⟩:=hpin x (List.mem_of_getElem? hx)
    simp only [Cir.enc,FX.enc,ho]
    by_cases he0:e = 0
    ·subst he0
     (refine svE Tryz.f18 ?_;simp only [Tryz.f18,gS])
     (repeat first|simp only [ww]|(apply xa;simp +decide only [go_sem,c0,w1,w2,w3,w4,w5,w6,hN1,hN2,hm2,hx,hnd,hot,p1,p2,p3,p4,hce,hsw];rfl;kernel_rfl))
     refine a2s (vs:=[.agg (Flt.enc ⟨2,ot,-1,1,nd⟩)]) (r:=(.agg (Flt.enc ⟨2,ot,-1,1,nd⟩),[])) (by simp +decide only [go_sem,hm2,hN1,hN2]<;>rfl) ?_ ⟨_,he rfl,rfl⟩
     simp +decide only [go_sem]
    ·have ce:¬ (e:Int) = 0:=by omega
     (refine svE Tryz.f18 ?_;simp only [Tryz.f18,gS])
     (repeat first|simp only [ww]|(apply xa;simp +decide only [go_sem,c0,w1,w2,w3,w4,w5,w6,hN1,hN2,hm2,hx,hnd,hot,p1,p2,p3,p4,hce,ce,hsw];rfl;kernel_rfl))
     refine a2s (vs:=[.agg (Flt.enc ⟨0,ot,((f.pin % (x.ins.length + 1):Nat):Int) - 1,1,0⟩)]) (r:=(.agg (Flt.enc ⟨0,ot,((f.pin % (x.ins.length + 1):Nat):Int) - 1,1,0⟩),[])) (by simp +decide only [go_sem,hx,hN1,hN2,p1,p2,p3,p4]<;>rfl) ?_ ⟨_,a84 hx (p:=f.pin) (v:=1) (by omega),rfl⟩
     simp +decide only [go_sem]
  ·have hsw:¬ (ot:Int) < nd:=by omega
   cases ho:f.one
   ·obtain ⟨e,he,hce⟩:=a4t c h ⟨2,nd,-1,0,ot⟩ ⟨.inl rfl,hnd,rfl,by show 0 ≤ 1;omega,hot,fun _=>by show nd ≤ ot;omega,fun hh=>by have hh:(2:Nat) = 3:=hh;omega⟩
    have hce:∀ H,a0c L.env false (sem L.env Mf) (.func (.func 28) [] []) [.agg [sl c.nc (c.nodes.map Nd.enc),sl c.mc (c.names.map a1r),.nilslice,sl c.oc (c.outs.map a0d)],.agg [.int .u8 ((2:Nat):Int),.int .i64 nd,.int .i64 (-1),.int .u8 0,.int .i64 ot]] H = some (.int .i64 e,H,[]):=hce false
    obtain ⟨x,hx⟩:∃ x,c.nodes[nd]? = some x:=⟨_,List.getElem?_eq_getElem hnd⟩
    obtain ⟨p1,p2,p3,p4⟩:=hpin x (List.mem_of_getElem? hx)
    simp only [Cir.enc,FX.enc,ho]
    by_cases he0:e = 0
    ·subst he0
     (refine svE Tryz.f18 ?_;simp only [Tryz.f18,gS])
     (repeat first|simp only [ww]|(apply xa;simp +decide only [go_sem,c0,w1,w2,w3,w4,w5,w6,hN1,hN2,hm2,hx,hnd,hot,p1,p2,p3,p4,hce,hsw];rfl;kernel_rfl))
     refine a2s (vs:=[.agg (Flt.enc ⟨2,nd,-1,0,ot⟩)]) (r:=(.agg (Flt.enc ⟨2,nd,-1,0,ot⟩),[])) (by simp +decide only [go_sem,hm2,hN1,hN2]<;>rfl) ?_ ⟨_,he rfl,rfl⟩
     simp +decide only [go_sem]
    ·have ce:¬ (e:Int) = 0:=by omega
     (refine svE Tryz.f18 ?_;simp only [Tryz.f18,gS])
     (repeat first|simp only [ww]|(apply xa;simp +decide only [go_sem,c0,w1,w2,w3,w4,w5,w6,hN1,hN2,hm2,hx,hnd,hot,p1,p2,p3,p4,hce,ce,hsw];rfl;kernel_rfl))
     refine a2s (vs:=[.agg (Flt.enc ⟨0,nd,((f.pin % (x.ins.length + 1):Nat):Int) - 1,0,0⟩)]) (r:=(.agg (Flt.enc ⟨0,nd,((f.pin % (x.ins.length + 1):Nat):Int) - 1,0,0⟩),[])) (by simp +decide only [go_sem,hx,hN1,hN2,p1,p2,p3,p4]<;>rfl) ?_ ⟨_,a84 hx (p:=f.pin) (v:=0) (by omega),rfl⟩
     simp +decide only [go_sem]
   ·obtain ⟨e,he,hce⟩:=a4t c h ⟨2,nd,-1,1,ot⟩ ⟨.inl rfl,hnd,rfl,by show 1 ≤ 1;omega,hot,fun _=>by show nd ≤ ot;omega,fun hh=>by have hh:(2:Nat) = 3:=hh;omega⟩
    have hce:∀ H,a0c L.env false (sem L.env Mf) (.func (.func 28) [] []) [.agg [sl c.nc (c.nodes.map Nd.enc),sl c.mc (c.names.map a1r),.nilslice,sl c.oc (c.outs.map a0d)],.agg [.int .u8 ((2:Nat):Int),.int .i64 nd,.int .i64 (-1),.int .u8 1,.int .i64 ot]] H = some (.int .i64 e,H,[]):=hce false
    obtain ⟨x,hx⟩:∃ x,c.nodes[nd]? = some x:=⟨_,List.getElem?_eq_getElem hnd⟩
    obtain ⟨p1,p2,p3,p4⟩:=hpin x (List.mem_of_getElem? hx)
    simp only [Cir.enc,FX.enc,ho]
    by_cases he0:e = 0
    ·subst he0
     (refine svE Tryz.f18 ?_;simp only [Tryz.f18,gS])
     (repeat first|simp only [ww]|(apply xa;simp +decide only [go_sem,c0,w1,w2,w3,w4,w5,w6,hN1,hN2,hm2,hx,hnd,hot,p1,p2,p3,p4,hce,hsw];rfl;kernel_rfl))
     refine a2s (vs:=[.agg (Flt.enc ⟨2,nd,-1,1,ot⟩)]) (r:=(.agg (Flt.enc ⟨2,nd,-1,1,ot⟩),[])) (by simp +decide only [go_sem,hm2,hN1,hN2]<;>rfl) ?_ ⟨_,he rfl,rfl⟩
     simp +decide only [go_sem]
    ·have ce:¬ (e:Int) = 0:=by omega
     (refine svE Tryz.f18 ?_;simp only [Tryz.f18,gS])
     (repeat first|simp only [ww]|(apply xa;simp +decide only [go_sem,c0,w1,w2,w3,w4,w5,w6,hN1,hN2,hm2,hx,hnd,hot,p1,p2,p3,p4,hce,ce,hsw];rfl;kernel_rfl))
     refine a2s (vs:=[.agg (Flt.enc ⟨0,nd,((f.pin % (x.ins.length + 1):Nat):Int) - 1,1,0⟩)]) (r:=(.agg (Flt.enc ⟨0,nd,((f.pin % (x.ins.length + 1):Nat):Int) - 1,1,0⟩),[])) (by simp +decide only [go_sem,hx,hN1,hN2,p1,p2,p3,p4]<;>rfl) ?_ ⟨_,a84 hx (p:=f.pin) (v:=1) (by omega),rfl⟩
     simp +decide only [go_sem]
 ·cases ho:f.one
  ·obtain ⟨e,he,hce⟩:=a4t c h ⟨3,nd,-1,0,ot⟩ ⟨.inr rfl,hnd,rfl,by show 0 ≤ 1;omega,hot,fun hh=>by have hh:(3:Nat) = 2:=hh;omega,fun _=>rfl⟩
   have hce:∀ H,a0c L.env false (sem L.env Mf) (.func (.func 28) [] []) [.agg [sl c.nc (c.nodes.map Nd.enc),sl c.mc (c.names.map a1r),.nilslice,sl c.oc (c.outs.map a0d)],.agg [.int .u8 ((3:Nat):Int),.int .i64 nd,.int .i64 (-1),.int .u8 0,.int .i64 ot]] H = some (.int .i64 e,H,[]):=hce false
   obtain ⟨x,hx⟩:∃ x,c.nodes[nd]? = some x:=⟨_,List.getElem?_eq_getElem hnd⟩
   obtain ⟨p1,p2,p3,p4⟩:=hpin x (List.mem_of_getElem? hx)
   simp only [Cir.enc,FX.enc,ho]
   by_cases he0:e = 0
   ·subst he0
    (refine svE Tryz.f18 ?_;simp only [Tryz.f18,gS])
    (repeat first|simp only [ww]|(apply xa;simp +decide only [go_sem,c0,w1,w2,w3,w4,w5,w6,hN1,hN2,hm3,hx,hnd,hot,p1,p2,p3,p4,hce];rfl;kernel_rfl))
    refine a2s (vs:=[.agg (Flt.enc ⟨3,nd,-1,0,ot⟩)]) (r:=(.agg (Flt.enc ⟨3,nd,-1,0,ot⟩),[])) (by simp +decide only [go_sem,hm3,hN1,hN2]<;>rfl) ?_ ⟨_,he rfl,rfl⟩
    simp +decide only [go_sem]
   ·have ce:¬ (e:Int) = 0:=by omega
    (refine svE Tryz.f18 ?_;simp only [Tryz.f18,gS])
    (repeat first|simp only [ww]|(apply xa;simp +decide only [go_sem,c0,w1,w2,w3,w4,w5,w6,hN1,hN2,hm3,hx,hnd,hot,p1,p2,p3,p4,hce,ce];rfl;kernel_rfl))
    refine a2s (vs:=[.agg (Flt.enc ⟨0,nd,((f.pin % (x.ins.length + 1):Nat):Int) - 1,0,0⟩)]) (r:=(.agg (Flt.enc ⟨0,nd,((f.pin % (x.ins.length + 1):Nat):Int) - 1,0,0⟩),[])) (by simp +decide only [go_sem,hx,hN1,hN2,p1,p2,p3,p4]<;>rfl) ?_ ⟨_,a84 hx (p:=f.pin) (v:=0) (by omega),rfl⟩
    simp +decide only [go_sem]
  ·obtain ⟨e,he,hce⟩:=a4t c h ⟨3,nd,-1,0,ot⟩ ⟨.inr rfl,hnd,rfl,by show 0 ≤ 1;omega,hot,fun hh=>by have hh:(3:Nat) = 2:=hh;omega,fun _=>rfl⟩
   have hce:∀ H,a0c L.env false (sem L.env Mf) (.func (.func 28) [] []) [.agg [sl c.nc (c.nodes.map Nd.enc),sl c.mc (c.names.map a1r),.nilslice,sl c.oc (c.outs.map a0d)],.agg [.int .u8 ((3:Nat):Int),.int .i64 nd,.int .i64 (-1),.int .u8 0,.int .i64 ot]] H = some (.int .i64 e,H,[]):=hce false
   obtain ⟨x,hx⟩:∃ x,c.nodes[nd]? = some x:=⟨_,List.getElem?_eq_getElem hnd⟩
   obtain ⟨p1,p2,p3,p4⟩:=hpin x (List.mem_of_getElem? hx)
   simp only [Cir.enc,FX.enc,ho]
   by_cases he0:e = 0
   ·subst he0
    (refine svE Tryz.f18 ?_;simp only [Tryz.f18,gS])
    (repeat first|simp only [ww]|(apply xa;simp +decide only [go_sem,c0,w1,w2,w3,w4,w5,w6,hN1,hN2,hm3,hx,hnd,hot,p1,p2,p3,p4,hce];rfl;kernel_rfl))
    refine a2s (vs:=[.agg (Flt.enc ⟨3,nd,-1,0,ot⟩)]) (r:=(.agg (Flt.enc ⟨3,nd,-1,0,ot⟩),[])) (by simp +decide only [go_sem,hm3,hN1,hN2]<;>rfl) ?_ ⟨_,he rfl,rfl⟩
    simp +decide only [go_sem]
   ·have ce:¬ (e:Int) = 0:=by omega
    (refine svE Tryz.f18 ?_;simp only [Tryz.f18,gS])
    (repeat first|simp only [ww]|(apply xa;simp +decide only [go_sem,c0,w1,w2,w3,w4,w5,w6,hN1,hN2,hm3,hx,hnd,hot,p1,p2,p3,p4,hce,ce];rfl;kernel_rfl))
    refine a2s (vs:=[.agg (Flt.enc ⟨0,nd,((f.pin % (x.ins.length + 1):Nat):Int) - 1,0,0⟩)]) (r:=(.agg (Flt.enc ⟨0,nd,((f.pin % (x.ins.length + 1):Nat):Int) - 1,0,0⟩),[])) (by simp +decide only [go_sem,hx,hN1,hN2,p1,p2,p3,p4]<;>rfl) ?_ ⟨_,a84 hx (p:=f.pin) (v:=0) (by omega),rfl⟩
    simp +decide only [go_sem]
open Go.Proofs Go.Ax Go.Pc
set_option maxRecDepth 100000
attribute [go_sem] Pat.enc
structure PatOk (nodes:List Nd) (p:Pat):Prop where
 ins:p.ins.length = (kinds nodes 0).length
 sts:p.sts.length = (kinds nodes 14).length
 inv:∀ v ∈ p.ins,v ≤ 3
 stv:∀ v ∈ p.sts,v ≤ 3
theorem a37 (nodes:List Nd) (k:Nat):(kinds nodes k).length ≤ nodes.length:=b3g _ _ _
theorem d44 (c:Cir) (h:c.wf) (k:Nat):sem L.env Mf 30 [.agg c.enc,.int .u8 k] [] = some (.int .i64 (kinds c.nodes k).length,[]):=by
 have hn:=h.len
 simp only [Cir.enc]
 (refine sv Tryz.f30 ?_;simp only [Tryz.f30,gS])
 (repeat first|simp only [ww]|(apply xa;simp +decide only [go_sem];rfl;kernel_rfl))
 refine a0s (σ:=Nat) kp30_0 (fun i=>[(1,.int .u8 k),(2,.ptr 0 0 0),(5,.int .i64 (a3n c.nodes k i).length),(6,.int .i64 i)])
  (fun i=>[some (.row 4 [[sl c.nc (c.nodes.map Nd.enc),sl c.mc (c.names.map a1r),.nilslice,sl c.oc (c.outs.map a0d)]])]) (fun i=>c.nodes.length - i) (fun i=>i ≤ c.nodes.length) 0 ?_ (Nat.zero_le _) ?_
 ·have e:a3n c.nodes k 0 = []:=rfl
  (simp +decide only [go_sem,a01,a00,e,List.length_nil]<;>rfl)
 ·intro i hi
  by_cases hlt:i < c.nodes.length
  ·obtain ⟨x,hx⟩:∃ x,c.nodes[i]? = some x:=⟨_,List.getElem?_eq_getElem hlt⟩
   have c1:(i:Int) < c.nodes.length:=by omega
   have hw:=wI1 (n:=i) (by omega)
   have hle:=b3g c.nodes k i
   have hw2:=wI1 (n:=(a3n c.nodes k i).length) (by omega)
   have hs:=b3f c.nodes k i
   rw [a15 hx] at hs
   by_cases hk:x.kind = k
   ·have ck:decide ((x.kind:Int) = k) = true:=decide_eq_true (by omega)
    rw [if_pos hk] at hs
    have hl:(a3n c.nodes k (i + 1)).length = (a3n c.nodes k i).length + 1:=by rw [hs];simp
    (repeat first|simp only [ww]|(apply xa;simp +decide only [go_sem,c1,hlt,hx,hw,hw2,ck];rfl;kernel_rfl))
    refine a1w (i + 1) ?_ (by omega) (by omega)
    (simp +decide only [go_sem,a01,a00,hl]<;>rfl)
   ·have ck:¬ (x.kind:Int) = k:=by omega
    rw [if_neg hk] at hs
    (repeat first|simp only [ww]|(apply xa;simp +decide only [go_sem,c1,hlt,hx,hw,hw2,ck];rfl;kernel_rfl))
    refine a1w (i + 1) ?_ (by omega) (by omega)
    (simp +decide only [go_sem,a01,a00,hs]<;>rfl)
  ·obtain rfl:i = c.nodes.length:=by omega
   have c1:¬ (c.nodes.length:Int) < c.nodes.length:=by omega
   (repeat first|simp only [ww]|(apply xa;simp +decide only [go_sem,c1];rfl;kernel_rfl))
   (apply fqb;simp +decide only [go_sem,kinds]<;>rfl)
theorem b5x {d:Bool} (H:a05) (c:Cir) (h:c.wf) {n:Int} (k:Nat) (hk:n = k):a0c L.env d (sem L.env Mf) (.func (.func 30) [] []) [.agg c.enc,.int .u8 n] H = some (.int .i64 (kinds c.nodes k).length,H,[]):=by
 subst hk
 exact a03 (by kernel_rfl) (by kernel_rfl) rfl (by simp only [a09,a0y,Cir.enc,go_sem]) (d44 c h k) rfl
theorem c3b (l:List Nat):(l.map u8R).flatMap a0e = []:=a06 (FlatR.map fun _=>rfl)
theorem d23 (π:Nat → Option Nat) (l:List Nat):(l.map u8R).map (fun r=>r.map (ren π)) = l.map u8R:=a04 π (FlatR.map fun _=>rfl)
theorem e7z {m:Nat} {d:AV → Option AV} (l:List Nat):a7z m d (l.map u8R) = some (l.map u8R):=a0r m d (FlatR.map fun _=>rfl)
theorem d1i (r:Rep) (l:List Nat) (hv:∀ v ∈ l,v < 256) (hl:l.length < 9223372036854775808) (n most:Nat) (hn:n ≤ 100000) (hm:0 < most) (hm4:most ≤ 4) (hm3:3 ≤ most):∃ r':AV × a05,(∃ out:List Nat,out.length = n ∧ (∀ v ∈ out,v ≤ 3) ∧ r' = (sl none (out.map u8R),[])) ∧ sem L.env Mf 29 [sl r (l.map u8R),.int .i64 n,.int .u8 most] [] = some r':=by
 (refine svE Tryz.f29 ?_;simp only [Tryz.f29,gS])
 (repeat first|simp only [ww]|(apply xa;simp +decide only [go_sem];rfl;kernel_rfl))
 refine a30 kp29_0 (fun q F H=>∃ out:List Nat,q = n - out.length ∧ out.length ≤ n ∧ (∀ v ∈ out,v ≤ 3) ∧ F = [(0,sl r (l.map u8R)),(1,.int .i64 n),(2,.int .u8 most),(7,grV 0 (out.map u8R)),(8,.int .i64 out.length)] ∧ H = grH 1 (out.map u8R)) (n - 0) ?_ ?_
 ·refine ⟨_,_,?_,[],rfl,Nat.zero_le _,by simp,rfl,rfl⟩
  (simp +decide only [go_sem,a01,a00,List.map_nil,a0f,a0g]<;>rfl)<;>rfl
 ·rintro q F H ⟨out,rfl,ho,hov,rfl,rfl⟩
  by_cases hlt:out.length < n
  ·have c1:(out.length:Int) < n:=by omega
   have hw:=wI1 (n:=out.length) (by omega)
   have hrm:out.length + 1 ≤ 1000000000:=by omega
   by_cases hle:l = []
   ·subst hle
    cases out with
    | nil=>
     simp only [List.length_nil] at hw c1
     (repeat first|simp only [ww]|(apply xa;simp +decide only [go_sem,c1,hw,List.map_nil,List.length_nil,List.map_nil,a0f,a0g,List.length_nil];rfl;kernel_rfl))
     refine a17 (n - 1) (by simp at hlt ⊢;omega) ⟨_,_,?_,[2],rfl,by simp at hlt ⊢;omega,by intro u hu;simp only [List.mem_singleton] at hu;subst hu;omega,rfl,rfl⟩
     (simp +decide only [go_sem,a01,a00,List.map_cons,List.map_nil,a07,a08,List.length_nil,List.length_cons,c3b,d23]<;>rfl)<;>rfl
    | cons a r2=>
     simp only [List.length_cons] at hrm hw c1 hlt
     (repeat first|simp only [ww]|(apply xa;simp +decide only [go_sem,c1,hw,List.map_nil,List.length_nil,List.map_cons,a07,a08,hrm,List.length_cons];rfl;kernel_rfl))
     refine a17 (n - (r2.length + 1 + 1)) (by simp;omega) ⟨_,_,?_,(a :: r2) ++ [2],by simp,by simp;omega,by intro u hu;rw [List.mem_append] at hu;rcases hu with hu|hu;exact hov u hu;simp only [List.mem_singleton] at hu;subst hu;omega,rfl,rfl⟩
     (simp +decide only [go_sem,a01,a00,List.cons_append,List.map_cons,List.map_nil,a07,a08,List.length_cons,c3b,d23]<;>rfl)<;>rfl
   ·have hl0:0 < l.length:=List.length_pos_iff.2 hle
    have cl:¬ (l.length:Int) = 0:=by omega
    have hml:=Nat.mod_lt out.length hl0
    obtain ⟨u,hu⟩:∃ u,l[out.length % l.length]? = some u:=⟨_,List.getElem?_eq_getElem hml⟩
    have hub:=hv u (List.mem_of_getElem? hu)
    have hmm:=Nat.mod_lt u hm
    have cm:¬ (most:Int) = 0:=by omega
    have w1:=wI (n:=out.length % l.length) (by omega)
    have w2:=wB (n:=u % most) (by omega)
    cases out with
    | nil=>
     simp only [List.length_nil] at hml hu w1 hw c1
     (repeat first|simp only [ww]|(apply xa;simp +decide only [go_sem,c1,hw,cl,hml,hu,cm,w1,w2,List.map_nil,a0f,a0g,List.length_nil];rfl;kernel_rfl))
     refine a17 (n - 1) (by simp at hlt ⊢;omega) ⟨_,_,?_,[u % most],rfl,by simp at hlt ⊢;omega,by intro u hu;simp only [List.mem_singleton] at hu;subst hu;omega,rfl,rfl⟩
     (simp +decide only [go_sem,a01,a00,List.map_cons,List.map_nil,a07,a08,List.length_nil,List.length_cons,c3b,d23]<;>rfl)<;>rfl
    | cons a r2=>
     simp only [List.length_cons] at hrm hw c1 hlt hml hu w1
     (repeat first|simp only [ww]|(apply xa;simp +decide only [go_sem,c1,hw,cl,hml,hu,cm,w1,w2,List.map_cons,a07,a08,hrm,List.length_cons];rfl;kernel_rfl))
     refine a17 (n - (r2.length + 1 + 1)) (by simp;omega) ⟨_,_,?_,(a :: r2) ++ [u % most],by simp,by simp;omega,by intro u hu;rw [List.mem_append] at hu;rcases hu with hu|hu;exact hov u hu;simp only [List.mem_singleton] at hu;subst hu;omega,rfl,rfl⟩
     (simp +decide only [go_sem,a01,a00,List.cons_append,List.map_cons,List.map_nil,a07,a08,List.length_cons,c3b,d23]<;>rfl)<;>rfl
  ·obtain rfl:n = out.length:=by omega
   have c1:¬ (out.length:Int) < out.length:=by omega
   cases out with
   | nil=>
    (repeat first|simp only [ww]|(apply xa;simp +decide only [go_sem,c1,List.map_nil,a0f,a0g];rfl;kernel_rfl))
    refine a2s (vs:=[.nilslice]) (r:=(.nilslice,[])) (by simp +decide only [go_sem]) ?_ ⟨[],rfl,by simp,rfl⟩
    simp +decide only [go_sem]
   | cons a r2=>
    simp only [List.length_cons] at c1
    (repeat first|simp only [ww]|(apply xa;simp +decide only [go_sem,c1,List.map_cons,a07,a08,List.length_cons];rfl;kernel_rfl))
    refine a2s (vs:=[.slice 0 0 (r2.length + 1) none]) (r:=(sl none ((a :: r2).map u8R),[])) (by simp +decide only [go_sem]) ?_ ⟨a :: r2,rfl,hov,rfl⟩
    show a1v false 0 (.slice 0 0 (r2.length + 1) none) _ = _
    simp +decide only [go_sem,e7z,List.map_cons,a51]
set_option maxHeartbeats 200000000
open Go.Proofs Go.Ax Go.Pc
set_option maxRecDepth 100000
theorem b50 (r:Rep) (l:List Nat) (hv:∀ v ∈ l,v < 256) (hl:l.length < 9223372036854775808) (n most:Nat) (hn:n ≤ 100000) (hm:0 < most) (hm4:most ≤ 4) (hm3:3 ≤ most):∃ out:List Nat,out.length = n ∧ (∀ v ∈ out,v ≤ 3) ∧ ∀ (d:Bool) (H:a05) (k:Int),k = most → a0c L.env d (sem L.env Mf) (.func (.func 29) [] []) [sl r (l.map u8R),.int .i64 n,.int .u8 k] H = some (sl none (out.map u8R),H,[]):=by
 obtain ⟨r',⟨out,h1,h2,rfl⟩,h3⟩:=d1i r l hv hl n most hn hm hm4 hm3
 refine ⟨out,h1,h2,fun d H k hk=>?_⟩
 subst hk
 exact a03 (by kernel_rfl) (by kernel_rfl) rfl (by simp only [List.nil_append,List.append_nil,a09,go_sem]) h3 (a2f _ _)
structure PxOk (p:Pat):Prop where
 inv:∀ v ∈ p.ins,v < 256
 stv:∀ v ∈ p.sts,v < 256
 inl:p.ins.length < 9223372036854775808
 stl:p.sts.length < 9223372036854775808
theorem e2s (c:Cir) (h:c.wf) (p:Pat) (hp:PxOk p):∃ r:AV × a05,(∃ q,PatOk c.nodes q ∧ r = (.agg q.enc,[])) ∧ sem L.env Mf 19 [.agg p.enc,.agg c.enc] [] = some r:=by
 have hn:=h.len
 have hk0:=a37 c.nodes 0
 have hk14:=a37 c.nodes 14
 have hc0:=fun H=>b5x (d:=true) H c h (n:=0) 0 rfl
 have hc14:=fun H=>b5x (d:=true) H c h (n:=14) 14 rfl
 obtain ⟨a,a1,a2,ha⟩:=b50 p.ic p.ins hp.inv hp.inl (kinds c.nodes 0).length 4 (by omega) (by omega) (by omega) (by omega)
 obtain ⟨b,b1,b2,hb⟩:=b50 p.sc p.sts hp.stv hp.stl (kinds c.nodes 14).length 3 (by omega) (by omega) (by omega) (by omega)
 have ha:=fun H=>ha true H 4 rfl
 have hb:=fun H=>hb true H 3 rfl
 simp only [Cir.enc] at hc0 hc14
 simp only [Cir.enc,Pat.enc]
 (refine svE Tryz.f19 ?_;simp only [Tryz.f19,gS])
 (repeat first|simp only [ww]|(apply xa;simp +decide only [go_sem,hc0,hc14,ha,hb];rfl;kernel_rfl))
 refine a2s (vs:=[.agg (Pat.enc ⟨none,a,none,b⟩)]) (r:=(.agg (Pat.enc ⟨none,a,none,b⟩),[])) (by simp +decide only [go_sem]<;>rfl) ?_ ⟨_,⟨a1,b1,a2,b2⟩,rfl⟩
 simp +decide only [go_sem]
theorem b24 (c:Cir) (h:c.wf) (p:Pat) (hp:PxOk p):∃ q,PatOk c.nodes q ∧ ∀ (d:Bool) (H:a05),a0c L.env d (sem L.env Mf) (.func (.func 19) [] []) [.agg p.enc,.agg c.enc] H = some (.agg q.enc,H,[]):=by
 obtain ⟨r,⟨q,h1,rfl⟩,h2⟩:=e2s c h p hp
 exact ⟨q,h1,fun d H=>a03 (by kernel_rfl) (by kernel_rfl) rfl (by simp only [a09,a0y,Cir.enc,Pat.enc,go_sem]) h2 (by simp only [a0y,Pat.enc,go_sem])⟩
theorem c3a (c:Cir) (h:c.wf) (f:FX) (hf:f.ok) (hm:f.model % 4 ≠ 1):∃ g,FltOk c.nodes g ∧ ∀ (d:Bool) (H:a05),a0c L.env d (sem L.env Mf) (.func (.func 18) [] []) [.agg f.enc,.agg c.enc] H = some (.agg g.enc,H,[]):=by
 obtain ⟨r,⟨g,h1,rfl⟩,h2⟩:=e3l c h f hf hm
 exact ⟨g,h1,fun d H=>a03 (by kernel_rfl) (by kernel_rfl) rfl (by simp only [a09,a0y,Cir.enc,FX.enc,go_sem]) h2 rfl⟩
/- patterns that fit -/
theorem d50 (v:Nat) (hv:v ≤ 3):sem L.env Mf 109 [.int .u8 v] [] = some (.bool false,[]):=by
 have c1:¬ (3:Int) < v:=by omega
 (refine sv Tryz.f109 ?_;simp only [Tryz.f109,gS])
 (repeat first|simp only [ww]|(apply xa;simp +decide only [go_sem,c1];rfl;kernel_rfl))
 (apply fqb;simp +decide only [go_sem]<;>rfl)
theorem c5v {d:Bool} (H:a05) (v:Nat) (hv:v ≤ 3):a0c L.env d (sem L.env Mf) (.func (.func 109) [] []) [.int .u8 v] H = some (.bool false,H,[]):=
 a03 (by kernel_rfl) (by kernel_rfl) rfl rfl (d50 v hv) rfl
def a96:AV:=.func (.func 109) [] []
theorem c8y (r:Rep) (l:List Nat) (hl:l.length < 1000000) (hc:∀ v ∈ l,v ≤ 3) :
 sem L.env Mf 144 [sl r (l.map u8R),a96] [] = some (.int .i64 (-1),[]):=by
 unfold a96
 (refine sv Tryz.f144 ?_;simp only [Tryz.f144,gS])
 (repeat first|simp only [ww]|(apply xa;simp +decide only [go_sem];rfl;kernel_rfl))
 refine a0s (σ:=Nat) kp144_0 (fun i=>[(0,sl r (l.map u8R)),(1,a96),(7,.int .i64 l.length),(8,.int .i64 i)])
  (fun _=>[]) (fun i=>l.length - i) (fun i=>i ≤ l.length) 0 ?_ (Nat.zero_le _) ?_
 ·unfold a96
  (simp +decide only [go_sem,a01,a00]<;>rfl)
 ·intro i hi
  unfold a96
  by_cases hlt:i < l.length
  ·obtain ⟨x,hx⟩:∃ x,l[i]? = some x:=⟨_,List.getElem?_eq_getElem hlt⟩
   have c1:(i:Int) < l.length:=by omega
   have hw:=wI1 (n:=i) (by omega)
   have hcx:=fun H=>c5v (d:=false) H x (hc x (List.mem_of_getElem? hx))
   (repeat first|simp only [ww]|(apply xa;simp +decide only [go_sem,c1,hlt,hx,hw,hcx];rfl;kernel_rfl))
   refine a1w (i + 1) ?_ (by omega) (by omega)
   (simp +decide only [go_sem,a01,a00,a96]<;>rfl)
  ·obtain rfl:i = l.length:=by omega
   have c1:¬ (l.length:Int) < l.length:=by omega
   (repeat first|simp only [ww]|(apply xa;simp +decide only [go_sem,c1];rfl;kernel_rfl))
   (apply fqb;simp +decide only [go_sem]<;>rfl)
theorem c5d (r:Rep) (l:List Nat) (hl:l.length < 1000000) (hc:∀ v ∈ l,v ≤ 3) :
 sem L.env Mf 108 [sl r (l.map u8R),a96] [] = some (.bool false,[]):=by
 have h:=fun H=>a03 (E:=L.env) (draw:=false) (call:=sem L.env Mf) (g:=144) (fs:=[]) (cs:=[]) (ar:=[sl r (l.map u8R),a96]) (H:=H) (by kernel_rfl) (by kernel_rfl) rfl (by simp only [List.nil_append,List.append_nil,a09,a96,go_sem]) (c8y r l hl hc) rfl
 have c1:¬ (0:Int) ≤ -1:=by omega
 unfold a96 at h ⊢
 (refine sv Tryz.f108 ?_;simp only [Tryz.f108,gS])
 (repeat first|simp only [ww]|(apply xa;simp +decide only [go_sem,h,c1];rfl;kernel_rfl))
 (apply fqb;simp +decide only [go_sem]<;>rfl)
theorem b5y {d:Bool} (H:a05) (r:Rep) (l:List Nat) (hl:l.length < 1000000) (hc:∀ v ∈ l,v ≤ 3):a0c L.env d (sem L.env Mf) (.func (.func 108) [] []) [sl r (l.map u8R),.func (.func 109) [] []] H = some (.bool false,H,[]):=
 a03 (by kernel_rfl) (by kernel_rfl) rfl (by simp only [List.nil_append,List.append_nil,a09,go_sem]) (c5d r l hl hc) rfl
theorem d8r (c:Cir) (h:c.wf):kinds c.nodes 15 = []:=by
 unfold kinds a3n
 rw [List.filter_eq_nil_iff]
 intro j hj
 have hj:j < c.nodes.length:=by simpa using hj
 obtain ⟨x,hx⟩:∃ x,c.nodes[j]? = some x:=⟨_,List.getElem?_eq_getElem hj⟩
 have:=h.kind x (List.mem_of_getElem? hx)
 rw [a15 hx]
 simp;omega
theorem c9h (c:Cir) (h:c.wf) (p:Pat) (hp:PatOk c.nodes p):sem L.env Mf 62 [.agg c.enc,.agg p.enc] [] = some (.int .i64 0,[]):=by
 have hn:=h.len
 have hk0:=a37 c.nodes 0
 have hk14:=a37 c.nodes 14
 have l1:=hp.ins
 have l2:=hp.sts
 have ho:=fun X Y=>b6v (d:=false) (H:=[X,Y,some (.row 1 [[.int .u8 15]])]) (b:=2) c (k:=15) rfl (by omega) rfl
 rw [d8r c h,c2x] at ho
 have hi:=fun H=>a7n (d:=true) H c (by omega)
 have hs:=fun H=>a5w (d:=true) H c (by omega)
 obtain ⟨r0,e0⟩:=a2g (kinds c.nodes 0)
 obtain ⟨r1,e1⟩:=a2g (kinds c.nodes 14)
 rw [e0] at hi
 rw [e1] at hs
 have hc1:=fun H=>b5y (d:=false) H p.ic p.ins (by omega) hp.inv
 have hc2:=fun H=>b5y (d:=false) H p.sc p.sts (by omega) hp.stv
 simp only [Cir.enc] at ho hi hs
 simp only [Cir.enc,Pat.enc]
 (refine sv Tryz.f62 ?_;simp only [Tryz.f62,gS])
 (repeat first|simp only [ww]|(apply xa;simp +decide only [go_sem,ho,hi,hs,hc1,hc2,l1,l2];rfl;kernel_rfl))
 (apply fqb;simp +decide only [go_sem]<;>rfl)
theorem c6s (c:Cir) (h:c.wf) (p:Pat) (hp:PatOk c.nodes p):sem L.env Mf 80 [.agg c.enc,.agg p.enc] [] = some (.int .i64 0,[]):=by
 have hc:=fun H=>b32 (d:=false) H c h
 have hf:=fun H=>a03 (E:=L.env) (draw:=false) (call:=sem L.env Mf) (g:=62) (fs:=[]) (cs:=[]) (ar:=[.agg c.enc,.agg p.enc]) (H:=H) (by kernel_rfl) (by kernel_rfl) rfl (by simp only [List.nil_append,List.append_nil,a09,a0y,Cir.enc,Pat.enc,go_sem]) (c9h c h p hp) rfl
 simp only [Cir.enc,Pat.enc] at hc hf ⊢
 (refine sv Tryz.f80 ?_;simp only [Tryz.f80,gS])
 (repeat first|simp only [ww]|(apply xa;simp +decide only [go_sem,hc,hf];rfl;kernel_rfl))
 (apply fqb;simp +decide only [go_sem]<;>rfl)
theorem c0q {d:Bool} (H:a05) (c:Cir) (h:c.wf) (p:Pat) (hp:PatOk c.nodes p):a0c L.env d (sem L.env Mf) (.func (.func 80) [] []) [.agg c.enc,.agg p.enc] H = some (.int .i64 0,H,[]):=
 a03 (by kernel_rfl) (by kernel_rfl) rfl (by simp only [a09,a0y,Cir.enc,Pat.enc,go_sem]) (c6s c h p hp) rfl
end Go.MInst
