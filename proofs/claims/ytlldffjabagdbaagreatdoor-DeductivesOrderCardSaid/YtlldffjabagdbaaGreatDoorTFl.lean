/- Part of a proof. No condition. -/
import Derived.Test.YtlldffjabagdbaaGreatDoorTNf
import Derived.Test.YtlldffjabagdbaaGreatDoorPcB
set_option linter.unusedSimpArgs false
set_option linter.unusedVariables false
namespace Go.TInst
open Go.Proofs Go.Ax Go.Pc
set_option maxRecDepth 100000
theorem c98 (c:Cir) (h:c.wf):sem L.env Mf 27 [.agg c.enc] [] = some (.int .i64 0,[]):=by
 have hc:=fun H=>b3z (d:=false) H c h
 simp only [Cir.enc] at hc ⊢
 (refine sv Tryz.f27 ?_;simp only [Tryz.f27,gS])
 (repeat first|simp only [ww]|(apply xa;simp +decide only [go_sem,hc];rfl;kernel_rfl))
 (apply fqb;simp +decide only [go_sem]<;>rfl)
theorem b4n {d:Bool} (H:a03) (c:Cir) (h:c.wf):a0g L.env d (sem L.env Mf) (.func (.func 27) [] []) [.agg c.enc] H = some (.int .i64 0,H,[]):=
 a04 (by kernel_rfl) (by kernel_rfl) rfl (a5y c) (c98 c h) rfl
theorem d39 (c:Cir) (h:c.wf) (n:Nat) (p:Int) (hn:n < c.nodes.length) (hp:-1 ≤ p) (hp2:p < (a17 c.nodes n).length):sem L.env Mf 113 [.agg c.enc,.agg [.int .i64 n,.int .i64 p]] [] = some (.bool true,[]):=by
 obtain ⟨x,hx⟩:∃ x,c.nodes[n]? = some x:=⟨_,z9e hn⟩
 rw [a29 hx] at hp2
 have c1:0 ≤ (n:Int):=by omega
 have c2:(n:Int) < c.nodes.length:=by omega
 simp only [Cir.enc]
 (refine sv Tryz.f113 ?_;simp only [Tryz.f113,gS])
 (repeat first|simp only [ww]|(apply xa;simp +decide only [go_sem,c1,c2,hn,hp,hp2,hx];rfl;kernel_rfl))
 (apply fqb;simp +decide only [go_sem]<;>rfl)
theorem c5v {d:Bool} (H:a03) (c:Cir) (h:c.wf) (n:Nat) (p:Int) (hn:n < c.nodes.length) (hp:-1 ≤ p) (hp2:p < (a17 c.nodes n).length):a0g L.env d (sem L.env Mf) (.func (.func 113) [] []) [.agg c.enc,.agg [.int .i64 n,.int .i64 p]] H = some (.bool true,H,[]):=
 a04 (by kernel_rfl) (by kernel_rfl) rfl (by simp only [a0a,a1e,Cir.enc,go_sem]) (d39 c h n p hn hp hp2) rfl
/- dependence, by the statements -/
def b1y (b:Bool):List AV:=[.bool b]
attribute [go_sem] b1y
theorem b0j (l:List Bool):(l.map b1y).flatMap a0j = []:=a0n (FlatR.map fun _=>rfl)
theorem b7l (π:Nat → Option Nat) (l:List Bool):(l.map b1y).map (fun r=>r.map (ren π)) = l.map b1y:=a0m π (FlatR.map fun _=>rfl)
theorem e6h {m:Nat} {d:AV → Option AV} (l:List Bool):a9a m d (l.map b1y) = some (l.map b1y):=a1g m d (FlatR.map fun _=>rfl)
theorem c0o {l:List Bool} {m:Nat} (h:l[m]? = some false):(l.set m true).count false + 1 = l.count false:=by
 induction l generalizing m with
 | nil=>simp at h
 | cons a l ih=>
  cases m with
  | zero=>simp only [List.getElem?_cons_zero,Option.some.injEq] at h;subst h;simp
  | succ m=>
   simp only [List.getElem?_cons_succ] at h
   simp only [List.set_cons_succ,List.count_cons]
   have:=ih h
   omega
structure Cone (c:Cir) (a:Nat) (inn:List Bool) (T:List Nat) (J:List (List AV)) (cap:Option Nat):Prop where
 len:inn.length = c.nodes.length
 mark:∀ b:Nat,inn[b]? = some true → DepOn c.nodes a b
 todo:∀ t ∈ T,t < c.nodes.length ∧ DepOn c.nodes a t
 flat:FlatR J
 cap:cap = none ∨ (cap = some 1 ∧ T.length + J.length = 1)
def cnH (c:Cir) (inn:List Bool) (T:List Nat) (J:List (List AV)):a03:=[some (.row 4 [[sl c.nc (c.nodes.map Nd.enc),sl c.mc (c.names.map a1n),.nilslice,sl c.oc (c.outs.map a0k)]]),some (.row 1 (inn.map b1y)),some (.row 1 (T.map a0k ++ J))]
def JC0 (c:Cir) (a:Nat) (n:Nat) (F:Frm) (H:a03):Prop:=∃ inn T J cap,n = inn.count false + T.length ∧ n ≤ c.nodes.length ∧ F = [(2,.ptr 0 0 0),(5,.slice 1 0 c.nodes.length (some c.nodes.length)),(6,.slice 2 0 T.length cap)] ∧ H = cnH c inn T J ∧ Cone c a inn T J cap
def JC2 (c:Cir) (a:Nat) (x:Nd) (N n:Nat) (F:Frm) (H:a03):Prop:=∃ inn T J cap k,n = x.ins.length - k ∧ k ≤ x.ins.length ∧ inn.count false + T.length < N ∧ N ≤ c.nodes.length ∧ F = [(2,.ptr 0 0 0),(5,.slice 1 0 c.nodes.length (some c.nodes.length)),(6,.slice 2 0 T.length cap),(45,sl x.c (x.ins.map a0k)),(46,.int .i64 x.ins.length),(47,.int .i64 k)] ∧ H = cnH c inn T J ∧ Cone c a inn T J cap
theorem e5i (n:Nat):List.replicate n [AV.bool false] = (List.replicate n false).map b1y:=by rw [List.map_replicate];rfl
theorem d8h (c:Cir) (h:c.wf) (a:Nat) (ha:a < c.nodes.length):∃ r:AV × a03,(∃ l:List Bool,l.length = c.nodes.length ∧ (∀ b:Nat,l[b]? = some true → DepOn c.nodes a b) ∧ r = (.islice (l.map b1y) (some c.nodes.length),[])) ∧ sem L.env Mf 146 [.agg c.enc,.int .i64 a] [] = some r:=by
 have hn:=h.len
 have hrm:c.nodes.length ≤ 1000000000:=by omega
 have hst:(List.replicate c.nodes.length [AV.bool false]).set a [AV.bool true] = ((List.replicate c.nodes.length false).set a true).map b1y:=by rw [e5i,List.map_set];rfl
 have hgr:(List.replicate c.nodes.length [AV.bool false])[a]? = some [AV.bool false]:=by rw [List.getElem?_replicate,if_pos ha]
 have hga:(List.replicate c.nodes.length false)[a]? = some false:=by rw [List.getElem?_replicate,if_pos ha]
 have hcnt:((List.replicate c.nodes.length false).set a true).count false + 1 ≤ c.nodes.length:=by
  rw [c0o hga];exact Nat.le_trans List.count_le_length (by simp)
 simp only [Cir.enc]
 (refine svE Tryz.f146 ?_;simp only [Tryz.f146,gS])
 (repeat first|simp only [ww]|(apply xa;simp +decide only [go_sem,hrm,ha,hgr];rfl;kernel_rfl))
 refine a5k kp146_0 (JC0 c a) (((List.replicate c.nodes.length false).set a true).count false + 1) ?_ ?_
 ·refine ⟨_,_,?_,(List.replicate c.nodes.length false).set a true,[a],[],some 1,rfl,hcnt,rfl,rfl,⟨by simp,?_,?_,FlatR.nil,.inr ⟨rfl,rfl⟩⟩⟩
  ·rw [cnH]
   (simp +decide only [go_sem,a02,a00,b0j,b7l,hst]<;>rfl)<;>rfl
  ·intro b hb
   rw [List.getElem?_set] at hb
   by_cases hab:a = b
   ·subst hab;exact .refl _
   ·rw [if_neg hab,List.getElem?_replicate] at hb
    split at hb<;>cases hb
  ·intro t ht
   simp only [List.mem_singleton] at ht
   subst ht;exact ⟨ha,.refl _⟩
 ·rintro N F H ⟨inn,T,J,cap,rfl,hB,rfl,rfl,hC⟩
  rw [cnH]
  rcases List.eq_nil_or_concat T with rfl|⟨T,t,rfl⟩
  · -- nothing is left
   (repeat first|simp only [ww]|(apply xa;simp +decide only [go_sem];rfl;kernel_rfl))
   refine a77 (vs:=[.slice 1 0 c.nodes.length (some c.nodes.length)]) (r:=(_,[])) (by simp +decide only [go_sem]) ?_ ⟨inn,hC.len,hC.mark,rfl⟩
   show a1j false 0 (.slice 1 0 c.nodes.length (some c.nodes.length)) _ = _
   rw [← hC.len]
   simp +decide only [go_sem,e6h]
  ·simp only [List.concat_eq_append] at hB hC ⊢
   obtain ⟨htn,htr⟩:=hC.todo t (by simp)
   obtain ⟨x,hx⟩:∃ x,c.nodes[t]? = some x:=⟨_,z9e htn⟩
   have hlen:(T ++ [t]).length = T.length + 1:=by simp
   rw [hlen] at hB
   have c1:(0:Int) < ((T.length + 1:Nat):Int):=by omega
   have hTl:T.length + 1 ≤ c.nodes.length:=by omega
   have hsub:IntKind.i64.wrap (((T.length + 1:Nat):Int) - 1) = (T.length:Int):=by rw [w64 (by omega) (by omega)];omega
   have hrow:(T ++ [t]).map a0k ++ J = T.map a0k ++ (a0k t :: J):=by simp
   have hget:(T.map a0k ++ (a0k t :: J))[T.length]? = some (a0k t):=by rw [List.getElem?_append_right (by simp)];simp
   have hle:T.length ≤ T.length + 1:=by omega
   have hC2:Cone c a inn T (a0k t :: J) cap:=⟨hC.len,hC.mark,fun s hs=>hC.todo s (by simp [hs]),FlatR.cons rfl hC.flat,hC.cap.imp id (fun ⟨e1,e2⟩=>⟨e1,by rw [hlen] at e2;simp;omega⟩)⟩
   have hfJ:=a0n hC2.flat
   have hrJ:=fun π=>a0m π hC2.flat
   rw [hrow,hlen]
   generalize hJ':a0k t :: J = J' at hget hC2 hfJ hrJ
   have hxm:=List.mem_of_getElem? hx
   have hil:=h.insl hxm
   have hcl:a1b (T.length + 1) cap = T.length + 1 ∨ a1b (T.length + 1) cap = 1:=by
    rcases hC.cap with e|⟨e,_⟩<;>rw [e]
    ·exact .inl rfl
    ·exact .inr rfl
   have hinb:T.length ≤ a1b (T.length + 1) cap:=by
    rcases hC.cap with e|⟨e,e2⟩
    ·rw [e];show T.length ≤ T.length + 1;omega
    ·rw [e];show T.length ≤ 1;rw [hlen] at e2;omega
   by_cases h14:x.kind = 14
   ·have c3:decide ((x.kind:Int) = 14) = true:=decide_eq_true (by omega)
    (repeat first|simp only [ww]|(apply xa;simp +decide only [go_sem,c1,hsub,hget,hx,htn,c3,hinb,hle,a7l];rfl;kernel_rfl))
    refine a21 (inn.count false + T.length) (by omega) ⟨_,_,?_,inn,T,J',cap,rfl,by omega,rfl,rfl,hC2⟩
    rw [cnH]
    (simp +decide only [go_sem,a02,a00,b0j,b7l,a1o,a2w,hfJ,hrJ]<;>rfl)<;>rfl
   have c3:¬ (x.kind:Int) = 14:=by omega
   (repeat first|simp only [ww]|(apply xa;simp +decide only [go_sem,c1,hsub,hget,hx,htn,c3,hinb,hle,a7l];rfl;kernel_rfl))
   refine a5k kp146_2 (JC2 c a x (inn.count false + (T.length + 1))) (x.ins.length - 0) ?_ ?_
   ·refine ⟨_,_,?_,inn,T,J',cap,0,rfl,Nat.zero_le _,by omega,hB,rfl,rfl,hC2⟩
    rw [cnH]
    (simp +decide only [go_sem,a02,a00,b0j,b7l,a1o,a2w,hfJ,hrJ]<;>rfl)<;>rfl
   ·generalize inn.count false + (T.length + 1) = N at hB ⊢
    clear hC2 hfJ hrJ hget hcl hinb hC hrow hsub c1 hle hTl hlen hJ'
    clear J' inn cap J
    rintro n F H ⟨inn,T,J,cap,k,rfl,hk,hN,hNn,rfl,rfl,hC⟩
    rw [cnH]
    have hfJ:=a0n hC.flat
    have hrJ:=fun π=>a0m π hC.flat
    by_cases hkl:k < x.ins.length
    ·obtain ⟨m,hm⟩:∃ m,x.ins[k]? = some m:=⟨_,z9e hkl⟩
     have hmn:=h.ins x hxm m (List.mem_of_getElem? hm)
     have c2:(k:Int) < x.ins.length:=by omega
     have hw:=wI1 (n:=k) (by omega)
     obtain ⟨q,hq⟩:∃ q,inn[m]? = some q:=⟨_,z9e (by rw [hC.len];exact hmn)⟩
     have hil2:=hC.len
     have hmr:DepOn c.nodes a m:=htr.snoc (by rw [a18 hx];exact h14) (by rw [a29 hx];exact List.mem_of_getElem? hm)
     cases q with
     | true=>
      (repeat first|simp only [ww]|(apply xa;simp +decide only [go_sem,c2,hkl,hm,hw,hmn,hq,hil2];rfl;kernel_rfl))
      refine a21 (x.ins.length - (k + 1)) (by omega) ⟨_,_,?_,inn,T,J,cap,k + 1,rfl,hkl,hN,hNn,rfl,rfl,hC⟩
      rw [cnH]
      (simp +decide only [go_sem,a02,a00,b0j,b7l,a1o,a2w,hfJ,hrJ]<;>rfl)<;>rfl
     | false=>
      have hst:(inn.map b1y).set m [AV.bool true] = (inn.set m true).map b1y:=by rw [List.map_set];rfl
      have hcs:=c0o hq
      have hTb:T.length + 1 ≤ 1000000000:=by omega
      have hC3:∀ J' cap',FlatR J' → (cap' = none ∨ (cap' = some 1 ∧ (T ++ [m]).length + J'.length = 1)) → Cone c a (inn.set m true) (T ++ [m]) J' cap':=by
       intro J' cap' hf hcap
       refine ⟨by rw [List.length_set];exact hC.len,?_,?_,hf,hcap⟩
       ·intro b hb
        rw [List.getElem?_set] at hb
        by_cases hmb:m = b
        ·subst hmb;exact hmr
        ·rw [if_neg hmb] at hb;exact hC.mark b hb
       ·intro s hs
        simp only [List.mem_append,List.mem_singleton] at hs
        rcases hs with hs|rfl
        ·exact hC.todo s hs
        ·exact ⟨hmn,hmr⟩
      have hN2:(inn.set m true).count false + (T ++ [m]).length < N:=by simp;omega
      rcases hC.cap with rfl|⟨rfl,h1⟩
      ·cases J with
       | nil=>
        (repeat first|simp only [ww]|(apply xa;simp +decide only [go_sem,c2,hkl,hm,hw,hmn,hq,hil2,hst,hTb,List.append_nil];rfl;kernel_rfl))
        refine a21 (x.ins.length - (k + 1)) (by omega) ⟨_,_,?_,inn.set m true,T ++ [m],[],none,k + 1,rfl,hkl,hN2,hNn,rfl,rfl,hC3 [] none FlatR.nil (.inl rfl)⟩
        rw [cnH]
        (simp +decide only [go_sem,a02,a00,b0j,b7l,a1o,a2w,hst,List.append_nil]<;>rfl)<;>rfl
       | cons j js=>
        have hne:¬ (T.length = T.length + (js.length + 1)):=by omega
        have hle2:T.length ≤ T.length + (js.length + 1):=by omega
        have htk:(T.map a0k ++ (j :: js)).take T.length = T.map a0k:=by rw [List.take_append_of_le_length (by simp)];exact b9a a0k T
        (repeat first|simp only [ww]|(apply xa;simp +decide only [go_sem,c2,hkl,hm,hw,hmn,hq,hil2,hst,hTb,hne,hle2,htk,List.length_cons];rfl;kernel_rfl))
        refine a21 (x.ins.length - (k + 1)) (by omega) ⟨_,_,?_,inn.set m true,T ++ [m],[],none,k + 1,rfl,hkl,hN2,hNn,rfl,rfl,hC3 [] none FlatR.nil (.inl rfl)⟩
        rw [cnH]
        (simp +decide only [go_sem,a02,a00,b0j,b7l,a1o,a2w,hst,List.append_nil]<;>rfl)<;>rfl
      ·cases T with
       | nil=>
        obtain ⟨j,rfl⟩:∃ j,J = [j]:=by
         cases J with
         | nil=>simp at h1
         | cons j js=>cases js with
          | nil=>exact ⟨j,rfl⟩
          | cons=>simp only [List.length_cons,List.length_nil] at h1;omega
        (repeat first|simp only [ww]|(apply xa;simp +decide only [go_sem,c2,hkl,hm,hw,hmn,hq,hil2,hst,hTb,List.map_nil,List.nil_append,List.length_nil,List.length_cons];rfl;kernel_rfl))
        refine a21 (x.ins.length - (k + 1)) (by omega) ⟨_,_,?_,inn.set m true,[m],[],some 1,k + 1,rfl,hkl,hN2,hNn,rfl,rfl,hC3 [] (some 1) FlatR.nil (.inr ⟨rfl,rfl⟩)⟩
        rw [cnH]
        (simp +decide only [go_sem,a02,a00,b0j,b7l,a1o,a2w,hst,List.append_nil,List.map_cons,List.map_nil]<;>rfl)<;>rfl
       | cons t0 ts=>
        obtain rfl:ts = []:=by cases ts with
         | nil=>rfl
         | cons=>simp only [List.length_cons,List.length_nil] at h1;omega
        obtain rfl:J = []:=by cases J with
         | nil=>rfl
         | cons=>simp only [List.length_cons,List.length_nil] at h1;omega
        (repeat first|simp only [ww]|(apply xa;simp +decide only [go_sem,c2,hkl,hm,hw,hmn,hq,hil2,hst,hTb,List.map_nil,List.nil_append,List.length_nil,List.length_cons,List.map_cons,List.append_nil];rfl;kernel_rfl))
        refine a21 (x.ins.length - (k + 1)) (by omega) ⟨_,_,?_,inn.set m true,[t0,m],[],none,k + 1,rfl,hkl,hN2,hNn,rfl,rfl,hC3 [] none FlatR.nil (.inl rfl)⟩
        rw [cnH]
        (simp +decide only [go_sem,a02,a00,b0j,b7l,a1o,a2w,hst,List.append_nil,List.map_cons,List.map_nil]<;>rfl)<;>rfl
    ·obtain rfl:k = x.ins.length:=by omega
     have c2:¬ (x.ins.length:Int) < x.ins.length:=by omega
     (repeat first|simp only [ww]|(apply xa;simp +decide only [go_sem,c2];rfl;kernel_rfl))
     refine a21 (inn.count false + T.length) hN ⟨_,_,?_,inn,T,J,cap,rfl,by omega,rfl,rfl,hC⟩
     rw [cnH]
     (simp +decide only [go_sem,a02,a00,b0j,b7l,a1o,a2w,hfJ,hrJ]<;>rfl)<;>rfl
set_option maxHeartbeats 200000000
attribute [go_sem] Flt.enc
theorem c0t (c:Cir) (h:c.wf) (a:Nat) (ha:a < c.nodes.length):∃ l:List Bool,l.length = c.nodes.length ∧ (∀ b:Nat,l[b]? = some true → DepOn c.nodes a b) ∧ ∀ (d:Bool) (H:a03),a0g L.env d (sem L.env Mf) (.func (.func 146) [] []) [.agg c.enc,.int .i64 a] H = some (.islice (l.map b1y) (some c.nodes.length),H,[]):=by
 obtain ⟨r,⟨l,h1,h2,rfl⟩,h3⟩:=d8h c h a ha
 exact ⟨l,h1,h2,fun d H=>a04 (by kernel_rfl) (by kernel_rfl) rfl (by simp only [a0a,a1e,Cir.enc,go_sem]) h3 rfl⟩
theorem c0g {l:List Bool} {b n:Nat} (hl:l.length = n) (hb:b < n) {P:Prop} (h:l[b]? = some true → P) (hP:¬ P):l[b]? = some false:=by
 obtain ⟨q,hq⟩:∃ q,l[b]? = some q:=⟨_,z9e (by omega)⟩
 cases q with
 | false=>exact hq
 | true=>exact absurd (h hq) hP
theorem d07 (c:Cir) (h:c.wf) (f:Flt) (hf:FltOk c.nodes f) (hm:f.model ≠ 0):sem L.env Mf 114 [.agg c.enc,.agg f.enc] [] = some (.int .i64 0,[]):=by
 obtain ⟨b1,b2,b3,b4,b5,b6,b7,b8⟩:=hf.bridge hm
 obtain ⟨x,hx⟩:∃ x,c.nodes[f.node]? = some x:=⟨_,z9e hf.node⟩
 obtain ⟨y,hy⟩:∃ y,c.nodes[f.other]? = some y:=⟨_,z9e hf.other⟩
 rw [a18 hx] at b5
 rw [a18 hy] at b6
 obtain ⟨l1,l1n,l1r,hc1⟩:=c0t c h f.node hf.node
 obtain ⟨l2,l2n,l2r,hc2⟩:=c0t c h f.other hf.other
 have g1:=c0g l1n hf.other (l1r f.other) b7
 have g2:=c0g l2n hf.node (l2r f.node) b8
 have hc1:=hc1 false
 have hc2:=hc2 false
 have c0:¬ (f.other:Int) < 0:=by omega
 have c1:¬ (c.nodes.length:Int) ≤ f.other:=by have:=hf.other;omega
 have c2:¬ (f.node:Int) = f.other:=by omega
 have c3:¬ (x.kind:Int) = 12:=by omega
 have c4:¬ (y.kind:Int) = 12:=by omega
 have hn1:=hf.node
 have hn2:=hf.other
 have hmm:f.model = 2 ∨ f.model = 3:=by rcases hf.model with e|e|e;exact absurd e hm;exact .inl e;exact .inr e
 simp only [Cir.enc] at hc1 hc2
 simp only [Cir.enc,Flt.enc]
 rw [b1]
 rcases hmm with e|e
 ·have c5:¬ (f.other:Int) < f.node:=by have:=b3 e;omega
  rw [e]
  (refine sv Tryz.f114 ?_;simp only [Tryz.f114,gS])
  (repeat first|simp only [ww]|(apply xa;simp +decide only [go_sem,c0,c1,c2,c3,c4,c5,hx,hy,hc1,hc2,g1,g2,hn1,hn2];rfl;kernel_rfl))
  (apply fqb;simp +decide only [go_sem]<;>rfl)
 ·have hv:=b4 e
  rw [e,hv]
  (refine sv Tryz.f114 ?_;simp only [Tryz.f114,gS])
  (repeat first|simp only [ww]|(apply xa;simp +decide only [go_sem,c0,c1,c2,c3,c4,hx,hy,hc1,hc2,g1,g2,hn1,hn2];rfl;kernel_rfl))
  (apply fqb;simp +decide only [go_sem]<;>rfl)
theorem c9m (c:Cir) (h:c.wf) (f:Flt) (hf:FltOk c.nodes f):sem L.env Mf 75 [.agg c.enc,.agg f.enc] [] = some (.int .i64 0,[]):=by
 have hv:=fun H=>b4n (d:=false) H c h
 have hl:=fun H=>c5v (d:=false) H c h f.node f.pin hf.node hf.pin.1 hf.pin.2
 have hval:=hf.value
 have c2:¬ (1:Int) < f.value:=by omega
 by_cases hm:f.model = 0
 ·have ho:=hf.stuck hm
  simp only [Cir.enc] at hv hl
  simp only [Cir.enc,Flt.enc,hm,ho]
  (refine sv Tryz.f75 ?_;simp only [Tryz.f75,gS])
  (repeat first|simp only [ww]|(apply xa;simp +decide only [go_sem,hv,hl,c2];rfl;kernel_rfl))
  (apply fqb;simp +decide only [go_sem]<;>rfl)
 ·have hb:=fun H=>a04 (E:=L.env) (draw:=false) (call:=sem L.env Mf) (g:=114) (fs:=[]) (cs:=[]) (ar:=[.agg c.enc,.agg f.enc]) (H:=H) (by kernel_rfl) (by kernel_rfl) rfl (by simp only [List.nil_append,List.append_nil,a0a,a1e,Cir.enc,go_sem]) (d07 c h f hf hm) rfl
  have hmm:f.model = 2 ∨ f.model = 3:=by rcases hf.model with e|e|e;exact absurd e hm;exact .inl e;exact .inr e
  have c1:¬ (3:Int) < f.model:=by omega
  have c3:(2:Int) ≤ f.model:=by omega
  simp only [Cir.enc] at hv hl
  simp only [Cir.enc,Flt.enc] at hb ⊢
  (refine sv Tryz.f75 ?_;simp only [Tryz.f75,gS])
  (repeat first|simp only [ww]|(apply xa;simp +decide only [go_sem,hv,hl,c1,c2,c3,hb];rfl;kernel_rfl))
  (apply fqb;simp +decide only [go_sem]<;>rfl)
theorem c2o {d:Bool} (H:a03) (c:Cir) (h:c.wf) (f:Flt) (hf:FltOk c.nodes f):a0g L.env d (sem L.env Mf) (.func (.func 75) [] []) [.agg c.enc,.agg f.enc] H = some (.int .i64 0,H,[]):=
 a04 (by kernel_rfl) (by kernel_rfl) rfl (by simp only [a0a,a1e,Cir.enc,go_sem]) (c9m c h f hf) rfl
/- the statements' own check of a bridge -/
structure FX where
 model:Nat
 node:Nat
 pin:Nat
 other:Nat
 one:Bool
def FX.enc (f:FX):List AV:=[.int .u8 f.model,.int .u8 f.node,.int .u8 f.pin,.int .u8 f.other,.bool f.one]
structure FX.ok (f:FX):Prop where
 model:f.model < 256
 node:f.node < 256
 pin:f.pin < 256
 other:f.other < 256
attribute [go_sem] FX.enc
theorem c6z {nodes:List Nd} {a p v:Nat} {x:Nd} (hx:nodes[a]? = some x) (hv:v ≤ 1):FltOk nodes ⟨0,a,((p % (x.ins.length + 1):Nat):Int) - 1,v,0⟩:=by
 have ha:=(List.getElem?_eq_some_iff.1 hx).1
 have hp:=Nat.mod_lt p (show 0 < x.ins.length + 1 by omega)
 refine ⟨.inl rfl,ha,?_,hv,by show 0 < nodes.length;omega,fun _=>rfl,fun h=>absurd rfl h⟩
 show -1 ≤ ((p % (x.ins.length + 1):Nat):Int) - 1 ∧ ((p % (x.ins.length + 1):Nat):Int) - 1 < (a17 nodes a).length
 rw [a29 hx]
 generalize p % (x.ins.length + 1) = q at hp ⊢
 omega
attribute [go_sem] Pat.enc
structure PatOk (nodes:List Nd) (p:Pat):Prop where
 ins:p.ins.length = (kinds nodes 0).length
 sts:p.sts.length = (kinds nodes 14).length
 inv:∀ v ∈ p.ins,v ≤ 3
 stv:∀ v ∈ p.sts,v ≤ 3
theorem a6f (nodes:List Nd) (k:Nat):(kinds nodes k).length ≤ nodes.length:=b0e _ _ _
/- patterns that fit -/
theorem d4f (v:Nat) (hv:v ≤ 3):sem L.env Mf 55 [.int .u8 v] [] = some (.bool false,[]):=by
 have c1:¬ (3:Int) < v:=by omega
 (refine sv Tryz.f55 ?_;simp only [Tryz.f55,gS])
 (repeat first|simp only [ww]|(apply xa;simp +decide only [go_sem,c1];rfl;kernel_rfl))
 (apply fqb;simp +decide only [go_sem]<;>rfl)
theorem c6h {d:Bool} (H:a03) (v:Nat) (hv:v ≤ 3):a0g L.env d (sem L.env Mf) (.func (.func 55) [] []) [.int .u8 v] H = some (.bool false,H,[]):=
 a04 (by kernel_rfl) (by kernel_rfl) rfl rfl (d4f v hv) rfl
def a9i:AV:=.func (.func 55) [] []
theorem c8v (r:Rep) (l:List Nat) (hl:l.length < 1000000) (hc:∀ v ∈ l,v ≤ 3) :
 sem L.env Mf 98 [sl r (l.map u8R),a9i] [] = some (.int .i64 (-1),[]):=by
 unfold a9i
 (refine sv Tryz.f98 ?_;simp only [Tryz.f98,gS])
 (repeat first|simp only [ww]|(apply xa;simp +decide only [go_sem];rfl;kernel_rfl))
 refine a0x (σ:=Nat) kp98_0 (fun i=>[(0,sl r (l.map u8R)),(1,a9i),(7,.int .i64 l.length),(8,.int .i64 i)])
  (fun _=>[]) (fun i=>l.length - i) (fun i=>i ≤ l.length) 0 ?_ (Nat.zero_le _) ?_
 ·unfold a9i
  (simp +decide only [go_sem,a02,a00]<;>rfl)
 ·intro i hi
  unfold a9i
  by_cases hlt:i < l.length
  ·obtain ⟨x,hx⟩:∃ x,l[i]? = some x:=⟨_,z9e hlt⟩
   have c1:(i:Int) < l.length:=by omega
   have hw:=wI1 (n:=i) (by omega)
   have hcx:=fun H=>c6h (d:=false) H x (hc x (List.mem_of_getElem? hx))
   (repeat first|simp only [ww]|(apply xa;simp +decide only [go_sem,c1,hlt,hx,hw,hcx];rfl;kernel_rfl))
   refine a1y (i + 1) ?_ (by omega) (by omega)
   (simp +decide only [go_sem,a02,a00,a9i]<;>rfl)
  ·obtain rfl:i = l.length:=by omega
   have c1:¬ (l.length:Int) < l.length:=by omega
   (repeat first|simp only [ww]|(apply xa;simp +decide only [go_sem,c1];rfl;kernel_rfl))
   (apply fqb;simp +decide only [go_sem]<;>rfl)
theorem c62 (r:Rep) (l:List Nat) (hl:l.length < 1000000) (hc:∀ v ∈ l,v ≤ 3) :
 sem L.env Mf 54 [sl r (l.map u8R),a9i] [] = some (.bool false,[]):=by
 have h:=fun H=>a04 (E:=L.env) (draw:=false) (call:=sem L.env Mf) (g:=98) (fs:=[]) (cs:=[]) (ar:=[sl r (l.map u8R),a9i]) (H:=H) (by kernel_rfl) (by kernel_rfl) rfl (by simp only [List.nil_append,List.append_nil,a0a,a9i,go_sem]) (c8v r l hl hc) rfl
 have c1:¬ (0:Int) ≤ -1:=by omega
 unfold a9i at h ⊢
 (refine sv Tryz.f54 ?_;simp only [Tryz.f54,gS])
 (repeat first|simp only [ww]|(apply xa;simp +decide only [go_sem,h,c1];rfl;kernel_rfl))
 (apply fqb;simp +decide only [go_sem]<;>rfl)
theorem b6v {d:Bool} (H:a03) (r:Rep) (l:List Nat) (hl:l.length < 1000000) (hc:∀ v ∈ l,v ≤ 3):a0g L.env d (sem L.env Mf) (.func (.func 54) [] []) [sl r (l.map u8R),.func (.func 55) [] []] H = some (.bool false,H,[]):=
 a04 (by kernel_rfl) (by kernel_rfl) rfl (by simp only [List.nil_append,List.append_nil,a0a,go_sem]) (c62 r l hl hc) rfl
theorem d7n (c:Cir) (h:c.wf):kinds c.nodes 15 = []:=by
 unfold kinds a3k
 rw [List.filter_eq_nil_iff]
 intro j hj
 have hj:j < c.nodes.length:=by simpa using hj
 obtain ⟨x,hx⟩:∃ x,c.nodes[j]? = some x:=⟨_,z9e hj⟩
 have:=h.kind x (List.mem_of_getElem? hx)
 rw [a18 hx]
 simp;omega
theorem c9j (c:Cir) (h:c.wf) (p:Pat) (hp:PatOk c.nodes p):sem L.env Mf 22 [.agg c.enc,.agg p.enc] [] = some (.int .i64 0,[]):=by
 have hn:=h.len
 have hk0:=a6f c.nodes 0
 have hk14:=a6f c.nodes 14
 have l1:=hp.ins
 have l2:=hp.sts
 have ho:=fun X Y=>b7v (d:=false) (H:=[X,Y,some (.row 1 [[.int .u8 15]])]) (b:=2) c (k:=15) rfl (by omega) rfl
 rw [d7n c h,c3t] at ho
 have hi:=fun H=>b4j (d:=true) H c (by omega)
 have hs:=fun H=>a7d (d:=true) H c (by omega)
 obtain ⟨r0,e0⟩:=a8l (kinds c.nodes 0)
 obtain ⟨r1,e1⟩:=a8l (kinds c.nodes 14)
 rw [e0] at hi
 rw [e1] at hs
 have hc1:=fun H=>b6v (d:=false) H p.ic p.ins (by omega) hp.inv
 have hc2:=fun H=>b6v (d:=false) H p.sc p.sts (by omega) hp.stv
 simp only [Cir.enc] at ho hi hs
 simp only [Cir.enc,Pat.enc]
 (refine sv Tryz.f22 ?_;simp only [Tryz.f22,gS])
 (repeat first|simp only [ww]|(apply xa;simp +decide only [go_sem,ho,hi,hs,hc1,hc2,l1,l2];rfl;kernel_rfl))
 (apply fqb;simp +decide only [go_sem]<;>rfl)
theorem c76 (c:Cir) (h:c.wf) (p:Pat) (hp:PatOk c.nodes p):sem L.env Mf 78 [.agg c.enc,.agg p.enc] [] = some (.int .i64 0,[]):=by
 have hc:=fun H=>b3z (d:=false) H c h
 have hf:=fun H=>a04 (E:=L.env) (draw:=false) (call:=sem L.env Mf) (g:=22) (fs:=[]) (cs:=[]) (ar:=[.agg c.enc,.agg p.enc]) (H:=H) (by kernel_rfl) (by kernel_rfl) rfl (by simp only [List.nil_append,List.append_nil,a0a,a1e,Cir.enc,Pat.enc,go_sem]) (c9j c h p hp) rfl
 simp only [Cir.enc,Pat.enc] at hc hf ⊢
 (refine sv Tryz.f78 ?_;simp only [Tryz.f78,gS])
 (repeat first|simp only [ww]|(apply xa;simp +decide only [go_sem,hc,hf];rfl;kernel_rfl))
 (apply fqb;simp +decide only [go_sem]<;>rfl)
theorem c1t {d:Bool} (H:a03) (c:Cir) (h:c.wf) (p:Pat) (hp:PatOk c.nodes p):a0g L.env d (sem L.env Mf) (.func (.func 78) [] []) [.agg c.enc,.agg p.enc] H = some (.int .i64 0,H,[]):=
 a04 (by kernel_rfl) (by kernel_rfl) rfl (by simp only [a0a,a1e,Cir.enc,Pat.enc,go_sem]) (c76 c h p hp) rfl
end Go.TInst
