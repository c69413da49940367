/- Part of a proof. No condition. -/
import Derived.Test.YtmiegcjnimlbmaaGreatDoorUNe
import Derived.Test.YtmiegcjnimlbmaaGreatDoorUTa
import Derived.Test.YtmiegcjnimlbmaaGreatDoorAxD
set_option linter.unusedSimpArgs false
set_option linter.unusedVariables false
namespace Go.UInst
set_option maxHeartbeats 200000000
open Go.Proofs Go.Ax Go.Pc
set_option maxRecDepth 100000
def foQ(qs:List (List Nat)):List (List (List AV)):=qs.map λq=>q.map u8R
theorem a78(qs:List (List Nat)):(foQ qs).length=qs.length:=by simp[foQ]
inductive InS(c:Cir)(qs:List (List Nat))(V:AV)(cb:Nat)(H:a02):Prop
 |nil:qs=[]→V = .nilslice→cb=0→H=[some (.row 4 [[sl c.nc (c.nodes.map Nd.enc),sl c.mc (c.names.map a1h),.nilslice,sl c.oc (c.outs.map a0h)]])]→InS c qs V cb H
 |some (b:Nat) (ids:Nat→Nat):qs≠[]→V = .slice b 0 qs.length none→a01 H cb=some (.row 4 [[sl c.nc (c.nodes.map Nd.enc),sl c.mc (c.names.map a1h),.nilslice,sl c.oc (c.outs.map a0h)]])→Two H b 1 ids cpN (foQ qs)→InS c qs V cb H
theorem d8u(c:Cir)(hc:c.wf)(hk:kinds c.nodes 0≠[])(pr:Rep)(ps:List Pat)(hps:∀p∈ps,PxOk p)(hpl:ps.length≤8) :
 ∃r:AV×a02,(∃qs:List (List Nat),qs.length=ps.length∧(∀q∈qs,q.length=(kinds c.nodes 0).length∧∀v∈q,v≤3)∧((qs=[]∧r=(.nilslice,[]))∨∃b ids L,qs≠[]∧r=(.slice b 0 qs.length none,L)∧Two L b 1 ids cpN (foQ qs)))∧
 sem L.env Mf 16 [.agg c.enc,sl pr (ps.map Pat.enc)] []=some r:=by
 have hpo:=λp hp=>c8b c hc hk p (hps p hp);have hCf:∀π:Nat→Option Nat,a0f π (.row 4 [[sl c.nc (c.nodes.map Nd.enc),sl c.mc (c.names.map a1h),.nilslice,sl c.oc (c.outs.map a0h)]]) = .row 4 [[sl c.nc (c.nodes.map Nd.enc),sl c.mc (c.names.map a1h),.nilslice,sl c.oc (c.outs.map a0h)]]:=λπ=>by simp+decide only[go_sem]
 have hCr:a0y (some (.row 4 [[sl c.nc (c.nodes.map Nd.enc),sl c.mc (c.names.map a1h),.nilslice,sl c.oc (c.outs.map a0h)]]))=[]:=by simp+decide only[go_sem]
 simp only[Cir.enc,Pat.enc]at hpo⊢
 (refine svE Tryz.f16 ?_;simp only[Tryz.f16,gS])
 (repeat first|simp only[ww]|(apply xa;simp+decide only[go_sem];rfl;kernel_rfl))
 refine a4j kp16_0 (λn F H=>∃(qs:List (List Nat)) (V:AV) (cb:Nat),n=ps.length-qs.length∧qs.length≤ps.length∧(∀q∈qs,q.length=(kinds c.nodes 0).length∧∀v∈q,v≤3)∧F=[(1,sl pr (ps.map Pat.enc)),(2,.ptr cb 0 0),(5,V),(6,.int .i64 qs.length)]∧InS c qs V cb H) ps.length ?_ ?_
 ·refine⟨_,[some (.row 4 [[sl c.nc (c.nodes.map Nd.enc),sl c.mc (c.names.map a1h),.nilslice,sl c.oc (c.outs.map a0h)]])],?_,[],.nilslice,0,rfl,Nat.zero_le _,by simp,rfl,.nil rfl rfl rfl rfl⟩
  (simp+decide only[go_sem,a03,a00,hCf,hCr,Pat.enc]<;>rfl)<;>rfl
 ·rintro n F H ⟨qs,V,cb,rfl,hql,hqo,rfl,hS⟩
  by_cases hlt:qs.length<ps.length
  ·obtain⟨p,hp⟩:∃p,ps[qs.length]?=some p:=⟨_,z9e hlt⟩
   obtain⟨a,b,hab,_,hcall⟩:=hpo p (List.mem_of_getElem? hp);have c1:(qs.length:Int)<ps.length:=by omega
   have hw:=wI1 (n:=qs.length) (by omega);have hpe:Pat.enc p=[sl p.ic (p.ins.map u8R),sl p.sc (p.sts.map u8R)]:=rfl;have ha0:a≠[]:=by intro e;have:=hab.ins;rw[e]at this;exact hk (List.eq_nil_of_length_eq_zero this.symm)
   have hqo':∀x∈qs++[a],x.length=(kinds c.nodes 0).length∧∀v∈x,v≤3:=by
    intro x hx;rcases List.mem_append.1 hx with hx|hx
    ·exact hqo x hx
    ·rw[List.mem_singleton.1 hx];exact⟨hab.ins,hab.inv⟩
   have hne:a.map u8R≠[]:=by intro e;exact ha0 (List.map_eq_nil_iff.1 e)
   have hfa:FlatR (a.map u8R):=FlatR.map λ_=>rfl;have head:∀(cb1 b1:Nat) (ids1:Nat→Nat) (H2:a02) (F1:Frm),a01 H2 cb1=some (.row 4 [[sl c.nc (c.nodes.map Nd.enc),sl c.mc (c.names.map a1h),.nilslice,sl c.oc (c.outs.map a0h)]])→Two H2 b1 1 ids1 cpN (foQ (qs++[a]))→a0e ((a1r [1,2,5,6] F1).map (·.2))=[cb1,b1]→
    (∀π,b5m π (a1r [1,2,5,6] F1)=[(1,sl pr (ps.map Pat.enc)),(2,ren π (.ptr cb1 0 0)),(5,ren π (.slice b1 0 (qs.length+1) none)),(6,.int .i64 (qs.length+1:Nat))])→
    ∃F H,gcD 0 [1,2,5,6] F1 H2=some (F,H)∧∃(qs':List (List Nat)) (V:AV) (cb:Nat),ps.length-(qs.length+1)=ps.length-qs'.length∧qs'.length≤ps.length∧(∀q∈qs',q.length=(kinds c.nodes 0).length∧∀v∈q,v≤3)∧F=[(1,sl pr (ps.map Pat.enc)),(2,.ptr cb 0 0),(5,V),(6,.int .i64 qs'.length)]∧InS c qs' V cb H:=by
    intro cb1 b1 ids1 H2 F1 h1 hT hF1 hF2;refine hT.headX [cb1] (by intro x hx;rw[List.mem_singleton]at hx;subst hx;rw[h1];exact hCr) (by rw[hF1];simp) (by rw[hF1];simp) (by rw[hF1];simp) (by rw[hF1];simp) (by rw[a78,List.length_append];simp;omega) ?_;intro π b' ids' H3 hb hT2 hX;obtain⟨cb',e1,e2⟩:=hX cb1 (by simp);refine⟨qs++[a],.slice b' 0 (qs.length+1) none,cb',by simp,by simp;omega,hqo',?_,.some b' ids' (by simp) (by simp) ?_ hT2⟩
    ·rw[hF2];simp+decide only[go_sem,e1,hb,List.length_append,List.length_singleton]<;>rfl
    ·rw[e2,h1];show some (a0f π _)=_;rw[hCf]
   cases hS with
   |nil h1 h2 h3 h4=>
    subst h1 h2 h3 h4;simp only[List.length_nil]at c1 hw hlt hp head;cases b with
    |nil=>
     simp only[ptH,List.map_nil,a0t,a0u,List.append_nil]at hcall
     (repeat first|simp only[ww]|(apply xa;simp+decide only[go_sem,c1,hlt,hp,hpe,hcall,hw,List.length_nil,List.length_map];rfl;kernel_rfl))
     exact a1j (ps.length-1) (by simp;omega) (head 0 6 (λ_=>4) _ _ rfl (Two.one hne hfa (by omega) (by rw[List.length_map];rfl) rfl) (by simp+decide only[go_sem]<;>rfl) (λπ=>by simp+decide only[go_sem]<;>rfl))
    |cons y b'=>
     simp only[ptH,List.map_cons,a0b,a0c,List.cons_append,List.nil_append,List.length_map]at hcall
     (repeat first|simp only[ww]|(apply xa;simp+decide only[go_sem,c1,hlt,hp,hpe,hcall,hw,List.length_nil,List.length_map];rfl;kernel_rfl))
     exact a1j (ps.length-1) (by simp;omega) (head 0 7 (λ_=>4) _ _ rfl (Two.one hne hfa (by omega) (by rw[List.length_map];rfl) rfl) (by simp+decide only[go_sem]<;>rfl) (λπ=>by simp+decide only[go_sem]<;>rfl))
   |some b1 ids h1 h2 h3 hT=>
    subst h2;have hcl:=a1c h3;have hbl:=a1c hT.top;have htop:=hT.top;have hrl:(a2c ids cpN (foQ qs)).length=qs.length:=by rw[a2l,a78]
    have htk:(a2c ids cpN (foQ qs)).take qs.length=a2c ids cpN (foQ qs):=List.take_of_length_le (by omega);have hrm:qs.length+1≤1000000000:=by omega
    obtain⟨hac,_⟩:=hT.apart h3 (by omega) (by omega);have hsn:∀(L:a02) (t:Nat),3<t→a01 L t=some (.row 1 (a2c ids cpN (foQ qs)++[[.slice (H.length+3) 0 a.length none]]))→a01 L 3=some (.row 1 (a.map u8R))→Two (H.set b1 none++L) (H.length+t) 1 (λj=>if j=(foQ qs).length then H.length+3 else ids j) cpN (foQ (qs++[a])):=by
     intro L t ht h5 h6;have e:foQ (qs++[a])=foQ qs++[a.map u8R]:=by simp[foQ]
     rw[e];exact hT.snoc hne hfa (by omega) (by omega) (by omega) (by rw[a5v,h5,List.length_map];rfl) (by rw[a5v,h6]) (λj g hg hn=>by rw[a39 (a1c (hT.sub j g hg hn).1),if_neg (Ne.symm (hT.sub j g hg hn).2)])
    cases b with
    |nil=>
     simp only[ptH,List.map_nil,a0t,a0u,List.append_nil]at hcall
     (repeat first|simp only[ww]|(apply xa;simp+decide only[go_sem,c1,List.length_map];rfl;kernel_rfl))
     (repeat first|simp only[ww]|((with_reducible first|apply xs3|apply xI);(·simp+decide only[go_sem,c1,hlt,hp,hpe,hcall,hw,h3,htop,hcl,hbl,hrl,htk,hrm,a5v,a6q,a6a,a77,b0h,b5g,b98,b0s,a9w,List.length_map,List.append_assoc,List.cons_append,List.nil_append];rfl);first|with_reducible apply xT|with_reducible apply xF|(·repeat' (first|exact b7o|exact b7d|refine b3d ?_ ?_|refine b7c (by simp only[List.length_cons,List.length_nil];decide+kernel) ?_|refine b7e (b4a (by simp<;>omega) (by simp<;>omega) (by simp<;>omega)) ?_))))
     (repeat first|simp only[ww]|(apply xa;simp+decide only[go_sem,hw];rfl;kernel_rfl))
     exact a1j (ps.length-(qs.length+1)) (by omega) (head cb (H.length+5) _ _ _ (by rw[a39 hcl,if_neg (Ne.symm hac),h3]) (hsn _ 5 (by omega) rfl rfl) (by simp+decide only[go_sem]<;>rfl) (λπ=>by simp+decide only[go_sem]<;>rfl))
    |cons y b'=>
     simp only[ptH,List.map_cons,a0b,a0c,List.cons_append,List.nil_append,List.length_map]at hcall
     (repeat first|simp only[ww]|(apply xa;simp+decide only[go_sem,c1,List.length_map];rfl;kernel_rfl))
     (repeat first|simp only[ww]|((with_reducible first|apply xs3|apply xI);(·simp+decide only[go_sem,c1,hlt,hp,hpe,hcall,hw,h3,htop,hcl,hbl,hrl,htk,hrm,a5v,a6q,a6a,a77,b0h,b5g,b98,b0s,a9w,List.length_map,List.append_assoc,List.cons_append,List.nil_append];rfl);first|with_reducible apply xT|with_reducible apply xF|(·repeat' (first|exact b7o|exact b7d|refine b3d ?_ ?_|refine b7c (by simp only[List.length_cons,List.length_nil];decide+kernel) ?_|refine b7e (b4a (by simp<;>omega) (by simp<;>omega) (by simp<;>omega)) ?_))))
     (repeat first|simp only[ww]|(apply xa;simp+decide only[go_sem,hw];rfl;kernel_rfl))
     exact a1j (ps.length-(qs.length+1)) (by omega) (head cb (H.length+6) _ _ _ (by rw[a39 hcl,if_neg (Ne.symm hac),h3]) (hsn _ 6 (by omega) rfl rfl) (by simp+decide only[go_sem]<;>rfl) (λπ=>by simp+decide only[go_sem]<;>rfl))
  ·have e:qs.length=ps.length:=by omega
   have c1:¬(qs.length:Int)<ps.length:=by omega
   cases hS with
   |nil h1 h2 h3 h4=>
    subst h2 h3 h4
    (repeat first|simp only[ww]|(apply xa;simp+decide only[go_sem,c1,List.length_map];rfl;kernel_rfl))
    refine a2v (vs:=[.nilslice]) (r:=(.nilslice,[])) (by simp+decide only[go_sem]<;>rfl) ?_ ⟨qs,e,hqo,.inl ⟨h1,rfl⟩⟩;rfl
   |some b1 ids h1 h2 h3 hT=>
    subst h2
    (repeat first|simp only[ww]|(apply xa;simp+decide only[go_sem,c1,List.length_map];rfl;kernel_rfl))
    refine a2v (vs:=[.slice b1 0 qs.length none]) (r:=(.slice b1 0 qs.length none,H)) (by simp+decide only[go_sem]<;>rfl) ?_ ⟨qs,e,hqo,.inr ⟨b1,ids,H,h1,rfl,hT⟩⟩;rfl
theorem c9l(c:Cir)(hc:c.wf)(hk:kinds c.nodes 0≠[])(pr:Rep)(ps:List Pat)(hps:∀p∈ps,PxOk p)(hpl:ps.length≤8) :
 ∃qs:List (List Nat),qs.length=ps.length∧(∀q∈qs,q.length=(kinds c.nodes 0).length∧∀v∈q,v≤3)∧((qs=[]∧∀(d:Bool) (H:a02),a0a L.env d (sem L.env Mf) (.func (.func 16) [] []) [.agg c.enc,sl pr (ps.map Pat.enc)] H=some (.nilslice,H,[]))∨
  ∃(b:Nat) (ids:Nat→Nat) (LL:a02→a02),qs≠[]∧(∀(d:Bool) (H:a02),a0a L.env d (sem L.env Mf) (.func (.func 16) [] []) [.agg c.enc,sl pr (ps.map Pat.enc)] H=some (.slice (H.length+b) 0 qs.length none,H++LL H,[]))∧∀H,Two (H++LL H) (H.length+b) 1 (λj=>H.length+ids j) cpN (foQ qs)):=by
 obtain⟨r,⟨qs,h1,h2,h3⟩,h⟩:=d8u c hc hk pr ps hps hpl;refine⟨qs,h1,h2,?_⟩;have hr:a0e [.agg c.enc,sl pr (ps.map Pat.enc)]=[]:=by simp only[a07,a1b,a12,List.append_nil];exact a3q _
 have hh:=λ(d:Bool) (H:a02)=>a9g (E:=L.env) (d:=d) (H:=H) (fs:=[]) (cs:=[]) (ar:=[.agg c.enc,sl pr (ps.map Pat.enc)]) (by kernel_rfl) (by kernel_rfl) rfl (by simpa using hr) h;rcases h3 with ⟨e,rfl⟩|⟨b,ids,L',hne,rfl,hT⟩
 ·refine .inl ⟨e,λd H=>(hh d H).trans ?_⟩;simp[ren]
 ·exact .inr ⟨b,ids,λH=>L'.map (Option.map (a0f (a19 [] H.length))),hne,λd H=>by rw[hh];simp[ren,b4k],λH=>hT.shift H⟩
end Go.UInst
