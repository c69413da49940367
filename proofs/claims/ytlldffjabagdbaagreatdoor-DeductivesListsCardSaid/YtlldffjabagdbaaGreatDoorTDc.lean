/- Part of a proof. No condition. -/
import Derived.Test.YtlldffjabagdbaaGreatDoorTDb
import Derived.Test.YtlldffjabagdbaaGreatDoorTOf
import Derived.Test.YtlldffjabagdbaaGreatDoorTFl
import Derived.Test.YtlldffjabagdbaaGreatDoorTIo
import Derived.Test.YtlldffjabagdbaaGreatDoorAxF
set_option linter.unusedSectionVars false
set_option linter.unusedSimpArgs false
set_option linter.unusedVariables false
namespace Go.TInst
open Go.Proofs Go.Ax Go.Pc
set_option maxRecDepth 100000
structure StOk (c:Cir) (g:Flt):Prop where
 ok:FltOk c.nodes g
 m0:g.model = 0
theorem d90 (c:Cir) (h:c.wf) (f:FX) (hf:f.ok):∃ g,StOk c g ∧ sem L.env Mf 38 [.agg (FX.enc { f with model:=0 }),.agg c.enc] [] = some (.agg g.enc,[]):=by
 obtain ⟨f1,f2,f3,f4⟩:=hf
 have hn:=h.len
 have hp:=h.pos
 have c0:¬ (c.nodes.length:Int) = 0:=by omega
 have hnd:f.node % c.nodes.length < c.nodes.length:=Nat.mod_lt _ hp
 have w2:=wI (n:=f.node) (by omega)
 have w3:=wI (n:=f.node % c.nodes.length) (by omega)
 have w6:=wI (n:=f.pin) (by omega)
 have w0:IntKind.u8.wrap 0 = 0:=rfl
 generalize hN1:f.node % c.nodes.length = nd at hnd w3
 obtain ⟨x,hx⟩:∃ x,c.nodes[nd]? = some x:=⟨_,z9e hnd⟩
 have hil:=h.insl (List.mem_of_getElem? hx)
 have hq:=Nat.mod_lt f.pin (show 0 < x.ins.length + 1 by omega)
 have p1:IntKind.i64.wrap ((x.ins.length:Int) + 1) = ((x.ins.length + 1:Nat):Int):=wI1 (by omega)
 have p2:IntKind.i64.wrap ((f.pin % (x.ins.length + 1):Nat):Int) = ((f.pin % (x.ins.length + 1):Nat):Int):=wI (by omega)
 have p3:IntKind.i64.wrap (((f.pin % (x.ins.length + 1):Nat):Int) - 1) = ((f.pin % (x.ins.length + 1):Nat):Int) - 1:=w64 (by omega) (by omega)
 have p4:¬ ((x.ins.length + 1:Nat):Int) = 0:=by omega
 cases ho:f.one
 ·refine ⟨⟨0,nd,((f.pin % (x.ins.length + 1):Nat):Int) - 1,0,0⟩,⟨c7q hx (by omega),rfl⟩,?_⟩
  simp only [Cir.enc,FX.enc,ho]
  (refine sv Tryz.f38 ?_;simp only [Tryz.f38,gS])
  (repeat first|simp only [ww]|(apply xa;simp +decide only [go_sem,c0,w2,w3,w6,w0,hN1,hx,hnd,p1,p2,p3,p4];rfl;kernel_rfl))
  (apply fqb;simp +decide only [go_sem,hx,hN1,p1,p2,p3,p4,Flt.enc]<;>rfl)
 ·refine ⟨⟨0,nd,((f.pin % (x.ins.length + 1):Nat):Int) - 1,1,0⟩,⟨c7q hx (by omega),rfl⟩,?_⟩
  simp only [Cir.enc,FX.enc,ho]
  (refine sv Tryz.f38 ?_;simp only [Tryz.f38,gS])
  (repeat first|simp only [ww]|(apply xa;simp +decide only [go_sem,c0,w2,w3,w6,w0,hN1,hx,hnd,p1,p2,p3,p4];rfl;kernel_rfl))
  (apply fqb;simp +decide only [go_sem,hx,hN1,p1,p2,p3,p4,Flt.enc]<;>rfl)
theorem d05 (c:Cir) (h:c.wf) (f:FX) (hf:f.ok):∃ g,StOk c g ∧ ∀ (d:Bool) (H:a03),a0c L.env d (sem L.env Mf) (.func (.func 38) [] []) [.agg (FX.enc { f with model:=0 }),.agg c.enc] H = some (.agg g.enc,H,[]):=by
 obtain ⟨g,h1,h2⟩:=d90 c h f hf
 exact ⟨g,h1,fun d H=>a04 (by kernel_rfl) (by kernel_rfl) rfl (by simp only [a0d,a1j,Cir.enc,FX.enc,go_sem]) h2 rfl⟩
def b88 (x:CX):CX:={ x with bus:=false }
theorem d2u {x:CX} (hx:x.ok):(b88 x).ok:=⟨hx.1,hx.2,hx.3,hx.4,hx.5,hx.6⟩
def a54 (x:CX):Cir:=(b34 (b88 x)).cir
theorem c8g (x:CX) (hx:x.ok):sem L.env Mf 7 [.agg x.enc] [] = some (.agg (a54 x).enc,[]):=by
 have hc:=fun H=>c1h (d:=false) H (b88 x) (d2u hx)
 rw [show (b34 (b88 x)).cir = a54 x from rfl] at hc
 generalize a54 x = c at hc
 simp only [go_sem,b88] at hc
 simp only [Cir.enc] at hc
 (refine sv Tryz.f7 ?_;simp only [Tryz.f7,gS])
 (repeat first|simp only [ww]|(apply xa;simp +decide only [go_sem,hc];rfl;kernel_rfl))
 (apply fqb;simp +decide only [go_sem,Cir.enc]<;>rfl)
theorem c2l {d:Bool} (H:a03) (x:CX) (hx:x.ok):a0c L.env d (sem L.env Mf) (.func (.func 7) [] []) [.agg x.enc] H = some (.agg (a54 x).enc,H,[]):=
 a04 (by kernel_rfl) (by kernel_rfl) rfl (by simp only [go_sem]) (c8g x hx) (b3a _)
theorem c0z (g:GX) (ks:List Nat):(a0l false g ks).kind ≠ 12 ∧ (a0l false g ks).kind ≠ 13:=by
 unfold a0l
 simp only [Bool.false_eq_true,if_false]
 have h9:g.kind % 9 < 9:=Nat.mod_lt _ (by omega)
 generalize g.kind % 9 = k at h9
 split
 ·split<;>(constructor<;>(show (5 + k:Nat) ≠ _;omega))
 split
 ·constructor<;>(show (4:Nat) ≠ _;omega)
 split
 ·constructor<;>(show (11:Nat) ≠ _;omega)
 split
 ·omega
 split
 ·omega
 split
 ·constructor<;>(show (1 + g.i0 % 2:Nat) ≠ _;omega)
 ·constructor<;>(show (3:Nat) ≠ _;omega)
theorem c4l:∀ (l:List GX) (ks:List Nat),∀ x ∈ gN false ks l,x.kind ≠ 12 ∧ x.kind ≠ 13
 | [],_,x,hx=>by simp [gN] at hx
 | g :: l,ks,x,hx=>by
  simp only [gN,List.mem_cons] at hx
  rcases hx with rfl|hx
  ·exact c0z g ks
  ·exact c4l l _ x hx
theorem c06 (x:CX):∀ n ∈ (a54 x).nodes,n.kind ≠ 12 ∧ n.kind ≠ 13:=by
 intro n hn
 have hn:n ∈ (b34 (b88 x)).nodes:=hn
 unfold CX.nodes at hn
 simp only [List.mem_append] at hn
 rcases hn with (hn|hn)|hn
 ·rw [List.eq_of_mem_replicate hn];constructor<;>(show (0:Nat) ≠ _;omega)
 ·unfold CX.dn at hn
  obtain ⟨v,_,rfl⟩:=List.mem_map.1 hn
  constructor<;>(show (14:Nat) ≠ _;omega)
 ·exact c4l _ _ n hn
structure Bits (c:Cir) (p:Pat):Prop where
 ok:PatOk c.nodes p
 b1:∀ v ∈ p.ins,v ≤ 1
 b2:∀ v ∈ p.sts,v ≤ 1
theorem b8h:∀ (is vs N:List Nat),(∀ v ∈ N,v ≤ 1) → (∀ v ∈ vs,v ≤ 1) → ∀ v ∈ a1w N is vs,v ≤ 1
 | [],vs,N,h,_=>by cases vs<;>exact h
 | _ :: _,[],N,h,_=>h
 | i :: is,w :: vs,N,h,hv=>by
  simp only [a1w]
  refine b8h is vs _ (fun v hm=>?_) (fun v hm=>hv v (List.mem_cons_of_mem _ hm))
  rcases List.mem_or_eq_of_mem_set hm with h1|h1
  ·exact h v h1
  ·rw [h1];exact hv w (List.mem_cons_self ..)
def c3c (c:Cir) (ord:List Nat) (p:Pat) (fs:List Flt):Ded:=⟨c.nodes,ord,a1w (a1w (List.replicate c.nodes.length 0) (kinds c.nodes 0) p.ins) (kinds c.nodes 14) p.sts,fs⟩
section
variable {c:Cir} (hc:c.wf) (hpl:∀ x ∈ c.nodes,x.kind ≠ 12 ∧ x.kind ≠ 13) (hO:c.outs ≠ []) {ord:List Nat} (hord:OrdOf c ord) {p:Pat} (hp:Bits c p) {fs:List Flt} (hf:∀ f ∈ fs,StOk c f) (hl:fs.length ≤ 1000)
include hc hpl hord hp hf hl
theorem d88:Mach0 c (c3c c ord p fs):=by
 have hget:∀ n,n < c.nodes.length → ∃ x,c.nodes[n]? = some x ∧ x ∈ c.nodes ∧ a0f c.nodes n = x.kind ∧ a1c c.nodes n = x.ins:=fun n hn=>by
  obtain ⟨x,hx⟩:∃ x,c.nodes[n]? = some x:=⟨_,z9e hn⟩
  exact ⟨x,hx,List.mem_of_getElem? hx,a14 hx,a1s hx⟩
 refine ⟨rfl,⟨hord.perm,hord.topo,fun n hn h=>?_,fun n hn m hm=>?_,fun n hn=>?_,fun n hn=>?_,fun n hn=>?_,?_,?_,fun f hm=>?_⟩,hl,by have:=hc.len;omega,hc.pos,fun x hx=>hc.insl hx,hc.kind⟩
 ·obtain ⟨x,_,hx,hk,_⟩:=hget n hn
  show a1l (a0f c.nodes n) = true
  have h:a0f c.nodes n ≠ 0 ∧ a0f c.nodes n ≠ 14:=h
  have k14:=hc.kind x hx
  rw [hk] at h ⊢
  have a:1 ≤ x.kind:=by omega
  have b:x.kind ≤ 13:=by omega
  simp [a1l,a,b]
 ·obtain ⟨x,_,hx,_,hi⟩:=hget n hn
  have hm:m ∈ a1c c.nodes n:=hm
  rw [hi] at hm
  exact hc.ins x hx m hm
 ·obtain ⟨x,_,hx,hk,hi⟩:=hget n hn
  show a1t (a0f c.nodes n) ≤ (a1c c.nodes n).length
  rw [hk,hi];exact hc.lo x hx
 ·obtain ⟨x,_,hx,hk,hi⟩:=hget n hn
  show (a1c c.nodes n).length ≤ a1y (a0f c.nodes n)
  rw [hk,hi];exact hc.hi x hx
 ·obtain ⟨x,_,hx,hk,_⟩:=hget n hn
  show a0f c.nodes n ≠ 12 ∧ a0f c.nodes n ≠ 13
  rw [hk];exact hpl x hx
 ·show (a1w (a1w _ _ _) _ _).length = _
  rw [a3f,a3f,List.length_replicate];rfl
 ·exact b8h _ _ _ (b8h _ _ _ (fun v hv=>by rw [List.eq_of_mem_replicate hv];omega) hp.b1) hp.b2
 ·have h:=hf f hm
  exact ⟨h.m0,h.ok.value,h.ok.pin.1,h.ok.node⟩
include hO
theorem d4q:DCalls c p (c3c c ord p fs):=by
 have hl2:=hp.ok.ins
 have hl3:=hp.ok.sts
 have h0:=a5m c.nodes 0
 have h14:=a5m c.nodes 14
 have hn:=hc.len
 refine ⟨⟨_,fun d H=>c3b (d:=d) H c hc⟩,fun f hm d H=>?_,fun d H=>?_,⟨a7l (a1r c.outs (a60 c ord p)),a7l (a51 c.nodes (a60 c ord p)),a3u _,a3u _,fun d H=>?_⟩,fun d H=>hord.call d H,hp.b1,hp.b2,by omega,by omega⟩
 ·exact b5c (d:=d) H c hc f (hf f hm).ok
 ·exact c2c (d:=d) H c hc p hp.ok
 ·exact a04 (E:=L.env) (draw:=d) (call:=sem L.env Mf) (H:=H) (g:=9) (fs:=[]) (cs:=[]) (ar:=[.agg c.enc,.agg p.enc]) (by kernel_rfl) (by kernel_rfl) rfl (by simp only [List.nil_append,List.append_nil,a0d,a1j,Cir.enc,Pat.enc,go_sem]) (c7y c hc hO p hp.ok ord hord) (by simp only [go_sem,a49,List.append_nil])
end
theorem d6h (x:BitVec 64) (k:Nat):∃ b:Nat,b ≤ 1 ∧ IntKind.u8.wrap (((x >>> k &&& BitVec.ofInt 64 1).toNat:Nat):Int) = (b:Int):=by
 have h:(x >>> k &&& BitVec.ofInt 64 1).toNat ≤ 1:=by
  rw [BitVec.toNat_and]
  exact Nat.and_le_right
 exact ⟨_,h,wB (n:=(x >>> k &&& BitVec.ofInt 64 1).toNat) (by omega)⟩
theorem d8w (c:Cir) (hc:c.wf) (hi0:kinds c.nodes 0 ≠ []) (x:BitVec 64):∃ r:AV × a03,(∃ p,Bits c p ∧ r = (.agg p.enc,[])) ∧ sem L.env Mf 8 [.agg [sl c.nc (c.nodes.map Nd.enc),sl c.mc (c.names.map a10),.nilslice,sl c.oc (c.outs.map a0b)],u64 x] [] = some r:=by
 have hn:=hc.len
 have hrr:∀ l:List Nat,(l.map u8R).flatMap a0h = []:=fun l=>a0o (a1g l)
 have hrn:∀ (π:Nat → Option Nat) (l:List Nat),(l.map u8R).map (fun r=>r.map (ren π)) = l.map u8R:=fun π l=>a0k π (a1g l)
 have hfz:∀ {m:Nat} {d:AV → Option AV} (l:List Nat),a9x m d (l.map u8R) = some (l.map u8R):=fun l=>a17 _ _ (a1g l)
 have h64:((BitVec.ofInt 64 64) = 0) = False:=by decide
 (refine svE Tryz.f8 ?_;simp only [Tryz.f8,gS])
 (repeat first|simp only [ww]|(apply xa;simp +decide only [go_sem];rfl;kernel_rfl))
 refine a4f kp8_0 (fun N F H=>∃ (i:Nat) (K:BitVec 64) (a:List Nat),N = c.nodes.length - i ∧ i ≤ c.nodes.length ∧ a.length = (a3q c.nodes 0 i).length ∧ (∀ v ∈ a,v ≤ 1) ∧
  F = [(1,u64 x),(2,.ptr 0 0 0),(4,.ptr 1 0 0),(5,.ptr 2 0 0),(6,u64 K),(7,.int .i64 (i:Nat))] ∧ H = [some (.row 4 [[sl c.nc (c.nodes.map Nd.enc),sl c.mc (c.names.map a10),.nilslice,sl c.oc (c.outs.map a0b)]]),some (.row 2 [[.nilslice,.nilslice]]),some (.row 2 [[grV 3 (a.map u8R),.nilslice]])] ++ grH 1 (a.map u8R)) (c.nodes.length - 0) ?_ ?_
 ·refine ⟨_,_,?_,0,0,[],rfl,Nat.zero_le _,rfl,by simp,rfl,rfl⟩
  (simp +decide only [go_sem,a02,a00,List.map_nil,a0s,a0t]<;>rfl)<;>rfl
 ·rintro N F H ⟨i,K,a,rfl,hi,hal,hab,rfl,rfl⟩
  have hle:=b11 c.nodes 0 i
  by_cases hlt:i < c.nodes.length
  ·obtain ⟨nd,hx⟩:∃ x,c.nodes[i]? = some x:=⟨_,z9e hlt⟩
   have c1:(i:Int) < c.nodes.length:=by omega
   have hw:=wI1 (n:=i) (by omega)
   have hs:=b0f c.nodes 0 i
   rw [a14 hx] at hs
   have hrm:a.length + 1 ≤ 1000000000:=by omega
   by_cases hk:nd.kind = 0
   ·rw [if_pos hk] at hs
    have hk':(nd.kind:Int) = 0:=by omega
    obtain ⟨b,hb1,hb2⟩:=d6h x (K % BitVec.ofInt 64 64).toNat
    have hl2:(a ++ [b]).length = (a3q c.nodes 0 (i + 1)).length:=by rw [hs,List.length_append,List.length_append,hal];rfl
    have hv2:∀ v ∈ a ++ [b],v ≤ 1:=fun v hv=>by rcases List.mem_append.1 hv with h|h;exact hab v h;rw [List.mem_singleton.1 h];exact hb1
    cases a with
    | nil=>
     (repeat first|simp only [ww]|(apply xa;simp +decide only [go_sem,c1,hlt,hx,hk',hw,h64,hb2,List.map_nil,a0s,a0t];rfl;kernel_rfl))
     refine a1m (c.nodes.length - (i + 1)) (by omega) ⟨_,_,?_,i + 1,K + BitVec.ofInt 64 1,[b],rfl,hlt,hl2,hv2,rfl,rfl⟩
     (simp +decide only [go_sem,a02,a00,List.map_cons,List.map_nil,a09,a0a,u8R,List.length_nil]<;>rfl)<;>rfl
    | cons a0 r=>
     simp only [List.length_cons] at hrm
     (repeat first|simp only [ww]|(apply xa;simp +decide only [go_sem,c1,hlt,hx,hk',hw,h64,hb2,List.map_cons,a09,a0a,hrm,List.length_map];rfl;kernel_rfl))
     refine a1m (c.nodes.length - (i + 1)) (by omega) ⟨_,_,?_,i + 1,K + BitVec.ofInt 64 1,a0 :: r ++ [b],rfl,hlt,hl2,hv2,rfl,rfl⟩
     (simp +decide only [go_sem,a02,a00,List.cons_append,List.map_cons,List.map_append,List.map_nil,a09,a0a,hrr,hrn,u8R,List.length_map,List.length_append,List.length_cons,List.length_nil]<;>rfl)<;>rfl
   ·rw [if_neg hk] at hs
    have hk':¬ (nd.kind:Int) = 0:=by omega
    rw [← hs] at hal
    cases a with
    | nil=>
     (repeat first|simp only [ww]|(apply xa;simp +decide only [go_sem,c1,hlt,hx,hk',hw,List.map_nil,a0s,a0t];rfl;kernel_rfl))
     refine a1m (c.nodes.length - (i + 1)) (by omega) ⟨_,_,?_,i + 1,K,[],rfl,hlt,hal,hab,rfl,rfl⟩
     (simp +decide only [go_sem,a02,a00,List.map_nil,a0s,a0t]<;>rfl)<;>rfl
    | cons a0 r=>
     (repeat first|simp only [ww]|(apply xa;simp +decide only [go_sem,c1,hlt,hx,hk',hw,List.map_cons,a09,a0a,List.length_map];rfl;kernel_rfl))
     refine a1m (c.nodes.length - (i + 1)) (by omega) ⟨_,_,?_,i + 1,K,a0 :: r,rfl,hlt,hal,hab,rfl,rfl⟩
     (simp +decide only [go_sem,a02,a00,List.map_cons,a09,a0a,hrr,hrn,u8R,List.length_map]<;>rfl)<;>rfl
  ·obtain rfl:i = c.nodes.length:=by omega
   have c1:¬ (c.nodes.length:Int) < c.nodes.length:=by omega
   cases a with
   | nil=>exact absurd (List.length_eq_zero_iff.1 hal.symm) hi0
   | cons a0 r=>
    have hAr:=hrr (a0 :: r)
    have hAn:=fun π=>hrn π (a0 :: r)
    have hAf:=fun (m:Nat) (d:AV → Option AV)=>hfz (m:=m) (d:=d) (a0 :: r)
    have hAl:((a0 :: r).map u8R).length = r.length + 1:=by simp
    have hAt:((a0 :: r).map u8R).take (r.length + 1) = (a0 :: r).map u8R:=List.take_of_length_le (by simp)
    have hV0:grV 3 ((a0 :: r).map u8R) = .slice 3 0 (r.length + 1) none:=by simp only [List.map_cons,a09,List.length_map]
    have hH0:grH 1 ((a0 :: r).map u8R) = [some (.row 1 ((a0 :: r).map u8R))]:=by simp only [List.map_cons,a0a]
    rw [hV0,hH0]
    have hfin:∀ (B:List Nat),B.length = (a3q c.nodes 14 c.nodes.length).length → (∀ v ∈ B,v ≤ 1) → ∀ sc:Rep,∃ p,Bits c p ∧ ((AV.agg [.islice ((a0 :: r).map u8R) none,sl sc (B.map u8R)],[]):AV × a03) = (.agg p.enc,[]):=by
     intro B hB hb sc
     exact ⟨⟨some none,a0 :: r,sc,B⟩,⟨⟨hal,hB,fun v hv=>by have:=hab v hv;omega,fun v hv=>by have:=hb v hv;omega⟩,hab,hb⟩,rfl⟩
    generalize hAR:(a0 :: r).map u8R = AR at hAr hAn hAf hAl hAt hfin
    (repeat first|simp only [ww]|(apply xa;simp +decide only [go_sem,c1];rfl;kernel_rfl))
    refine a4f kp8_2 (fun N F H=>∃ (i:Nat) (K:BitVec 64) (B:List Nat),N = c.nodes.length - i ∧ i ≤ c.nodes.length ∧ B.length = (a3q c.nodes 14 i).length ∧ (∀ v ∈ B,v ≤ 1) ∧
     F = [(1,u64 x),(2,.ptr 0 0 0),(4,.ptr 1 0 0),(5,.ptr 2 0 0),(6,u64 K),(8,.int .i64 (i:Nat))] ∧ H = [some (.row 4 [[sl c.nc (c.nodes.map Nd.enc),sl c.mc (c.names.map a10),.nilslice,sl c.oc (c.outs.map a0b)]]),some (.row 2 [[.nilslice,.nilslice]]),some (.row 2 [[.slice 3 0 (r.length + 1) none,grV 4 (B.map u8R)]]),some (.row 1 AR)] ++ grH 1 (B.map u8R)) (c.nodes.length - 0) ?_ ?_
    ·refine ⟨_,_,?_,0,K,[],rfl,Nat.zero_le _,rfl,by simp,rfl,rfl⟩
     (simp +decide only [go_sem,a02,a00,List.map_nil,a0s,a0t,hAr,hAn]<;>rfl)<;>rfl
    ·rintro N F H ⟨i,K,B,rfl,hi,hBl,hBb,rfl,rfl⟩
     have hle:=b11 c.nodes 14 i
     by_cases hlt:i < c.nodes.length
     ·obtain ⟨nd,hx⟩:∃ x,c.nodes[i]? = some x:=⟨_,z9e hlt⟩
      have c1:(i:Int) < c.nodes.length:=by omega
      have hw:=wI1 (n:=i) (by omega)
      have hs:=b0f c.nodes 14 i
      rw [a14 hx] at hs
      have hrm:B.length + 1 ≤ 1000000000:=by omega
      by_cases hk:nd.kind = 14
      ·rw [if_pos hk] at hs
       have hk':(nd.kind:Int) = 14:=by omega
       obtain ⟨b,hb1,hb2⟩:=d6h x (K % BitVec.ofInt 64 64).toNat
       have hl2:(B ++ [b]).length = (a3q c.nodes 14 (i + 1)).length:=by rw [hs,List.length_append,List.length_append,hBl];rfl
       have hv2:∀ v ∈ B ++ [b],v ≤ 1:=fun v hv=>by rcases List.mem_append.1 hv with h|h;exact hBb v h;rw [List.mem_singleton.1 h];exact hb1
       cases B with
       | nil=>
        (repeat first|simp only [ww]|(apply xa;simp +decide only [go_sem,c1,hlt,hx,hk',hw,h64,hb2,List.map_nil,a0s,a0t];rfl;kernel_rfl))
        refine a1m (c.nodes.length - (i + 1)) (by omega) ⟨_,_,?_,i + 1,K + BitVec.ofInt 64 1,[b],rfl,hlt,hl2,hv2,rfl,rfl⟩
        (simp +decide only [go_sem,a02,a00,List.map_cons,List.map_nil,a09,a0a,u8R,List.length_nil,hAr,hAn]<;>rfl)<;>rfl
       | cons b0 q=>
        simp only [List.length_cons] at hrm
        (repeat first|simp only [ww]|(apply xa;simp +decide only [go_sem,c1,hlt,hx,hk',hw,h64,hb2,List.map_cons,a09,a0a,hrm,List.length_map];rfl;kernel_rfl))
        refine a1m (c.nodes.length - (i + 1)) (by omega) ⟨_,_,?_,i + 1,K + BitVec.ofInt 64 1,b0 :: q ++ [b],rfl,hlt,hl2,hv2,rfl,rfl⟩
        (simp +decide only [go_sem,a02,a00,List.cons_append,List.map_cons,List.map_append,List.map_nil,a09,a0a,hrr,hrn,u8R,List.length_map,List.length_append,List.length_cons,List.length_nil,hAr,hAn]<;>rfl)<;>rfl
      ·rw [if_neg hk] at hs
       have hk':¬ (nd.kind:Int) = 14:=by omega
       rw [← hs] at hBl
       cases B with
       | nil=>
        (repeat first|simp only [ww]|(apply xa;simp +decide only [go_sem,c1,hlt,hx,hk',hw,List.map_nil,a0s,a0t];rfl;kernel_rfl))
        refine a1m (c.nodes.length - (i + 1)) (by omega) ⟨_,_,?_,i + 1,K,[],rfl,hlt,hBl,hBb,rfl,rfl⟩
        (simp +decide only [go_sem,a02,a00,List.map_nil,a0s,a0t,hAr,hAn]<;>rfl)<;>rfl
       | cons b0 q=>
        (repeat first|simp only [ww]|(apply xa;simp +decide only [go_sem,c1,hlt,hx,hk',hw,List.map_cons,a09,a0a,List.length_map];rfl;kernel_rfl))
        refine a1m (c.nodes.length - (i + 1)) (by omega) ⟨_,_,?_,i + 1,K,b0 :: q,rfl,hlt,hBl,hBb,rfl,rfl⟩
        (simp +decide only [go_sem,a02,a00,List.map_cons,a09,a0a,hrr,hrn,u8R,List.length_map,hAr,hAn]<;>rfl)<;>rfl
     ·obtain rfl:i = c.nodes.length:=by omega
      have c1:¬ (c.nodes.length:Int) < c.nodes.length:=by omega
      have hfin:=hfin B hBl hBb
      cases B with
      | nil=>
       (repeat first|simp only [ww]|(apply xa;simp +decide only [go_sem,c1,List.map_nil,a0s,a0t];rfl;kernel_rfl))
       refine a6n (vs:=[.agg [.slice 3 0 (r.length + 1) none,.nilslice]]) (r:=(.agg [.islice AR none,.nilslice],[])) (by simp +decide only [go_sem]<;>rfl) ?_ (hfin none)
       show a1e false 0 _ _ = _
       simp +decide only [go_sem,a50,hAf,hAl,hAt]<;>rfl
      | cons b0 q=>
       have hBf:=fun (m:Nat) (d:AV → Option AV)=>hfz (m:=m) (d:=d) (b0 :: q)
       have hBl2:((b0 :: q).map u8R).length = q.length + 1:=by simp
       have hBt:((b0 :: q).map u8R).take (q.length + 1) = (b0 :: q).map u8R:=List.take_of_length_le (by simp)
       have hV1:grV 4 ((b0 :: q).map u8R) = .slice 4 0 (q.length + 1) none:=by simp only [List.map_cons,a09,List.length_map]
       have hH1:grH 1 ((b0 :: q).map u8R) = [some (.row 1 ((b0 :: q).map u8R))]:=by simp only [List.map_cons,a0a]
       have hBe:sl (some none) ((b0 :: q).map u8R) = .islice ((b0 :: q).map u8R) none:=rfl
       rw [hV1,hH1]
       have hfin:=hfin (some none)
       rw [hBe] at hfin
       generalize (b0 :: q).map u8R = BR at hBf hBl2 hBt hfin
       (repeat first|simp only [ww]|(apply xa;simp +decide only [go_sem,c1];rfl;kernel_rfl))
       refine a6n (vs:=[.agg [.slice 3 0 (r.length + 1) none,.slice 4 0 (q.length + 1) none]]) (r:=(.agg [.islice AR none,.islice BR none],[])) (by simp +decide only [go_sem]<;>rfl) ?_ hfin
       show a1e false 0 _ _ = _
       simp +decide only [go_sem,a50,hAf,hAl,hAt,hBf,hBl2,hBt]<;>rfl
theorem c9x (c:Cir) (hc:c.wf) (hi0:kinds c.nodes 0 ≠ []) (x:BitVec 64):∃ p,Bits c p ∧ ∀ (d:Bool) (H:a03),a0c L.env d (sem L.env Mf) (.func (.func 8) [] []) [.agg c.enc,u64 x] H = some (.agg p.enc,H,[]):=by
 obtain ⟨r,⟨p,hp,rfl⟩,h⟩:=d8w c hc hi0 x
 exact ⟨p,hp,fun d H=>a04 (by kernel_rfl) (by kernel_rfl) rfl (by simp only [a0d,a1j,Cir.enc,go_sem]) h (by simp only [a1j,Pat.enc,go_sem])⟩
theorem e30 (c:Cir) (hc:c.wf) (hO:c.outs ≠ []) (p:Pat) (hp:PatOk c.nodes p) (f:Flt) (hf:FltOk c.nodes f) (ord:List Nat) (hord:OrdOf c ord) :
 ∃ V1 V2,AV.storable V1 = true ∧ AV.storable V2 = true ∧ refs V1 = [] ∧ refs V2 = [] ∧ sem L.env Mf 17 [.agg [sl c.nc (c.nodes.map Nd.enc),sl c.mc (c.names.map a10),.nilslice,sl c.oc (c.outs.map a0b)],.agg [.int .u8 f.model,.int .i64 f.node,.int .i64 f.pin,.int .u8 f.value,.int .i64 f.other],.agg [sl p.ic (p.ins.map u8R),sl p.sc (p.sts.map u8R)]] [] = some (.tuple [.agg [V1,V2],.islice ((b0k c ord (a8g c ord f p) p).map u8R) (some c.nodes.length),.int .i64 0],[]):=by
 have hb:=fun (d:Bool) (H:a03)=>d0y (d:=d) H c hc hO p hp f hf ord hord
 unfold c2f at hb
 have s1:=a3u (a1r c.outs (a60 c ord p))
 have s2:=a3u (a51 c.nodes (a60 c ord p))
 have s3:=a3u (a1r c.outs (b0k c ord (a8g c ord f p) p))
 have s4:=a3u (b21 c.nodes (a8g c ord f p) (b0k c ord (a8g c ord f p) p) (kinds c.nodes 14))
 have q3:=a49 (a1r c.outs (b0k c ord (a8g c ord f p) p))
 have q4:=a49 (b21 c.nodes (a8g c ord f p) (b0k c ord (a8g c ord f p) p) (kinds c.nodes 14))
 generalize a7l (a1r c.outs (a60 c ord p)) = A1 at hb s1
 generalize a7l (a51 c.nodes (a60 c ord p)) = A2 at hb s2
 generalize a7l (a1r c.outs (b0k c ord (a8g c ord f p) p)) = B1 at hb s3 q3
 generalize a7l (b21 c.nodes (a8g c ord f p) (b0k c ord (a8g c ord f p) p) (kinds c.nodes 14)) = B2 at hb s4 q4
 refine ⟨B1,B2,s3,s4,q3,q4,?_⟩
 (refine sv Tryz.f17 ?_;simp only [Tryz.f17,gS])
 (repeat first|simp only [ww]|(apply xa;simp +decide only [go_sem,hb,s1,s2,s3,s4];rfl;kernel_rfl))
 refine a6t (vs:=[.agg [B1,B2],.islice ((b0k c ord (a8g c ord f p) p).map u8R) (some c.nodes.length),.int .i64 0]) (by simp +decide only [go_sem]<;>rfl) (a80 (by simp only [a50,go_sem,q3,q4,List.append_nil]))
theorem d3s (c:Cir) (hc:c.wf) (hO:c.outs ≠ []) (p:Pat) (hp:PatOk c.nodes p) (f:Flt) (hf:FltOk c.nodes f) (ord:List Nat) (hord:OrdOf c ord) :
 ∃ V1 V2,AV.storable V1 = true ∧ AV.storable V2 = true ∧ ∀ (d:Bool) (H:a03),a0c L.env d (sem L.env Mf) (.func (.func 17) [] []) [.agg [sl c.nc (c.nodes.map Nd.enc),sl c.mc (c.names.map a10),.nilslice,sl c.oc (c.outs.map a0b)],.agg [.int .u8 f.model,.int .i64 f.node,.int .i64 f.pin,.int .u8 f.value,.int .i64 f.other],.agg [sl p.ic (p.ins.map u8R),sl p.sc (p.sts.map u8R)]] H = some (.tuple [.agg [V1,V2],.islice ((b0k c ord (a8g c ord f p) p).map u8R) (some c.nodes.length),.int .i64 0],H,[]):=by
 obtain ⟨V1,V2,s1,s2,q1,q2,h⟩:=e30 c hc hO p hp f hf ord hord
 exact ⟨V1,V2,s1,s2,fun d H=>a04 (by kernel_rfl) (by kernel_rfl) rfl (by simp only [List.nil_append,List.append_nil,go_sem]) h (by simp only [go_sem,q1,q2,List.append_nil])⟩
theorem d0j (x:CX) (hx:x.ok) (zr:Rep) (z:List FX) (hz:∀ f ∈ z,f.ok) (hzl:z.length < 9223372036854775808):∃ r:AV × a03,(∃ (lr:Rep) (l:List Flt),l.length ≤ 80 ∧ (∀ f ∈ l,StOk (a54 x) f) ∧ r = (.tuple [.agg (a54 x).enc,sl lr (l.map Flt.enc)],[])) ∧ sem L.env Mf 15 [.agg x.enc,sl zr (z.map FX.enc)] [] = some r:=by
 have hpc:=fun H=>c2l (d:=false) H x hx
 have hw:(a54 x).wf:=CX.wf _
 generalize a54 x = c at hpc hw ⊢
 have hof:=d05 c hw
 have hrr:∀ l:List Flt,(l.map Flt.enc).flatMap a0h = []:=fun l=>a0o (FlatR.map fun _=>rfl)
 have hrn:∀ (π:Nat → Option Nat) (l:List Flt),(l.map Flt.enc).map (fun r=>r.map (ren π)) = l.map Flt.enc:=fun π l=>a0k π (FlatR.map fun _=>rfl)
 have hfz:∀ {m:Nat} {d:AV → Option AV} (l:List Flt),a9x m d (l.map Flt.enc) = some (l.map Flt.enc):=fun l=>a17 _ _ (FlatR.map fun _=>rfl)
 simp only [go_sem] at hpc
 simp only [Cir.enc] at hpc hof ⊢
 simp only [CX.enc]
 (refine svE Tryz.f15 ?_;simp only [Tryz.f15,gS])
 (repeat first|simp only [ww]|(apply xa;simp +decide only [go_sem,hpc];rfl;kernel_rfl))
 refine a4f kp15_0 (fun N F H=>∃ (i:Nat) (l:List Flt),N = 80 - i ∧ i ≤ z.length ∧ i ≤ 80 ∧ l.length = i ∧ (∀ f ∈ l,StOk c f) ∧ F = [(1,sl zr (z.map FX.enc)),(4,.ptr 0 0 0),(6,.ptr 1 0 0),(7,grV 2 (l.map Flt.enc)),(8,.int .i64 (i:Nat))] ∧ H = [some (.row 4 [[.nilslice,.nilslice,.nilslice,.nilslice]]),some (.row 4 [[sl c.nc (c.nodes.map Nd.enc),sl c.mc (c.names.map a10),.nilslice,sl c.oc (c.outs.map a0b)]])] ++ grH 5 (l.map Flt.enc)) (80 - 0) ?_ ?_
 ·refine ⟨_,_,?_,0,[],rfl,Nat.zero_le _,by omega,rfl,by simp,rfl,rfl⟩
  (simp +decide only [go_sem,a02,a00,List.map_nil,a0s,a0t]<;>rfl)<;>rfl
 ·rintro N F H ⟨i,l,rfl,hi,hi80,hl,hlo,rfl,rfl⟩
  have hfin:∃ (lr:Rep) (l':List Flt),l'.length ≤ 80 ∧ (∀ f ∈ l',StOk c f) ∧ ((AV.tuple [.agg [sl c.nc (c.nodes.map Nd.enc),sl c.mc (c.names.map a10),.nilslice,sl c.oc (c.outs.map a0b)],sl (match l with|[]=>none|_=>some none) (l.map Flt.enc)],[]):AV × a03) = (.tuple [.agg [sl c.nc (c.nodes.map Nd.enc),sl c.mc (c.names.map a10),.nilslice,sl c.oc (c.outs.map a0b)],sl lr (l'.map Flt.enc)],[]):=⟨_,l,by omega,hlo,rfl⟩
  by_cases hlt:i < z.length
  ·have c1:(i:Int) < z.length:=by omega
   by_cases h80:i < 80
   ·have c2:(i:Int) < 80:=by omega
    obtain ⟨f,hf⟩:∃ f,z[i]? = some f:=⟨_,z9e hlt⟩
    obtain ⟨g,hg,hcg⟩:=hof f (hz f (List.mem_of_getElem? hf))
    simp only [FX.enc,Flt.enc,Int.natCast_zero] at hcg
    have hw:=wI1 (n:=i) (by omega)
    have hrm:l.length + 1 ≤ 1000000000:=by omega
    have hlo2:∀ f ∈ l ++ [g],StOk c f:=fun f hf=>by rcases List.mem_append.1 hf with h|h;exact hlo f h;rw [List.mem_singleton.1 h];exact hg
    have hl2:(l ++ [g]).length = i + 1:=by simp [hl]
    cases l with
    | nil=>
     (repeat first|simp only [ww]|(apply xa;simp +decide only [go_sem,c1,c2,hlt,hf,hcg,hw,List.map_nil,a0s,a0t];rfl;kernel_rfl))
     refine a1m (80 - (i + 1)) (by omega) ⟨_,_,?_,i + 1,[g],rfl,hlt,h80,hl2,hlo2,rfl,rfl⟩
     (simp +decide only [go_sem,a02,a00,List.map_cons,List.map_nil,a09,a0a,Flt.enc,List.length_nil]<;>rfl)<;>rfl
    | cons a r=>
     simp only [List.length_cons] at hrm
     (repeat first|simp only [ww]|(apply xa;simp +decide only [go_sem,c1,c2,hlt,hf,hcg,hw,List.map_cons,a09,a0a,hrm,List.length_map];rfl;kernel_rfl))
     refine a1m (80 - (i + 1)) (by omega) ⟨_,_,?_,i + 1,a :: r ++ [g],rfl,hlt,h80,hl2,hlo2,rfl,rfl⟩
     (simp +decide only [go_sem,a02,a00,List.cons_append,List.map_cons,List.map_append,List.map_nil,a09,a0a,hrr,hrn,Flt.enc,List.length_map,List.length_append,List.length_cons,List.length_nil]<;>rfl)<;>rfl
   ·have c2:¬ (i:Int) < 80:=by omega
    cases l with
    | nil=>
     (repeat first|simp only [ww]|(apply xa;simp +decide only [go_sem,c1,c2,List.map_nil,a0s,a0t];rfl;kernel_rfl))
     refine a6n (vs:=[.agg [sl c.nc (c.nodes.map Nd.enc),sl c.mc (c.names.map a10),.nilslice,sl c.oc (c.outs.map a0b)],.nilslice]) (r:=(.tuple [.agg [sl c.nc (c.nodes.map Nd.enc),sl c.mc (c.names.map a10),.nilslice,sl c.oc (c.outs.map a0b)],.nilslice],[])) (by simp +decide only [go_sem]<;>rfl) ?_ hfin
     show a1e false 0 _ _ = _
     simp +decide only [go_sem,a50]<;>rfl
    | cons a r=>
     have hAf:=fun (m:Nat) (d:AV → Option AV)=>hfz (m:=m) (d:=d) (a :: r)
     have hAl:((a :: r).map Flt.enc).length = r.length + 1:=by simp
     have hAt:((a :: r).map Flt.enc).take (r.length + 1) = (a :: r).map Flt.enc:=List.take_of_length_le (by simp)
     have hV0:grV 2 ((a :: r).map Flt.enc) = .slice 2 0 (r.length + 1) none:=by simp only [List.map_cons,a09,List.length_map]
     have hH0:grH 5 ((a :: r).map Flt.enc) = [some (.row 5 ((a :: r).map Flt.enc))]:=by simp only [List.map_cons,a0a]
     have hE:sl (some none) ((a :: r).map Flt.enc) = .islice ((a :: r).map Flt.enc) none:=rfl
     simp only [hE] at hfin
     rw [hV0,hH0]
     generalize (a :: r).map Flt.enc = AR at hAf hAl hAt hfin
     (repeat first|simp only [ww]|(apply xa;simp +decide only [go_sem,c1,c2];rfl;kernel_rfl))
     refine a6n (vs:=[.agg [sl c.nc (c.nodes.map Nd.enc),sl c.mc (c.names.map a10),.nilslice,sl c.oc (c.outs.map a0b)],.slice 2 0 (r.length + 1) none]) (r:=(.tuple [.agg [sl c.nc (c.nodes.map Nd.enc),sl c.mc (c.names.map a10),.nilslice,sl c.oc (c.outs.map a0b)],.islice AR none],[])) (by simp +decide only [go_sem]<;>rfl) ?_ hfin
     show a1e false 0 _ _ = _
     simp +decide only [go_sem,a50,hAf,hAl,hAt]<;>rfl
  ·have c1:¬ (i:Int) < z.length:=by omega
   cases l with
   | nil=>
    (repeat first|simp only [ww]|(apply xa;simp +decide only [go_sem,c1,List.map_nil,a0s,a0t];rfl;kernel_rfl))
    refine a6n (vs:=[.agg [sl c.nc (c.nodes.map Nd.enc),sl c.mc (c.names.map a10),.nilslice,sl c.oc (c.outs.map a0b)],.nilslice]) (r:=(.tuple [.agg [sl c.nc (c.nodes.map Nd.enc),sl c.mc (c.names.map a10),.nilslice,sl c.oc (c.outs.map a0b)],.nilslice],[])) (by simp +decide only [go_sem]<;>rfl) ?_ hfin
    show a1e false 0 _ _ = _
    simp +decide only [go_sem,a50]<;>rfl
   | cons a r=>
    have hAf:=fun (m:Nat) (d:AV → Option AV)=>hfz (m:=m) (d:=d) (a :: r)
    have hAl:((a :: r).map Flt.enc).length = r.length + 1:=by simp
    have hAt:((a :: r).map Flt.enc).take (r.length + 1) = (a :: r).map Flt.enc:=List.take_of_length_le (by simp)
    have hV0:grV 2 ((a :: r).map Flt.enc) = .slice 2 0 (r.length + 1) none:=by simp only [List.map_cons,a09,List.length_map]
    have hH0:grH 5 ((a :: r).map Flt.enc) = [some (.row 5 ((a :: r).map Flt.enc))]:=by simp only [List.map_cons,a0a]
    have hE:sl (some none) ((a :: r).map Flt.enc) = .islice ((a :: r).map Flt.enc) none:=rfl
    simp only [hE] at hfin
    rw [hV0,hH0]
    generalize (a :: r).map Flt.enc = AR at hAf hAl hAt hfin
    (repeat first|simp only [ww]|(apply xa;simp +decide only [go_sem,c1];rfl;kernel_rfl))
    refine a6n (vs:=[.agg [sl c.nc (c.nodes.map Nd.enc),sl c.mc (c.names.map a10),.nilslice,sl c.oc (c.outs.map a0b)],.slice 2 0 (r.length + 1) none]) (r:=(.tuple [.agg [sl c.nc (c.nodes.map Nd.enc),sl c.mc (c.names.map a10),.nilslice,sl c.oc (c.outs.map a0b)],.islice AR none],[])) (by simp +decide only [go_sem]<;>rfl) ?_ hfin
    show a1e false 0 _ _ = _
    simp +decide only [go_sem,a50,hAf,hAl,hAt]<;>rfl
theorem c39 (x:CX) (hx:x.ok) (zr:Rep) (z:List FX) (hz:∀ f ∈ z,f.ok) (hzl:z.length < 9223372036854775808):∃ (lr:Rep) (l:List Flt),l.length ≤ 80 ∧ (∀ f ∈ l,StOk (a54 x) f) ∧
 ∀ (d:Bool) (H:a03),a0c L.env d (sem L.env Mf) (.func (.func 15) [] []) [.agg x.enc,sl zr (z.map FX.enc)] H = some (.tuple [.agg (a54 x).enc,sl lr (l.map Flt.enc)],H,[]):=by
 obtain ⟨r,⟨lr,l,h1,h2,rfl⟩,h⟩:=d0j x hx zr z hz hzl
 exact ⟨lr,l,h1,h2,fun d H=>a04 (by kernel_rfl) (by kernel_rfl) rfl (by simp only [List.nil_append,List.append_nil,a0d,a1j,go_sem]) h (by simp only [a77,a0d,a1j,b3a,a6d,a4p,List.append_nil])⟩
theorem c9i (S:List Int) (c:Option Nat) (hl:S.length < 1000000) (hne:S ≠ []):sem L.env Mf 16 [dsV S,.slice 0 0 S.length c] [some (.row 1 (S.map a7d))] = some (.bool true,[some (.row 1 (S.map a7d))]):=by
 have hd:dsV S = .islice (S.map a7d) (some S.length):=by cases S with|nil=>exact absurd rfl hne|cons a r=>rfl
 rw [hd]
 have hf:=b56 S
 have h1:=a0o hf
 have h2:=fun π=>a0k π hf
 have c0:¬ ¬ (S.length:Int) = S.length:=by simp
 (refine sv Tryz.f16 ?_;simp only [Tryz.f16,gS])
 (repeat first|simp only [ww]|(apply xa;simp +decide only [go_sem,c0,List.length_map];rfl;kernel_rfl))
 refine a0z (σ:=Nat) kp16_0 (fun i=>[(0,.islice (S.map a7d) (some S.length)),(1,.slice 0 0 S.length c),(5,.int .i64 i)]) (fun i=>[some (.row 1 (S.map a7d))]) (fun i=>S.length - i) (fun i=>i ≤ S.length) 0 ?_ (Nat.zero_le _) ?_
 ·(simp +decide only [go_sem,a02,a00,h1,h2]<;>rfl)<;>rfl
 ·intro i hi
  by_cases hlt:i < S.length
  ·obtain ⟨v,hv⟩:∃ v,S[i]? = some v:=⟨_,z9e hlt⟩
   have hg:(S.map a7d)[i]? = some [.int .i64 v]:=by rw [List.getElem?_map,hv];rfl
   have hml:(S.map a7d).length = S.length:=List.length_map ..
   have c1:(i:Int) < S.length:=by omega
   have hw:=wI1 (n:=i) (by omega)
   generalize S.map a7d = T at hg hml h1 h2
   (repeat first|simp only [ww]|(apply xa;simp +decide only [go_sem,c1,hlt,hg,hml,hw];rfl;kernel_rfl))
   refine a2i (i + 1) ?_ (by omega) (by omega)
   (simp +decide only [go_sem,a02,a00,h1,h2]<;>rfl)<;>rfl
  ·obtain rfl:i = S.length:=by omega
   have c1:¬ (S.length:Int) < S.length:=by omega
   have hml:(S.map a7d).length = S.length:=List.length_map ..
   generalize S.map a7d = T at hml h1 h2
   (repeat first|simp only [ww]|(apply xa;simp +decide only [go_sem,c1,hml];rfl;kernel_rfl))
   (apply fqb;simp +decide only [go_sem,h2]<;>rfl)
theorem c6a:sem L.env Mf 16 [.nilslice,.nilslice] [] = some (.bool true,[]):=by
 (refine sv Tryz.f16 ?_;simp only [Tryz.f16,gS])
 (repeat first|simp only [ww]|(apply xa;simp +decide only [go_sem];rfl;kernel_rfl))
 refine a4f kp16_0 (fun N F H=>F = [(0,.nilslice),(1,.nilslice),(5,.int .i64 0)] ∧ H = []) 0 ?_ ?_
 ·exact ⟨_,_,by (simp +decide only [go_sem,a02,a00]<;>rfl)<;>rfl,rfl,rfl⟩
 ·rintro N F H ⟨rfl,rfl⟩
  (repeat first|simp only [ww]|(apply xa;simp +decide only [go_sem];rfl;kernel_rfl))
  (apply fqb;simp +decide only [go_sem]<;>rfl)
theorem c2z {d:Bool} {H:a03} {b:Nat} {S:List Int} {c:Option Nat} (hl:S.length < 1000000) (hne:S ≠ []) (hb:a01 H b = some (.row 1 (S.map a7d))) :
 a0c L.env d (sem L.env Mf) (.func (.func 16) [] []) [dsV S,.slice b 0 S.length c] H = some (.bool true,H,[b]):=by
 have hr:=b0u S
 have hren:∀ π,ren π (dsV S) = dsV S:=fun π=>a1d π _ hr
 have h:=a5f (E:=L.env) (draw:=d) (call:=sem L.env Mf) (g:=16) (fs:=[]) (cs:=[]) (ar:=[dsV S,.slice b 0 S.length c]) (H:=H) (b:=b) (by kernel_rfl) (by kernel_rfl) rfl hb (a0p (b56 S)) (FlatO.row (b56 S)) (by simp only [List.nil_append,List.append_nil,a0d,hr,b1v];rfl) (args':=[dsV S,.slice 0 0 S.length c]) (by simp only [List.nil_append,List.append_nil,List.map_cons,List.map_nil,a2e,hren]) (c9i S c hl hne) (FlatO.row (b56 S)) rfl
 rw [a9e hb] at h
 exact h
theorem c0q {d:Bool} (H:a03):a0c L.env d (sem L.env Mf) (.func (.func 16) [] []) [.nilslice,.nilslice] H = some (.bool true,H,[]):=
 a04 (by kernel_rfl) (by kernel_rfl) rfl rfl c6a rfl
set_option maxHeartbeats 200000000
def foW (D:Ded) (n i k:Nat):List (List (List AV)):=(List.range n).map fun m=>((List.range (if m < k then i + 1 else i)).filter (D.dif m)).map a0b
section
variable (D:Ded) (n:Nat)
theorem a7y (i k:Nat):(foW D n i k).length = n:=by simp [foW]
theorem b8t (i k m:Nat) (hm:m < n):(foW D n i k)[m]? = some (((List.range (if m < k then i + 1 else i)).filter (D.dif m)).map a0b):=by unfold foW;rw [List.getElem?_map,List.getElem?_range hm];rfl
theorem e80:foW D n 0 0 = List.replicate n []:=by
 unfold foW
 rw [show (fun m:Nat=>((List.range (if m < 0 then 0 + 1 else 0)).filter (D.dif m)).map a0b) = fun _=>[] from rfl]
 rw [List.map_const',List.length_range]
theorem d43 (i:Nat):foW D n i n = foW D n (i + 1) 0:=by
 unfold foW
 refine List.map_congr_left fun m hm=>?_
 rw [if_pos (List.mem_range.1 hm),if_neg (Nat.not_lt_zero m)]
theorem e3c (i k:Nat) (hk:k < n) (h:D.dif k i = false):foW D n i (k + 1) = foW D n i k:=by
 unfold foW
 refine List.map_congr_left fun m hm=>?_
 by_cases hmk:m = k
 ·subst hmk
  rw [if_pos (by omega),if_neg (by omega),List.range_succ,List.filter_append,List.filter_cons,h];simp
 ·have e:(m < k + 1) = (m < k):=by rw [eq_iff_iff];omega
  simp only [e]
theorem d91 (i k:Nat) (hk:k < n) (h:D.dif k i = true):(foW D n i k).set k (((List.range i).filter (D.dif k)).map a0b ++ [a0b i]) = foW D n i (k + 1):=by
 apply List.ext_getElem?
 intro m
 rw [List.getElem?_set,a7y]
 by_cases hm:m < n
 ·rw [b8t D n i (k + 1) m hm,b8t D n i k m hm]
  by_cases hmk:k = m
  ·subst hmk
   rw [if_pos rfl,if_pos hk,if_pos (by omega),List.range_succ,List.filter_append,List.filter_cons,h];simp
  ·have e:(m < k + 1) = (m < k):=by rw [eq_iff_iff];omega
   rw [if_neg hmk];simp only [e]
 ·rw [List.getElem?_eq_none (by rw [a7y];omega),List.getElem?_eq_none (by rw [a7y];omega),if_neg (by omega)]
theorem d92 (m:Nat) (hm:m < n):(foW D n D.fs.length 0)[m]? = some ((D.dset m).map a7d):=by
 rw [b8t D n _ _ m hm,if_neg (Nat.not_lt_zero m)]
 unfold Ded.dset a1k
 rw [List.map_map];rfl
theorem d44 (H:a03) (b:Nat) (h:a01 H b = some (.row 1 (List.replicate n [.nilslice]))):Two H b 1 (fun _=>0) (fun _=>none) (foW D n 0 0):=by
 rw [e80]
 have hno:∀ (j:Nat) (f:List (List AV)),(List.replicate n ([]:List (List AV)))[j]? = some f → f = []:=by
  intro j f hf
  rw [List.getElem?_replicate] at hf
  split at hf
  ·cases hf;rfl
  ·cases hf
 refine ⟨?_,fun j f hf hne=>absurd (hno j f hf) hne,fun i j f g hf _ hne=>absurd (hno i f hf) hne,fun f hf=>by rw [List.eq_of_mem_replicate hf];exact FlatR.nil⟩
 rw [h]
 congr 2
 unfold a42
 apply List.ext_getElem?
 intro j
 rw [List.getElem?_mapIdx,List.getElem?_replicate,List.getElem?_replicate]
 split<;>rfl
end
theorem e8n (c:Cir) (ord:List Nat) (p:Pat) (fs:List Flt) (f:Flt) (hf:f.model = 0):b0k c ord (a8g c ord f p) p = (c3c c ord p fs).B f:=by
 have h:a8g c ord f p = hkF f f.value:=by unfold a8g a96;rw [if_pos hf];rfl
 rw [h];rfl
theorem d2r (x:CX):(a54 x).outs ≠ []:=by
 show CX.outN _ ≠ []
 unfold CX.outN;simp
theorem e31 (x:CX):kinds (a54 x).nodes 0 ≠ []:=by
 have hk:0 < (b34 (b88 x)).k:=by unfold CX.k;omega
 have h0:a0f (a54 x).nodes 0 = 0:=by
  show a0f (b34 (b88 x)).nodes 0 = 0
  unfold CX.nodes a0f
  obtain ⟨k,hk'⟩:∃ k,(b34 (b88 x)).k = k + 1:=⟨_,(Nat.succ_pred_eq_of_pos hk).symm⟩
  rw [hk']
  simp only [List.replicate_succ,List.cons_append,List.getElem?_cons_zero]
  rfl
 have hp:0 < (a54 x).nodes.length:=(CX.wf _).pos
 intro e
 have:(0:Nat) ∈ kinds (a54 x).nodes 0:=by
  unfold kinds a3q
  rw [List.mem_filter]
  exact ⟨List.mem_range.2 hp,by simp [h0]⟩
 rw [e] at this;cases this
theorem lawLists_ok (hlv:∀ H,a0c L.env false (sem L.env Mf) (.func (.func 14) [] []) [] H = some (.bool true,H,[])) (x:CX) (hx:x.ok) (zr:Rep) (z:List FX) (hz:∀ f ∈ z,f.ok) (hzl:z.length < 9223372036854775808) (w:BitVec 64) :
 sem L.env Mf 5 [.agg x.enc,sl zr (z.map FX.enc),u64 w] [] = some (.bool true,[]):=by
 obtain ⟨lr,l,hl80,hlo,hst⟩:=c39 x hx zr z hz hzl
 have hc:(a54 x).wf:=CX.wf _
 have hpl:=c06 x
 have hO:=d2r x
 have hi0:=e31 x
 generalize a54 x = c at hst hlo hc hpl hO hi0
 obtain ⟨p,hp,hfu⟩:=c9x c hc hi0 w
 obtain ⟨ord,hord⟩:=e2i c hc
 have M:=d88 hc hpl hord hp hlo (by omega)
 have C:=d4q hc hpl hO hord hp hlo (by omega)
 have hli:=fun (d:Bool) (H:a03)=>c63 (rl:=lr) (d:=d) M C H
 have hnl:=M.nl
 have hgl:=M.ok.G_len
 have hGv:=M.ok.G_bit
 obtain ⟨V1,V2,hs1,hs2,hrun⟩:=C.run
 have hir:∀ f ∈ l,∃ V1 V2,AV.storable V1 = true ∧ AV.storable V2 = true ∧ ∀ (d:Bool) (H:a03),a0c L.env d (sem L.env Mf) (.func (.func 17) [] []) [.agg [sl c.nc (c.nodes.map Nd.enc),sl c.mc (c.names.map a10),.nilslice,sl c.oc (c.outs.map a0b)],.agg f.enc,.agg [sl p.ic (p.ins.map u8R),sl p.sc (p.sts.map u8R)]] H = some (.tuple [.agg [V1,V2],.islice (((c3c c ord p l).B f).map u8R) (some c.nodes.length),.int .i64 0],H,[]):=fun f hf=>by
  rw [← e8n c ord p l f (hlo f hf).m0]
  exact d3s c hc hO p hp.ok f (hlo f hf).ok ord hord
 have hfs:(c3c c ord p l).fs = l:=rfl
 have hnn:(c3c c ord p l).nodes = c.nodes:=rfl
 have hBl:=M.ok.B_len
 generalize c3c c ord p l = D at hli hgl hGv hrun hir hfs hnn hBl M C
 rw [hnn] at hgl hBl
 subst hfs
 have hdif:∀ (i k:Nat) (f:Flt) (g v:Nat),D.fs[i]? = some f → D.G[k]? = some g → (D.B f)[k]? = some v → D.dif k i = decide (v ≠ g):=fun i k f g v h1 h2 h3=>by
  unfold Ded.dif
  have e:D.ft i = f:=by unfold Ded.ft;rw [List.getD_eq_getElem?_getD,h1];rfl
  rw [e,List.getD_eq_getElem?_getD,List.getD_eq_getElem?_getD,h2,h3];rfl
 have hfe:∀ (p:Pat),p.enc = [sl p.ic (p.ins.map u8R),sl p.sc (p.sts.map u8R)]:=fun _=>rfl
 simp only [Cir.enc,FX.enc,CX.enc,hfe] at hst hfu ⊢
 have hLl:((List.range c.nodes.length).map fun m=>[dsV (D.dset m)]).length = c.nodes.length:=by simp
 have hLg:∀ m,m < c.nodes.length → ((List.range c.nodes.length).map fun m=>[dsV (D.dset m)])[m]? = some [dsV (D.dset m)]:=fun m hm=>by rw [List.getElem?_map,List.getElem?_range hm];rfl
 have hLr:∀ m,refs (dsV (D.dset m)) = []:=fun m=>b0u _
 unfold c0i at hli
 generalize hLR:(List.range c.nodes.length).map (fun m=>[dsV (D.dset m)]) = LR at hli hLl hLg
 have hrm:c.nodes.length ≤ 1000000000:=by omega
 have hGl:(D.G.map u8R).length = c.nodes.length:=by simp [hgl]
 (refine sv Tryz.f5 ?_;simp only [Tryz.f5,gS])
 (repeat first|simp only [ww]|(apply xa;simp +decide only [go_sem,hst,hfu,hli,hrun,hs1,hs2,hLl,hGl,hrm];rfl;kernel_rfl))
 have hCf:∀ π:Nat → Option Nat,a0m π (.row 4 [[sl c.nc (c.nodes.map Nd.enc),sl c.mc (c.names.map a10),.nilslice,sl c.oc (c.outs.map a0b)]]) = .row 4 [[sl c.nc (c.nodes.map Nd.enc),sl c.mc (c.names.map a10),.nilslice,sl c.oc (c.outs.map a0b)]]:=fun π=>by simp +decide only [go_sem]
 have hCr:a0x (some (.row 4 [[sl c.nc (c.nodes.map Nd.enc),sl c.mc (c.names.map a10),.nilslice,sl c.oc (c.outs.map a0b)]])) = []:=by simp +decide only [go_sem]
 have hPf:∀ π:Nat → Option Nat,a0m π (.row 2 [[sl p.ic (p.ins.map u8R),sl p.sc (p.sts.map u8R)]]) = .row 2 [[sl p.ic (p.ins.map u8R),sl p.sc (p.sts.map u8R)]]:=fun π=>by simp +decide only [go_sem]
 have hPr:a0x (some (.row 2 [[sl p.ic (p.ins.map u8R),sl p.sc (p.sts.map u8R)]])) = []:=by simp +decide only [go_sem]
 have head0:∀ (i cb pb b:Nat) (ids:Nat → Nat) (H2:a03),i ≤ D.fs.length → a01 H2 cb = some (.row 4 [[sl c.nc (c.nodes.map Nd.enc),sl c.mc (c.names.map a10),.nilslice,sl c.oc (c.outs.map a0b)]]) → a01 H2 pb = some (.row 2 [[sl p.ic (p.ins.map u8R),sl p.sc (p.sts.map u8R)]]) → Two H2 b 1 ids (fun _=>none) (foW D c.nodes.length i 0) → ∀ F1:Frm,a0h ((a1u [7,8,9,10,13,15,16] F1).map (·.2)) = [cb,pb,b] →
  (∀ π,b5z π (a1u [7,8,9,10,13,15,16] F1) = [(7,ren π (.ptr cb 0 0)),(8,sl lr (D.fs.map Flt.enc)),(9,ren π (.ptr pb 0 0)),(10,.islice LR (some c.nodes.length)),(13,.islice (D.G.map u8R) (some c.nodes.length)),(15,ren π (.slice b 0 c.nodes.length (some c.nodes.length))),(16,.int .i64 (i:Nat))]) → ∃ F H,gcD 0 [7,8,9,10,13,15,16] F1 H2 = some (F,H) ∧ ∃ (i' cb pb b:Nat) (ids:Nat → Nat),D.fs.length - i = D.fs.length - i' ∧ i' ≤ D.fs.length ∧ F = [(7,.ptr cb 0 0),(8,sl lr (D.fs.map Flt.enc)),(9,.ptr pb 0 0),(10,.islice LR (some c.nodes.length)),(13,.islice (D.G.map u8R) (some c.nodes.length)),(15,.slice b 0 c.nodes.length (some c.nodes.length)),(16,.int .i64 (i':Nat))] ∧ a01 H cb = some (.row 4 [[sl c.nc (c.nodes.map Nd.enc),sl c.mc (c.names.map a10),.nilslice,sl c.oc (c.outs.map a0b)]]) ∧ a01 H pb = some (.row 2 [[sl p.ic (p.ins.map u8R),sl p.sc (p.sts.map u8R)]]) ∧ Two H b 1 ids (fun _=>none) (foW D c.nodes.length i' 0):=by
  intro i cb pb b ids H2 hi h1 h2 hT F1 hF1 hF2
  refine hT.headX [cb,pb] (by intro x hx;simp only [List.mem_cons,List.not_mem_nil,or_false] at hx;rcases hx with rfl|rfl;rw [h1];exact hCr;rw [h2];exact hPr) (by rw [hF1];simp) (by rw [hF1];simp) (by rw [hF1];simp) (by rw [hF1];simp) (by rw [a7y];omega) ?_
  intro π b' ids' H1 hb hT2 hXX
  obtain ⟨cb',e1,e2⟩:=hXX cb (by simp)
  obtain ⟨pb',e3,e4⟩:=hXX pb (by simp)
  refine ⟨i,cb',pb',b',ids',rfl,hi,?_,?_,?_,hT2⟩
  ·rw [hF2];simp +decide only [go_sem,e1,e3,hb]<;>rfl
  ·rw [e2,h1];show some (a0m π _) = _;rw [hCf]
  ·rw [e4,h2];show some (a0m π _) = _;rw [hPf]
 refine a4f kp5_0 (fun N F H=>∃ (i cb pb b:Nat) (ids:Nat → Nat),N = D.fs.length - i ∧ i ≤ D.fs.length ∧ F = [(7,.ptr cb 0 0),(8,sl lr (D.fs.map Flt.enc)),(9,.ptr pb 0 0),(10,.islice LR (some c.nodes.length)),(13,.islice (D.G.map u8R) (some c.nodes.length)),(15,.slice b 0 c.nodes.length (some c.nodes.length)),(16,.int .i64 (i:Nat))] ∧ a01 H cb = some (.row 4 [[sl c.nc (c.nodes.map Nd.enc),sl c.mc (c.names.map a10),.nilslice,sl c.oc (c.outs.map a0b)]]) ∧ a01 H pb = some (.row 2 [[sl p.ic (p.ins.map u8R),sl p.sc (p.sts.map u8R)]]) ∧ Two H b 1 ids (fun _=>none) (foW D c.nodes.length i 0)) (D.fs.length - 0) ?_ ?_
 ·refine head0 0 1 2 4 (fun _=>0) _ (Nat.zero_le _) rfl rfl (d44 D _ _ _ rfl) _ (by simp +decide only [go_sem]<;>rfl) (fun π=>by simp +decide only [go_sem]<;>rfl)
 ·rintro N F H ⟨i,cb,pb,b,ids,rfl,hi,rfl,hcb,hpb,hT⟩
  by_cases hlt:i < D.fs.length
  ·obtain ⟨f,hfi⟩:∃ f,D.fs[i]? = some f:=⟨_,z9e hlt⟩
   obtain ⟨W1,W2,t1,t2,hcf⟩:=hir f (List.mem_of_getElem? hfi)
   simp only [Flt.enc] at hcf
   have hBf:=hBl f
   have hBfl:((D.B f).map u8R).length = c.nodes.length:=by simp [hBf]
   have d1:(i:Int) < D.fs.length:=by omega
   have hwi:=wI1 (n:=i) (by omega)
   have hcl:=a0r hcb
   have hpl2:=a0r hpb
   have head2:∀ (k cb pb b:Nat) (ids:Nat → Nat) (H2:a03),k ≤ c.nodes.length → a01 H2 cb = some (.row 4 [[sl c.nc (c.nodes.map Nd.enc),sl c.mc (c.names.map a10),.nilslice,sl c.oc (c.outs.map a0b)]]) → a01 H2 pb = some (.row 2 [[sl p.ic (p.ins.map u8R),sl p.sc (p.sts.map u8R)]]) → Two H2 b 1 ids (fun _=>none) (foW D c.nodes.length i k) → ∀ F1:Frm,a0h ((a1u [7,8,9,10,13,15,16,18,20] F1).map (·.2)) = [cb,pb,b] →
    (∀ π,b5z π (a1u [7,8,9,10,13,15,16,18,20] F1) = [(7,ren π (.ptr cb 0 0)),(8,sl lr (D.fs.map Flt.enc)),(9,ren π (.ptr pb 0 0)),(10,.islice LR (some c.nodes.length)),(13,.islice (D.G.map u8R) (some c.nodes.length)),(15,ren π (.slice b 0 c.nodes.length (some c.nodes.length))),(16,.int .i64 (i:Nat)),(18,.islice ((D.B f).map u8R) (some c.nodes.length)),(20,.int .i64 (k:Nat))]) → ∃ F H,gcD 0 [7,8,9,10,13,15,16,18,20] F1 H2 = some (F,H) ∧ ∃ (k' cb pb b:Nat) (ids:Nat → Nat),c.nodes.length - k = c.nodes.length - k' ∧ k' ≤ c.nodes.length ∧ F = [(7,.ptr cb 0 0),(8,sl lr (D.fs.map Flt.enc)),(9,.ptr pb 0 0),(10,.islice LR (some c.nodes.length)),(13,.islice (D.G.map u8R) (some c.nodes.length)),(15,.slice b 0 c.nodes.length (some c.nodes.length)),(16,.int .i64 (i:Nat)),(18,.islice ((D.B f).map u8R) (some c.nodes.length)),(20,.int .i64 (k':Nat))] ∧ a01 H cb = some (.row 4 [[sl c.nc (c.nodes.map Nd.enc),sl c.mc (c.names.map a10),.nilslice,sl c.oc (c.outs.map a0b)]]) ∧ a01 H pb = some (.row 2 [[sl p.ic (p.ins.map u8R),sl p.sc (p.sts.map u8R)]]) ∧ Two H b 1 ids (fun _=>none) (foW D c.nodes.length i k'):=by
    intro k cb pb b ids H2 hk h1 h2 hT F1 hF1 hF2
    refine hT.headX [cb,pb] (by intro x hx;simp only [List.mem_cons,List.not_mem_nil,or_false] at hx;rcases hx with rfl|rfl;rw [h1];exact hCr;rw [h2];exact hPr) (by rw [hF1];simp) (by rw [hF1];simp) (by rw [hF1];simp) (by rw [hF1];simp) (by rw [a7y];omega) ?_
    intro π b' ids' H1 hb hT2 hXX
    obtain ⟨cb',e1,e2⟩:=hXX cb (by simp)
    obtain ⟨pb',e3,e4⟩:=hXX pb (by simp)
    refine ⟨k,cb',pb',b',ids',rfl,hk,?_,?_,?_,hT2⟩
    ·rw [hF2];simp +decide only [go_sem,e1,e3,hb]<;>rfl
    ·rw [e2,h1];show some (a0m π _) = _;rw [hCf]
    ·rw [e4,h2];show some (a0m π _) = _;rw [hPf]
   (repeat first|simp only [ww]|(apply xa;simp +decide only [go_sem,d1,List.length_map];rfl;kernel_rfl))
   (repeat first|simp only [ww]|((with_reducible first|apply xs3|apply xI);(·simp +decide only [go_sem,hlt,hfi,hcb,hpb,hcl,hpl2,hcf,t1,t2,Flt.enc,hBfl,hGl,a3i,a3z,a6y,a8n,a5x];rfl);first|with_reducible apply xT|with_reducible apply xF|(·repeat' (first|exact a9s|exact a9j|refine a7b ?_ ?_|refine a9i (by simp only [List.length_cons,List.length_nil];decide +kernel) ?_|refine a9k (a7m (by simp<;>omega) (by simp<;>omega) (by simp<;>omega)) ?_))))
   refine a4f kp5_2 (fun N F H=>∃ (k cb pb b:Nat) (ids:Nat → Nat),N = c.nodes.length - k ∧ k ≤ c.nodes.length ∧ F = [(7,.ptr cb 0 0),(8,sl lr (D.fs.map Flt.enc)),(9,.ptr pb 0 0),(10,.islice LR (some c.nodes.length)),(13,.islice (D.G.map u8R) (some c.nodes.length)),(15,.slice b 0 c.nodes.length (some c.nodes.length)),(16,.int .i64 (i:Nat)),(18,.islice ((D.B f).map u8R) (some c.nodes.length)),(20,.int .i64 (k:Nat))] ∧ a01 H cb = some (.row 4 [[sl c.nc (c.nodes.map Nd.enc),sl c.mc (c.names.map a10),.nilslice,sl c.oc (c.outs.map a0b)]]) ∧ a01 H pb = some (.row 2 [[sl p.ic (p.ins.map u8R),sl p.sc (p.sts.map u8R)]]) ∧ Two H b 1 ids (fun _=>none) (foW D c.nodes.length i k)) (c.nodes.length - 0) ?_ ?_
   ·refine head2 0 cb pb b ids _ (Nat.zero_le _) (by rw [a2l (eq_true hcl),hcb]) (by rw [a2l (eq_true hpl2),hpb]) hT.more _ (by simp +decide only [go_sem]<;>rfl) (fun π=>by simp +decide only [go_sem]<;>rfl)
   ·rintro N F H ⟨k,cb,pb,b,ids,rfl,hk,rfl,hcb,hpb,hT⟩
    by_cases hkt:k < c.nodes.length
    ·obtain ⟨v,hv⟩:∃ v,(D.B f)[k]? = some v:=⟨_,z9e (by omega)⟩
     obtain ⟨g,hg⟩:∃ g,D.G[k]? = some g:=⟨_,z9e (by omega)⟩
     have hdf:=hdif i k f g v hfi hg hv
     have c1:(k:Int) < c.nodes.length:=by omega
     have hkB:k < ((D.B f).map u8R).length:=by omega
     have hkG:k < (D.G.map u8R).length:=by omega
     have hvR:((D.B f).map u8R)[k]? = some [.int .u8 v]:=by rw [List.getElem?_map,hv];rfl
     have hgR:(D.G.map u8R)[k]? = some [.int .u8 g]:=by rw [List.getElem?_map,hg];rfl
     have hwk:=wI1 (n:=k) (by omega)
     by_cases hvg:v = g
     ·have c2:(v:Int) = g:=by omega
      rw [decide_eq_false (by simp [hvg])] at hdf
      have hno:=e3c D c.nodes.length i k hkt hdf
      (repeat first|simp only [ww]|(apply xa;simp +decide only [go_sem,c1,hkt,hkB,hkG,hv,hg,hBf,hgl,c2,hwk,hBfl,hGl];rfl;kernel_rfl))
      refine a1m (c.nodes.length - (k + 1)) (by omega) (head2 (k + 1) cb pb b ids H hkt hcb hpb (by rw [hno];exact hT) _ (by simp +decide only [go_sem]<;>rfl) (fun π=>by simp +decide only [go_sem]<;>rfl))
     ·have c2:¬ (v:Int) = g:=by omega
      rw [decide_eq_true (by simpa using hvg)] at hdf
      have hyes:=d91 D c.nodes.length i k hkt hdf
      have hbl:=a0r hT.top
      have htop:=hT.top
      have hL:=b8t D c.nodes.length i k k hkt
      rw [if_neg (Nat.lt_irrefl k)] at hL
      have hget:=a8p (ids:=ids) (cp:=fun _=>none) hL
      have hrl:(a42 ids (fun _=>none) (foW D c.nodes.length i k)).length = c.nodes.length:=by rw [a4n,a7y]
      obtain ⟨aC1,aC2⟩:=hT.apart hcb (by omega) (by omega)
      obtain ⟨aP1,aP2⟩:=hT.apart hpb (by omega) (by omega)
      have hcl:=a0r hcb
      have hpl2:=a0r hpb
      have hWl:(((List.range i).filter (D.dif k)).map a0b).length ≤ 1000:=by
       rw [List.length_map];have:=List.length_filter_le (D.dif k) (List.range i);rw [List.length_range] at this;omega
      cases hw0:((List.range i).filter (D.dif k)).map a0b with
      | nil=>
       rw [hw0] at hL hget hyes
       simp only [slV] at hget
       rw [List.nil_append] at hyes
       (repeat first|simp only [ww]|(apply xa;simp +decide only [go_sem,c1,hkt,hkB,hkG,hv,hg,hBf,hgl,c2,hwk,hBfl,hGl,hbl,htop,hget,hrl,a3i,a3z,a2l,a7e,a6y,a8n,b6g,List.length_set,a5x,a9r,List.append_assoc,List.cons_append,List.nil_append];rfl;kernel_rfl))
       have hT2:=hT.app1 (o:=some (.row 1 [a0b i])) (x:=a0b i) hL rfl rfl
       rw [hyes] at hT2
       refine a1m (c.nodes.length - (k + 1)) (by omega) (head2 (k + 1) cb pb b _ _ hkt (by rw [a2q hcl,if_neg (Ne.symm aC1),hcb]) (by rw [a2q hpl2,if_neg (Ne.symm aP1),hpb]) hT2 _ (by simp +decide only [go_sem]<;>rfl) (fun π=>by simp +decide only [go_sem]<;>rfl))
      | cons a0 r0=>
       rw [hw0] at hL hget hyes hWl
       simp only [slV] at hget
       obtain ⟨s1,s2⟩:=hT.sub k _ hL (by simp)
       have s3:=a0r s1
       have hrm2:r0.length + 1 + 1 ≤ 1000000000:=by simp only [List.length_cons] at hWl;omega
       (repeat first|simp only [ww]|(apply xa;simp +decide only [go_sem,c1,hkt,hkB,hkG,hv,hg,hBf,hgl,c2,hwk,hBfl,hGl,hbl,htop,hget,hrl,s1,s2,s3,hrm2,a3i,a3z,a2l,a7e,a6y,a8n,b6g,List.length_set,a5x,a9r,List.append_assoc,List.cons_append,List.nil_append];rfl;kernel_rfl))
       have hT2:=hT.app2 (o:=some (.row 1 [a0b i])) (x:=a0b i) hL rfl rfl
       rw [hyes] at hT2
       refine a1m (c.nodes.length - (k + 1)) (by omega) (head2 (k + 1) cb pb b _ _ hkt (by rw [a7f hcl,if_neg (Ne.symm aC1),if_neg (Ne.symm (aC2 k _ hL (by simp))),hcb]) (by rw [a7f hpl2,if_neg (Ne.symm aP1),if_neg (Ne.symm (aP2 k _ hL (by simp))),hpb]) hT2 _ (by simp +decide only [go_sem]<;>rfl) (fun π=>by simp +decide only [go_sem]<;>rfl))
    ·obtain rfl:k = c.nodes.length:=by omega
     have c1:¬ (c.nodes.length:Int) < c.nodes.length:=by omega
     rw [d43] at hT
     (repeat first|simp only [ww]|(apply xa;simp +decide only [go_sem,c1,hwi,hBfl];rfl;kernel_rfl))
     refine a1m (D.fs.length - (i + 1)) (by omega) (head0 (i + 1) cb pb b ids H hlt hcb hpb hT _ (by simp +decide only [go_sem]<;>rfl) (fun π=>by simp +decide only [go_sem]<;>rfl))
  ·obtain rfl:i = D.fs.length:=by omega
   have d1:¬ (D.fs.length:Int) < D.fs.length:=by omega
   (repeat first|simp only [ww]|(apply xa;simp +decide only [go_sem,d1,List.length_map];rfl;kernel_rfl))
   refine a4f kp5_4 (fun N F H=>∃ (k b:Nat) (ids:Nat → Nat),N = c.nodes.length - k ∧ k ≤ c.nodes.length ∧ F = [(10,.islice LR (some c.nodes.length)),(15,.slice b 0 c.nodes.length (some c.nodes.length)),(21,.int .i64 (k:Nat))] ∧ Two H b 1 ids (fun _=>none) (foW D c.nodes.length D.fs.length 0)) (c.nodes.length - 0) ?_ ?_
   ·refine a5j hT (.inl (by simp +decide only [go_sem]<;>rfl)) (by rw [a7y];omega) ?_
    intro π b' ids' H1 hb hT2
    refine ⟨0,b',ids',rfl,Nat.zero_le _,?_,hT2⟩
    simp +decide only [go_sem,hb]<;>rfl
   ·rintro N F H ⟨k,b,ids,rfl,hk,rfl,hT⟩
    by_cases hkt:k < c.nodes.length
    ·have c1:(k:Int) < c.nodes.length:=by omega
     have hwk:=wI1 (n:=k) (by omega)
     have hL:=d92 D c.nodes.length k hkt
     have hget:=a8p (ids:=ids) (cp:=fun _=>none) hL
     have hbl:=a0r hT.top
     have htop:=hT.top
     have hrl:(a42 ids (fun _=>none) (foW D c.nodes.length D.fs.length 0)).length = c.nodes.length:=by rw [a4n,a7y]
     have hlg:=hLg k hkt
     have hkl:k < LR.length:=by omega
     have hnext:∀ F1:Frm,a0h ((a1u [10,15,21] F1).map (·.2)) = [b] → (∀ π,b5z π (a1u [10,15,21] F1) = [(10,.islice LR (some c.nodes.length)),(15,ren π (.slice b 0 c.nodes.length (some c.nodes.length))),(21,.int .i64 (k + 1:Nat))]) → ∃ F2 H2,gcD 0 [10,15,21] F1 H = some (F2,H2) ∧ ∃ (k' b:Nat) (ids:Nat → Nat),c.nodes.length - (k + 1) = c.nodes.length - k' ∧ k' ≤ c.nodes.length ∧ F2 = [(10,.islice LR (some c.nodes.length)),(15,.slice b 0 c.nodes.length (some c.nodes.length)),(21,.int .i64 (k':Nat))] ∧ Two H2 b 1 ids (fun _=>none) (foW D c.nodes.length D.fs.length 0):=by
      intro F1 hF1 hF2
      refine a5j hT (.inl hF1) (by rw [a7y];omega) ?_
      intro π b' ids' H1 hb hT2
      refine ⟨k + 1,b',ids',rfl,hkt,?_,hT2⟩
      rw [hF2];simp +decide only [go_sem,hb]<;>rfl
     have hSl:(D.dset k).length < 1000000:=by have:=d3v D.fs.length (D.dif k);show (a1k _ _).length < _;omega
     cases hS:D.dset k with
     | nil=>
      rw [hS] at hlg hget
      simp only [List.map_nil,slV] at hget
      have hin:=fun (d:Bool) (H:a03)=>c0q (d:=d) H
      have hdn:dsV [] = .nilslice:=rfl
      rw [hdn] at hlg
      (repeat first|simp only [ww]|(apply xa;simp +decide only [go_sem,c1,hkl,hlg,htop,hbl,hget,hrl,hkt,hwk,hLl];rfl;kernel_rfl))
      (repeat first|simp only [ww]|((with_reducible first|apply xs3|apply xI);(·simp +decide only [go_sem,c1,hkl,hlg,htop,hbl,hget,hrl,hkt,hin,hwk,hLl];rfl);first|with_reducible apply xT|with_reducible apply xF|(·repeat' (first|exact a9s|exact a9j|refine a7b ?_ ?_|refine a9i (by simp only [List.length_cons,List.length_nil];decide +kernel) ?_|refine a9k (a7m (by simp<;>omega) (by simp<;>omega) (by simp<;>omega)) ?_))))
      refine a1m (c.nodes.length - (k + 1)) (by omega) (hnext _ (by simp +decide only [go_sem]<;>rfl) (fun π=>by simp +decide only [go_sem]<;>rfl))
     | cons a0 r0=>
      rw [hS] at hlg hget hL hSl
      obtain ⟨s1,s2⟩:=hT.sub k _ hL (by simp)
      have hin:=fun (d:Bool)=>c2z (d:=d) (H:=H) (b:=ids k) (S:=a0 :: r0) (c:=none) hSl (by simp) s1
      have hget2:(a42 ids (fun _=>none) (foW D c.nodes.length D.fs.length 0))[k]? = some [.slice (ids k) 0 (a0 :: r0).length none]:=by rw [hget];simp [slV]
      generalize dsV (a0 :: r0) = DV at hlg hin
      generalize (a0 :: r0).length = m0 at hget2 hin
      (repeat first|simp only [ww]|(apply xa;simp +decide only [go_sem,c1,hkl,hlg,htop,hbl,hrl,hkt,hwk,hLl];rfl;kernel_rfl))
      (repeat first|simp only [ww]|((with_reducible first|apply xs3|apply xI);(·simp +decide only [go_sem,c1,hkl,hlg,htop,hbl,hget2,hrl,hkt,hin,hwk,hLl];rfl);first|with_reducible apply xT|with_reducible apply xF|(·repeat' (first|exact a9s|exact a9j|refine a7b ?_ ?_|refine a9i (by simp only [List.length_cons,List.length_nil];decide +kernel) ?_|refine a9k (a7m (by simp<;>omega) (by simp<;>omega) (by simp<;>omega)) ?_))))
      refine a1m (c.nodes.length - (k + 1)) (by omega) (hnext _ (by simp +decide only [go_sem]<;>rfl) (fun π=>by simp +decide only [go_sem]<;>rfl))
    ·obtain rfl:k = c.nodes.length:=by omega
     have c1:¬ (c.nodes.length:Int) < c.nodes.length:=by omega
     have htop:=hT.top
     have hbl:=a0r htop
     have hlv:=hlv H
     (repeat first|simp only [ww]|(apply xa;simp +decide only [go_sem,c1,hlv];rfl;kernel_rfl))
     (apply fqb;simp +decide only [go_sem]<;>rfl)
end Go.TInst
