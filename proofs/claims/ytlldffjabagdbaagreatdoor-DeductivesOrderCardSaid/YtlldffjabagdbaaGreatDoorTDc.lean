/- Part of a proof. No condition. -/
import Derived.Test.YtlldffjabagdbaaGreatDoorTDb
import Derived.Test.YtlldffjabagdbaaGreatDoorTOf
import Derived.Test.YtlldffjabagdbaaGreatDoorTFl
import Derived.Test.YtlldffjabagdbaaGreatDoorTIo
import Derived.Test.YtlldffjabagdbaaGreatDoorAxF
import Derived.Test.YtlldffjabagdbaaGreatDoorPcD
set_option linter.unusedSectionVars false
set_option linter.unusedSimpArgs false
set_option linter.unusedVariables false
namespace Go.TInst
open Go.Proofs Go.Ax Go.Pc
set_option maxRecDepth 100000
structure StOk (c:Cir) (g:Flt):Prop where
 ok:FltOk c.nodes g
 m0:g.model = 0
theorem d81 (c:Cir) (h:c.wf) (f:FX) (hf:f.ok):∃ g,StOk c g ∧ sem L.env Mf 38 [.agg (FX.enc { f with model:=0 }),.agg c.enc] [] = some (.agg g.enc,[]):=by
 obtain ⟨f1,f2,f3,f4⟩:=hf
 have hn:=h.len
 have hp:=h.pos
 have c0:¬ (c.nodes.length:Int) = 0:=by omega
 have hnd:f.node % c.nodes.length < c.nodes.length:=Nat.mod_lt _ hp
 have w2:=wI (n:=f.node) (by omega)
 have w3:=wI (n:=f.node % c.nodes.length) (by omega)
 have w6:=wI (n:=f.pin) (by omega)
 have w0:IntKind.u8.wrap 0 = 0:=rfl
 generalize hN1:f.node % c.nodes.length = nd at hnd w3
 obtain ⟨x,hx⟩:∃ x,c.nodes[nd]? = some x:=⟨_,z9e hnd⟩
 have hil:=h.insl (List.mem_of_getElem? hx)
 have hq:=Nat.mod_lt f.pin (show 0 < x.ins.length + 1 by omega)
 have p1:IntKind.i64.wrap ((x.ins.length:Int) + 1) = ((x.ins.length + 1:Nat):Int):=wI1 (by omega)
 have p2:IntKind.i64.wrap ((f.pin % (x.ins.length + 1):Nat):Int) = ((f.pin % (x.ins.length + 1):Nat):Int):=wI (by omega)
 have p3:IntKind.i64.wrap (((f.pin % (x.ins.length + 1):Nat):Int) - 1) = ((f.pin % (x.ins.length + 1):Nat):Int) - 1:=w64 (by omega) (by omega)
 have p4:¬ ((x.ins.length + 1:Nat):Int) = 0:=by omega
 cases ho:f.one
 ·refine ⟨⟨0,nd,((f.pin % (x.ins.length + 1):Nat):Int) - 1,0,0⟩,⟨c6z hx (by omega),rfl⟩,?_⟩
  simp only [Cir.enc,FX.enc,ho]
  (refine sv Tryz.f38 ?_;simp only [Tryz.f38,gS])
  (repeat first|simp only [ww]|(apply xa;simp +decide only [go_sem,c0,w2,w3,w6,w0,hN1,hx,hnd,p1,p2,p3,p4];rfl;kernel_rfl))
  (apply fqb;simp +decide only [go_sem,hx,hN1,p1,p2,p3,p4,Flt.enc]<;>rfl)
 ·refine ⟨⟨0,nd,((f.pin % (x.ins.length + 1):Nat):Int) - 1,1,0⟩,⟨c6z hx (by omega),rfl⟩,?_⟩
  simp only [Cir.enc,FX.enc,ho]
  (refine sv Tryz.f38 ?_;simp only [Tryz.f38,gS])
  (repeat first|simp only [ww]|(apply xa;simp +decide only [go_sem,c0,w2,w3,w6,w0,hN1,hx,hnd,p1,p2,p3,p4];rfl;kernel_rfl))
  (apply fqb;simp +decide only [go_sem,hx,hN1,p1,p2,p3,p4,Flt.enc]<;>rfl)
theorem c9g (c:Cir) (h:c.wf) (f:FX) (hf:f.ok):∃ g,StOk c g ∧ ∀ (d:Bool) (H:a03),a0g L.env d (sem L.env Mf) (.func (.func 38) [] []) [.agg (FX.enc { f with model:=0 }),.agg c.enc] H = some (.agg g.enc,H,[]):=by
 obtain ⟨g,h1,h2⟩:=d81 c h f hf
 exact ⟨g,h1,fun d H=>a04 (by kernel_rfl) (by kernel_rfl) rfl (by simp only [a0a,a1e,Cir.enc,FX.enc,go_sem]) h2 rfl⟩
def b7w (x:CX):CX:={ x with bus:=false }
theorem d24 {x:CX} (hx:x.ok):(b7w x).ok:=⟨hx.1,hx.2,hx.3,hx.4,hx.5,hx.6⟩
def a4k (x:CX):Cir:=(b2l (b7w x)).cir
theorem c7o (x:CX) (hx:x.ok):sem L.env Mf 7 [.agg x.enc] [] = some (.agg (a4k x).enc,[]):=by
 have hc:=fun H=>c0w (d:=false) H (b7w x) (d24 hx)
 rw [show (b2l (b7w x)).cir = a4k x from rfl] at hc
 generalize a4k x = c at hc
 simp only [go_sem,b7w] at hc
 simp only [Cir.enc] at hc
 (refine sv Tryz.f7 ?_;simp only [Tryz.f7,gS])
 (repeat first|simp only [ww]|(apply xa;simp +decide only [go_sem,hc];rfl;kernel_rfl))
 (apply fqb;simp +decide only [go_sem,Cir.enc]<;>rfl)
theorem c20 {d:Bool} (H:a03) (x:CX) (hx:x.ok):a0g L.env d (sem L.env Mf) (.func (.func 7) [] []) [.agg x.enc] H = some (.agg (a4k x).enc,H,[]):=
 a04 (by kernel_rfl) (by kernel_rfl) rfl (by simp only [go_sem]) (c7o x hx) (b2r _)
theorem c0h (g:GX) (ks:List Nat):(a0i false g ks).kind ≠ 12 ∧ (a0i false g ks).kind ≠ 13:=by
 unfold a0i
 simp only [Bool.false_eq_true,if_false]
 have h9:g.kind % 9 < 9:=Nat.mod_lt _ (by omega)
 generalize g.kind % 9 = k at h9
 split
 ·split<;>(constructor<;>(show (5 + k:Nat) ≠ _;omega))
 split
 ·constructor<;>(show (4:Nat) ≠ _;omega)
 split
 ·constructor<;>(show (11:Nat) ≠ _;omega)
 split
 ·omega
 split
 ·omega
 split
 ·constructor<;>(show (1 + g.i0 % 2:Nat) ≠ _;omega)
 ·constructor<;>(show (3:Nat) ≠ _;omega)
theorem c3y:∀ (l:List GX) (ks:List Nat),∀ x ∈ gN false ks l,x.kind ≠ 12 ∧ x.kind ≠ 13
 | [],_,x,hx=>by simp [gN] at hx
 | g :: l,ks,x,hx=>by
  simp only [gN,List.mem_cons] at hx
  rcases hx with rfl|hx
  ·exact c0h g ks
  ·exact c3y l _ x hx
theorem b9s (x:CX):∀ n ∈ (a4k x).nodes,n.kind ≠ 12 ∧ n.kind ≠ 13:=by
 intro n hn
 have hn:n ∈ (b2l (b7w x)).nodes:=hn
 unfold CX.nodes at hn
 simp only [List.mem_append] at hn
 rcases hn with (hn|hn)|hn
 ·rw [List.eq_of_mem_replicate hn];constructor<;>(show (0:Nat) ≠ _;omega)
 ·unfold CX.dn at hn
  obtain ⟨v,_,rfl⟩:=List.mem_map.1 hn
  constructor<;>(show (14:Nat) ≠ _;omega)
 ·exact c3y _ _ n hn
structure Bits (c:Cir) (p:Pat):Prop where
 ok:PatOk c.nodes p
 b1:∀ v ∈ p.ins,v ≤ 1
 b2:∀ v ∈ p.sts,v ≤ 1
theorem b86:∀ (is vs N:List Nat),(∀ v ∈ N,v ≤ 1) → (∀ v ∈ vs,v ≤ 1) → ∀ v ∈ a2p N is vs,v ≤ 1
 | [],vs,N,h,_=>by cases vs<;>exact h
 | _ :: _,[],N,h,_=>h
 | i :: is,w :: vs,N,h,hv=>by
  simp only [a2p]
  refine b86 is vs _ (fun v hm=>?_) (fun v hm=>hv v (List.mem_cons_of_mem _ hm))
  rcases List.mem_or_eq_of_mem_set hm with h1|h1
  ·exact h v h1
  ·rw [h1];exact hv w (List.mem_cons_self ..)
def a69 (c:Cir) (ord:List Nat) (p:Pat) (fs:List Flt):Ded:=⟨c.nodes,ord,a2p (a2p (List.replicate c.nodes.length 0) (kinds c.nodes 0) p.ins) (kinds c.nodes 14) p.sts,fs⟩
section
variable {c:Cir} (hc:c.wf) (hpl:∀ x ∈ c.nodes,x.kind ≠ 12 ∧ x.kind ≠ 13) (hO:c.outs ≠ []) {ord:List Nat} (hord:OrdOf c ord) {p:Pat} (hp:Bits c p) {fs:List Flt} (hf:∀ f ∈ fs,StOk c f) (hl:fs.length ≤ 1000)
include hc hpl hord hp hf hl
theorem c86:Mach0 c (a69 c ord p fs):=by
 have hget:∀ n,n < c.nodes.length → ∃ x,c.nodes[n]? = some x ∧ x ∈ c.nodes ∧ a0c c.nodes n = x.kind ∧ a17 c.nodes n = x.ins:=fun n hn=>by
  obtain ⟨x,hx⟩:∃ x,c.nodes[n]? = some x:=⟨_,z9e hn⟩
  exact ⟨x,hx,List.mem_of_getElem? hx,a18 hx,a29 hx⟩
 refine ⟨rfl,⟨hord.perm,hord.topo,fun n hn h=>?_,fun n hn m hm=>?_,fun n hn=>?_,fun n hn=>?_,fun n hn=>?_,?_,?_,fun f hm=>?_⟩,hl,by have:=hc.len;omega,hc.pos,fun x hx=>hc.insl hx,hc.kind⟩
 ·obtain ⟨x,_,hx,hk,_⟩:=hget n hn
  show a1d (a0c c.nodes n) = true
  have h:a0c c.nodes n ≠ 0 ∧ a0c c.nodes n ≠ 14:=h
  have k14:=hc.kind x hx
  rw [hk] at h ⊢
  have a:1 ≤ x.kind:=by omega
  have b:x.kind ≤ 13:=by omega
  simp [a1d,a,b]
 ·obtain ⟨x,_,hx,_,hi⟩:=hget n hn
  have hm:m ∈ a17 c.nodes n:=hm
  rw [hi] at hm
  exact hc.ins x hx m hm
 ·obtain ⟨x,_,hx,hk,hi⟩:=hget n hn
  show a1m (a0c c.nodes n) ≤ (a17 c.nodes n).length
  rw [hk,hi];exact hc.lo x hx
 ·obtain ⟨x,_,hx,hk,hi⟩:=hget n hn
  show (a17 c.nodes n).length ≤ a1s (a0c c.nodes n)
  rw [hk,hi];exact hc.hi x hx
 ·obtain ⟨x,_,hx,hk,_⟩:=hget n hn
  show a0c c.nodes n ≠ 12 ∧ a0c c.nodes n ≠ 13
  rw [hk];exact hpl x hx
 ·show (a2p (a2p _ _ _) _ _).length = _
  rw [a60,a60,List.length_replicate];rfl
 ·exact b86 _ _ _ (b86 _ _ _ (fun v hv=>by rw [List.eq_of_mem_replicate hv];omega) hp.b1) hp.b2
 ·have h:=hf f hm
  exact ⟨h.m0,h.ok.value,h.ok.pin.1,h.ok.node⟩
include hO
theorem d3u:DCalls c p (a69 c ord p fs):=by
 have hl2:=hp.ok.ins
 have hl3:=hp.ok.sts
 have h0:=a6f c.nodes 0
 have h14:=a6f c.nodes 14
 have hn:=hc.len
 refine ⟨⟨_,fun d H=>c2s (d:=d) H c hc⟩,fun f hm d H=>?_,fun d H=>?_,⟨b53 (a5f c.outs (c5p c ord p)),b53 (a6q c.nodes (c5p c ord p)),b06 _,b06 _,fun d H=>?_⟩,fun d H=>hord.call d H,hp.b1,hp.b2,by omega,by omega⟩
 ·exact c2o (d:=d) H c hc f (hf f hm).ok
 ·exact c1t (d:=d) H c hc p hp.ok
 ·exact a04 (E:=L.env) (draw:=d) (call:=sem L.env Mf) (H:=H) (g:=9) (fs:=[]) (cs:=[]) (ar:=[.agg c.enc,.agg p.enc]) (by kernel_rfl) (by kernel_rfl) rfl (by simp only [List.nil_append,List.append_nil,a0a,a1e,Cir.enc,Pat.enc,go_sem]) (d6c c hc hO p hp.ok ord hord) (by simp only [go_sem,a92,List.append_nil])
end
theorem d5n (x:BitVec 64) (k:Nat):∃ b:Nat,b ≤ 1 ∧ IntKind.u8.wrap (((x >>> k &&& BitVec.ofInt 64 1).toNat:Nat):Int) = (b:Int):=by
 have h:(x >>> k &&& BitVec.ofInt 64 1).toNat ≤ 1:=by
  rw [BitVec.toNat_and]
  exact Nat.and_le_right
 exact ⟨_,h,wB (n:=(x >>> k &&& BitVec.ofInt 64 1).toNat) (by omega)⟩
theorem d7y (c:Cir) (hc:c.wf) (hi0:kinds c.nodes 0 ≠ []) (x:BitVec 64):∃ r:AV × a03,(∃ p,Bits c p ∧ r = (.agg p.enc,[])) ∧ sem L.env Mf 8 [.agg [sl c.nc (c.nodes.map Nd.enc),sl c.mc (c.names.map a1n),.nilslice,sl c.oc (c.outs.map a0k)],u64 x] [] = some r:=by
 have hn:=hc.len
 have hrr:∀ l:List Nat,(l.map u8R).flatMap a0j = []:=fun l=>a0n (a2q l)
 have hrn:∀ (π:Nat → Option Nat) (l:List Nat),(l.map u8R).map (fun r=>r.map (ren π)) = l.map u8R:=fun π l=>a0m π (a2q l)
 have hfz:∀ {m:Nat} {d:AV → Option AV} (l:List Nat),a9a m d (l.map u8R) = some (l.map u8R):=fun l=>a1g _ _ (a2q l)
 have h64:((BitVec.ofInt 64 64) = 0) = False:=by decide
 (refine svE Tryz.f8 ?_;simp only [Tryz.f8,gS])
 (repeat first|simp only [ww]|(apply xa;simp +decide only [go_sem];rfl;kernel_rfl))
 refine a5k kp8_0 (fun N F H=>∃ (i:Nat) (K:BitVec 64) (a:List Nat),N = c.nodes.length - i ∧ i ≤ c.nodes.length ∧ a.length = (a3k c.nodes 0 i).length ∧ (∀ v ∈ a,v ≤ 1) ∧
  F = [(1,u64 x),(2,.ptr 0 0 0),(4,.ptr 1 0 0),(5,.ptr 2 0 0),(6,u64 K),(7,.int .i64 (i:Nat))] ∧ H = [some (.row 4 [[sl c.nc (c.nodes.map Nd.enc),sl c.mc (c.names.map a1n),.nilslice,sl c.oc (c.outs.map a0k)]]),some (.row 2 [[.nilslice,.nilslice]]),some (.row 2 [[grV 3 (a.map u8R),.nilslice]])] ++ grH 1 (a.map u8R)) (c.nodes.length - 0) ?_ ?_
 ·refine ⟨_,_,?_,0,0,[],rfl,Nat.zero_le _,rfl,by simp,rfl,rfl⟩
  (simp +decide only [go_sem,a02,a00,List.map_nil,a0q,a0r]<;>rfl)<;>rfl
 ·rintro N F H ⟨i,K,a,rfl,hi,hal,hab,rfl,rfl⟩
  have hle:=b0e c.nodes 0 i
  by_cases hlt:i < c.nodes.length
  ·obtain ⟨nd,hx⟩:∃ x,c.nodes[i]? = some x:=⟨_,z9e hlt⟩
   have c1:(i:Int) < c.nodes.length:=by omega
   have hw:=wI1 (n:=i) (by omega)
   have hs:=a9s c.nodes 0 i
   rw [a18 hx] at hs
   have hrm:a.length + 1 ≤ 1000000000:=by omega
   by_cases hk:nd.kind = 0
   ·rw [if_pos hk] at hs
    have hk':(nd.kind:Int) = 0:=by omega
    obtain ⟨b,hb1,hb2⟩:=d5n x (K % BitVec.ofInt 64 64).toNat
    have hl2:(a ++ [b]).length = (a3k c.nodes 0 (i + 1)).length:=by rw [hs,List.length_append,List.length_append,hal];rfl
    have hv2:∀ v ∈ a ++ [b],v ≤ 1:=fun v hv=>by rcases List.mem_append.1 hv with h|h;exact hab v h;rw [List.mem_singleton.1 h];exact hb1
    cases a with
    | nil=>
     (repeat first|simp only [ww]|(apply xa;simp +decide only [go_sem,c1,hlt,hx,hk',hw,h64,hb2,List.map_nil,a0q,a0r];rfl;kernel_rfl))
     refine a21 (c.nodes.length - (i + 1)) (by omega) ⟨_,_,?_,i + 1,K + BitVec.ofInt 64 1,[b],rfl,hlt,hl2,hv2,rfl,rfl⟩
     (simp +decide only [go_sem,a02,a00,List.map_cons,List.map_nil,a0d,a0e,u8R,List.length_nil]<;>rfl)<;>rfl
    | cons a0 r=>
     simp only [List.length_cons] at hrm
     (repeat first|simp only [ww]|(apply xa;simp +decide only [go_sem,c1,hlt,hx,hk',hw,h64,hb2,List.map_cons,a0d,a0e,hrm,List.length_map];rfl;kernel_rfl))
     refine a21 (c.nodes.length - (i + 1)) (by omega) ⟨_,_,?_,i + 1,K + BitVec.ofInt 64 1,a0 :: r ++ [b],rfl,hlt,hl2,hv2,rfl,rfl⟩
     (simp +decide only [go_sem,a02,a00,List.cons_append,List.map_cons,List.map_append,List.map_nil,a0d,a0e,hrr,hrn,u8R,List.length_map,List.length_append,List.length_cons,List.length_nil]<;>rfl)<;>rfl
   ·rw [if_neg hk] at hs
    have hk':¬ (nd.kind:Int) = 0:=by omega
    rw [← hs] at hal
    cases a with
    | nil=>
     (repeat first|simp only [ww]|(apply xa;simp +decide only [go_sem,c1,hlt,hx,hk',hw,List.map_nil,a0q,a0r];rfl;kernel_rfl))
     refine a21 (c.nodes.length - (i + 1)) (by omega) ⟨_,_,?_,i + 1,K,[],rfl,hlt,hal,hab,rfl,rfl⟩
     (simp +decide only [go_sem,a02,a00,List.map_nil,a0q,a0r]<;>rfl)<;>rfl
    | cons a0 r=>
     (repeat first|simp only [ww]|(apply xa;simp +decide only [go_sem,c1,hlt,hx,hk',hw,List.map_cons,a0d,a0e,List.length_map];rfl;kernel_rfl))
     refine a21 (c.nodes.length - (i + 1)) (by omega) ⟨_,_,?_,i + 1,K,a0 :: r,rfl,hlt,hal,hab,rfl,rfl⟩
     (simp +decide only [go_sem,a02,a00,List.map_cons,a0d,a0e,hrr,hrn,u8R,List.length_map]<;>rfl)<;>rfl
  ·obtain rfl:i = c.nodes.length:=by omega
   have c1:¬ (c.nodes.length:Int) < c.nodes.length:=by omega
   cases a with
   | nil=>exact absurd (List.length_eq_zero_iff.1 hal.symm) hi0
   | cons a0 r=>
    have hAr:=hrr (a0 :: r)
    have hAn:=fun π=>hrn π (a0 :: r)
    have hAf:=fun (m:Nat) (d:AV → Option AV)=>hfz (m:=m) (d:=d) (a0 :: r)
    have hAl:((a0 :: r).map u8R).length = r.length + 1:=by simp
    have hAt:((a0 :: r).map u8R).take (r.length + 1) = (a0 :: r).map u8R:=List.take_of_length_le (by simp)
    have hV0:grV 3 ((a0 :: r).map u8R) = .slice 3 0 (r.length + 1) none:=by simp only [List.map_cons,a0d,List.length_map]
    have hH0:grH 1 ((a0 :: r).map u8R) = [some (.row 1 ((a0 :: r).map u8R))]:=by simp only [List.map_cons,a0e]
    rw [hV0,hH0]
    have hfin:∀ (B:List Nat),B.length = (a3k c.nodes 14 c.nodes.length).length → (∀ v ∈ B,v ≤ 1) → ∀ sc:Rep,∃ p,Bits c p ∧ ((AV.agg [.islice ((a0 :: r).map u8R) none,sl sc (B.map u8R)],[]):AV × a03) = (.agg p.enc,[]):=by
     intro B hB hb sc
     exact ⟨⟨some none,a0 :: r,sc,B⟩,⟨⟨hal,hB,fun v hv=>by have:=hab v hv;omega,fun v hv=>by have:=hb v hv;omega⟩,hab,hb⟩,rfl⟩
    generalize hAR:(a0 :: r).map u8R = AR at hAr hAn hAf hAl hAt hfin
    (repeat first|simp only [ww]|(apply xa;simp +decide only [go_sem,c1];rfl;kernel_rfl))
    refine a5k kp8_2 (fun N F H=>∃ (i:Nat) (K:BitVec 64) (B:List Nat),N = c.nodes.length - i ∧ i ≤ c.nodes.length ∧ B.length = (a3k c.nodes 14 i).length ∧ (∀ v ∈ B,v ≤ 1) ∧
     F = [(1,u64 x),(2,.ptr 0 0 0),(4,.ptr 1 0 0),(5,.ptr 2 0 0),(6,u64 K),(8,.int .i64 (i:Nat))] ∧ H = [some (.row 4 [[sl c.nc (c.nodes.map Nd.enc),sl c.mc (c.names.map a1n),.nilslice,sl c.oc (c.outs.map a0k)]]),some (.row 2 [[.nilslice,.nilslice]]),some (.row 2 [[.slice 3 0 (r.length + 1) none,grV 4 (B.map u8R)]]),some (.row 1 AR)] ++ grH 1 (B.map u8R)) (c.nodes.length - 0) ?_ ?_
    ·refine ⟨_,_,?_,0,K,[],rfl,Nat.zero_le _,rfl,by simp,rfl,rfl⟩
     (simp +decide only [go_sem,a02,a00,List.map_nil,a0q,a0r,hAr,hAn]<;>rfl)<;>rfl
    ·rintro N F H ⟨i,K,B,rfl,hi,hBl,hBb,rfl,rfl⟩
     have hle:=b0e c.nodes 14 i
     by_cases hlt:i < c.nodes.length
     ·obtain ⟨nd,hx⟩:∃ x,c.nodes[i]? = some x:=⟨_,z9e hlt⟩
      have c1:(i:Int) < c.nodes.length:=by omega
      have hw:=wI1 (n:=i) (by omega)
      have hs:=a9s c.nodes 14 i
      rw [a18 hx] at hs
      have hrm:B.length + 1 ≤ 1000000000:=by omega
      by_cases hk:nd.kind = 14
      ·rw [if_pos hk] at hs
       have hk':(nd.kind:Int) = 14:=by omega
       obtain ⟨b,hb1,hb2⟩:=d5n x (K % BitVec.ofInt 64 64).toNat
       have hl2:(B ++ [b]).length = (a3k c.nodes 14 (i + 1)).length:=by rw [hs,List.length_append,List.length_append,hBl];rfl
       have hv2:∀ v ∈ B ++ [b],v ≤ 1:=fun v hv=>by rcases List.mem_append.1 hv with h|h;exact hBb v h;rw [List.mem_singleton.1 h];exact hb1
       cases B with
       | nil=>
        (repeat first|simp only [ww]|(apply xa;simp +decide only [go_sem,c1,hlt,hx,hk',hw,h64,hb2,List.map_nil,a0q,a0r];rfl;kernel_rfl))
        refine a21 (c.nodes.length - (i + 1)) (by omega) ⟨_,_,?_,i + 1,K + BitVec.ofInt 64 1,[b],rfl,hlt,hl2,hv2,rfl,rfl⟩
        (simp +decide only [go_sem,a02,a00,List.map_cons,List.map_nil,a0d,a0e,u8R,List.length_nil,hAr,hAn]<;>rfl)<;>rfl
       | cons b0 q=>
        simp only [List.length_cons] at hrm
        (repeat first|simp only [ww]|(apply xa;simp +decide only [go_sem,c1,hlt,hx,hk',hw,h64,hb2,List.map_cons,a0d,a0e,hrm,List.length_map];rfl;kernel_rfl))
        refine a21 (c.nodes.length - (i + 1)) (by omega) ⟨_,_,?_,i + 1,K + BitVec.ofInt 64 1,b0 :: q ++ [b],rfl,hlt,hl2,hv2,rfl,rfl⟩
        (simp +decide only [go_sem,a02,a00,List.cons_append,List.map_cons,List.map_append,List.map_nil,a0d,a0e,hrr,hrn,u8R,List.length_map,List.length_append,List.length_cons,List.length_nil,hAr,hAn]<;>rfl)<;>rfl
      ·rw [if_neg hk] at hs
       have hk':¬ (nd.kind:Int) = 14:=by omega
       rw [← hs] at hBl
       cases B with
       | nil=>
        (repeat first|simp only [ww]|(apply xa;simp +decide only [go_sem,c1,hlt,hx,hk',hw,List.map_nil,a0q,a0r];rfl;kernel_rfl))
        refine a21 (c.nodes.length - (i + 1)) (by omega) ⟨_,_,?_,i + 1,K,[],rfl,hlt,hBl,hBb,rfl,rfl⟩
        (simp +decide only [go_sem,a02,a00,List.map_nil,a0q,a0r,hAr,hAn]<;>rfl)<;>rfl
       | cons b0 q=>
        (repeat first|simp only [ww]|(apply xa;simp +decide only [go_sem,c1,hlt,hx,hk',hw,List.map_cons,a0d,a0e,List.length_map];rfl;kernel_rfl))
        refine a21 (c.nodes.length - (i + 1)) (by omega) ⟨_,_,?_,i + 1,K,b0 :: q,rfl,hlt,hBl,hBb,rfl,rfl⟩
        (simp +decide only [go_sem,a02,a00,List.map_cons,a0d,a0e,hrr,hrn,u8R,List.length_map,hAr,hAn]<;>rfl)<;>rfl
     ·obtain rfl:i = c.nodes.length:=by omega
      have c1:¬ (c.nodes.length:Int) < c.nodes.length:=by omega
      have hfin:=hfin B hBl hBb
      cases B with
      | nil=>
       (repeat first|simp only [ww]|(apply xa;simp +decide only [go_sem,c1,List.map_nil,a0q,a0r];rfl;kernel_rfl))
       refine a77 (vs:=[.agg [.slice 3 0 (r.length + 1) none,.nilslice]]) (r:=(.agg [.islice AR none,.nilslice],[])) (by simp +decide only [go_sem]<;>rfl) ?_ (hfin none)
       show a1j false 0 _ _ = _
       simp +decide only [go_sem,a5g,hAf,hAl,hAt]<;>rfl
      | cons b0 q=>
       have hBf:=fun (m:Nat) (d:AV → Option AV)=>hfz (m:=m) (d:=d) (b0 :: q)
       have hBl2:((b0 :: q).map u8R).length = q.length + 1:=by simp
       have hBt:((b0 :: q).map u8R).take (q.length + 1) = (b0 :: q).map u8R:=List.take_of_length_le (by simp)
       have hV1:grV 4 ((b0 :: q).map u8R) = .slice 4 0 (q.length + 1) none:=by simp only [List.map_cons,a0d,List.length_map]
       have hH1:grH 1 ((b0 :: q).map u8R) = [some (.row 1 ((b0 :: q).map u8R))]:=by simp only [List.map_cons,a0e]
       have hBe:sl (some none) ((b0 :: q).map u8R) = .islice ((b0 :: q).map u8R) none:=rfl
       rw [hV1,hH1]
       have hfin:=hfin (some none)
       rw [hBe] at hfin
       generalize (b0 :: q).map u8R = BR at hBf hBl2 hBt hfin
       (repeat first|simp only [ww]|(apply xa;simp +decide only [go_sem,c1];rfl;kernel_rfl))
       refine a77 (vs:=[.agg [.slice 3 0 (r.length + 1) none,.slice 4 0 (q.length + 1) none]]) (r:=(.agg [.islice AR none,.islice BR none],[])) (by simp +decide only [go_sem]<;>rfl) ?_ hfin
       show a1j false 0 _ _ = _
       simp +decide only [go_sem,a5g,hAf,hAl,hAt,hBf,hBl2,hBt]<;>rfl
theorem c99 (c:Cir) (hc:c.wf) (hi0:kinds c.nodes 0 ≠ []) (x:BitVec 64):∃ p,Bits c p ∧ ∀ (d:Bool) (H:a03),a0g L.env d (sem L.env Mf) (.func (.func 8) [] []) [.agg c.enc,u64 x] H = some (.agg p.enc,H,[]):=by
 obtain ⟨r,⟨p,hp,rfl⟩,h⟩:=d7y c hc hi0 x
 exact ⟨p,hp,fun d H=>a04 (by kernel_rfl) (by kernel_rfl) rfl (by simp only [a0a,a1e,Cir.enc,go_sem]) h (by simp only [a1e,Pat.enc,go_sem])⟩
theorem c9t (x:CX) (hx:x.ok) (zr:Rep) (z:List FX) (hz:∀ f ∈ z,f.ok) (hzl:z.length < 9223372036854775808):∃ r:AV × a03,(∃ (lr:Rep) (l:List Flt),l.length ≤ 80 ∧ (∀ f ∈ l,StOk (a4k x) f) ∧ r = (.tuple [.agg (a4k x).enc,sl lr (l.map Flt.enc)],[])) ∧ sem L.env Mf 15 [.agg x.enc,sl zr (z.map FX.enc)] [] = some r:=by
 have hpc:=fun H=>c20 (d:=false) H x hx
 have hw:(a4k x).wf:=CX.wf _
 generalize a4k x = c at hpc hw ⊢
 have hof:=c9g c hw
 have hrr:∀ l:List Flt,(l.map Flt.enc).flatMap a0j = []:=fun l=>a0n (FlatR.map fun _=>rfl)
 have hrn:∀ (π:Nat → Option Nat) (l:List Flt),(l.map Flt.enc).map (fun r=>r.map (ren π)) = l.map Flt.enc:=fun π l=>a0m π (FlatR.map fun _=>rfl)
 have hfz:∀ {m:Nat} {d:AV → Option AV} (l:List Flt),a9a m d (l.map Flt.enc) = some (l.map Flt.enc):=fun l=>a1g _ _ (FlatR.map fun _=>rfl)
 simp only [go_sem] at hpc
 simp only [Cir.enc] at hpc hof ⊢
 simp only [CX.enc]
 (refine svE Tryz.f15 ?_;simp only [Tryz.f15,gS])
 (repeat first|simp only [ww]|(apply xa;simp +decide only [go_sem,hpc];rfl;kernel_rfl))
 refine a5k kp15_0 (fun N F H=>∃ (i:Nat) (l:List Flt),N = 80 - i ∧ i ≤ z.length ∧ i ≤ 80 ∧ l.length = i ∧ (∀ f ∈ l,StOk c f) ∧ F = [(1,sl zr (z.map FX.enc)),(4,.ptr 0 0 0),(6,.ptr 1 0 0),(7,grV 2 (l.map Flt.enc)),(8,.int .i64 (i:Nat))] ∧ H = [some (.row 4 [[.nilslice,.nilslice,.nilslice,.nilslice]]),some (.row 4 [[sl c.nc (c.nodes.map Nd.enc),sl c.mc (c.names.map a1n),.nilslice,sl c.oc (c.outs.map a0k)]])] ++ grH 5 (l.map Flt.enc)) (80 - 0) ?_ ?_
 ·refine ⟨_,_,?_,0,[],rfl,Nat.zero_le _,by omega,rfl,by simp,rfl,rfl⟩
  (simp +decide only [go_sem,a02,a00,List.map_nil,a0q,a0r]<;>rfl)<;>rfl
 ·rintro N F H ⟨i,l,rfl,hi,hi80,hl,hlo,rfl,rfl⟩
  have hfin:∃ (lr:Rep) (l':List Flt),l'.length ≤ 80 ∧ (∀ f ∈ l',StOk c f) ∧ ((AV.tuple [.agg [sl c.nc (c.nodes.map Nd.enc),sl c.mc (c.names.map a1n),.nilslice,sl c.oc (c.outs.map a0k)],sl (match l with|[]=>none|_=>some none) (l.map Flt.enc)],[]):AV × a03) = (.tuple [.agg [sl c.nc (c.nodes.map Nd.enc),sl c.mc (c.names.map a1n),.nilslice,sl c.oc (c.outs.map a0k)],sl lr (l'.map Flt.enc)],[]):=⟨_,l,by omega,hlo,rfl⟩
  by_cases hlt:i < z.length
  ·have c1:(i:Int) < z.length:=by omega
   by_cases h80:i < 80
   ·have c2:(i:Int) < 80:=by omega
    obtain ⟨f,hf⟩:∃ f,z[i]? = some f:=⟨_,z9e hlt⟩
    obtain ⟨g,hg,hcg⟩:=hof f (hz f (List.mem_of_getElem? hf))
    simp only [FX.enc,Flt.enc,Int.natCast_zero] at hcg
    have hw:=wI1 (n:=i) (by omega)
    have hrm:l.length + 1 ≤ 1000000000:=by omega
    have hlo2:∀ f ∈ l ++ [g],StOk c f:=fun f hf=>by rcases List.mem_append.1 hf with h|h;exact hlo f h;rw [List.mem_singleton.1 h];exact hg
    have hl2:(l ++ [g]).length = i + 1:=by simp [hl]
    cases l with
    | nil=>
     (repeat first|simp only [ww]|(apply xa;simp +decide only [go_sem,c1,c2,hlt,hf,hcg,hw,List.map_nil,a0q,a0r];rfl;kernel_rfl))
     refine a21 (80 - (i + 1)) (by omega) ⟨_,_,?_,i + 1,[g],rfl,hlt,h80,hl2,hlo2,rfl,rfl⟩
     (simp +decide only [go_sem,a02,a00,List.map_cons,List.map_nil,a0d,a0e,Flt.enc,List.length_nil]<;>rfl)<;>rfl
    | cons a r=>
     simp only [List.length_cons] at hrm
     (repeat first|simp only [ww]|(apply xa;simp +decide only [go_sem,c1,c2,hlt,hf,hcg,hw,List.map_cons,a0d,a0e,hrm,List.length_map];rfl;kernel_rfl))
     refine a21 (80 - (i + 1)) (by omega) ⟨_,_,?_,i + 1,a :: r ++ [g],rfl,hlt,h80,hl2,hlo2,rfl,rfl⟩
     (simp +decide only [go_sem,a02,a00,List.cons_append,List.map_cons,List.map_append,List.map_nil,a0d,a0e,hrr,hrn,Flt.enc,List.length_map,List.length_append,List.length_cons,List.length_nil]<;>rfl)<;>rfl
   ·have c2:¬ (i:Int) < 80:=by omega
    cases l with
    | nil=>
     (repeat first|simp only [ww]|(apply xa;simp +decide only [go_sem,c1,c2,List.map_nil,a0q,a0r];rfl;kernel_rfl))
     refine a77 (vs:=[.agg [sl c.nc (c.nodes.map Nd.enc),sl c.mc (c.names.map a1n),.nilslice,sl c.oc (c.outs.map a0k)],.nilslice]) (r:=(.tuple [.agg [sl c.nc (c.nodes.map Nd.enc),sl c.mc (c.names.map a1n),.nilslice,sl c.oc (c.outs.map a0k)],.nilslice],[])) (by simp +decide only [go_sem]<;>rfl) ?_ hfin
     show a1j false 0 _ _ = _
     simp +decide only [go_sem,a5g]<;>rfl
    | cons a r=>
     have hAf:=fun (m:Nat) (d:AV → Option AV)=>hfz (m:=m) (d:=d) (a :: r)
     have hAl:((a :: r).map Flt.enc).length = r.length + 1:=by simp
     have hAt:((a :: r).map Flt.enc).take (r.length + 1) = (a :: r).map Flt.enc:=List.take_of_length_le (by simp)
     have hV0:grV 2 ((a :: r).map Flt.enc) = .slice 2 0 (r.length + 1) none:=by simp only [List.map_cons,a0d,List.length_map]
     have hH0:grH 5 ((a :: r).map Flt.enc) = [some (.row 5 ((a :: r).map Flt.enc))]:=by simp only [List.map_cons,a0e]
     have hE:sl (some none) ((a :: r).map Flt.enc) = .islice ((a :: r).map Flt.enc) none:=rfl
     simp only [hE] at hfin
     rw [hV0,hH0]
     generalize (a :: r).map Flt.enc = AR at hAf hAl hAt hfin
     (repeat first|simp only [ww]|(apply xa;simp +decide only [go_sem,c1,c2];rfl;kernel_rfl))
     refine a77 (vs:=[.agg [sl c.nc (c.nodes.map Nd.enc),sl c.mc (c.names.map a1n),.nilslice,sl c.oc (c.outs.map a0k)],.slice 2 0 (r.length + 1) none]) (r:=(.tuple [.agg [sl c.nc (c.nodes.map Nd.enc),sl c.mc (c.names.map a1n),.nilslice,sl c.oc (c.outs.map a0k)],.islice AR none],[])) (by simp +decide only [go_sem]<;>rfl) ?_ hfin
     show a1j false 0 _ _ = _
     simp +decide only [go_sem,a5g,hAf,hAl,hAt]<;>rfl
  ·have c1:¬ (i:Int) < z.length:=by omega
   cases l with
   | nil=>
    (repeat first|simp only [ww]|(apply xa;simp +decide only [go_sem,c1,List.map_nil,a0q,a0r];rfl;kernel_rfl))
    refine a77 (vs:=[.agg [sl c.nc (c.nodes.map Nd.enc),sl c.mc (c.names.map a1n),.nilslice,sl c.oc (c.outs.map a0k)],.nilslice]) (r:=(.tuple [.agg [sl c.nc (c.nodes.map Nd.enc),sl c.mc (c.names.map a1n),.nilslice,sl c.oc (c.outs.map a0k)],.nilslice],[])) (by simp +decide only [go_sem]<;>rfl) ?_ hfin
    show a1j false 0 _ _ = _
    simp +decide only [go_sem,a5g]<;>rfl
   | cons a r=>
    have hAf:=fun (m:Nat) (d:AV → Option AV)=>hfz (m:=m) (d:=d) (a :: r)
    have hAl:((a :: r).map Flt.enc).length = r.length + 1:=by simp
    have hAt:((a :: r).map Flt.enc).take (r.length + 1) = (a :: r).map Flt.enc:=List.take_of_length_le (by simp)
    have hV0:grV 2 ((a :: r).map Flt.enc) = .slice 2 0 (r.length + 1) none:=by simp only [List.map_cons,a0d,List.length_map]
    have hH0:grH 5 ((a :: r).map Flt.enc) = [some (.row 5 ((a :: r).map Flt.enc))]:=by simp only [List.map_cons,a0e]
    have hE:sl (some none) ((a :: r).map Flt.enc) = .islice ((a :: r).map Flt.enc) none:=rfl
    simp only [hE] at hfin
    rw [hV0,hH0]
    generalize (a :: r).map Flt.enc = AR at hAf hAl hAt hfin
    (repeat first|simp only [ww]|(apply xa;simp +decide only [go_sem,c1];rfl;kernel_rfl))
    refine a77 (vs:=[.agg [sl c.nc (c.nodes.map Nd.enc),sl c.mc (c.names.map a1n),.nilslice,sl c.oc (c.outs.map a0k)],.slice 2 0 (r.length + 1) none]) (r:=(.tuple [.agg [sl c.nc (c.nodes.map Nd.enc),sl c.mc (c.names.map a1n),.nilslice,sl c.oc (c.outs.map a0k)],.islice AR none],[])) (by simp +decide only [go_sem]<;>rfl) ?_ hfin
    show a1j false 0 _ _ = _
    simp +decide only [go_sem,a5g,hAf,hAl,hAt]<;>rfl
theorem c2q (x:CX) (hx:x.ok) (zr:Rep) (z:List FX) (hz:∀ f ∈ z,f.ok) (hzl:z.length < 9223372036854775808):∃ (lr:Rep) (l:List Flt),l.length ≤ 80 ∧ (∀ f ∈ l,StOk (a4k x) f) ∧
 ∀ (d:Bool) (H:a03),a0g L.env d (sem L.env Mf) (.func (.func 15) [] []) [.agg x.enc,sl zr (z.map FX.enc)] H = some (.tuple [.agg (a4k x).enc,sl lr (l.map Flt.enc)],H,[]):=by
 obtain ⟨r,⟨lr,l,h1,h2,rfl⟩,h⟩:=c9t x hx zr z hz hzl
 exact ⟨lr,l,h1,h2,fun d H=>a04 (by kernel_rfl) (by kernel_rfl) rfl (by simp only [List.nil_append,List.append_nil,a0a,a1e,go_sem]) h (by simp only [b19,a0a,a1e,b2r,a6o,a54,List.append_nil])⟩
theorem c8s (S:List Int) (c:Option Nat) (hl:S.length < 1000000) (hne:S ≠ []):sem L.env Mf 16 [dsV S,.slice 0 0 S.length c] [some (.row 1 (S.map a1p))] = some (.bool true,[some (.row 1 (S.map a1p))]):=by
 have hd:dsV S = .islice (S.map a1p) (some S.length):=by cases S with|nil=>exact absurd rfl hne|cons a r=>rfl
 rw [hd]
 have hf:=a9v S
 have h1:=a0n hf
 have h2:=fun π=>a0m π hf
 have c0:¬ ¬ (S.length:Int) = S.length:=by simp
 (refine sv Tryz.f16 ?_;simp only [Tryz.f16,gS])
 (repeat first|simp only [ww]|(apply xa;simp +decide only [go_sem,c0,List.length_map];rfl;kernel_rfl))
 refine a0x (σ:=Nat) kp16_0 (fun i=>[(0,.islice (S.map a1p) (some S.length)),(1,.slice 0 0 S.length c),(5,.int .i64 i)]) (fun i=>[some (.row 1 (S.map a1p))]) (fun i=>S.length - i) (fun i=>i ≤ S.length) 0 ?_ (Nat.zero_le _) ?_
 ·(simp +decide only [go_sem,a02,a00,h1,h2]<;>rfl)<;>rfl
 ·intro i hi
  by_cases hlt:i < S.length
  ·obtain ⟨v,hv⟩:∃ v,S[i]? = some v:=⟨_,z9e hlt⟩
   have hg:(S.map a1p)[i]? = some [.int .i64 v]:=by rw [List.getElem?_map,hv];rfl
   have hml:(S.map a1p).length = S.length:=List.length_map ..
   have c1:(i:Int) < S.length:=by omega
   have hw:=wI1 (n:=i) (by omega)
   generalize S.map a1p = T at hg hml h1 h2
   (repeat first|simp only [ww]|(apply xa;simp +decide only [go_sem,c1,hlt,hg,hml,hw];rfl;kernel_rfl))
   refine a1y (i + 1) ?_ (by omega) (by omega)
   (simp +decide only [go_sem,a02,a00,h1,h2]<;>rfl)<;>rfl
  ·obtain rfl:i = S.length:=by omega
   have c1:¬ (S.length:Int) < S.length:=by omega
   have hml:(S.map a1p).length = S.length:=List.length_map ..
   generalize S.map a1p = T at hml h1 h2
   (repeat first|simp only [ww]|(apply xa;simp +decide only [go_sem,c1,hml];rfl;kernel_rfl))
   (apply fqb;simp +decide only [go_sem,h2]<;>rfl)
theorem c5l:sem L.env Mf 16 [.nilslice,.nilslice] [] = some (.bool true,[]):=by
 (refine sv Tryz.f16 ?_;simp only [Tryz.f16,gS])
 (repeat first|simp only [ww]|(apply xa;simp +decide only [go_sem];rfl;kernel_rfl))
 refine a5k kp16_0 (fun N F H=>F = [(0,.nilslice),(1,.nilslice),(5,.int .i64 0)] ∧ H = []) 0 ?_ ?_
 ·exact ⟨_,_,by (simp +decide only [go_sem,a02,a00]<;>rfl)<;>rfl,rfl,rfl⟩
 ·rintro N F H ⟨rfl,rfl⟩
  (repeat first|simp only [ww]|(apply xa;simp +decide only [go_sem];rfl;kernel_rfl))
  (apply fqb;simp +decide only [go_sem]<;>rfl)
theorem b4h {d:Bool} {H:a03} {b:Nat} {S:List Int} {c:Option Nat} (hl:S.length < 1000000) (hne:S ≠ []) (hb:a01 H b = some (.row 1 (S.map a1p))) :
 a0g L.env d (sem L.env Mf) (.func (.func 16) [] []) [dsV S,.slice b 0 S.length c] H = some (.bool true,H,[b]):=by
 have hr:=b08 S
 have hren:∀ π,ren π (dsV S) = dsV S:=fun π=>a2m π _ hr
 have h:=a4u (E:=L.env) (draw:=d) (call:=sem L.env Mf) (g:=16) (fs:=[]) (cs:=[]) (ar:=[dsV S,.slice b 0 S.length c]) (H:=H) (b:=b) (by kernel_rfl) (by kernel_rfl) rfl hb (a0s (a9v S)) (FlatO.row (a9v S)) (by simp only [List.nil_append,List.append_nil,a0a,hr,b1a];rfl) (args':=[dsV S,.slice 0 0 S.length c]) (by simp only [List.nil_append,List.append_nil,List.map_cons,List.map_nil,a20,hren]) (c8s S c hl hne) (FlatO.row (a9v S)) rfl
 rw [a8y hb] at h
 exact h
theorem b2a {d:Bool} (H:a03):a0g L.env d (sem L.env Mf) (.func (.func 16) [] []) [.nilslice,.nilslice] H = some (.bool true,H,[]):=
 a04 (by kernel_rfl) (by kernel_rfl) rfl rfl c5l rfl
section
variable (D:Ded) (n:Nat)
end
theorem d21 (x:CX):(a4k x).outs ≠ []:=by
 show CX.outN _ ≠ []
 unfold CX.outN;simp
theorem e1t (x:CX):kinds (a4k x).nodes 0 ≠ []:=by
 have hk:0 < (b2l (b7w x)).k:=by unfold CX.k;omega
 have h0:a0c (a4k x).nodes 0 = 0:=by
  show a0c (b2l (b7w x)).nodes 0 = 0
  unfold CX.nodes a0c
  obtain ⟨k,hk'⟩:∃ k,(b2l (b7w x)).k = k + 1:=⟨_,(Nat.succ_pred_eq_of_pos hk).symm⟩
  rw [hk']
  simp only [List.replicate_succ,List.cons_append,List.getElem?_cons_zero]
  rfl
 have hp:0 < (a4k x).nodes.length:=(CX.wf _).pos
 intro e
 have:(0:Nat) ∈ kinds (a4k x).nodes 0:=by
  unfold kinds a3k
  rw [List.mem_filter]
  exact ⟨List.mem_range.2 hp,by simp [h0]⟩
 rw [e] at this;cases this
set_option maxHeartbeats 200000000
theorem b35 (c:Cir) (ord:List Nat) (p:Pat) (fs:List Flt) (n:Nat):(a69 c ord p fs).dset n = a1a fs.length fun i=>decide (((a69 c ord p []).B (fs.getD i ⟨0,0,0,0,0⟩)).getD n 0 ≠ (a69 c ord p []).G.getD n 0):=rfl
theorem d8e (c:Cir) (ord:List Nat) (p:Pat) (l:List Flt) (n:Nat):(a69 c ord p l.reverse).dset n = ((a69 c ord p l).dset n).reverse.map fun z=>(l.length:Int) - 1 - z:=by
 rw [b35,b35,List.length_reverse,← d31 l.length fun i=>decide (((a69 c ord p []).B (l.getD i ⟨0,0,0,0,0⟩)).getD n 0 ≠ (a69 c ord p []).G.getD n 0)]
 refine a0v fun i hi=>?_
 have e:l.reverse.getD i ⟨0,0,0,0,0⟩ = l.getD (l.length - 1 - i) ⟨0,0,0,0,0⟩:=by
  rw [List.getD_eq_getElem?_getD,List.getD_eq_getElem?_getD,List.getElem?_reverse hi]
 rw [e]
theorem d3g (c:Cir) (ord:List Nat) (p:Pat) (l:List Flt) (s:Nat) (hs:s ≤ l.length) (n:Nat):(a69 c ord p (l.drop s)).dset n = (((a69 c ord p l).dset n).filter fun z=>decide ((s:Int) ≤ z)).map fun z=>z - (s:Int):=by
 rw [b35,b35,List.length_drop,← c8y l.length s hs fun i=>decide (((a69 c ord p []).B (l.getD i ⟨0,0,0,0,0⟩)).getD n 0 ≠ (a69 c ord p []).G.getD n 0)]
 refine a0v fun i hi=>?_
 have e:(l.drop s).getD i ⟨0,0,0,0,0⟩ = l.getD (i + s) ⟨0,0,0,0,0⟩:=by
  rw [List.getD_eq_getElem?_getD,List.getD_eq_getElem?_getD,List.getElem?_drop,Nat.add_comm]
 rw [e]
theorem d0a {h:FHeap} (l:List Flt) (cc:Option Nat) (s:Nat) (hs:s ≤ l.length):a3z L.env h 48 (.islice (l.map Flt.enc) cc) (some (.int .i64 s)) none none = some (.islice ((l.drop s).map Flt.enc) (cc.map (·- s))):=by
 have hall:(l.map Flt.enc).all (fun r=>r.length == L.env.sz 57) = true:=by
  rw [List.all_eq_true];intro r hr;obtain ⟨f,_,rfl⟩:=List.mem_map.1 hr
  show (5 == L.env.sz 57) = true
  kernel_rfl
 have h1:L.env.und 48 = some (.slice 57):=by kernel_rfl
 have h2:(L.env.und 57).isSome = true:=by kernel_rfl
 have hb:a12 (some (.int .i64 (s:Int))) l.length 0 = some s:=by
  unfold a12
  simp [hs]
 unfold a3z
 rw [h1]
 simp only [h2,hall,Bool.and_self,cond_true,List.length_map]
 have hb0:a12 none l.length l.length = some l.length:=rfl
 rw [hb0]
 simp only [hb]
 rw [List.take_of_length_le (by simp),List.map_drop]
theorem e2l (lr:Rep) (l:List Flt) (s:Nat) (hs:s ≤ l.length):∃ r3:Rep,∀ h,a3z L.env h 48 (sl lr (l.map Flt.enc)) (some (.int .i64 s)) none none = some (sl r3 ((l.drop s).map Flt.enc)):=by
 cases lr with
 | some c=>exact ⟨some (c.map (·- s)),fun h=>by rw [b0z,b0z];exact d0a l c s hs⟩
 | none=>
  cases l with
  | nil=>
   obtain rfl:s = 0:=by simpa using hs
   exact ⟨none,fun h=>by kernel_rfl⟩
  | cons f r=>exact ⟨some none,fun h=>by rw [b0z,c4v (by simp)];exact d0a (f :: r) none s hs⟩
theorem lawOrder_ok (hlv:∀ H,a0g L.env false (sem L.env Mf) (.func (.func 14) [] []) [] H = some (.bool true,H,[])) (x:CX) (hx:x.ok) (zr:Rep) (z:List FX) (hz:∀ f ∈ z,f.ok) (hzl:z.length < 9223372036854775808) (w:BitVec 64) :
 sem L.env Mf 4 [.agg x.enc,sl zr (z.map FX.enc),u64 w] [] = some (.bool true,[]):=by
 obtain ⟨lr,l,hl80,hlo,hst⟩:=c2q x hx zr z hz hzl
 have hc:(a4k x).wf:=CX.wf _
 have hpl:=b9s x
 have hO:=d21 x
 have hi0:=e1t x
 generalize a4k x = c at hst hlo hc hpl hO hi0
 obtain ⟨p,hp,hfu⟩:=c99 c hc hi0 w
 obtain ⟨ord,hord⟩:=e1c c hc
 have hli:∀ (rl:Rep) (fs:List Flt),(∀ f ∈ fs,StOk c f) → fs.length ≤ 1000 → ∀ (d:Bool) (H:a03),a0g L.env d (sem L.env Mf) (.func (.func 12) [] []) [.agg [sl c.nc (c.nodes.map Nd.enc),sl c.mc (c.names.map a1n),.nilslice,sl c.oc (c.outs.map a0k)],sl rl (fs.map Flt.enc),.agg [sl p.ic (p.ins.map u8R),sl p.sc (p.sts.map u8R)]] H = some (.tuple [b6e c (a69 c ord p fs),.int .i64 0],H,[]):=fun rl fs hf hl d H=>c5f (rl:=rl) (d:=d) (c86 hc hpl hord hp hf hl) (d3u hc hpl hO hord hp hf hl) H
 have hnl:c.nodes.length ≤ 1000:=(c86 hc hpl hord hp hlo (by omega)).nl
 have hfe:∀ (p:Pat),p.enc = [sl p.ic (p.ins.map u8R),sl p.sc (p.sts.map u8R)]:=fun _=>rfl
 simp only [Cir.enc,FX.enc,CX.enc,hfe] at hst hfu ⊢
 have hli1:=hli lr l hlo (by omega)
 have hli2:=fun (rl:Rep)=>hli rl l.reverse (fun f hf=>hlo f (List.mem_reverse.1 hf)) (by rw [List.length_reverse];omega)
 have hli3:=fun (rl:Rep) (s:Nat)=>hli rl (l.drop s) (fun f hf=>hlo f (List.mem_of_mem_drop hf)) (by rw [List.length_drop];omega)
 have hrev:=d8e c ord p l
 have hpart:=fun s hs=>d3g c ord p l s hs
 unfold b6e at hli1 hli2 hli3
 (refine sv Tryz.f4 ?_;simp only [Tryz.f4,gS])
 (repeat first|simp only [ww]|(apply xa;simp +decide only [go_sem,hst,hfu];rfl;kernel_rfl))
 have hfz:∀ (X Y:Option AObj) (L:List Flt),a3f 0 true (a5c (a01 (X :: Y :: grH 5 (L.map Flt.enc))) 0 12) (grV 2 (L.map Flt.enc)) = some (sl none (L.map Flt.enc)):=by
  intro X Y L
  cases L with
  | nil=>rfl
  | cons f L=>
   have hfr:∀ (m:Nat) (d:AV → Option AV),a9a m d ((f :: L).map Flt.enc) = some ((f :: L).map Flt.enc):=fun m d=>a1g _ _ (FlatR.map fun _=>rfl)
   have hAt:((f :: L).map Flt.enc).take (L.length + 1) = (f :: L).map Flt.enc:=List.take_of_length_le (by simp)
   have hAl:((f :: L).map Flt.enc).length = L.length + 1:=by simp
   have e1:=a6h 2 (l:=(f :: L).map Flt.enc) (by simp)
   have e2:=a6i 5 (l:=(f :: L).map Flt.enc) (by simp)
   have e3:sl none ((f :: L).map Flt.enc) = .islice ((f :: L).map Flt.enc) none:=rfl
   rw [e1,e2,e3]
   generalize (f :: L).map Flt.enc = AR at hfr hAt hAl
   simp +decide only [go_sem,hfr,hAt,hAl]<;>rfl
 have hrr:∀ l:List Flt,(l.map Flt.enc).flatMap a0j = []:=fun l=>a0n (FlatR.map fun _=>rfl)
 have hrn:∀ (π:Nat → Option Nat) (l:List Flt),(l.map Flt.enc).map (fun r=>r.map (ren π)) = l.map Flt.enc:=fun π l=>a0m π (FlatR.map fun _=>rfl)
 have hw0:IntKind.i64.wrap ((l.length:Int) - 1) = (l.length:Int) - 1 - (0:Nat):=by rw [w64 (by omega) (by omega)];omega
 refine d18 (m:=0) (σ:=Nat) kp4_0 rfl (fun t=>[(2,u64 w),(7,.ptr 0 0 0),(8,sl lr (l.map Flt.enc)),(9,.ptr 1 0 0),(10,grV 2 ((l.reverse.take t).map Flt.enc)),(11,.int .i64 ((l.length:Int) - 1 - t)),(1000000,.junk)])
  (fun t=>some (.row 4 [[sl c.nc (c.nodes.map Nd.enc),sl c.mc (c.names.map a1n),.nilslice,sl c.oc (c.outs.map a0k)]]) :: some (.row 2 [[sl p.ic (p.ins.map u8R),sl p.sc (p.sts.map u8R)]]) :: grH 5 ((l.reverse.take t).map Flt.enc)) (fun t=>l.length - t) (fun t=>t ≤ l.length) 0 ?_ (Nat.zero_le _) ?_
 ·(simp +decide only [go_sem,a02,a00,List.take_zero,List.map_nil,a0q,a0r,hw0]<;>rfl)<;>rfl
 intro t ht
 by_cases htl:t < l.length
 ·obtain ⟨j,hj⟩:∃ j:Nat,(l.length:Int) - 1 - t = (j:Nat):=⟨l.length - 1 - t,by omega⟩
  have hjl:j < l.length:=by omega
  obtain ⟨f,hf⟩:∃ f,l[j]? = some f:=⟨_,z9e hjl⟩
  have hrf:l.reverse[t]? = some f:=by rw [List.getElem?_reverse htl,show l.length - 1 - t = j by omega,hf]
  have hrs:(l.reverse.take (t + 1)).map Flt.enc = (l.reverse.take t).map Flt.enc ++ [f.enc]:=by rw [a14 hrf,List.map_append];rfl
  have c0:(0:Int) ≤ (j:Nat):=by omega
  have wj:IntKind.i64.wrap (((j:Nat):Int) - 1) = (l.length:Int) - 1 - (t + 1:Nat):=by rw [w64 (by omega) (by omega)];omega
  have hlr:((l.reverse.take t).map Flt.enc).length = t:=by rw [List.length_map,List.length_take,List.length_reverse];omega
  have hrm:t + 1 ≤ 1000000000:=by omega
  have hr1:=hrr (l.reverse.take t)
  have hr2:=fun π=>hrn π (l.reverse.take t)
  have hlm:(l.map Flt.enc).length = l.length:=List.length_map ..
  have hfe2:f.enc = [.int .u8 f.model,.int .i64 f.node,.int .i64 f.pin,.int .u8 f.value,.int .i64 f.other]:=rfl
  have hfg:(l.map Flt.enc)[j]? = some f.enc:=by rw [List.getElem?_map,hf];rfl
  rw [hj]
  rcases Nat.eq_zero_or_pos t with h0|h0
  ·subst h0
   simp only [List.take_zero,List.map_nil,a0q,a0r,List.nil_append] at hrs ⊢
   (repeat first|simp only [ww]|(apply xa;simp +decide only [go_sem,c0,hjl,hfg,hlm,hfe2,wj];rfl;kernel_rfl))
   refine a1y 1 ?_ (by omega) (by omega)
   simp only [hrs,grV,grH]
   (simp +decide only [go_sem,a02,a00,hfe2]<;>rfl)<;>rfl
  ·have hne:(l.reverse.take t).map Flt.enc ≠ []:=fun e=>by rw [e] at hlr;simp at hlr;omega
   have e1:=a6h 2 hne
   have e2:=a6i 5 hne
   rw [e1,e2]
   generalize (l.reverse.take t).map Flt.enc = R at *
   (repeat first|simp only [ww]|(apply xa;simp +decide only [go_sem,c0,hjl,hfg,hlm,hfe2,wj,hlr,hrm];rfl;kernel_rfl))
   refine a1y (t + 1) ?_ (by omega) (by omega)
   simp only [hrs,b0h,b30,hlr]
   (simp +decide only [go_sem,a02,a00,hr1,hr2,hfe2,List.flatMap_append,List.map_append]<;>rfl)<;>rfl
 obtain rfl:t = l.length:=by omega
 have c0:¬ (0:Int) ≤ (l.length:Int) - 1 - l.length:=by omega
 rw [List.take_of_length_le (by simp)]
 have hz:=hfz (some (.row 4 [[sl c.nc (c.nodes.map Nd.enc),sl c.mc (c.names.map a1n),.nilslice,sl c.oc (c.outs.map a0k)]])) (some (.row 2 [[sl p.ic (p.ins.map u8R),sl p.sc (p.sts.map u8R)]])) l.reverse
 (repeat first|simp only [ww]|(apply xa;simp +decide only [go_sem,c0];rfl;kernel_rfl))
 rw [e6d]
 simp +decide only [go_sem,hz]
 have hlm:(l.map Flt.enc).length = l.length:=List.length_map ..
 have hwl:(w >>> (BitVec.ofInt 64 32).toNat).toNat < 4294967296:=by
  have e:(BitVec.ofInt 64 32).toNat = 32:=by decide
  rw [e,BitVec.toNat_ushiftRight,Nat.shiftRight_eq_div_pow]
  have:=w.isLt
  omega
 have ww1:=wI (n:=(w >>> (BitVec.ofInt 64 32).toNat).toNat) (by omega)
 have hb2:=hli2 none
 have hd3:=fun (r3:Rep) (s:Nat)=>hli3 r3 s
 -- the lists
 obtain ⟨LA,hLA⟩:∃ LA,LA = (List.range c.nodes.length).map fun m=>[dsV ((a69 c ord p l).dset m)]:=⟨_,rfl⟩
 obtain ⟨LB,hLB⟩:∃ LB,LB = (List.range c.nodes.length).map fun m=>[dsV ((a69 c ord p l.reverse).dset m)]:=⟨_,rfl⟩
 have gA:∀ m,m < c.nodes.length → LA[m]? = some [dsV ((a69 c ord p l).dset m)]:=fun m hm=>by rw [hLA,List.getElem?_map,List.getElem?_range hm];rfl
 have gB:∀ m,m < c.nodes.length → LB[m]? = some [dsV (((a69 c ord p l).dset m).reverse.map fun z=>(l.length:Int) - 1 - z)]:=fun m hm=>by rw [hLB,List.getElem?_map,List.getElem?_range hm,← hrev];rfl
 have nA:LA.length = c.nodes.length:=by rw [hLA];simp
 have nB:LB.length = c.nodes.length:=by rw [hLB];simp
 have fA:FlatR LA:=by rw [hLA];exact FlatR.map fun m=>by simp only [a0a,b08,a54,List.append_nil]
 rw [← hLA] at hli1
 rw [← hLB] at hb2
 have hDl:∀ m,((a69 c ord p l).dset m).length ≤ 80:=fun m=>Nat.le_trans (d32 l.length _) hl80
 have hDv:∀ m v,v ∈ (a69 c ord p l).dset m → 0 ≤ v ∧ v < l.length:=fun m v hv=>by
  obtain ⟨i,rfl,hi,_⟩:=a7n.1 hv
  have hi:i < l.length:=hi
  omega
 generalize hSS:(a69 c ord p l).dset = SS at gA gB hDl hDv hpart
 have main:∀ (s:Nat),s ≤ l.length → ∃ (r3:Rep) (LD:List (List AV)),(∀ h,a3z L.env h 48 (sl lr (l.map Flt.enc)) (some (.int .i64 s)) none none = some (sl r3 ((l.drop s).map Flt.enc))) ∧ LD.length = c.nodes.length ∧ (∀ m,m < c.nodes.length → LD[m]? = some [dsV (a2o s (SS m) (SS m).length)]) ∧ ∀ (d:Bool) (H:a03),a0g L.env d (sem L.env Mf) (.func (.func 12) [] []) [.agg [sl c.nc (c.nodes.map Nd.enc),sl c.mc (c.names.map a1n),.nilslice,sl c.oc (c.outs.map a0k)],sl r3 ((l.drop s).map Flt.enc),.agg [sl p.ic (p.ins.map u8R),sl p.sc (p.sts.map u8R)]] H = some (.tuple [.islice LD (some c.nodes.length),.int .i64 0],H,[]):=by
  intro s hs
  obtain ⟨r3,h3⟩:=e2l lr l s hs
  refine ⟨r3,_,h3,?_,fun m hm=>?_,fun d H=>hd3 r3 s d H⟩
  ·simp
  ·rw [List.getElem?_map,List.getElem?_range hm]
   have:=hpart s hs m
   show some [dsV ((a69 c ord p (l.drop s)).dset m)] = _
   rw [this]
   unfold a2o
   rw [List.take_length]
 by_cases hl0:0 < l.length
 case' pos=>(
  have c1:(0:Int) < l.length:=by omega
  have c2:¬ (l.length:Int) = 0:=by omega
  obtain ⟨s,hs1,hse⟩:∃ s:Nat,s < l.length ∧ (IntKind.i64.wrap ((w >>> (BitVec.ofInt 64 32).toNat).toNat:Nat)).tmod l.length = (s:Nat):=⟨(w >>> (BitVec.ofInt 64 32).toNat).toNat % l.length,Nat.mod_lt _ hl0,by rw [ww1,Int.tmod_eq_emod_of_nonneg (by omega)];omega⟩
  have hs:s ≤ l.length:=by omega
  obtain ⟨r3,LD,hsl,nD,gD',hd4⟩:=main s hs
  (repeat first|simp only [ww]|(apply xa;simp +decide only [go_sem,c1,c2,hlm,hse,hli1,hb2,hd4,hsl,nA,nB,nD];rfl;kernel_rfl)))
 case' neg=>(
  have c1:¬ (0:Int) < l.length:=by omega
  obtain ⟨s,hs0⟩:∃ s:Nat,s = 0:=⟨_,rfl⟩
  have hs:s ≤ l.length:=by omega
  obtain ⟨r3,LD,hsl,nD,gD',hd4⟩:=main s hs
  have hsl0:∀ h,a3z L.env h 48 (sl lr (l.map Flt.enc)) (some (.int .i64 0)) none none = some (sl r3 ((l.drop s).map Flt.enc)):=fun h=>by have:=hsl h;rw [hs0] at this ⊢;exact this
  (repeat first|simp only [ww]|(apply xa;simp +decide only [go_sem,c1,hlm,hli1,hb2,hd4,hsl0,nA,nB,nD];rfl;kernel_rfl)))
 all_goals (
  refine a0x (m:=0) (σ:=Nat) kp4_2 (fun k=>[(8,sl lr (l.map Flt.enc)),(12,.int .i64 s),(13,.islice LA (some c.nodes.length)),(15,.islice LB (some c.nodes.length)),(17,.islice LD (some c.nodes.length)),(19,.int .i64 k)])
   (fun _=>[]) (fun k=>c.nodes.length - k) (fun k=>k ≤ c.nodes.length) 0 ?_ (Nat.zero_le _) ?_
  ·first
   | (subst hs0;(simp +decide only [go_sem,a02,a00]<;>rfl)<;>rfl)
   | ((simp +decide only [go_sem,a02,a00]<;>rfl)<;>rfl)
  intro k hk
  by_cases hkt:k < c.nodes.length
  ·have d1:(k:Int) < c.nodes.length:=by omega
   have hwk:=wI1 (n:=k) (by omega)
   have ga:=gA k hkt
   have gb:=gB k hkt
   have gd:=gD' k hkt
   have hSl:=hDl k
   have hSv:=hDv k
   have kA:k < LA.length:=by omega
   have kB:k < LB.length:=by omega
   have kD:k < LD.length:=by omega
   cases hS:SS k with
   | nil=>
    rw [hS] at ga gb gd
    have hdn:dsV [] = .nilslice:=rfl
    simp only [List.reverse_nil,List.map_nil,a2o,List.take_nil,List.filter_nil,hdn] at ga gb gd
    have hin:=fun (d:Bool) (H:a03)=>b2a (d:=d) H
    have wz:IntKind.i64.wrap ((0:Int) - 1) = -1:=rfl
    have z1:¬ (0:Int) ≤ -1:=by omega
    (repeat first|simp only [ww]|(apply xa;simp +decide only [go_sem,d1,nA,nB,nD,ga,gb,gd,kA,kB,kD,wz];rfl;kernel_rfl))
    refine a0x (m:=0) (σ:=Nat) kp4_4 (fun _=>[(8,sl lr (l.map Flt.enc)),(12,.int .i64 s),(13,.islice LA (some c.nodes.length)),(15,.islice LB (some c.nodes.length)),(17,.islice LD (some c.nodes.length)),(19,.int .i64 k),(20,.nilslice),(21,.nilslice),(22,.int .i64 (-1))])
     (fun _=>[]) (fun _=>0) (fun _=>True) 0 ?_ trivial ?_
    ·(simp +decide only [go_sem,a02,a00,wz]<;>rfl)<;>rfl
    intro t _
    (repeat first|simp only [ww]|(apply xa;simp +decide only [go_sem,d1,nA,nB,nD,ga,gb,gd,kA,kB,kD,z1];rfl;kernel_rfl))
    refine a0x (m:=0) (σ:=Nat) kp4_6 (fun _=>[(8,sl lr (l.map Flt.enc)),(12,.int .i64 s),(13,.islice LA (some c.nodes.length)),(15,.islice LB (some c.nodes.length)),(17,.islice LD (some c.nodes.length)),(19,.int .i64 k),(20,.nilslice),(21,.nilslice),(23,.int .i64 0)])
     (fun _=>[]) (fun _=>0) (fun _=>True) 0 ?_ trivial ?_
    ·(simp +decide only [go_sem,a02,a00,wz]<;>rfl)<;>rfl
    intro t _
    (repeat first|simp only [ww]|(apply xa;simp +decide only [go_sem,d1,nA,nB,nD,ga,gb,gd,kA,kB,kD,hin,hwk];rfl;kernel_rfl))
    refine a1y (k + 1) ?_ (by omega) (by omega)
    (simp +decide only [go_sem,a02,a00]<;>rfl)<;>rfl
   | cons a0 r0=>
    have hSn:SS k ≠ []:=by rw [hS];simp
    have hSp:0 < (SS k).length:=List.length_pos_iff.2 hSn
    generalize SS k = S at ga gb gd hSl hSv hSn hSp
    have hdS:dsV S = .islice (S.map a1p) (some S.length):=by
     cases S with
     | nil=>exact absurd rfl hSn
     | cons a r=>rfl
    rw [hdS] at ga
    have nS:(S.map a1p).length = S.length:=List.length_map ..
    let T (t:Nat):List (List AV):=((S.drop (S.length - t)).reverse.map fun z=>(l.length:Int) - 1 - z).map a1p
    have hT0:T 0 = []:=by show (((S.drop (S.length - 0)).reverse.map _).map a1p) = [];rw [List.drop_of_length_le (by omega)];rfl
    have hTl:∀ t,t ≤ S.length → (T t).length = t:=fun t ht=>by show (((S.drop (S.length - t)).reverse.map _).map a1p).length = t;simp;omega
    have hTf:∀ t,FlatR (T t):=fun t=>a9v _
    have hTn:T S.length = (S.reverse.map fun z=>(l.length:Int) - 1 - z).map a1p:=by show (((S.drop (S.length - S.length)).reverse.map _).map a1p) = _;rw [Nat.sub_self,List.drop_zero]
    have hTs:∀ (t j:Nat) (v:Int),S.length - 1 - t = j → t < S.length → S[j]? = some v → T (t + 1) = T t ++ [a1p ((l.length:Int) - 1 - v)]:=fun t j v hj ht hv=>by
     show (((S.drop (S.length - (t + 1))).reverse.map _).map a1p) = (((S.drop (S.length - t)).reverse.map _).map a1p) ++ _
     rw [show S.length - (t + 1) = j by omega,show S.length - t = j + 1 by omega,d1t (m:=l.length) hv,List.map_append];rfl
    have wz:IntKind.i64.wrap ((S.length:Int) - 1) = (S.length:Int) - 1 - (0:Nat):=by rw [w64 (by omega) (by omega)];omega
    have wl1:IntKind.i64.wrap ((l.length:Int) - 1) = (l.length:Int) - 1:=w64 (by omega) (by omega)
    clear_value T
    (repeat first|simp only [ww]|(apply xa;simp +decide only [go_sem,d1,nA,nB,nD,ga,kA,kB,kD,nS];rfl;kernel_rfl))
    refine a0x (m:=0) (σ:=Nat) kp4_4 (fun t=>[(8,sl lr (l.map Flt.enc)),(12,.int .i64 s),(13,.islice LA (some c.nodes.length)),(15,.islice LB (some c.nodes.length)),(17,.islice LD (some c.nodes.length)),(19,.int .i64 k),(20,grV 0 (T t)),(21,.nilslice),(22,.int .i64 ((S.length:Int) - 1 - t))])
     (fun t=>grH 1 (T t)) (fun t=>S.length - t) (fun t=>t ≤ S.length) 0 ?_ (Nat.zero_le _) ?_
    ·(simp +decide only [go_sem,a02,a00,wz,hT0,a0q,a0r]<;>rfl)<;>rfl
    intro t ht
    by_cases htl:t < S.length
    ·obtain ⟨j,hj⟩:∃ j:Nat,(S.length:Int) - 1 - t = (j:Nat):=⟨S.length - 1 - t,by omega⟩
     have hjS:j < S.length:=by omega
     obtain ⟨v,hv⟩:∃ v,S[j]? = some v:=⟨_,z9e hjS⟩
     have hvz:(S.map a1p)[j]? = some [.int .i64 v]:=by rw [List.getElem?_map,hv];rfl
     obtain ⟨hv0,hv1⟩:=hSv v (List.mem_of_getElem? hv)
     have hrs:=hTs t j v (by omega) htl hv
     have c0:(0:Int) ≤ (j:Nat):=by omega
     have wj:IntKind.i64.wrap (((j:Nat):Int) - 1) = (S.length:Int) - 1 - (t + 1:Nat):=by rw [w64 (by omega) (by omega)];omega
     have wl2:IntKind.i64.wrap ((l.length:Int) - 1 - v) = (l.length:Int) - 1 - v:=w64 (by omega) (by omega)
     have hlr:=hTl t ht
     have hrm:t + 1 ≤ 1000000000:=by omega
     have hr1:=a0n (hTf t)
     have hr2:=fun π=>a0m π (hTf t)
     rw [hj]
     rcases Nat.eq_zero_or_pos t with h0|h0
     ·subst h0
      simp only [hT0,a0q,a0r,List.nil_append] at hrs ⊢
      (repeat first|simp only [ww]|(apply xa;simp +decide only [go_sem,c0,d1,kA,ga,hjS,hvz,nS,hlm,wj,wl1,wl2];rfl;kernel_rfl))
      refine a1y 1 ?_ (by omega) (by omega)
      simp only [hrs,grV,grH]
      (simp +decide only [go_sem,a02,a00]<;>rfl)<;>rfl
     ·have hne:T t ≠ []:=fun e=>by rw [e] at hlr;simp at hlr;omega
      have e1:=a6h 0 hne
      have e2:=a6i 1 hne
      rw [e1,e2]
      generalize T t = R at *
      (repeat first|simp only [ww]|(apply xa;simp +decide only [go_sem,c0,d1,kA,ga,hjS,hvz,nS,hlm,wj,wl1,wl2,hlr,hrm];rfl;kernel_rfl))
      refine a1y (t + 1) ?_ (by omega) (by omega)
      simp only [hrs,b0h,b30,hlr]
      (simp +decide only [go_sem,a02,a00,hr1,hr2,List.flatMap_append,List.map_append]<;>rfl)<;>rfl
    obtain rfl:t = S.length:=by omega
    have c0:¬ (0:Int) ≤ (S.length:Int) - 1 - S.length:=by omega
    have hTne:T S.length ≠ []:=by rw [hTn];simpa using hSn
    have e1:=a6h 0 hTne
    have e2:=a6i 1 hTne
    have hlT:=hTl S.length (Nat.le_refl _)
    rw [e1,e2,hlT]
    have hTr:=a0n (hTf S.length)
    have hTr2:=fun π=>a0m π (hTf S.length)
    have hb1:=fun (d:Bool) (H:a03) (b:Nat) (h:a01 H b = some (.row 1 (T S.length)))=>b4h (d:=d) (H:=H) (b:=b) (S:=S.reverse.map fun z=>(l.length:Int) - 1 - z) (c:=none) (by simp;omega) (by simpa using hSn) (by rw [← hTn];exact h)
    have hRl:(S.reverse.map fun z=>(l.length:Int) - 1 - z).length = S.length:=by simp
    simp only [hRl] at hb1
    generalize dsV (S.reverse.map fun z=>(l.length:Int) - 1 - z) = DB at gb hb1
    generalize T S.length = TT at *
    (repeat first|simp only [ww]|(apply xa;simp +decide only [go_sem,c0];rfl;kernel_rfl))
    refine a0x (m:=0) (σ:=Nat) kp4_6 (fun t=>[(8,sl lr (l.map Flt.enc)),(12,.int .i64 s),(13,.islice LA (some c.nodes.length)),(15,.islice LB (some c.nodes.length)),(17,.islice LD (some c.nodes.length)),(19,.int .i64 k),(20,.slice 0 0 S.length none),(21,grV 1 ((a2o s S t).map a1p)),(23,.int .i64 t)])
     (fun t=>some (.row 1 TT) :: grH 1 ((a2o s S t).map a1p)) (fun t=>S.length - t) (fun t=>t ≤ S.length) 0 ?_ (Nat.zero_le _) ?_
    ·(simp +decide only [go_sem,a02,a00,d72,List.map_nil,a0q,a0r,hTr,hTr2]<;>rfl)<;>rfl
    intro t ht
    have hpl:=c7s s S t
    have hPf:FlatR ((a2o s S t).map a1p):=a9v _
    by_cases htl:t < S.length
    ·obtain ⟨v,hv⟩:∃ v,S[t]? = some v:=⟨_,z9e htl⟩
     have hvz:(S.map a1p)[t]? = some [.int .i64 v]:=by rw [List.getElem?_map,hv];rfl
     obtain ⟨hv0,hv1⟩:=hSv v (List.mem_of_getElem? hv)
     have c0:(t:Int) < S.length:=by omega
     have wt:=wI1 (n:=t) (by omega)
     have hr1:=a0n hPf
     have hr2:=fun π=>a0m π hPf
     have hlr:((a2o s S t).map a1p).length = (a2o s S t).length:=List.length_map ..
     have hrm:(a2o s S t).length + 1 ≤ 1000000000:=by omega
     by_cases hge:(s:Int) ≤ v
     ·have hps:=c7r hv hge
      have wv:IntKind.i64.wrap (v - s) = v - s:=w64 (by omega) (by omega)
      rw [show (v - (s:Int)) = v - (s:Int) from rfl] at hps
      cases hP:a2o s S t with
      | nil=>
       rw [hP] at hps
       simp only [List.map_nil,a0q,a0r]
       (repeat first|simp only [ww]|(apply xa;simp +decide only [go_sem,c0,d1,kA,ga,htl,hvz,nS,hge,wv,wt];rfl;kernel_rfl))
       refine a1y (t + 1) ?_ (by omega) (by omega)
       simp only [hps,List.nil_append,List.map_cons,List.map_nil,a1p,grV,grH]
       (simp +decide only [go_sem,a02,a00,hTr,hTr2]<;>rfl)<;>rfl
      | cons b0 q0=>
       have hne:(a2o s S t).map a1p ≠ []:=by rw [hP];simp
       have e1:=a6h 1 hne
       have e2:=a6i 1 hne
       have hps2:(a2o s S (t + 1)).map a1p = (a2o s S t).map a1p ++ [a1p (v - s)]:=by rw [hps,List.map_append];rfl
       rw [← hP,e1,e2]
       rw [← hlr] at hrm
       generalize (a2o s S t).map a1p = R at *
       (repeat first|simp only [ww]|(apply xa;simp +decide only [go_sem,c0,d1,kA,ga,htl,hvz,nS,hge,wv,wt,hrm];rfl;kernel_rfl))
       refine a1y (t + 1) ?_ (by omega) (by omega)
       simp only [hps2,b0h,b30,a1p]
       (simp +decide only [go_sem,a02,a00,hr1,hr2,hTr,hTr2,List.flatMap_append,List.map_append]<;>rfl)<;>rfl
     ·have hps:=d20 hv hge
      cases hP:a2o s S t with
      | nil=>
       rw [hP] at hps
       simp only [List.map_nil,a0q,a0r]
       (repeat first|simp only [ww]|(apply xa;simp +decide only [go_sem,c0,d1,kA,ga,htl,hvz,nS,hge,wt];rfl;kernel_rfl))
       refine a1y (t + 1) ?_ (by omega) (by omega)
       simp only [hps,List.map_nil,grV,grH]
       (simp +decide only [go_sem,a02,a00,hTr,hTr2]<;>rfl)<;>rfl
      | cons b0 q0=>
       have hne:(a2o s S t).map a1p ≠ []:=by rw [hP];simp
       have e1:=a6h 1 hne
       have e2:=a6i 1 hne
       have hps2:(a2o s S (t + 1)).map a1p = (a2o s S t).map a1p:=by rw [hps]
       rw [← hP,e1,e2]
       generalize (a2o s S t).map a1p = R at *
       (repeat first|simp only [ww]|(apply xa;simp +decide only [go_sem,c0,d1,kA,ga,htl,hvz,nS,hge,wt];rfl;kernel_rfl))
       refine a1y (t + 1) ?_ (by omega) (by omega)
       simp only [hps2,e1,e2]
       (simp +decide only [go_sem,a02,a00,hr1,hr2,hTr,hTr2]<;>rfl)<;>rfl
    obtain rfl:t = S.length:=by omega
    have c0:¬ (S.length:Int) < S.length:=by omega
    have h1:=fun (d:Bool) (X:a03)=>hb1 d (some (.row 1 TT) :: X) 0 rfl
    cases hP:a2o s S S.length with
    | nil=>
     rw [hP] at gd
     have hdn:dsV [] = .nilslice:=rfl
     rw [hdn] at gd
     have hin:=fun (d:Bool) (H:a03)=>b2a (d:=d) H
     simp only [List.map_nil,a0q,a0r]
     (repeat first|simp only [ww]|(apply xa;simp +decide only [go_sem,c0,d1,nA,nB,nD,ga,gb,gd,kA,kB,kD,nS,h1,hin,hwk];rfl;kernel_rfl))
     refine a1y (k + 1) ?_ (by omega) (by omega)
     (simp +decide only [go_sem,a02,a00]<;>rfl)<;>rfl
    | cons b0 q0=>
     have hPn:a2o s S S.length ≠ []:=by rw [hP];simp
     have e1:=a6h 1 (l:=(a2o s S S.length).map a1p) (by simpa using hPn)
     have e2:=a6i 1 (l:=(a2o s S S.length).map a1p) (by simpa using hPn)
     have hgl:((a2o s S S.length).map a1p).length = (a2o s S S.length).length:=List.length_map ..
     have hin:=fun (d:Bool) (X:a03)=>b4h (d:=d) (H:=some (.row 1 TT) :: some (.row 1 ((a2o s S S.length).map a1p)) :: X) (b:=1) (S:=a2o s S S.length) (c:=none) (by omega) hPn rfl
     rw [hgl] at e1
     rw [← hP,e1,e2]
     have hr1:=a0n hPf
     have hr2:=fun π=>a0m π hPf
     generalize dsV (a2o s S S.length) = DP at gd hin
     generalize (a2o s S S.length).length = m0 at hin ⊢
     generalize (a2o s S S.length).map a1p = RP at *
     (repeat first|simp only [ww]|(apply xa;simp +decide only [go_sem,c0,d1,nA,nB,nD,ga,gb,gd,kA,kB,kD,nS,h1,hin,hwk];rfl;kernel_rfl))
     refine a1y (k + 1) ?_ (by omega) (by omega)
     (simp +decide only [go_sem,a02,a00]<;>rfl)<;>rfl
  ·obtain rfl:k = c.nodes.length:=by omega
   have d1:¬ (c.nodes.length:Int) < c.nodes.length:=by omega
   have hlv:=hlv []
   (repeat first|simp only [ww]|(apply xa;simp +decide only [go_sem,d1,nA,hlv];rfl;kernel_rfl))
   (apply fqb;simp +decide only [go_sem]<;>rfl))
end Go.TInst
