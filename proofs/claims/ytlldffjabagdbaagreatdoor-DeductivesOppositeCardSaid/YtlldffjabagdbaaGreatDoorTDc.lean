/- Part of a proof. No condition. -/
import Derived.Test.YtlldffjabagdbaaGreatDoorTDb
import Derived.Test.YtlldffjabagdbaaGreatDoorTOf
import Derived.Test.YtlldffjabagdbaaGreatDoorTFl
import Derived.Test.YtlldffjabagdbaaGreatDoorTIo
import Derived.Test.YtlldffjabagdbaaGreatDoorAxF
import Derived.Test.YtlldffjabagdbaaGreatDoorPcD
set_option linter.unusedSectionVars false
set_option linter.unusedSimpArgs false
set_option linter.unusedVariables false
namespace Go.TInst
open Go.Proofs Go.Ax Go.Pc
set_option maxRecDepth 100000
structure StOk (c:Cir) (g:Flt):Prop where
 ok:FltOk c.nodes g
 m0:g.model = 0
def b7v (x:CX):CX:={ x with bus:=false }
theorem d1s {x:CX} (hx:x.ok):(b7v x).ok:=⟨hx.1,hx.2,hx.3,hx.4,hx.5,hx.6⟩
def a7t (x:CX):Cir:=(b2f (b7v x)).cir
theorem c7m (x:CX) (hx:x.ok):sem L.env Mf 7 [.agg x.enc] [] = some (.agg (a7t x).enc,[]):=by
 have hc:=fun H=>c0x (d:=false) H (b7v x) (d1s hx)
 rw [show (b2f (b7v x)).cir = a7t x from rfl] at hc
 generalize a7t x = c at hc
 simp only [go_sem,b7v] at hc
 simp only [Cir.enc] at hc
 (refine sv Tryz.f7 ?_;simp only [Tryz.f7,gS])
 (repeat first|simp only [ww]|(apply xa;simp +decide only [go_sem,hc];rfl;kernel_rfl))
 (apply fqb;simp +decide only [go_sem,Cir.enc]<;>rfl)
theorem c22 {d:Bool} (H:a03) (x:CX) (hx:x.ok):a0e L.env d (sem L.env Mf) (.func (.func 7) [] []) [.agg x.enc] H = some (.agg (a7t x).enc,H,[]):=
 a04 (by kernel_rfl) (by kernel_rfl) rfl (by simp only [go_sem]) (c7m x hx) (b7k _)
theorem c0h (g:GX) (ks:List Nat):(a0g false g ks).kind ≠ 12 ∧ (a0g false g ks).kind ≠ 13:=by
 unfold a0g
 simp only [Bool.false_eq_true,if_false]
 have h9:g.kind % 9 < 9:=Nat.mod_lt _ (by omega)
 generalize g.kind % 9 = k at h9
 split
 ·split<;>(constructor<;>(show (5 + k:Nat) ≠ _;omega))
 split
 ·constructor<;>(show (4:Nat) ≠ _;omega)
 split
 ·constructor<;>(show (11:Nat) ≠ _;omega)
 split
 ·omega
 split
 ·omega
 split
 ·constructor<;>(show (1 + g.i0 % 2:Nat) ≠ _;omega)
 ·constructor<;>(show (3:Nat) ≠ _;omega)
theorem c41:∀ (l:List GX) (ks:List Nat),∀ x ∈ gN false ks l,x.kind ≠ 12 ∧ x.kind ≠ 13
 | [],_,x,hx=>by simp [gN] at hx
 | g :: l,ks,x,hx=>by
  simp only [gN,List.mem_cons] at hx
  rcases hx with rfl|hx
  ·exact c0h g ks
  ·exact c41 l _ x hx
theorem b9v (x:CX):∀ n ∈ (a7t x).nodes,n.kind ≠ 12 ∧ n.kind ≠ 13:=by
 intro n hn
 have hn:n ∈ (b2f (b7v x)).nodes:=hn
 unfold CX.nodes at hn
 simp only [List.mem_append] at hn
 rcases hn with (hn|hn)|hn
 ·rw [List.eq_of_mem_replicate hn];constructor<;>(show (0:Nat) ≠ _;omega)
 ·unfold CX.dn at hn
  obtain ⟨v,_,rfl⟩:=List.mem_map.1 hn
  constructor<;>(show (14:Nat) ≠ _;omega)
 ·exact c41 _ _ n hn
structure Bits (c:Cir) (p:Pat):Prop where
 ok:PatOk c.nodes p
 b1:∀ v ∈ p.ins,v ≤ 1
 b2:∀ v ∈ p.sts,v ≤ 1
theorem b85:∀ (is vs N:List Nat),(∀ v ∈ N,v ≤ 1) → (∀ v ∈ vs,v ≤ 1) → ∀ v ∈ a2m N is vs,v ≤ 1
 | [],vs,N,h,_=>by cases vs<;>exact h
 | _ :: _,[],N,h,_=>h
 | i :: is,w :: vs,N,h,hv=>by
  simp only [a2m]
  refine b85 is vs _ (fun v hm=>?_) (fun v hm=>hv v (List.mem_cons_of_mem _ hm))
  rcases List.mem_or_eq_of_mem_set hm with h1|h1
  ·exact h v h1
  ·rw [h1];exact hv w (List.mem_cons_self ..)
def a4i (c:Cir) (ord:List Nat) (p:Pat) (fs:List Flt):Ded:=⟨c.nodes,ord,a2m (a2m (List.replicate c.nodes.length 0) (kinds c.nodes 0) p.ins) (kinds c.nodes 14) p.sts,fs⟩
section
variable {c:Cir} (hc:c.wf) (hpl:∀ x ∈ c.nodes,x.kind ≠ 12 ∧ x.kind ≠ 13) (hO:c.outs ≠ []) {ord:List Nat} (hord:OrdOf c ord) {p:Pat} (hp:Bits c p) {fs:List Flt} (hf:∀ f ∈ fs,StOk c f) (hl:fs.length ≤ 1000)
include hc hpl hord hp hf hl
theorem b3w:Mach0 c (a4i c ord p fs):=by
 have hget:∀ n,n < c.nodes.length → ∃ x,c.nodes[n]? = some x ∧ x ∈ c.nodes ∧ a0a c.nodes n = x.kind ∧ a0y c.nodes n = x.ins:=fun n hn=>by
  obtain ⟨x,hx⟩:∃ x,c.nodes[n]? = some x:=⟨_,z9e hn⟩
  exact ⟨x,hx,List.mem_of_getElem? hx,a18 hx,a1i hx⟩
 refine ⟨rfl,⟨hord.perm,hord.topo,fun n hn h=>?_,fun n hn m hm=>?_,fun n hn=>?_,fun n hn=>?_,fun n hn=>?_,?_,?_,fun f hm=>?_⟩,hl,by have:=hc.len;omega,hc.pos,fun x hx=>hc.insl hx,hc.kind⟩
 ·obtain ⟨x,_,hx,hk,_⟩:=hget n hn
  show a1b (a0a c.nodes n) = true
  have h:a0a c.nodes n ≠ 0 ∧ a0a c.nodes n ≠ 14:=h
  have k14:=hc.kind x hx
  rw [hk] at h ⊢
  have a:1 ≤ x.kind:=by omega
  have b:x.kind ≤ 13:=by omega
  simp [a1b,a,b]
 ·obtain ⟨x,_,hx,_,hi⟩:=hget n hn
  have hm:m ∈ a0y c.nodes n:=hm
  rw [hi] at hm
  exact hc.ins x hx m hm
 ·obtain ⟨x,_,hx,hk,hi⟩:=hget n hn
  show a1k (a0a c.nodes n) ≤ (a0y c.nodes n).length
  rw [hk,hi];exact hc.lo x hx
 ·obtain ⟨x,_,hx,hk,hi⟩:=hget n hn
  show (a0y c.nodes n).length ≤ a1r (a0a c.nodes n)
  rw [hk,hi];exact hc.hi x hx
 ·obtain ⟨x,_,hx,hk,_⟩:=hget n hn
  show a0a c.nodes n ≠ 12 ∧ a0a c.nodes n ≠ 13
  rw [hk];exact hpl x hx
 ·show (a2m (a2m _ _ _) _ _).length = _
  rw [a5u,a5u,List.length_replicate];rfl
 ·exact b85 _ _ _ (b85 _ _ _ (fun v hv=>by rw [List.eq_of_mem_replicate hv];omega) hp.b1) hp.b2
 ·have h:=hf f hm
  exact ⟨h.m0,h.ok.value,h.ok.pin.1,h.ok.node⟩
include hO
theorem b8p:DCalls c p (a4i c ord p fs):=by
 have hl2:=hp.ok.ins
 have hl3:=hp.ok.sts
 have h0:=a6a c.nodes 0
 have h14:=a6a c.nodes 14
 have hn:=hc.len
 refine ⟨⟨_,fun d H=>b4v (d:=d) H c hc⟩,fun f hm d H=>?_,fun d H=>?_,⟨b4y (a5a c.outs (c5q c ord p)),b4y (a6j c.nodes (c5q c ord p)),b05 _,b05 _,fun d H=>?_⟩,fun d H=>hord.call d H,hp.b1,hp.b2,by omega,by omega⟩
 ·exact c2p (d:=d) H c hc f (hf f hm).ok
 ·exact c1v (d:=d) H c hc p hp.ok
 ·exact a04 (E:=L.env) (draw:=d) (call:=sem L.env Mf) (H:=H) (g:=9) (fs:=[]) (cs:=[]) (ar:=[.agg c.enc,.agg p.enc]) (by kernel_rfl) (by kernel_rfl) rfl (by simp only [List.nil_append,List.append_nil,a0f,a1l,Cir.enc,Pat.enc,go_sem]) (d60 c hc hO p hp.ok ord hord) (by simp only [go_sem,a90,List.append_nil])
end
theorem d5b (x:BitVec 64) (k:Nat):∃ b:Nat,b ≤ 1 ∧ IntKind.u8.wrap (((x >>> k &&& BitVec.ofInt 64 1).toNat:Nat):Int) = (b:Int):=by
 have h:(x >>> k &&& BitVec.ofInt 64 1).toNat ≤ 1:=by
  rw [BitVec.toNat_and]
  exact Nat.and_le_right
 exact ⟨_,h,wB (n:=(x >>> k &&& BitVec.ofInt 64 1).toNat) (by omega)⟩
theorem d7l (c:Cir) (hc:c.wf) (hi0:kinds c.nodes 0 ≠ []) (x:BitVec 64):∃ r:AV × a03,(∃ p,Bits c p ∧ r = (.agg p.enc,[])) ∧ sem L.env Mf 8 [.agg [sl c.nc (c.nodes.map Nd.enc),sl c.mc (c.names.map a1u),.nilslice,sl c.oc (c.outs.map a0l)],u64 x] [] = some r:=by
 have hn:=hc.len
 have hrr:∀ l:List Nat,(l.map u8R).flatMap a0h = []:=fun l=>a0r (a2n l)
 have hrn:∀ (π:Nat → Option Nat) (l:List Nat),(l.map u8R).map (fun r=>r.map (ren π)) = l.map u8R:=fun π l=>a0n π (a2n l)
 have hfz:∀ {m:Nat} {d:AV → Option AV} (l:List Nat),a98 m d (l.map u8R) = some (l.map u8R):=fun l=>a1f _ _ (a2n l)
 have h64:((BitVec.ofInt 64 64) = 0) = False:=by decide
 (refine svE Tryz.f8 ?_;simp only [Tryz.f8,gS])
 (repeat first|simp only [ww]|(apply xa;simp +decide only [go_sem];rfl;kernel_rfl))
 refine a61 kp8_0 (fun N F H=>∃ (i:Nat) (K:BitVec 64) (a:List Nat),N = c.nodes.length - i ∧ i ≤ c.nodes.length ∧ a.length = (a37 c.nodes 0 i).length ∧ (∀ v ∈ a,v ≤ 1) ∧
  F = [(1,u64 x),(2,.ptr 0 0 0),(4,.ptr 1 0 0),(5,.ptr 2 0 0),(6,u64 K),(7,.int .i64 (i:Nat))] ∧ H = [some (.row 4 [[sl c.nc (c.nodes.map Nd.enc),sl c.mc (c.names.map a1u),.nilslice,sl c.oc (c.outs.map a0l)]]),some (.row 2 [[.nilslice,.nilslice]]),some (.row 2 [[grV 3 (a.map u8R),.nilslice]])] ++ grH 1 (a.map u8R)) (c.nodes.length - 0) ?_ ?_
 ·refine ⟨_,_,?_,0,0,[],rfl,Nat.zero_le _,rfl,by simp,rfl,rfl⟩
  (simp +decide only [go_sem,a02,a00,List.map_nil,a14,a15]<;>rfl)<;>rfl
 ·rintro N F H ⟨i,K,a,rfl,hi,hal,hab,rfl,rfl⟩
  have hle:=b0d c.nodes 0 i
  by_cases hlt:i < c.nodes.length
  ·obtain ⟨nd,hx⟩:∃ x,c.nodes[i]? = some x:=⟨_,z9e hlt⟩
   have c1:(i:Int) < c.nodes.length:=by omega
   have hw:=wI1 (n:=i) (by omega)
   have hs:=a9s c.nodes 0 i
   rw [a18 hx] at hs
   have hrm:a.length + 1 ≤ 1000000000:=by omega
   by_cases hk:nd.kind = 0
   ·rw [if_pos hk] at hs
    have hk':(nd.kind:Int) = 0:=by omega
    obtain ⟨b,hb1,hb2⟩:=d5b x (K % BitVec.ofInt 64 64).toNat
    have hl2:(a ++ [b]).length = (a37 c.nodes 0 (i + 1)).length:=by rw [hs,List.length_append,List.length_append,hal];rfl
    have hv2:∀ v ∈ a ++ [b],v ≤ 1:=fun v hv=>by rcases List.mem_append.1 hv with h|h;exact hab v h;rw [List.mem_singleton.1 h];exact hb1
    cases a with
    | nil=>
     (repeat first|simp only [ww]|(apply xa;simp +decide only [go_sem,c1,hlt,hx,hk',hw,h64,hb2,List.map_nil,a14,a15];rfl;kernel_rfl))
     refine a2d (c.nodes.length - (i + 1)) (by omega) ⟨_,_,?_,i + 1,K + BitVec.ofInt 64 1,[b],rfl,hlt,hl2,hv2,rfl,rfl⟩
     (simp +decide only [go_sem,a02,a00,List.map_cons,List.map_nil,a0i,a0j,u8R,List.length_nil]<;>rfl)<;>rfl
    | cons a0 r=>
     simp only [List.length_cons] at hrm
     (repeat first|simp only [ww]|(apply xa;simp +decide only [go_sem,c1,hlt,hx,hk',hw,h64,hb2,List.map_cons,a0i,a0j,hrm,List.length_map];rfl;kernel_rfl))
     refine a2d (c.nodes.length - (i + 1)) (by omega) ⟨_,_,?_,i + 1,K + BitVec.ofInt 64 1,a0 :: r ++ [b],rfl,hlt,hl2,hv2,rfl,rfl⟩
     (simp +decide only [go_sem,a02,a00,List.cons_append,List.map_cons,List.map_append,List.map_nil,a0i,a0j,hrr,hrn,u8R,List.length_map,List.length_append,List.length_cons,List.length_nil]<;>rfl)<;>rfl
   ·rw [if_neg hk] at hs
    have hk':¬ (nd.kind:Int) = 0:=by omega
    rw [← hs] at hal
    cases a with
    | nil=>
     (repeat first|simp only [ww]|(apply xa;simp +decide only [go_sem,c1,hlt,hx,hk',hw,List.map_nil,a14,a15];rfl;kernel_rfl))
     refine a2d (c.nodes.length - (i + 1)) (by omega) ⟨_,_,?_,i + 1,K,[],rfl,hlt,hal,hab,rfl,rfl⟩
     (simp +decide only [go_sem,a02,a00,List.map_nil,a14,a15]<;>rfl)<;>rfl
    | cons a0 r=>
     (repeat first|simp only [ww]|(apply xa;simp +decide only [go_sem,c1,hlt,hx,hk',hw,List.map_cons,a0i,a0j,List.length_map];rfl;kernel_rfl))
     refine a2d (c.nodes.length - (i + 1)) (by omega) ⟨_,_,?_,i + 1,K,a0 :: r,rfl,hlt,hal,hab,rfl,rfl⟩
     (simp +decide only [go_sem,a02,a00,List.map_cons,a0i,a0j,hrr,hrn,u8R,List.length_map]<;>rfl)<;>rfl
  ·obtain rfl:i = c.nodes.length:=by omega
   have c1:¬ (c.nodes.length:Int) < c.nodes.length:=by omega
   cases a with
   | nil=>exact absurd (List.length_eq_zero_iff.1 hal.symm) hi0
   | cons a0 r=>
    have hAr:=hrr (a0 :: r)
    have hAn:=fun π=>hrn π (a0 :: r)
    have hAf:=fun (m:Nat) (d:AV → Option AV)=>hfz (m:=m) (d:=d) (a0 :: r)
    have hAl:((a0 :: r).map u8R).length = r.length + 1:=by simp
    have hAt:((a0 :: r).map u8R).take (r.length + 1) = (a0 :: r).map u8R:=List.take_of_length_le (by simp)
    have hV0:grV 3 ((a0 :: r).map u8R) = .slice 3 0 (r.length + 1) none:=by simp only [List.map_cons,a0i,List.length_map]
    have hH0:grH 1 ((a0 :: r).map u8R) = [some (.row 1 ((a0 :: r).map u8R))]:=by simp only [List.map_cons,a0j]
    rw [hV0,hH0]
    have hfin:∀ (B:List Nat),B.length = (a37 c.nodes 14 c.nodes.length).length → (∀ v ∈ B,v ≤ 1) → ∀ sc:Rep,∃ p,Bits c p ∧ ((AV.agg [.islice ((a0 :: r).map u8R) none,sl sc (B.map u8R)],[]):AV × a03) = (.agg p.enc,[]):=by
     intro B hB hb sc
     exact ⟨⟨some none,a0 :: r,sc,B⟩,⟨⟨hal,hB,fun v hv=>by have:=hab v hv;omega,fun v hv=>by have:=hb v hv;omega⟩,hab,hb⟩,rfl⟩
    generalize hAR:(a0 :: r).map u8R = AR at hAr hAn hAf hAl hAt hfin
    (repeat first|simp only [ww]|(apply xa;simp +decide only [go_sem,c1];rfl;kernel_rfl))
    refine a61 kp8_2 (fun N F H=>∃ (i:Nat) (K:BitVec 64) (B:List Nat),N = c.nodes.length - i ∧ i ≤ c.nodes.length ∧ B.length = (a37 c.nodes 14 i).length ∧ (∀ v ∈ B,v ≤ 1) ∧
     F = [(1,u64 x),(2,.ptr 0 0 0),(4,.ptr 1 0 0),(5,.ptr 2 0 0),(6,u64 K),(8,.int .i64 (i:Nat))] ∧ H = [some (.row 4 [[sl c.nc (c.nodes.map Nd.enc),sl c.mc (c.names.map a1u),.nilslice,sl c.oc (c.outs.map a0l)]]),some (.row 2 [[.nilslice,.nilslice]]),some (.row 2 [[.slice 3 0 (r.length + 1) none,grV 4 (B.map u8R)]]),some (.row 1 AR)] ++ grH 1 (B.map u8R)) (c.nodes.length - 0) ?_ ?_
    ·refine ⟨_,_,?_,0,K,[],rfl,Nat.zero_le _,rfl,by simp,rfl,rfl⟩
     (simp +decide only [go_sem,a02,a00,List.map_nil,a14,a15,hAr,hAn]<;>rfl)<;>rfl
    ·rintro N F H ⟨i,K,B,rfl,hi,hBl,hBb,rfl,rfl⟩
     have hle:=b0d c.nodes 14 i
     by_cases hlt:i < c.nodes.length
     ·obtain ⟨nd,hx⟩:∃ x,c.nodes[i]? = some x:=⟨_,z9e hlt⟩
      have c1:(i:Int) < c.nodes.length:=by omega
      have hw:=wI1 (n:=i) (by omega)
      have hs:=a9s c.nodes 14 i
      rw [a18 hx] at hs
      have hrm:B.length + 1 ≤ 1000000000:=by omega
      by_cases hk:nd.kind = 14
      ·rw [if_pos hk] at hs
       have hk':(nd.kind:Int) = 14:=by omega
       obtain ⟨b,hb1,hb2⟩:=d5b x (K % BitVec.ofInt 64 64).toNat
       have hl2:(B ++ [b]).length = (a37 c.nodes 14 (i + 1)).length:=by rw [hs,List.length_append,List.length_append,hBl];rfl
       have hv2:∀ v ∈ B ++ [b],v ≤ 1:=fun v hv=>by rcases List.mem_append.1 hv with h|h;exact hBb v h;rw [List.mem_singleton.1 h];exact hb1
       cases B with
       | nil=>
        (repeat first|simp only [ww]|(apply xa;simp +decide only [go_sem,c1,hlt,hx,hk',hw,h64,hb2,List.map_nil,a14,a15];rfl;kernel_rfl))
        refine a2d (c.nodes.length - (i + 1)) (by omega) ⟨_,_,?_,i + 1,K + BitVec.ofInt 64 1,[b],rfl,hlt,hl2,hv2,rfl,rfl⟩
        (simp +decide only [go_sem,a02,a00,List.map_cons,List.map_nil,a0i,a0j,u8R,List.length_nil,hAr,hAn]<;>rfl)<;>rfl
       | cons b0 q=>
        simp only [List.length_cons] at hrm
        (repeat first|simp only [ww]|(apply xa;simp +decide only [go_sem,c1,hlt,hx,hk',hw,h64,hb2,List.map_cons,a0i,a0j,hrm,List.length_map];rfl;kernel_rfl))
        refine a2d (c.nodes.length - (i + 1)) (by omega) ⟨_,_,?_,i + 1,K + BitVec.ofInt 64 1,b0 :: q ++ [b],rfl,hlt,hl2,hv2,rfl,rfl⟩
        (simp +decide only [go_sem,a02,a00,List.cons_append,List.map_cons,List.map_append,List.map_nil,a0i,a0j,hrr,hrn,u8R,List.length_map,List.length_append,List.length_cons,List.length_nil,hAr,hAn]<;>rfl)<;>rfl
      ·rw [if_neg hk] at hs
       have hk':¬ (nd.kind:Int) = 14:=by omega
       rw [← hs] at hBl
       cases B with
       | nil=>
        (repeat first|simp only [ww]|(apply xa;simp +decide only [go_sem,c1,hlt,hx,hk',hw,List.map_nil,a14,a15];rfl;kernel_rfl))
        refine a2d (c.nodes.length - (i + 1)) (by omega) ⟨_,_,?_,i + 1,K,[],rfl,hlt,hBl,hBb,rfl,rfl⟩
        (simp +decide only [go_sem,a02,a00,List.map_nil,a14,a15,hAr,hAn]<;>rfl)<;>rfl
       | cons b0 q=>
        (repeat first|simp only [ww]|(apply xa;simp +decide only [go_sem,c1,hlt,hx,hk',hw,List.map_cons,a0i,a0j,List.length_map];rfl;kernel_rfl))
        refine a2d (c.nodes.length - (i + 1)) (by omega) ⟨_,_,?_,i + 1,K,b0 :: q,rfl,hlt,hBl,hBb,rfl,rfl⟩
        (simp +decide only [go_sem,a02,a00,List.map_cons,a0i,a0j,hrr,hrn,u8R,List.length_map,hAr,hAn]<;>rfl)<;>rfl
     ·obtain rfl:i = c.nodes.length:=by omega
      have c1:¬ (c.nodes.length:Int) < c.nodes.length:=by omega
      have hfin:=hfin B hBl hBb
      cases B with
      | nil=>
       (repeat first|simp only [ww]|(apply xa;simp +decide only [go_sem,c1,List.map_nil,a14,a15];rfl;kernel_rfl))
       refine a9b (vs:=[.agg [.slice 3 0 (r.length + 1) none,.nilslice]]) (r:=(.agg [.islice AR none,.nilslice],[])) (by simp +decide only [go_sem]<;>rfl) ?_ (hfin none)
       show a1o false 0 _ _ = _
       simp +decide only [go_sem,a6i,hAf,hAl,hAt]<;>rfl
      | cons b0 q=>
       have hBf:=fun (m:Nat) (d:AV → Option AV)=>hfz (m:=m) (d:=d) (b0 :: q)
       have hBl2:((b0 :: q).map u8R).length = q.length + 1:=by simp
       have hBt:((b0 :: q).map u8R).take (q.length + 1) = (b0 :: q).map u8R:=List.take_of_length_le (by simp)
       have hV1:grV 4 ((b0 :: q).map u8R) = .slice 4 0 (q.length + 1) none:=by simp only [List.map_cons,a0i,List.length_map]
       have hH1:grH 1 ((b0 :: q).map u8R) = [some (.row 1 ((b0 :: q).map u8R))]:=by simp only [List.map_cons,a0j]
       have hBe:sl (some none) ((b0 :: q).map u8R) = .islice ((b0 :: q).map u8R) none:=rfl
       rw [hV1,hH1]
       have hfin:=hfin (some none)
       rw [hBe] at hfin
       generalize (b0 :: q).map u8R = BR at hBf hBl2 hBt hfin
       (repeat first|simp only [ww]|(apply xa;simp +decide only [go_sem,c1];rfl;kernel_rfl))
       refine a9b (vs:=[.agg [.slice 3 0 (r.length + 1) none,.slice 4 0 (q.length + 1) none]]) (r:=(.agg [.islice AR none,.islice BR none],[])) (by simp +decide only [go_sem]<;>rfl) ?_ hfin
       show a1o false 0 _ _ = _
       simp +decide only [go_sem,a6i,hAf,hAl,hAt,hBf,hBl2,hBt]<;>rfl
theorem c93 (c:Cir) (hc:c.wf) (hi0:kinds c.nodes 0 ≠ []) (x:BitVec 64):∃ p,Bits c p ∧ ∀ (d:Bool) (H:a03),a0e L.env d (sem L.env Mf) (.func (.func 8) [] []) [.agg c.enc,u64 x] H = some (.agg p.enc,H,[]):=by
 obtain ⟨r,⟨p,hp,rfl⟩,h⟩:=d7l c hc hi0 x
 exact ⟨p,hp,fun d H=>a04 (by kernel_rfl) (by kernel_rfl) rfl (by simp only [a0f,a1l,Cir.enc,go_sem]) h (by simp only [a1l,Pat.enc,go_sem])⟩
section
variable (D:Ded) (n:Nat)
end
theorem d1p (x:CX):(a7t x).outs ≠ []:=by
 show CX.outN _ ≠ []
 unfold CX.outN;simp
theorem e1e (x:CX):kinds (a7t x).nodes 0 ≠ []:=by
 have hk:0 < (b2f (b7v x)).k:=by unfold CX.k;omega
 have h0:a0a (a7t x).nodes 0 = 0:=by
  show a0a (b2f (b7v x)).nodes 0 = 0
  unfold CX.nodes a0a
  obtain ⟨k,hk'⟩:∃ k,(b2f (b7v x)).k = k + 1:=⟨_,(Nat.succ_pred_eq_of_pos hk).symm⟩
  rw [hk']
  simp only [List.replicate_succ,List.cons_append,List.getElem?_cons_zero]
  rfl
 have hp:0 < (a7t x).nodes.length:=(CX.wf _).pos
 intro e
 have:(0:Nat) ∈ kinds (a7t x).nodes 0:=by
  unfold kinds a37
  rw [List.mem_filter]
  exact ⟨List.mem_range.2 hp,by simp [h0]⟩
 rw [e] at this;cases this
set_option maxHeartbeats 200000000
def c3o (nodes:List Nd) (x:Nat × Int):Nat:=if x.2 < 0 then x.1 else (a0y nodes x.1).getD x.2.toNat 0
def stF (v:Nat) (x:Nat × Int):Flt:=⟨0,x.1,x.2,v,0⟩
def a9n (nodes:List Nd) (G:List Nat) (x:Nat × Int):Flt:=stF (G.getD (c3o nodes x) 0) x
def a9o (nodes:List Nd) (G:List Nat) (x:Nat × Int):Flt:=stF (a6w (G.getD (c3o nodes x) 0)) x
theorem b42 {nodes:List Nd} {x:Nat × Int}:x ∈ a7h nodes ↔ x.1 < nodes.length ∧ ∃ k:Nat,k < (a0y nodes x.1).length + 1 ∧ x.2 = (k:Int) - 1:=by
 unfold a7h a1y a48
 simp only [List.mem_flatMap,List.mem_map,List.mem_range]
 constructor
 ·rintro ⟨n,hn,k,hk,rfl⟩
  exact ⟨hn,k,hk,rfl⟩
 ·rintro ⟨hn,k,hk,e⟩
  exact ⟨x.1,hn,k,hk,Prod.ext rfl e.symm⟩
theorem d4j {c:Cir} (hc:c.wf) {x:Nat × Int} (hx:x ∈ a7h c.nodes) {v:Nat} (hv:v ≤ 1):StOk c (stF v x):=by
 obtain ⟨hn,k,hk,e⟩:=b42.1 hx
 obtain ⟨y,hy⟩:∃ y,c.nodes[x.1]? = some y:=⟨_,z9e hn⟩
 rw [a1i hy] at hk
 have h:=c1p (p:=k) hy hv
 rw [Nat.mod_eq_of_lt hk,← e] at h
 exact ⟨h,rfl⟩
section
variable {c:Cir} {ord:List Nat} {p:Pat} {L:List (Nat × Int)} {f:Nat × Int → Flt}
theorem d57 {i:Nat} {x:Nat × Int} (hx:L[i]? = some x):(a4i c ord p (L.map f)).ft i = f x:=by
 show (L.map f).getD i _ = _
 rw [List.getD_eq_getElem?_getD,List.getElem?_map,hx];rfl
theorem c0o {v:Nat} {x:Nat × Int}:(a4i c ord p (L.map f)).lineV (stF v x) = (a4i c ord p []).G.getD (c3o c.nodes x) 0:=by
 unfold Ded.lineV c3o stF
 by_cases h:x.2 < 0
 ·rw [if_pos h,if_pos h];rfl
 ·rw [if_neg h,if_neg h];rfl
end
theorem lawOpp_ok (hlv:∀ H,a0e L.env false (sem L.env Mf) (.func (.func 14) [] []) [] H = some (.bool true,H,[])) (x:CX) (hx:x.ok) (w:BitVec 64) :
 sem L.env Mf 3 [.agg x.enc,u64 w] [] = some (.bool true,[]):=by
 have hst:=fun (d:Bool) (H:a03)=>c22 (d:=d) H x hx
 have hc:(a7t x).wf:=CX.wf _
 have hpl:=b9v x
 have hO:=d1p x
 have hi0:=e1e x
 generalize a7t x = c at hst hc hpl hO hi0
 obtain ⟨p,hp,hfu⟩:=c93 c hc hi0 w
 obtain ⟨ord,hord⟩:=e0v c hc
 have hnl:c.nodes.length ≤ 14:=hc.len
 have hpos:=hc.pos
 have M0:=b3w (fs:=[]) hc hpl hord hp (by simp) (by simp)
 have C0:=b8p (fs:=[]) hc hpl hO hord hp (by simp) (by simp)
 obtain ⟨V1,V2,hs1,hs2,hrun⟩:=C0.run
 have hgl:=M0.ok.G_len
 have hgb:=M0.ok.G_bit
 have hln:=fun (d:Bool) (H:a03)=>b4v (d:=d) H c hc
 have hfe:∀ (p:Pat),p.enc = [sl p.ic (p.ins.map u8R),sl p.sc (p.sts.map u8R)]:=fun _=>rfl
 simp only [Cir.enc,FX.enc,CX.enc,hfe] at hst hfu hln ⊢
 have hli:∀ (rl:Rep) (fs:List Flt),(∀ f ∈ fs,StOk c f) → fs.length ≤ 1000 → ∀ (d:Bool) (H:a03),a0e L.env d (sem L.env Mf) (.func (.func 12) [] []) [.agg [sl c.nc (c.nodes.map Nd.enc),sl c.mc (c.names.map a1u),.nilslice,sl c.oc (c.outs.map a0l)],sl rl (fs.map Flt.enc),.agg [sl p.ic (p.ins.map u8R),sl p.sc (p.sts.map u8R)]] H = some (.tuple [b6b c (a4i c ord p fs),.int .i64 0],H,[]):=fun rl fs hf hl d H=>c5h (rl:=rl) (d:=d) (b3w hc hpl hord hp hf hl) (b8p hc hpl hO hord hp hf hl) H
 have hde:∀ (rl:Rep) (fs:List Flt),(∀ f ∈ fs,StOk c f) → fs.length ≤ 1000 → ∀ (d:Bool) (H:a03),a0e L.env d (sem L.env Mf) (.func (.func 13) [] []) [.agg [sl c.nc (c.nodes.map Nd.enc),sl c.mc (c.names.map a1u),.nilslice,sl c.oc (c.outs.map a0l)],sl rl (fs.map Flt.enc),.agg [sl p.ic (p.ins.map u8R),sl p.sc (p.sts.map u8R)]] H = some (.tuple [dsV (a1a fs.length fun i=>(a4i c ord p fs).outT c.outs i || (a4i c ord p fs).staT (kinds c.nodes 14) i),.int .i64 0],H,[]):=fun rl fs hf hl d H=>d33 (rl:=rl) (d:=d) (b3w hc hpl hord hp hf hl) (b8p hc hpl hO hord hp hf hl) H (fun n hn=>hc.outs n hn) (by have:=hc.outl;omega)
 -- plain
 obtain ⟨L,hL⟩:∃ L,a7h c.nodes = L:=⟨_,rfl⟩
 obtain ⟨G,hG⟩:∃ G,(a4i c ord p []).G = G:=⟨_,rfl⟩
 have hLl:L.length ≤ 17 * 14:=by
  rw [← hL]
  have:=b43 c.nodes (fun x hx=>hc.insl hx) c.nodes.length (Nat.le_refl _)
  exact Nat.le_trans this (Nat.mul_le_mul_left _ hnl)
 have hLm:∀ x ∈ L,x.1 < c.nodes.length ∧ ∃ k:Nat,k < (a0y c.nodes x.1).length + 1 ∧ x.2 = (k:Int) - 1:=fun x hx=>b42.1 (by rw [hL];exact hx)
 have hLk:∀ k,k < c.nodes.length → (k,(-1:Int)) ∈ L:=fun k hk=>by rw [← hL];exact b42.2 ⟨hk,0,by omega,by simp⟩
 have hLn:L ≠ []:=fun e=>by have:=hLk 0 hpos;rw [e] at this;cases this
 have hLp:0 < L.length:=List.length_pos_iff.2 hLn
 rw [hG] at hgl hgb hrun
 have hgl:G.length = c.nodes.length:=hgl
 have hnet:∀ x ∈ L,c3o c.nodes x < c.nodes.length:=by
  intro x hx
  obtain ⟨hn,k,hk,e⟩:=hLm x hx
  unfold c3o
  by_cases h:x.2 < 0
  ·rw [if_pos h];exact hn
  ·rw [if_neg h]
   obtain ⟨y,hy⟩:∃ y,c.nodes[x.1]? = some y:=⟨_,z9e hn⟩
   rw [a1i hy] at hk ⊢
   have hl:x.2.toNat < y.ins.length:=by omega
   rw [List.getD_eq_getElem?_getD,z9e hl]
   exact hc.ins y (List.mem_of_getElem? hy) _ (List.getElem_mem hl)
 have hG1:∀ x ∈ L,G.getD (c3o c.nodes x) 0 ≤ 1:=fun x hx=>a4w hgb (by rw [hgl];exact hnet x hx)
 have hN1:∀ g:Nat,g ≤ 1 → a6w g ≤ 1:=fun g hg=>by unfold a6w;rw [if_pos hg];omega
 have ok1:∀ f ∈ L.map (a9n c.nodes G),StOk c f:=by
  intro f hf
  obtain ⟨x,hx,rfl⟩:=List.mem_map.1 hf
  exact d4j hc (by rw [hL];exact hx) (hG1 x hx)
 have ok2:∀ f ∈ L.map (a9o c.nodes G),StOk c f:=by
  intro f hf
  obtain ⟨x,hx,rfl⟩:=List.mem_map.1 hf
  exact d4j hc (by rw [hL];exact hx) (hN1 _ (hG1 x hx))
 have M1:=b3w hc hpl hord hp ok1 (by rw [List.length_map];omega)
 have M2:=b3w hc hpl hord hp ok2 (by rw [List.length_map];omega)
 have hv1:∀ i,i < (a4i c ord p (L.map (a9n c.nodes G))).fs.length → ((a4i c ord p (L.map (a9n c.nodes G))).ft i).value = (a4i c ord p (L.map (a9n c.nodes G))).lineV ((a4i c ord p (L.map (a9n c.nodes G))).ft i):=by
  intro i hi
  have hi:i < (L.map (a9n c.nodes G)).length:=hi
  rw [List.length_map] at hi
  obtain ⟨x,hx⟩:∃ x,L[i]? = some x:=⟨_,z9e hi⟩
  rw [d57 hx]
  show _ = (a4i c ord p (L.map (a9n c.nodes G))).lineV (stF _ x)
  rw [c0o,hG];rfl
 have hd1:∀ m,m < c.nodes.length → (a4i c ord p (L.map (a9n c.nodes G))).dset m = []:=fun m hm=>M1.ok.own_dset hv1 hm
 have hdet1:(a1a (L.map (a9n c.nodes G)).length fun i=>(a4i c ord p (L.map (a9n c.nodes G))).outT c.outs i || (a4i c ord p (L.map (a9n c.nodes G))).staT (kinds c.nodes 14) i) = []:=by
  refine b6j fun i hi=>?_
  rw [Bool.or_eq_false_iff]
  constructor
  ·unfold Ded.outT
   rw [List.any_eq_false]
   intro n hn
   rw [M1.ok.own_dif hi (hv1 i hi) (hc.outs n hn)];simp
  ·unfold Ded.staT
   rw [List.any_eq_false]
   intro n hn
   obtain ⟨hn1,hn2⟩:=c8g.1 hn
   have hlo:=M1.ok.lo n hn1
   have h2:a0a (a4i c ord p (L.map (a9n c.nodes G))).nodes n = 14:=hn2
   rw [h2] at hlo
   have hlo:1 ≤ (a0y (a4i c ord p (L.map (a9n c.nodes G))).nodes n).length:=hlo
   rw [M1.ok.own_chg hi (hv1 i hi) hn1 (by omega)];simp
 have hmem2:∀ k,k < c.nodes.length → ∃ i:Nat,L[i]? = some (k,-1) ∧ (i:Int) ∈ (a4i c ord p (L.map (a9o c.nodes G))).dset k:=by
  intro k hk
  obtain ⟨i,hi⟩:=List.mem_iff_getElem?.1 (hLk k hk)
  have hil:i < (a4i c ord p (L.map (a9o c.nodes G))).fs.length:=by
   show i < (L.map (a9o c.nodes G)).length
   rw [List.length_map];exact (List.getElem?_eq_some_iff.1 hi).1
  have hf:=d57 (c:=c) (ord:=ord) (p:=p) (f:=a9o c.nodes G) hi
  refine ⟨i,hi,M2.ok.opp_mem hil hk (by rw [hf];rfl) (by rw [hf];rfl) ?_⟩
  rw [hf]
  show _ = a6w ((a4i c ord p (L.map (a9o c.nodes G))).lineV (stF _ (k,-1)))
  rw [c0o,hG];rfl
 have hbd2:∀ k v,v ∈ (a4i c ord p (L.map (a9o c.nodes G))).dset k → 0 ≤ v ∧ v < L.length:=fun m v hv=>by
  obtain ⟨i,rfl,hi,_⟩:=a7i.1 hv
  have hi:i < (L.map (a9o c.nodes G)).length:=hi
  rw [List.length_map] at hi
  omega
 have hSl2:∀ k,((a4i c ord p (L.map (a9o c.nodes G))).dset k).length ≤ L.length:=fun k=>Nat.le_trans (d2p _ _) (by show (L.map (a9o c.nodes G)).length ≤ _;rw [List.length_map];exact Nat.le_refl _)
 have hli1:=fun (rl:Rep)=>hli rl _ ok1 (by rw [List.length_map];omega)
 have hli2:=fun (rl:Rep)=>hli rl _ ok2 (by rw [List.length_map];omega)
 have hde1:=fun (rl:Rep)=>hde rl _ ok1 (by rw [List.length_map];omega)
 rw [hdet1] at hde1
 unfold b6b at hli1 hli2
 rw [hL] at hln
 have nL:(L.map lnR).length = L.length:=List.length_map ..
 have nG:(G.map u8R).length = c.nodes.length:=by rw [List.length_map];exact hgl
 have e0:¬ (c.nodes.length:Int) = 0:=by omega
 have hnot:=fun (d:Bool) (H:a03) (v:Nat)=>b40 (d:=d) H v
 (refine sv Tryz.f3 ?_;simp only [Tryz.f3,gS])
 (repeat first|simp only [ww]|(apply xa;simp +decide only [go_sem,hst,hfu,hrun,hln,hs1,hs2,nG,nL,e0];rfl;kernel_rfl))
 have hA:∀ (f:Nat × Int → Flt) (t:Nat) (x:Nat × Int),L[t]? = some x → ((L.take (t + 1)).map f).map Flt.enc = ((L.take t).map f).map Flt.enc ++ [(f x).enc]:=fun f t x hx=>by rw [a11 hx,List.map_append,List.map_append];rfl
 have hAl:∀ (f:Nat × Int → Flt) (t:Nat),t ≤ L.length → (((L.take t).map f).map Flt.enc).length = t:=fun f t ht=>by rw [List.length_map,List.length_map,List.length_take];omega
 have hrr:∀ l:List Flt,(l.map Flt.enc).flatMap a0h = []:=fun l=>a0r (FlatR.map fun _=>rfl)
 have hrn:∀ (π:Nat → Option Nat) (l:List Flt),(l.map Flt.enc).map (fun r=>r.map (ren π)) = l.map Flt.enc:=fun π l=>a0n π (FlatR.map fun _=>rfl)
 refine d0y (m:=0) (σ:=Nat) kp3_0 rfl (fun t=>[(5,.ptr 0 0 0),(6,.ptr 1 0 0),(8,.islice (G.map u8R) (some c.nodes.length)),(10,.islice (L.map lnR) (some L.length)),(12,grV 2 (((L.take t).map (a9n c.nodes G)).map Flt.enc)),(13,grV 3 (((L.take t).map (a9o c.nodes G)).map Flt.enc)),(14,.int .i64 t),(1000000,.junk)])
  (fun t=>some (.row 4 [[sl c.nc (c.nodes.map Nd.enc),sl c.mc (c.names.map a1u),.nilslice,sl c.oc (c.outs.map a0l)]]) :: some (.row 2 [[sl p.ic (p.ins.map u8R),sl p.sc (p.sts.map u8R)]]) :: (grH 5 (((L.take t).map (a9n c.nodes G)).map Flt.enc) ++ grH 5 (((L.take t).map (a9o c.nodes G)).map Flt.enc))) (fun t=>L.length - t) (fun t=>t ≤ L.length) 0 ?_ (Nat.zero_le _) ?_
 ·(simp +decide only [go_sem,a02,a00,List.take_zero,List.map_nil,a14,a15,List.nil_append]<;>rfl)<;>rfl
 intro t ht
 by_cases htl:t < L.length
 ·obtain ⟨x1,hx1⟩:∃ x1,L[t]? = some x1:=⟨_,z9e htl⟩
  have hxm:=List.mem_of_getElem? hx1
  obtain ⟨hn,k,hk,he⟩:=hLm x1 hxm
  have hnt:=hnet x1 hxm
  have hA1:=hA (a9n c.nodes G) t x1 hx1
  have hA2:=hA (a9o c.nodes G) t x1 hx1
  have hl1:=hAl (a9n c.nodes G) t ht
  have hl2:=hAl (a9o c.nodes G) t ht
  have hr1:=hrr ((L.take t).map (a9n c.nodes G))
  have hr2:=fun π=>hrn π ((L.take t).map (a9n c.nodes G))
  have hr3:=hrr ((L.take t).map (a9o c.nodes G))
  have hr4:=fun π=>hrn π ((L.take t).map (a9o c.nodes G))
  have hxg:(L.map lnR)[t]? = some [.int .i64 x1.1,.int .i64 x1.2]:=by rw [List.getElem?_map,hx1];rfl
  obtain ⟨y,hy⟩:∃ y,c.nodes[x1.1]? = some y:=⟨_,z9e hn⟩
  obtain ⟨g,hg⟩:∃ g,G[c3o c.nodes x1]? = some g:=⟨_,z9e (by omega)⟩
  have hgd:G.getD (c3o c.nodes x1) 0 = g:=by rw [List.getD_eq_getElem?_getD,hg];rfl
  have hgg:(G.map u8R)[c3o c.nodes x1]? = some [.int .u8 g]:=by rw [List.getElem?_map,hg];rfl
  have o1:(a9n c.nodes G x1).enc = [.int .u8 0,.int .i64 x1.1,.int .i64 x1.2,.int .u8 g,.int .i64 0]:=by unfold a9n;rw [hgd];rfl
  have o2:(a9o c.nodes G x1).enc = [.int .u8 0,.int .i64 x1.1,.int .i64 x1.2,.int .u8 (a6w g),.int .i64 0]:=by unfold a9o;rw [hgd];rfl
  rw [o1] at hA1
  rw [o2] at hA2
  have c1:(t:Int) < L.length:=by omega
  have wt:=wI1 (n:=t) (by omega)
  have hrm:t + 1 ≤ 1000000000:=by omega
  have hkk:k = 0 ∨ ∃ q,k = q + 1:=by rcases k with _|q;exact .inl rfl;exact .inr ⟨q,rfl⟩
  rw [a1i hy] at hk
  have hnl1:c3o c.nodes x1 < (G.map u8R).length:=by rw [nG];exact hnt
  obtain ⟨net,hne⟩:∃ net,c3o c.nodes x1 = net:=⟨_,rfl⟩
  rw [hne] at hnt hg hgg hnl1
  unfold c3o at hne
  rcases hkk with rfl|⟨q,rfl⟩
  case' inl=>(
   have d0:¬ (0:Int) ≤ x1.2:=by omega
   rw [if_pos (by omega)] at hne
   subst hne
   have hm:=hy
   have hql:=hn)
  case' inr=>(
   have d0:(0:Int) ≤ x1.2:=by omega
   rw [if_neg (by omega),a1i hy] at hne
   have hq:x1.2 = (q:Int):=by omega
   rw [hq] at hne d0 hxg hA1 hA2
   obtain ⟨m,hm⟩:∃ m,y.ins[q]? = some m:=⟨_,z9e (by omega)⟩
   have hql:q < y.ins.length:=by omega
   rw [Int.toNat_natCast,List.getD_eq_getElem?_getD,hm] at hne
   have hne:m = net:=hne
   subst hne)
  all_goals (
   rcases Nat.eq_zero_or_pos t with h0|h0
   ·subst h0
    simp only [List.take_zero,List.map_nil,a14,a15,List.nil_append] at hA1 hA2 ⊢
    (repeat first|simp only [ww]|(apply xa;simp +decide only [go_sem,c1,d0,htl,hxg,hn,hy,hm,hql,hgg,hnl1,nG,nL,hnot,wt];rfl;kernel_rfl))
    refine a2a 1 ?_ (by omega) (by omega)
    simp only [hA1,hA2,grV,grH]
    (simp +decide only [go_sem,a02,a00]<;>rfl)<;>rfl
   ·have hne1:((L.take t).map (a9n c.nodes G)).map Flt.enc ≠ []:=fun e=>by rw [e] at hl1;simp at hl1;omega
    have hne2:((L.take t).map (a9o c.nodes G)).map Flt.enc ≠ []:=fun e=>by rw [e] at hl2;simp at hl2;omega
    have e1:=a8l 2 hne1
    have e2:=a8m 5 hne1
    have e3:=a8l 3 hne2
    have e4:=a8m 5 hne2
    rw [e1,e2,e3,e4]
    generalize ((L.take t).map (a9n c.nodes G)).map Flt.enc = R1 at *
    generalize ((L.take t).map (a9o c.nodes G)).map Flt.enc = R2 at *
    simp only [List.cons_append,List.nil_append]
    (repeat first|simp only [ww]|(apply xa;simp +decide only [go_sem,c1,d0,htl,hxg,hn,hy,hm,hql,hgg,hnl1,nG,nL,hnot,wt,hl1,hl2,hrm];rfl;kernel_rfl))
    refine a2a (t + 1) ?_ (by omega) (by omega)
    simp only [hA1,hA2,b8b,c3y,hl1,hl2,List.cons_append,List.nil_append]
    (simp +decide only [go_sem,a02,a00,hr1,hr2,hr3,hr4,List.flatMap_append,List.map_append]<;>rfl)<;>rfl)
 obtain rfl:t = L.length:=by omega
 have c1:¬ (L.length:Int) < L.length:=by omega
 rw [List.take_length]
 have hne1:(L.map (a9n c.nodes G)).map Flt.enc ≠ []:=by simpa using hLn
 have hne2:(L.map (a9o c.nodes G)).map Flt.enc ≠ []:=by simpa using hLn
 have hl1:((L.map (a9n c.nodes G)).map Flt.enc).length = L.length:=by simp
 have hl2:((L.map (a9o c.nodes G)).map Flt.enc).length = L.length:=by simp
 have hf1:∀ (m:Nat) (d:AV → Option AV),a98 m d ((L.map (a9n c.nodes G)).map Flt.enc) = some ((L.map (a9n c.nodes G)).map Flt.enc):=fun m d=>a1f _ _ (FlatR.map fun _=>rfl)
 have hf2:∀ (m:Nat) (d:AV → Option AV),a98 m d ((L.map (a9o c.nodes G)).map Flt.enc) = some ((L.map (a9o c.nodes G)).map Flt.enc):=fun m d=>a1f _ _ (FlatR.map fun _=>rfl)
 have ht1:((L.map (a9n c.nodes G)).map Flt.enc).take L.length = (L.map (a9n c.nodes G)).map Flt.enc:=List.take_of_length_le (by rw [hl1];exact Nat.le_refl _)
 have ht2:((L.map (a9o c.nodes G)).map Flt.enc).take L.length = (L.map (a9o c.nodes G)).map Flt.enc:=List.take_of_length_le (by rw [hl2];exact Nat.le_refl _)
 have e1:=a8l 2 hne1
 have e2:=a8m 5 hne1
 have e3:=a8l 3 hne2
 have e4:=a8m 5 hne2
 rw [e1,e2,e3,e4,hl1,hl2]
 have s1:=fun (cp:Option Nat)=>hli1 (some cp)
 have s2:=fun (cp:Option Nat)=>hli2 (some cp)
 have s3:=fun (cp:Option Nat)=>hde1 (some cp)
 simp only [b77] at s1 s2 s3
 have hot:∀ (i:Nat) (x1:Nat × Int),L[i]? = some x1 → ((L.map (a9o c.nodes G)).map Flt.enc)[i]? = some [.int .u8 0,.int .i64 x1.1,.int .i64 x1.2,.int .u8 (a6w (G.getD (c3o c.nodes x1) 0)),.int .i64 0]:=fun i x1 h=>by rw [List.getElem?_map,List.getElem?_map,h];rfl
 generalize (L.map (a9n c.nodes G)).map Flt.enc = R1 at *
 generalize (L.map (a9o c.nodes G)).map Flt.enc = R2 at *
 simp only [List.cons_append,List.nil_append]
 (repeat first|simp only [ww]|(apply xa;simp +decide only [go_sem,c1,nL];rfl;kernel_rfl))
 rw [e5w]
 simp +decide only [go_sem,hf1,hf2,ht1,ht2,hl1,hl2]
 obtain ⟨LA,hLA⟩:∃ LA,LA = (List.range c.nodes.length).map fun m=>[dsV ((a4i c ord p (L.map (a9n c.nodes G))).dset m)]:=⟨_,rfl⟩
 obtain ⟨LD,hLD⟩:∃ LD,LD = (List.range c.nodes.length).map fun m=>[dsV ((a4i c ord p (L.map (a9o c.nodes G))).dset m)]:=⟨_,rfl⟩
 have gA:∀ m,m < c.nodes.length → LA[m]? = some [.nilslice]:=fun m hm=>by rw [hLA,List.getElem?_map,List.getElem?_range hm,Option.map_some,hd1 m hm];rfl
 have gD:∀ m,m < c.nodes.length → LD[m]? = some [dsV ((a4i c ord p (L.map (a9o c.nodes G))).dset m)]:=fun m hm=>by rw [hLD,List.getElem?_map,List.getElem?_range hm];rfl
 have nA:LA.length = c.nodes.length:=by rw [hLA];simp
 have nD:LD.length = c.nodes.length:=by rw [hLD];simp
 rw [← hLA] at s1
 rw [← hLD] at s2
 have hdn:dsV [] = .nilslice:=rfl
 rw [hdn] at s3
 generalize (a4i c ord p (L.map (a9o c.nodes G))).dset = SS at gD hmem2 hbd2 hSl2
 (repeat first|simp only [ww]|(apply xa;simp +decide only [go_sem,s1,s2,s3,nA,nD,nG];rfl;kernel_rfl))
 refine a10 (m:=0) (σ:=Nat) kp3_2 (fun k=>[(8,.islice (G.map u8R) (some c.nodes.length)),(13,.islice R2 none),(16,.islice LA (some c.nodes.length)),(20,.islice LD (some c.nodes.length)),(22,.int .i64 k)])
  (fun _=>[]) (fun k=>c.nodes.length - k) (fun k=>k ≤ c.nodes.length) 0 ?_ (Nat.zero_le _) ?_
 ·(simp +decide only [go_sem,a02,a00]<;>rfl)<;>rfl
 intro k hk
 by_cases hkt:k < c.nodes.length
 ·have d1:(k:Int) < c.nodes.length:=by omega
  have hwk:=wI1 (n:=k) (by omega)
  have ga:=gA k hkt
  have gd:=gD k hkt
  have kA:k < LA.length:=by omega
  have kD:k < LD.length:=by omega
  obtain ⟨i0,hi0L,hi0S⟩:=hmem2 k hkt
  have hSl:=hSl2 k
  have hSv:=hbd2 k
  generalize SS k = S at gd hi0S hSl hSv
  have hSn:S ≠ []:=fun e=>by rw [e] at hi0S;cases hi0S
  have hdS:dsV S = .islice (S.map b4b) (some S.length):=by
   cases S with
   | nil=>exact absurd rfl hSn
   | cons a r=>rfl
  rw [hdS] at gd
  have nS:(S.map b4b).length = S.length:=List.length_map ..
  let fd (j:Nat):Bool:=(S.take j).any fun z=>decide (L.getD z.toNat (0,0) = (k,-1))
  have hfd0:fd 0 = false:=rfl
  have hfs:∀ (j vn:Nat) (x1:Nat × Int),S[j]? = some (vn:Int) → L[vn]? = some x1 → fd (j + 1) = (fd j || decide (x1 = (k,-1))):=fun j vn x1 h1 h2=>by
   show (S.take (j + 1)).any _ = _
   rw [a11 h1,List.any_append]
   simp only [List.any_cons,List.any_nil,Bool.or_false,Int.toNat_natCast]
   have e:L.getD vn (0,0) = x1:=by rw [List.getD_eq_getElem?_getD,h2];rfl
   simp only [e];rfl
  have hfe:fd S.length = true:=by
   show (S.take S.length).any _ = true
   rw [List.take_length,List.any_eq_true]
   refine ⟨(i0:Int),hi0S,?_⟩
   rw [Int.toNat_natCast,List.getD_eq_getElem?_getD,hi0L];simp
  clear_value fd
  (repeat first|simp only [ww]|(apply xa;simp +decide only [go_sem,d1,ga,kA,nG];rfl;kernel_rfl))
  refine a10 (m:=0) (σ:=Nat) kp3_4 (fun j=>[(8,.islice (G.map u8R) (some c.nodes.length)),(13,.islice R2 none),(16,.islice LA (some c.nodes.length)),(20,.islice LD (some c.nodes.length)),(22,.int .i64 k),(23,.bool (fd j)),(24,.int .i64 j)])
   (fun _=>[]) (fun j=>S.length - j) (fun j=>j ≤ S.length) 0 ?_ (Nat.zero_le _) ?_
  ·(simp +decide only [go_sem,a02,a00,hfd0]<;>rfl)<;>rfl
  intro j hj
  by_cases hjt:j < S.length
  ·have c2:(j:Int) < S.length:=by omega
   have wj:=wI1 (n:=j) (by omega)
   obtain ⟨v,hv⟩:∃ v,S[j]? = some v:=⟨_,z9e hjt⟩
   obtain ⟨hv0,hv1⟩:=hSv v (List.mem_of_getElem? hv)
   obtain ⟨vn,rfl⟩:∃ vn:Nat,v = vn:=⟨v.toNat,by omega⟩
   have hvz:(S.map b4b)[j]? = some [.int .i64 vn]:=by rw [List.getElem?_map,hv];rfl
   have hvl:vn < L.length:=by omega
   obtain ⟨x1,hx1⟩:∃ x1,L[vn]? = some x1:=⟨_,z9e hvl⟩
   have hrow:=hot vn x1 hx1
   have hf:=hfs j vn x1 hv hx1
   have d2:¬ (vn:Int) < 0:=by omega
   have d3:¬ (L.length:Int) ≤ vn:=by omega
   have hvR:vn < R2.length:=by omega
   have hle:(((x1.1:Nat):Int) == ((k:Nat):Int) && x1.2 == -1) = decide (x1 = (k,-1)):=by
    rw [Bool.eq_iff_iff,Bool.and_eq_true,beq_iff_eq,beq_iff_eq,decide_eq_true_eq]
    constructor
    ·rintro ⟨h1,h2⟩;exact Prod.ext (Int.ofNat.inj h1) h2
    ·rintro rfl;exact ⟨rfl,rfl⟩
   generalize decide (x1 = (k,-1)) = bb at hf hle
   cases hfj:fd j with
   | true=>
    rw [hfj,Bool.true_or] at hf
    (repeat first|simp only [ww]|(apply xa;simp +decide only [go_sem,c2,d1,d2,d3,hjt,hvz,gd,kD,nS,hl2,hrow,hvR,wj];rfl;kernel_rfl))
    refine a2a (j + 1) ?_ (by omega) (by omega)
    simp only [hf]
    (simp +decide only [go_sem,a02,a00]<;>rfl)<;>rfl
   | false=>
    rw [hfj,Bool.false_or] at hf
    (repeat first|simp only [ww]|(apply xa;simp +decide only [go_sem,c2,d1,d2,d3,hjt,hvz,gd,kD,nS,hl2,hrow,hvR,wj,hle];rfl;kernel_rfl))
    refine a2a (j + 1) ?_ (by omega) (by omega)
    simp only [hf]
    (simp +decide only [go_sem,a02,a00,hle]<;>rfl)<;>rfl
  ·obtain rfl:j = S.length:=by omega
   have c2:¬ (S.length:Int) < S.length:=by omega
   rw [hfe]
   (repeat first|simp only [ww]|(apply xa;simp +decide only [go_sem,c2,gd,kD,nS,hwk];rfl;kernel_rfl))
   refine a2a (k + 1) ?_ (by omega) (by omega)
   (simp +decide only [go_sem,a02,a00]<;>rfl)<;>rfl
 ·obtain rfl:k = c.nodes.length:=by omega
  have d1:¬ (c.nodes.length:Int) < c.nodes.length:=by omega
  have hlv:=hlv []
  (repeat first|simp only [ww]|(apply xa;simp +decide only [go_sem,d1,nG,hlv];rfl;kernel_rfl))
  (apply fqb;simp +decide only [go_sem]<;>rfl)
end Go.TInst
