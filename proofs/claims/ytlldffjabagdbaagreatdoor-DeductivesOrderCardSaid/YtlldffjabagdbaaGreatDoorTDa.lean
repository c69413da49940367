/- Part of a proof. No condition. -/
import Derived.Test.YtlldffjabagdbaaGreatDoorTSm
import Derived.Test.YtlldffjabagdbaaGreatDoorAxPrim
import Derived.Test.YtlldffjabagdbaaGreatDoorAxF
import Derived.Test.YtlldffjabagdbaaGreatDoorPcD
import Derived.Test.YtlldffjabagdbaaGreatDoorAxE
set_option linter.unusedSectionVars false
set_option linter.unusedSimpArgs false
set_option linter.unusedVariables false
namespace Go.TInst
open Go.Proofs Go.Ax Go.Pc
set_option maxRecDepth 100000
theorem d8f (m:Nat) (p b:Nat → Bool):sem L.env Mf 32 [.map 0,.iset (a1a m b)] [some (.uset (a1a m p))] = some (.tuple [],[some (.uset (a1a m fun k=>p k || b k))]):=by
 suffices hs:∃ r:AV × a03,(r = (.tuple [],[some (.uset (a1a m fun k=>p k || b k))])) ∧ sem L.env Mf 32 [.map 0,.iset (a1a m b)] [some (.uset (a1a m p))] = some r by
  obtain ⟨r,rfl,h3⟩:=hs
  exact h3
 (refine svE Tryz.f32 ?_;simp only [Tryz.f32,gS])
 (repeat first|simp only [ww]|(apply xa;simp +decide only [go_sem];rfl;kernel_rfl))
 refine c6q kp32_0 (a1a m b) (fun V=>[(0,.map 0),(7,.ptr 1 0 0)]) (fun V=>[some (.uset (a1a m fun k=>p k || met V k)),some (.miter (a1a m b) V none)]) 1 (.exit 0)
  [(9,.bool false),(8,.tuple [.bool false]),(0,.map 0),(7,.ptr 1 0 0)] [some (.uset (a1a m fun k=>p k || b k)),none] (b1l _ _) ?_ ?_ ?_ ?_ ?_
 ·have e:(a1a m fun k=>p k || met [] k) = a1a m p:=a0v fun i _=>by simp [c26]
  (simp +decide only [go_sem,a02,a00,e]<;>rfl)<;>rfl
 ·intro V _ _;exact ⟨rfl,none,rfl⟩
 ·intro V i h1 h2 h3 h4
  obtain ⟨j,rfl,hj,_⟩:=a7n.1 h3
  have e1:=b4i (q:=fun k=>p k || met V k) hj
  have e2:(a1a m fun k=>p k || met V k || decide (k = j)) = a1a m fun k=>p k || met (V ++ [(j:Int)]) k:=a0v fun k _=>by rw [b0c,Bool.or_assoc]
  refine xq (by simp +decide only [go_sem]<;>rfl) ?_
  (repeat first|simp only [ww]|(apply xa;simp +decide only [go_sem,e1,e2];rfl;kernel_rfl))
  show gcD _ _ _ _ = _
  (simp +decide only [go_sem,a02,a00]<;>rfl)<;>rfl
 ·intro V hV
  have e:(a1a m fun k=>p k || met V k) = a1a m fun k=>p k || b k:=a0v fun k hk=>by rw [b7z hV hk]
  refine xq (by simp +decide only [go_sem]<;>rfl) ?_
  rw [e]
  (repeat first|simp only [ww]|(apply xa;simp +decide only [go_sem];rfl;kernel_rfl))
  exact ⟨rfl,rfl,rfl⟩
 ·simp only [ww]
  refine c0k (vs:=[]) (r:=(.tuple [],[some (.uset (a1a m fun k=>p k || b k))])) (by simp +decide only [go_sem]) ?_ rfl
  rfl
theorem c0p {d:Bool} (H:a03) (c:Nat) (m:Nat) (p b:Nat → Bool) (hb:a01 H c = some (.uset (a1a m p))) :
 a0g L.env d (sem L.env Mf) (.func (.func 32) [] []) [.map c,.iset (a1a m b)] H = some (.tuple [],H.set c (some (.uset (a1a m fun k=>p k || b k))),[c]):=
 a4u (fs:=[]) (cs:=[]) (args:=[.map c,.iset (a1a m b)]) (by kernel_rfl) (by kernel_rfl) rfl hb rfl (fun π=>rfl) (by simp [a0j,refs]) (args':=[.map 0,.iset (a1a m b)]) (by simp [ren,a9o]) (d8f m p b) (fun π=>rfl) rfl
theorem d3e (v:Nat):sem L.env Mf 141 [.int .u8 v] [] = some (.bool (decide (1 < v)),[]):=by
 by_cases h:1 < v
 ·have c1:(1:Int) < v:=by omega
  (refine sv Tryz.f141 ?_;simp only [Tryz.f141,gS])
  (repeat first|simp only [ww]|(apply xa;simp +decide only [go_sem,c1];rfl;kernel_rfl))
  (apply fqb;simp +decide only [go_sem,h]<;>rfl)
 ·have c1:¬ (1:Int) < v:=by omega
  (refine sv Tryz.f141 ?_;simp only [Tryz.f141,gS])
  (repeat first|simp only [ww]|(apply xa;simp +decide only [go_sem,c1];rfl;kernel_rfl))
  (apply fqb;simp +decide only [go_sem,h]<;>rfl)
theorem c5y (d:Bool) (H:a03) (v:Nat):a0g L.env d (sem L.env Mf) (.func (.func 141) [] []) [.int .u8 v] H = some (.bool (decide (1 < v)),H,[]):=
 a04 (by kernel_rfl) (by kernel_rfl) rfl rfl (d3e v) rfl
theorem d8b (p:Pat) (h1:∀ v ∈ p.ins,v ≤ 1) (h2:∀ v ∈ p.sts,v ≤ 1) (l1:p.ins.length < 1000000) (l2:p.sts.length < 1000000):sem L.env Mf 105 [.agg p.enc] [] = some (.bool true,[]):=by
 have hc:∀ (r:Rep) (l:List Nat),(∀ v ∈ l,v ≤ 1) → l.length < 1000000 → ∀ (d:Bool) (H:a03),a0g L.env d (sem L.env Mf) (.func (.func 54) [] []) [sl r (l.map u8R),.func (.func 141) [] []] H = some (.bool false,H,[]):=by
  intro r l hv hl d H
  have h:=c06 l (sl r (l.map u8R)) [] (RA.imm r) hl (.func (.func 141) [] []) (fun v=>decide (1 < v)) rfl c5y
  have e:l.any (fun v=>decide (1 < v)) = false:=by rw [List.any_eq_false];intro v hm;have:=hv v hm;simp;omega
  rw [e] at h
  exact a04 (by kernel_rfl) (by kernel_rfl) rfl (by simp only [List.nil_append,List.append_nil,go_sem]) h rfl
 have a1:=hc p.ic p.ins h1 l1
 have a2:=hc p.sc p.sts h2 l2
 simp only [Pat.enc]
 (refine sv Tryz.f105 ?_;simp only [Tryz.f105,gS])
 (repeat first|simp only [ww]|(apply xa;simp +decide only [go_sem,a1,a2];rfl;kernel_rfl))
 (apply fqb;simp +decide only [go_sem]<;>rfl)
theorem c9x {d:Bool} (H:a03) (p:Pat) (h1:∀ v ∈ p.ins,v ≤ 1) (h2:∀ v ∈ p.sts,v ≤ 1) (l1:p.ins.length < 1000000) (l2:p.sts.length < 1000000):a0g L.env d (sem L.env Mf) (.func (.func 105) [] []) [.agg p.enc] H = some (.bool true,H,[]):=
 a04 (by kernel_rfl) (by kernel_rfl) rfl (by simp only [List.nil_append,List.append_nil,Pat.enc,go_sem]) (d8b p h1 h2 l1 l2) rfl
theorem d8a (v:Nat) (h:v ≠ 12 ∧ v ≠ 13):sem L.env Mf 139 [.slice 0 0 2 (some 2),.int .u8 v] [some (.row 1 [[.int .u8 12],[.int .u8 13]])] = some (.int .i64 (-1),[some (.row 1 [[.int .u8 12],[.int .u8 13]])]):=by
 have n12:¬ (v:Int) = 12:=by omega
 have n13:¬ (v:Int) = 13:=by omega
 (refine sv Tryz.f139 ?_;simp only [Tryz.f139,gS])
 (repeat first|simp only [ww]|(apply xa;simp +decide only [go_sem];rfl;kernel_rfl))
 refine a0x (σ:=Nat) kp139_0 (fun i=>[(0,.slice 0 0 2 (some 2)),(1,.int .u8 v),(7,.int .i64 2),(8,.int .i64 i)])
  (fun _=>[some (.row 1 [[.int .u8 12],[.int .u8 13]])]) (fun i=>2 - i) (fun i=>i ≤ 2) 0 ?_ (by simp) ?_
 ·(simp +decide only [go_sem,a02,a00]<;>rfl)
 ·intro i hi
  have hh:i = 0 ∨ i = 1 ∨ i = 2:=by omega
  rcases hh with rfl|rfl|rfl
  ·(repeat first|simp only [ww]|(apply xa;simp +decide only [go_sem,n12];rfl;kernel_rfl))
   refine a1y 1 ?_ (by omega) (by omega)
   (simp +decide only [go_sem,a02,a00]<;>rfl)
  ·(repeat first|simp only [ww]|(apply xa;simp +decide only [go_sem,n13];rfl;kernel_rfl))
   refine a1y 2 ?_ (by omega) (by omega)
   (simp +decide only [go_sem,a02,a00]<;>rfl)
  ·(repeat first|simp only [ww]|(apply xa;simp +decide only [go_sem];rfl;kernel_rfl))
   (apply fqb;simp +decide only [go_sem]<;>rfl)
theorem d3h (v:Nat) (h:v ≠ 12 ∧ v ≠ 13):sem L.env Mf 97 [.slice 0 0 2 (some 2),.int .u8 v] [some (.row 1 [[.int .u8 12],[.int .u8 13]])] = some (.bool false,[some (.row 1 [[.int .u8 12],[.int .u8 13]])]):=by
 have hc:a0g L.env false (sem L.env Mf) (.func (.func 139) [] []) [.slice 0 0 2 (some 2),.int .u8 v] [some (.row 1 [[.int .u8 12],[.int .u8 13]])] = some (.int .i64 (-1),[some (.row 1 [[.int .u8 12],[.int .u8 13]])],[0]):=
  a2b (by kernel_rfl) (by kernel_rfl) rfl rfl rfl (FlatO.row (FlatR.cons rfl (FlatR.cons rfl FlatR.nil))) rfl rfl (d8a v h) rfl
 (refine sv Tryz.f97 ?_;simp only [Tryz.f97,gS])
 (repeat first|simp only [ww]|(apply xa;simp +decide only [go_sem,hc];rfl;kernel_rfl))
 (apply fqb;simp +decide only [go_sem]<;>rfl)
theorem c60 {d:Bool} (v:Nat) (h:v ≠ 12 ∧ v ≠ 13) (X:a03):a0g L.env d (sem L.env Mf) (.func (.func 97) [] []) [.slice 0 0 2 (some 2),.int .u8 v] (some (.row 1 [[.int .u8 12],[.int .u8 13]]) :: X) = some (.bool false,some (.row 1 [[.int .u8 12],[.int .u8 13]]) :: X,[0]):=
 a2b (by kernel_rfl) (by kernel_rfl) rfl rfl rfl (FlatO.row (FlatR.cons rfl (FlatR.cons rfl FlatR.nil))) rfl rfl (d3h v h) rfl
theorem d88 (c:Cir) (hl:c.nodes.length < 1000000) (hk:∀ x ∈ c.nodes,x.kind ≠ 12 ∧ x.kind ≠ 13):sem L.env Mf 52 [.agg c.enc,.slice 0 0 2 (some 2)] [some (.row 1 [[.int .u8 12],[.int .u8 13]])] = some (.nilslice,[some (.row 1 [[.int .u8 12],[.int .u8 13]])]):=by
 have hck:=fun v h X=>c60 (d:=false) v h X
 (refine sv Tryz.f52 ?_;simp only [Tryz.f52,gS])
 (repeat first|simp only [ww]|(apply xa;simp +decide only [go_sem,Cir.enc];rfl;kernel_rfl))
 refine a0x (σ:=Nat) kp52_0 (fun i=>[(1,.slice 0 0 2 (some 2)),(5,.nilslice),(9,sl c.nc (c.nodes.map Nd.enc)),(10,.int .i64 c.nodes.length),(11,.int .i64 i)])
  (fun i=>[some (.row 1 [[.int .u8 12],[.int .u8 13]])]) (fun i=>c.nodes.length - i) (fun i=>i ≤ c.nodes.length) 0 ?_ (Nat.zero_le _) ?_
 ·(simp +decide only [go_sem,a02,a00]<;>rfl)
 ·intro i hi
  by_cases hlt:i < c.nodes.length
  ·obtain ⟨x,hx⟩:∃ x,c.nodes[i]? = some x:=⟨_,z9e hlt⟩
   have c1:(i:Int) < c.nodes.length:=by omega
   have hw:=wI1 (n:=i) (by omega)
   have hck:=fun X=>hck x.kind (hk x (List.mem_of_getElem? hx)) X
   (repeat first|simp only [ww]|(apply xa;simp +decide only [go_sem,c1,hlt,hx,hw,hck];rfl;kernel_rfl))
   refine a1y (i + 1) ?_ (by omega) (by omega)
   (simp +decide only [go_sem,a02,a00]<;>rfl)
  ·obtain rfl:i = c.nodes.length:=by omega
   have c1:¬ (c.nodes.length:Int) < c.nodes.length:=by omega
   have hcl:=fun H=>a04 (E:=L.env) (draw:=false) (call:=sem L.env Mf) (g:=69) (fs:=[]) (cs:=[]) (ar:=[.nilslice]) (H:=H) (by kernel_rfl) (by kernel_rfl) rfl rfl c4a rfl
   (repeat first|simp only [ww]|(apply xa;simp +decide only [go_sem,c1,hcl];rfl;kernel_rfl))
   (apply fqb;simp +decide only [go_sem]<;>rfl)
theorem c9v {d:Bool} {H:a03} {b:Nat} (c:Cir) (hl:c.nodes.length < 1000000) (hk:∀ x ∈ c.nodes,x.kind ≠ 12 ∧ x.kind ≠ 13) (hb:a01 H b = some (.row 1 [[.int .u8 12],[.int .u8 13]])) :
 a0g L.env d (sem L.env Mf) (.func (.func 52) [] []) [.agg c.enc,.slice b 0 2 (some 2)] H = some (.nilslice,H,[b]):=
 a2b (E:=L.env) (draw:=d) (call:=sem L.env Mf) (g:=52) (fs:=[]) (cs:=[]) (ar:=[.agg c.enc,.slice b 0 2 (some 2)]) (H:=H) (b:=b) (by kernel_rfl) (by kernel_rfl) rfl hb rfl (FlatO.row (FlatR.cons rfl (FlatR.cons rfl FlatR.nil))) (by simp only [List.nil_append,List.append_nil,a0a,a1e,Cir.enc,go_sem]) (args':=[.agg c.enc,.slice 0 0 2 (some 2)]) (by simp only [List.nil_append,List.append_nil,List.map_cons,List.map_nil,a20,c7e]) (d88 c hl hk) rfl
theorem c9u (c:Cir) (hl:c.nodes.length < 1000000) (hk:∀ x ∈ c.nodes,x.kind ≠ 12 ∧ x.kind ≠ 13):sem L.env Mf 104 [.agg c.enc] [] = some (.bool true,[]):=by
 have hn:=fun X Y=>c9v (d:=false) (H:=X :: some (.row 1 [[.int .u8 12],[.int .u8 13]]) :: Y) (b:=1) c hl hk rfl
 simp only [Cir.enc] at hn ⊢
 (refine sv Tryz.f104 ?_;simp only [Tryz.f104,gS])
 (repeat first|simp only [ww]|(apply xa;simp +decide only [go_sem,hn];rfl;kernel_rfl))
 (apply fqb;simp +decide only [go_sem]<;>rfl)
theorem c2r {d:Bool} (H:a03) (c:Cir) (hl:c.nodes.length < 1000000) (hk:∀ x ∈ c.nodes,x.kind ≠ 12 ∧ x.kind ≠ 13):a0g L.env d (sem L.env Mf) (.func (.func 104) [] []) [.agg c.enc] H = some (.bool true,H,[]):=
 a04 (by kernel_rfl) (by kernel_rfl) rfl (by simp only [List.nil_append,List.append_nil,Cir.enc,go_sem]) (c9u c hl hk) rfl
def lnR (x:Nat × Int):List AV:=[.int .i64 x.1,.int .i64 x.2]
def a4l (n p:Nat):List (Nat × Int):=(List.range p).map fun (k:Nat)=>(n,(k:Int) - 1)
def a2d (nodes:List Nd) (n:Nat):List (Nat × Int):=(List.range n).flatMap fun i=>a4l i ((a17 nodes i).length + 1)
def b49 (nodes:List Nd):List (Nat × Int):=a2d nodes nodes.length
theorem c7p (n p:Nat):a4l n (p + 1) = a4l n p ++ [(n,(p:Int) - 1)]:=by unfold a4l;rw [List.range_succ,List.map_append];rfl
theorem b1i (nodes:List Nd) (n:Nat):a2d nodes (n + 1) = a2d nodes n ++ a4l n ((a17 nodes n).length + 1):=by unfold a2d;rw [List.range_succ,List.flatMap_append];simp
theorem c03 (nodes:List Nd) (hi:∀ x ∈ nodes,x.ins.length ≤ 16):∀ n,n ≤ nodes.length → (a2d nodes n).length ≤ 17 * n
 | 0,_=>by simp [a2d]
 | n + 1,hn=>by
  have ih:=c03 nodes hi n (by omega)
  obtain ⟨x,hx⟩:∃ x,nodes[n]? = some x:=⟨_,z9e (by omega)⟩
  have h1:=hi x (List.mem_of_getElem? hx)
  rw [b1i,List.length_append,a29 hx]
  have:(a4l n (x.ins.length + 1)).length = x.ins.length + 1:=by simp [a4l]
  omega
theorem b8j (l:List (Nat × Int)):FlatR (l.map lnR):=FlatR.map fun _=>rfl
theorem c9w (c:Cir) (h:c.wf):sem L.env Mf 10 [.agg c.enc] [] = some (.tuple [.islice ((b49 c.nodes).map lnR) (some (b49 c.nodes).length),.int .i64 0],[]):=by
 have hn:=h.len
 have hp:=h.pos
 have hv:=fun H=>b4n (d:=false) H c h
 have hrr:∀ l:List (Nat × Int),(l.map lnR).flatMap a0j = []:=fun l=>a0n (b8j l)
 have hrn:∀ (π:Nat → Option Nat) (l:List (Nat × Int)),(l.map lnR).map (fun r=>r.map (ren π)) = l.map lnR:=fun π l=>a0m π (b8j l)
 have hfz:∀ {m:Nat} {d:AV → Option AV} (l:List (Nat × Int)),a9a m d (l.map lnR) = some (l.map lnR):=fun l=>a1g _ _ (b8j l)
 have hi16:∀ x ∈ c.nodes,x.ins.length ≤ 16:=fun x hx=>h.insl hx
 simp only [Cir.enc] at hv ⊢
 (refine sv Tryz.f10 ?_;simp only [Tryz.f10,gS])
 (repeat first|simp only [ww]|(apply xa;simp +decide only [go_sem,hv];rfl;kernel_rfl))
 refine a0x (σ:=Nat) kp10_0 (fun i=>[(5,grV 0 ((a2d c.nodes i).map lnR)),(15,sl c.nc (c.nodes.map Nd.enc)),(16,.int .i64 c.nodes.length),(17,.int .i64 i)])
  (fun i=>grH 2 ((a2d c.nodes i).map lnR)) (fun i=>c.nodes.length - i) (fun i=>i ≤ c.nodes.length) 0 ?_ (Nat.zero_le _) ?_
 ·have e:a2d c.nodes 0 = []:=rfl
  (simp +decide only [go_sem,a02,a00,e,List.map_nil,a0q,a0r]<;>rfl)
 ·intro i hi
  by_cases hlt:i < c.nodes.length
  ·obtain ⟨x,hx⟩:∃ x,c.nodes[i]? = some x:=⟨_,z9e hlt⟩
   have c1:(i:Int) < c.nodes.length:=by omega
   have hw:=wI1 (n:=i) (by omega)
   have hxl:=hi16 x (List.mem_of_getElem? hx)
   have hxi:=a29 hx
   have hw2:=wI1 (n:=x.ins.length) (by omega)
   have hll:=c03 c.nodes hi16 i hi
   have hsn:=b1i c.nodes i
   rw [hxi] at hsn
   (repeat first|simp only [ww]|(apply xa;simp +decide only [go_sem,c1,hlt,hx,hw2,a5a,a5m,a9l,b25,a7l];rfl;kernel_rfl))
   refine a0x (σ:=Nat) kp10_2 (fun p=>[(5,grV 0 ((a2d c.nodes i ++ a4l i p).map lnR)),(6,.int .i64 i),(15,sl c.nc (c.nodes.map Nd.enc)),(16,.int .i64 c.nodes.length),(17,.int .i64 i),(25,.int .i64 (x.ins.length + 1:Nat)),(26,.int .i64 p)])
    (fun p=>grH 2 ((a2d c.nodes i ++ a4l i p).map lnR)) (fun p=>x.ins.length + 1 - p) (fun p=>p ≤ x.ins.length + 1) 0 ?_ (Nat.zero_le _) ?_
   ·have e:a2d c.nodes i ++ a4l i 0 = a2d c.nodes i:=by simp [a4l]
    rw [e]
    generalize a2d c.nodes i = l
    cases l with
    | nil=>((simp +decide only [go_sem,a02,a00,List.map_nil,a0q,a0r]<;>rfl))
    | cons a r=>((simp +decide only [go_sem,a02,a00,List.map_cons,a0d,a0e,hrr,hrn,lnR,List.length_map]<;>rfl))
   ·intro p hp
    have hpl:(a4l i p).length = p:=by simp [a4l]
    by_cases hpt:p < x.ins.length + 1
    ·have d1:(p:Int) < (x.ins.length + 1:Nat):=by omega
     have hwp:=wI1 (n:=p) (by omega)
     have hwm:IntKind.i64.wrap ((p:Int) - 1) = (p:Int) - 1:=w64 (by omega) (by omega)
     have hs:=c7p i p
     have hrm:(a2d c.nodes i ++ a4l i p).length + 1 ≤ 1000000000:=by rw [List.length_append];omega
     have hs2:a2d c.nodes i ++ a4l i (p + 1) = (a2d c.nodes i ++ a4l i p) ++ [(i,(p:Int) - 1)]:=by rw [hs,List.append_assoc]
     generalize a2d c.nodes i ++ a4l i p = l at hs2 hrm
     cases l with
     | nil=>
      (repeat first|simp only [ww]|(apply xa;simp +decide only [go_sem,d1,hwp,hwm,List.map_nil,a0q,a0r];rfl;kernel_rfl))
      refine a1y (p + 1) ?_ (by omega) (by omega)
      simp only [hs2]
      (simp +decide only [go_sem,a02,a00,List.nil_append,List.map_cons,List.map_nil,a0d,a0e,lnR,List.length_nil]<;>rfl)
     | cons a r=>
      simp only [List.length_cons] at hrm
      (repeat first|simp only [ww]|(apply xa;simp +decide only [go_sem,d1,hwp,hwm,List.map_cons,a0d,a0e,hrm,List.length_map];rfl;kernel_rfl))
      refine a1y (p + 1) ?_ (by omega) (by omega)
      simp only [hs2]
      (simp +decide only [go_sem,a02,a00,List.cons_append,List.map_cons,List.map_append,List.map_nil,a0d,a0e,hrr,hrn,lnR,List.length_map,List.length_append,List.length_cons,List.length_nil]<;>rfl)
    ·obtain rfl:p = x.ins.length + 1:=by omega
     have d1:¬ ((x.ins.length + 1:Nat):Int) < (x.ins.length + 1:Nat):=by omega
     obtain ⟨l,hl⟩:∃ l,l = a2d c.nodes (i + 1):=⟨_,rfl⟩
     rw [← hsn,← hl]
     (repeat first|simp only [ww]|(apply xa;simp +decide only [go_sem,d1,hw];rfl;kernel_rfl))
     refine a1y (i + 1) ?_ (by omega) (by omega)
     simp only [← hl]
     clear hl
     cases l with
     | nil=>((simp +decide only [go_sem,a02,a00,List.map_nil,a0q,a0r]<;>rfl))
     | cons a r=>((simp +decide only [go_sem,a02,a00,List.map_cons,a0d,a0e,hrr,hrn,lnR,List.length_map]<;>rfl))
  ·obtain rfl:i = c.nodes.length:=by omega
   have c1:¬ (c.nodes.length:Int) < c.nodes.length:=by omega
   have hne:a2d c.nodes c.nodes.length ≠ []:=by
    intro e
    obtain ⟨m,hm⟩:∃ m,c.nodes.length = m + 1:=⟨c.nodes.length - 1,by omega⟩
    have h1:=congrArg List.length (b1i c.nodes m)
    rw [← hm,e] at h1
    simp [a4l] at h1
   unfold b49
   generalize a2d c.nodes c.nodes.length = l at hne
   cases l with
   | nil=>exact absurd rfl hne
   | cons a r=>
    have hcl:=b6x (d:=false) (H:=[some (.row 2 ((a :: r).map lnR))]) (b:=0) (n:=r.length + 1) (b8j _) rfl
    simp only [List.map_cons,lnR] at hcl
    (repeat first|simp only [ww]|(apply xa;simp +decide only [go_sem,c1,List.map_cons,a0d,a0e,List.length_map,hcl,lnR];rfl;kernel_rfl))
    (apply fqb;simp +decide only [go_sem,List.map_cons,hfz,List.length_cons,lnR]<;>rfl)
theorem c2s {d:Bool} (H:a03) (c:Cir) (h:c.wf):a0g L.env d (sem L.env Mf) (.func (.func 10) [] []) [.agg c.enc] H = some (.tuple [.islice ((b49 c.nodes).map lnR) (some (b49 c.nodes).length),.int .i64 0],H,[]):=
 a04 (by kernel_rfl) (by kernel_rfl) rfl (by simp only [List.nil_append,List.append_nil,Cir.enc,go_sem]) (c9w c h) (by simp only [b19,a0a,c1y,go_sem])
def a3u (x:Nat × Int):AV:=.agg [.int .i64 x.1,.int .i64 x.2]
theorem e61 (a b c d:Int):aeq L.env 6 50 (.agg [.int .i64 a,.int .i64 b]) (.agg [.int .i64 c,.int .i64 d]) = some (decide (a = c) && decide (b = d)):=by
 have h:aeq L.env 6 50 (.agg [.int .i64 a,.int .i64 b]) (.agg [.int .i64 c,.int .i64 d]) = some ((a == c) && ((b == d) && true)):=by kernel_rfl
 rw [h,Bool.and_true];rfl
theorem keyL:KeyOk L.env 93 50 32 a3u:=by
 refine ⟨by kernel_rfl,by kernel_rfl,fun x=>by kernel_rfl,fun x y=>?_,fun x=>by simp [a3u,c6a,c15,b5d]⟩
 show aeq L.env 6 50 (.agg [.int .i64 x.1,.int .i64 x.2]) (.agg [.int .i64 y.1,.int .i64 y.2]) = _
 rw [e61]
 congr 1
 rw [Bool.eq_iff_iff,Bool.and_eq_true,decide_eq_true_eq,decide_eq_true_eq,decide_eq_true_eq]
 exact ⟨fun ⟨a,b⟩=>Prod.ext (by omega) b,fun h=>by rw [h];exact ⟨rfl,rfl⟩⟩
theorem b07 (x:Nat × Int):refs (a3u x) = []:=rfl
theorem e50:L.env.zero 32 = some [.nilslice]:=by kernel_rfl
theorem e55:∃ d,L.env.und 32 = some d ∧ a84 d [.nilslice] = some .nilslice:=⟨.slice 3,by kernel_rfl,rfl⟩
structure Mach (c:Cir) (D:Ded) (es:List ((Nat × Int) × List Nat)):Prop where
 nodes:D.nodes = c.nodes
 ok:D.ok
 fl:D.fs.length ≤ 1000
 nl:c.nodes.length ≤ 1000
 il:∀ x ∈ c.nodes,x.ins.length ≤ 16
 kd:∀ x ∈ c.nodes,x.kind ≤ 14
 at':∀ n pin,atE (n,pin) es = (List.range D.fs.length).filter (D.at' n pin)
section
variable {c:Cir} {D:Ded} {es:List ((Nat × Int) × List Nat)} (M:Mach c D es) {rl:Rep} {LS:List (List AV)}
include M
theorem Mach.ft {i:Nat} {f:Flt} (hf:D.fs[i]? = some f):D.ft i = f:=by unfold Ded.ft;rw [List.getD_eq_getElem?_getD,hf];rfl
theorem Mach.ins {n:Nat} {x:Nd} (hx:c.nodes[n]? = some x):a17 D.nodes n = x.ins:=by rw [M.nodes];exact a29 hx
theorem Mach.kind {n:Nat} {x:Nd} (hx:c.nodes[n]? = some x):a0c D.nodes n = x.kind:=by rw [M.nodes];exact a18 hx
theorem Mach.inl {n pin m:Nat} {x:Nd} (hx:c.nodes[n]? = some x) (hm:x.ins[pin]? = some m):m < c.nodes.length:=by
 have hn:=(List.getElem?_eq_some_iff.1 hx).1
 have:=M.ok.inn n (by rw [M.nodes];exact hn) m (by rw [M.ins hx];exact List.mem_of_getElem? hm)
 rwa [M.nodes] at this
theorem Mach.gl:D.G.length = c.nodes.length:=by rw [M.ok.G_len,M.nodes]
theorem Mach.inG {n pin m g:Nat} {x:Nd} (hx:c.nodes[n]? = some x) (hm:x.ins[pin]? = some m) (hg:D.G[m]? = some g):D.inG n pin = g:=by
 unfold Ded.inG
 rw [M.ins hx,List.getD_eq_getElem?_getD,List.getD_eq_getElem?_getD,hm,Option.getD_some,hg];rfl
theorem e2c {n pin m i:Nat} {x:Nd} {f:Flt} (hx:c.nodes[n]? = some x) (hm:x.ins[pin]? = some m) (hf:D.fs[i]? = some f) (hL:LS[m]? = some [.iset (D.dset m)]) :
 sem L.env Mf 35 [.iptr [sl c.nc (c.nodes.map Nd.enc),sl c.mc (c.names.map a1n),.nilslice,sl c.oc (c.outs.map a0k),sl rl (D.fs.map Flt.enc),.islice (D.G.map u8R) (some c.nodes.length),.islice LS (some c.nodes.length),a1r a3u es],.int .i64 n,.int .i64 pin,.int .i64 i] [] = some (.bool (D.chg n pin i),[]):=by
 have hn:=(List.getElem?_eq_some_iff.1 hx).1
 have hpl:=(List.getElem?_eq_some_iff.1 hm).1
 have hil:=(List.getElem?_eq_some_iff.1 hf).1
 have hml:=M.inl hx hm
 have hLl:=(List.getElem?_eq_some_iff.1 hL).1
 have hgl:=M.gl
 obtain ⟨g,hg⟩:∃ g,D.G[m]? = some g:=⟨_,z9e (by omega)⟩
 have hgG:m < D.G.length:=by omega
 have hin:=M.inG hx hm hg
 have hft:=M.ft hf
 by_cases ha:f.node = n ∧ f.pin = pin
 ·have hat:D.at' n pin i = true:=by unfold Ded.at';rw [hft];simp [ha.1,ha.2]
  have hle:((f.node:Int) == (n:Int) && f.pin == (pin:Int)) = true:=by simp [ha.1,ha.2]
  have hc:D.chg n pin i = decide (f.value ≠ g):=by unfold Ded.chg;rw [hat,hft,hin];rfl
  rw [hc]
  by_cases hv:f.value = g
  ·have d1:(f.value:Int) = g:=by omega
   rw [show decide (f.value ≠ g) = false from by simp [hv]]
   (refine sv Tryz.f35 ?_;simp only [Tryz.f35,gS])
   (repeat first|simp only [ww]|(apply xa;simp +decide only [go_sem,hx,hn,hm,hpl,hf,hil,hle,hg,hml,hgG,d1,Flt.enc];rfl;kernel_rfl))
   (apply fqb;simp +decide only [go_sem,hv]<;>rfl)
  ·have d1:¬ (f.value:Int) = g:=by omega
   rw [show decide (f.value ≠ g) = true from by simp [hv]]
   (refine sv Tryz.f35 ?_;simp only [Tryz.f35,gS])
   (repeat first|simp only [ww]|(apply xa;simp +decide only [go_sem,hx,hn,hm,hpl,hf,hil,hle,hg,hml,hgG,d1,Flt.enc];rfl;kernel_rfl))
   (apply fqb;simp +decide only [go_sem,hv]<;>rfl)
 ·have hat:D.at' n pin i = false:=by
   unfold Ded.at';rw [hft,Bool.and_eq_false_iff,decide_eq_false_iff_not,decide_eq_false_iff_not]
   rcases Classical.em (f.node = n) with h|h
   ·exact .inr fun h2=>ha ⟨h,h2⟩
   ·exact .inl h
  have hle:((f.node:Int) == (n:Int) && f.pin == (pin:Int)) = false:=by
   rw [Bool.and_eq_false_iff,beq_eq_false_iff_ne,beq_eq_false_iff_ne]
   rcases Classical.em (f.node = n) with h|h
   ·exact .inr fun h2=>ha ⟨h,h2⟩
   ·exact .inl (by omega)
  have hc:D.chg n pin i = D.dif m i:=by
   unfold Ded.chg;rw [hat,M.ins hx,List.getD_eq_getElem?_getD,hm];rfl
  have hh:(D.dset m).contains (i:Int) = D.dif m i:=c91 hil
  rw [hc]
  generalize D.dset m = S at hL hh
  generalize D.dif m i = q at hh
  (refine sv Tryz.f35 ?_;simp only [Tryz.f35,gS])
  (repeat first|simp only [ww]|(apply xa;simp +decide only [go_sem,hx,hn,hm,hpl,hf,hil,hle,hg,hml,hL,hLl,hh,Flt.enc];rfl;kernel_rfl))
  (apply fqb;simp +decide only [go_sem]<;>rfl)
theorem c4c {d:Bool} (H:a03) {n pin m i:Nat} {x:Nd} {f:Flt} (hx:c.nodes[n]? = some x) (hm:x.ins[pin]? = some m) (hf:D.fs[i]? = some f) (hL:LS[m]? = some [.iset (D.dset m)]) :
 a0g L.env d (sem L.env Mf) (.func (.func 35) [] []) [.iptr [sl c.nc (c.nodes.map Nd.enc),sl c.mc (c.names.map a1n),.nilslice,sl c.oc (c.outs.map a0k),sl rl (D.fs.map Flt.enc),.islice (D.G.map u8R) (some c.nodes.length),.islice LS (some c.nodes.length),a1r a3u es],.int .i64 n,.int .i64 pin,.int .i64 i] H = some (.bool (D.chg n pin i),H,[]):=
 a04 (by kernel_rfl) (by kernel_rfl) rfl rfl (e2c M hx hm hf hL) rfl
theorem Mach.at_mem {n:Nat} {pin:Int} {i:Nat}:(atE (n,pin) es).contains i = (decide (i < D.fs.length) && D.at' n pin i):=by
 rw [M.at',Bool.eq_iff_iff,List.contains_iff_mem,List.mem_filter,List.mem_range]
 simp
theorem Mach.at_lt {n:Nat} {pin:Int} {i:Nat} (h:i ∈ atE (n,pin) es):i < D.fs.length:=by
 rw [M.at',List.mem_filter,List.mem_range] at h;exact h.1
theorem Mach.at_len {n:Nat} {pin:Int}:(atE (n,pin) es).length ≤ 1000:=by
 rw [M.at'];exact Nat.le_trans (List.length_filter_le _ _) (by simpa using M.fl)
omit M in
theorem b78 {l:List Nat} {q v i:Nat} (h:l[q]? = some v):(l.take (q + 1)).contains i = ((l.take q).contains i || decide (i = v)):=by
 rw [a14 h,Bool.eq_iff_iff,Bool.or_eq_true,List.contains_iff_mem,List.contains_iff_mem,List.mem_append,List.mem_singleton,decide_eq_true_eq]
theorem d6d {n:Nat} {x:Nd} (hx:c.nodes[n]? = some x) (hL:∀ m ∈ x.ins,LS[m]? = some [.iset (D.dset m)]) :
 sem L.env Mf 34 [.iptr [sl c.nc (c.nodes.map Nd.enc),sl c.mc (c.names.map a1n),.nilslice,sl c.oc (c.outs.map a0k),sl rl (D.fs.map Flt.enc),.islice (D.G.map u8R) (some c.nodes.length),.islice LS (some c.nodes.length),a1r a3u es],.int .i64 n] [] = some (.iset (a1a D.fs.length (D.sm n)),[]):=by
 have hn:=(List.getElem?_eq_some_iff.1 hx).1
 have hil:=M.il x (List.mem_of_getElem? hx)
 have hnl:=M.nl
 have hins:=M.ins hx
 obtain ⟨dd,hd,hz1⟩:=e55
 have hf0:a1j false 0 (.map 0) [some (.uset (a1a D.fs.length (D.sm n)))] = some (.iset (a1a D.fs.length (D.sm n)),[]):=rfl
 (refine sv Tryz.f34 ?_;simp only [Tryz.f34,gS])
 (repeat first|simp only [ww]|(apply xa;simp +decide only [go_sem,hx,hn];rfl;kernel_rfl))
 refine a0x (σ:=Nat) kp34_0 (fun t=>[(0,.iptr [sl c.nc (c.nodes.map Nd.enc),sl c.mc (c.names.map a1n),.nilslice,sl c.oc (c.outs.map a0k),sl rl (D.fs.map Flt.enc),.islice (D.G.map u8R) (some c.nodes.length),.islice LS (some c.nodes.length),a1r a3u es]),(1,.int .i64 n),(5,.map 0),(19,sl x.c (x.ins.map a0k)),(20,.int .i64 x.ins.length),(21,.int .i64 t)])
  (fun t=>[some (.uset (a1a D.fs.length (D.smT n t)))]) (fun t=>x.ins.length - t) (fun t=>t ≤ x.ins.length) 0 ?_ (Nat.zero_le _) ?_
 ·have e:a1a D.fs.length (D.smT n 0) = []:=by
   unfold a1a
   rw [List.map_eq_nil_iff,List.filter_eq_nil_iff]
   intro i _;simp [Ded.smT]
  (simp +decide only [go_sem,a02,a00,e]<;>rfl)<;>rfl
 ·intro t ht
  by_cases htl:t < x.ins.length
  ·obtain ⟨m,hm⟩:∃ m,x.ins[t]? = some m:=⟨_,z9e htl⟩
   have hml:=M.inl hx hm
   have hLm:=hL m (List.mem_of_getElem? hm)
   have hLl:=(List.getElem?_eq_some_iff.1 hLm).1
   have c1:(t:Int) < x.ins.length:=by omega
   have hw:=wI1 (n:=t) (by omega)
   have hcp:=fun (d:Bool) (X:a03)=>c0p (d:=d) (some (.uset (a1a D.fs.length (D.smT n t))) :: X) 0 D.fs.length (D.smT n t) (D.dif m) rfl
   rw [show a1a D.fs.length (D.dif m) = D.dset m from rfl] at hcp
   obtain ⟨rr,hlk⟩:=keyL.ilook e50 hd hz1 es (n,(t:Int))
   have hlk:∀ h,a30 L.env h 93 (a1r a3u es) (.agg [.int .i64 n,.int .i64 t]) false = some (sl rr ((atE (n,(t:Int)) es).map a0k)):=hlk
   have hlt:=fun i=>M.at_lt (n:=n) (pin:=(t:Int)) (i:=i)
   have hll:=M.at_len (n:=n) (pin:=(t:Int))
   have hat:=fun i=>M.at_mem (n:=n) (pin:=(t:Int)) (i:=i)
   generalize atE (n,(t:Int)) es = l at hlk hlt hll hat
   have hsm:∀ i,i < D.fs.length → (D.smT n t i || D.dif m i || (l.take l.length).contains i) = D.smT n (t + 1) i:=by
    intro i hi
    rw [List.take_length,hat,decide_eq_true hi,Bool.true_and]
    unfold Ded.smT
    rw [List.range_succ,List.any_append,hins]
    simp [List.getD_eq_getElem?_getD,hm,Bool.or_assoc]
   have hS:=a0v (p:=fun i=>D.smT n t i || D.dif m i || (l.take l.length).contains i) hsm
   generalize D.dset m = S at hLm hcp
   have hIr:refs (a1r a3u es) = []:=rfl
   (repeat first|simp only [ww]|(apply xa;simp +decide only [go_sem,c1,htl,hm,hLm,hLl,hml,hcp,hlk];rfl;kernel_rfl))
   refine a0x (σ:=Nat) kp34_2 (fun q=>[(0,.iptr [sl c.nc (c.nodes.map Nd.enc),sl c.mc (c.names.map a1n),.nilslice,sl c.oc (c.outs.map a0k),sl rl (D.fs.map Flt.enc),.islice (D.G.map u8R) (some c.nodes.length),.islice LS (some c.nodes.length),a1r a3u es]),(1,.int .i64 n),(5,.map 0),(19,sl x.c (x.ins.map a0k)),(20,.int .i64 x.ins.length),(21,.int .i64 t),(42,sl rr (l.map a0k)),(43,.int .i64 l.length),(44,.int .i64 q)])
    (fun q=>[some (.uset (a1a D.fs.length fun i=>D.smT n t i || D.dif m i || (l.take q).contains i))]) (fun q=>l.length - q) (fun q=>q ≤ l.length) 0 ?_ (Nat.zero_le _) ?_
   ·have e:(a1a D.fs.length fun i=>D.smT n t i || D.dif m i || ([]:List Nat).contains i) = a1a D.fs.length fun i=>D.smT n t i || D.dif m i:=a0v fun i _=>by simp
    (simp +decide only [go_sem,a02,a00,e,hIr]<;>rfl)<;>rfl
   ·intro q hq
    by_cases hql:q < l.length
    ·obtain ⟨v,hv⟩:∃ v,l[q]? = some v:=⟨_,z9e hql⟩
     have d1:(q:Int) < l.length:=by omega
     have hwq:=wI1 (n:=q) (by omega)
     have hvl:=hlt v (List.mem_of_getElem? hv)
     have e1:=b4i (q:=fun i=>D.smT n t i || D.dif m i || (l.take q).contains i) hvl
     have e2:(a1a D.fs.length fun i=>D.smT n t i || D.dif m i || (l.take q).contains i || decide (i = v)) = a1a D.fs.length fun i=>D.smT n t i || D.dif m i || (l.take (q + 1)).contains i:=a0v fun i _=>by rw [b78 hv,Bool.or_assoc (D.smT n t i || D.dif m i)]
     rw [e2] at e1
     (repeat first|simp only [ww]|(apply xa;simp +decide only [go_sem,d1,hql,hv,hwq,e1];rfl;kernel_rfl))
     refine a1y (q + 1) ?_ (by omega) (by omega)
     (simp +decide only [go_sem,a02,a00,hIr]<;>rfl)<;>rfl
    ·obtain rfl:q = l.length:=by omega
     have d1:¬ (l.length:Int) < l.length:=by omega
     rw [hS]
     (repeat first|simp only [ww]|(apply xa;simp +decide only [go_sem,d1,hw];rfl;kernel_rfl))
     refine a1y (t + 1) ?_ (by omega) (by omega)
     (simp +decide only [go_sem,a02,a00,hIr]<;>rfl)<;>rfl
  ·obtain rfl:t = x.ins.length:=by omega
   have c1:¬ (x.ins.length:Int) < x.ins.length:=by omega
   have e:D.smT n x.ins.length = D.sm n:=by unfold Ded.sm;rw [hins]
   rw [e]
   (repeat first|simp only [ww]|(apply xa;simp +decide only [go_sem,c1];rfl;kernel_rfl))
   (apply fqb;simp +decide only [go_sem,hf0]<;>rfl)
theorem b9e {d:Bool} (H:a03) {n:Nat} {x:Nd} (hx:c.nodes[n]? = some x) (hL:∀ m ∈ x.ins,LS[m]? = some [.iset (D.dset m)]) :
 a0g L.env d (sem L.env Mf) (.func (.func 34) [] []) [.iptr [sl c.nc (c.nodes.map Nd.enc),sl c.mc (c.names.map a1n),.nilslice,sl c.oc (c.outs.map a0k),sl rl (D.fs.map Flt.enc),.islice (D.G.map u8R) (some c.nodes.length),.islice LS (some c.nodes.length),a1r a3u es],.int .i64 n] H = some (.iset (a1a D.fs.length (D.sm n)),H,[]):=
 a04 (by kernel_rfl) (by kernel_rfl) rfl rfl (d6d M hx hL) rfl
theorem d3f {d:Bool} {H:a03} {b k:Nat} {l:List Nat} (hk:k < 16) (hl:l.length < 1000000) (hb:a01 H b = some (.row 1 (l.map u8R))) :
 a0g L.env d (sem L.env Mf) (.func (.func 25) [] []) [.int .u8 k,.slice b 0 l.length none] H = some (.int .u8 (a68 k l:Nat),H,[b]):=by
 have hf:FlatR (l.map u8R ++ []):=by rw [List.append_nil];exact a2q l
 have h0:=b88 k hk l _ _ (RA.blk none [] hf) hl
 rw [List.append_nil] at hf h0
 have h:=a4u (E:=L.env) (draw:=d) (call:=sem L.env Mf) (g:=25) (fs:=[]) (cs:=[]) (ar:=[.int .u8 k,.slice b 0 l.length none]) (H:=H) (b:=b) (by kernel_rfl) (by kernel_rfl) rfl hb (a0s hf) (FlatO.row hf) (by simp only [List.nil_append,List.append_nil,a0a,b1a,go_sem]) (args':=[.int .u8 k,.slice 0 0 l.length none]) (by simp only [List.nil_append,List.append_nil,List.map_cons,List.map_nil,a20,go_sem]) h0 (FlatO.row hf) rfl
 rw [a8y hb] at h
 exact h
theorem d8c {d:Bool} {H:a03} {k:Nat} (hk:k < 16):a0g L.env d (sem L.env Mf) (.func (.func 25) [] []) [.int .u8 k,.nilslice] H = some (.int .u8 (a68 k []:Nat),H,[]):=
 a04 (by kernel_rfl) (by kernel_rfl) rfl rfl (b88 k hk [] _ _ (RA.imm none) (by simp)) rfl
theorem e0o {n i:Nat} {x:Nd} {f:Flt} (hx:c.nodes[n]? = some x) (hf:D.fs[i]? = some f) (hk:D.comb n = true) (hL:∀ m ∈ x.ins,LS[m]? = some [.iset (D.dset m)]) :
 sem L.env Mf 106 [.int .i64 i,.ptr 0 0 0,.ptr 1 0 0,.ptr 2 0 0] [some (.row 1 [[.iptr [sl c.nc (c.nodes.map Nd.enc),sl c.mc (c.names.map a1n),.nilslice,sl c.oc (c.outs.map a0k),sl rl (D.fs.map Flt.enc),.islice (D.G.map u8R) (some c.nodes.length),.islice LS (some c.nodes.length),a1r a3u es]]]),some (.row 1 [[.int .i64 n]]),some (.row 1 [[.int .u8 x.kind]])] = some (.int .u8 (D.evB n i:Nat),[some (.row 1 [[.iptr [sl c.nc (c.nodes.map Nd.enc),sl c.mc (c.names.map a1n),.nilslice,sl c.oc (c.outs.map a0k),sl rl (D.fs.map Flt.enc),.islice (D.G.map u8R) (some c.nodes.length),.islice LS (some c.nodes.length),a1r a3u es]]]),some (.row 1 [[.int .i64 n]]),some (.row 1 [[.int .u8 x.kind]])]):=by
 have hn:=(List.getElem?_eq_some_iff.1 hx).1
 have hnN:n < D.nodes.length:=by rw [M.nodes];exact hn
 have hfl:=(List.getElem?_eq_some_iff.1 hf).1
 have hil:=M.il x (List.mem_of_getElem? hx)
 have hkd:=M.kd x (List.mem_of_getElem? hx)
 have hgl:=M.gl
 have hins:=M.ins hx
 have hIr:refs (a1r a3u es) = []:=rfl
 have hrd:=M.ok.reads hfl hnN
 rw [hins] at hrd
 have hev:D.evB n i = a68 x.kind ((List.range x.ins.length).map fun pin=>if D.chg n pin i then a9d (D.inG n pin) else D.inG n pin):=by
  show a68 (a0c D.nodes n) (List.map a4t _) = _
  rw [M.kind hx,hrd,b44]
  intro v hv
  rw [← hrd] at hv
  have:=M.ok.rds_bit (e1v (M.ok.val hfl)) (M.ok.B_len _) (M.ok.B_bit (M.ok.val hfl)) n _ 0 (M.ok.inn n hnN) v hv
  omega
 rw [hev]
 generalize hvf:(fun pin=>if D.chg n pin i then a9d (D.inG n pin) else D.inG n pin) = vf
 have hrr:∀ l:List Nat,(l.map u8R).flatMap a0j = []:=fun l=>a0n (a2q l)
 have hrn:∀ (π:Nat → Option Nat) (l:List Nat),(l.map u8R).map (fun r=>r.map (ren π)) = l.map u8R:=fun π l=>a0m π (a2q l)
 have hrI:∀ π,ren π (a1r a3u es) = a1r a3u es:=fun π=>a2m π _ rfl
 (refine sv Tryz.f106 ?_;simp only [Tryz.f106,gS])
 (repeat first|simp only [ww]|(apply xa;simp +decide only [go_sem,hx,hn];rfl;kernel_rfl))
 refine a0x (σ:=Nat) kp106_0 (fun t=>[(0,.int .i64 i),(1,.ptr 0 0 0),(2,.ptr 1 0 0),(3,.ptr 2 0 0),(6,grV 3 (((List.range t).map vf).map u8R)),(18,sl x.c (x.ins.map a0k)),(19,.int .i64 x.ins.length),(20,.int .i64 t)])
  (fun t=>[some (.row 1 [[.iptr [sl c.nc (c.nodes.map Nd.enc),sl c.mc (c.names.map a1n),.nilslice,sl c.oc (c.outs.map a0k),sl rl (D.fs.map Flt.enc),.islice (D.G.map u8R) (some c.nodes.length),.islice LS (some c.nodes.length),a1r a3u es]]]),some (.row 1 [[.int .i64 n]]),some (.row 1 [[.int .u8 x.kind]])] ++ grH 1 (((List.range t).map vf).map u8R)) (fun t=>x.ins.length - t) (fun t=>t ≤ x.ins.length) 0 ?_ (Nat.zero_le _) ?_
 ·have e:((List.range 0).map vf).map u8R = []:=rfl
  (simp +decide only [go_sem,a02,a00,e,a0q,a0r,hIr,hrI]<;>rfl)<;>rfl
 ·intro t ht
  have hVl:((List.range t).map vf).length = t:=by simp
  by_cases htl:t < x.ins.length
  ·obtain ⟨m,hm⟩:∃ m,x.ins[t]? = some m:=⟨_,z9e htl⟩
   have hml:=M.inl hx hm
   have hLm:=hL m (List.mem_of_getElem? hm)
   obtain ⟨g,hg⟩:∃ g,D.G[m]? = some g:=⟨_,z9e (by omega)⟩
   have hgG:m < D.G.length:=by omega
   have c1:(t:Int) < x.ins.length:=by omega
   have hw:=wI1 (n:=t) (by omega)
   have hch:=fun (d:Bool) (H:a03)=>c4c (rl:=rl) (d:=d) M H hx hm hf hLm
   have hvt:vf t = if D.chg n t i then a9d g else g:=by rw [← hvf,← M.inG hx hm hg]
   have hsn:(List.range (t + 1)).map vf = (List.range t).map vf ++ [vf t]:=by rw [List.range_succ,List.map_append];rfl
   rw [hvt] at hsn
   generalize (List.range t).map vf = V at hsn hVl
   have hrm:V.length + 1 ≤ 1000000000:=by omega
   cases hq:D.chg n t i with
   | false=>
    rw [hq,if_neg (by simp)] at hsn
    rw [hq] at hch
    cases V with
    | nil=>
     (repeat first|simp only [ww]|(apply xa;simp +decide only [go_sem,c1,htl,hm,hg,hgG,hml,hch,List.map_nil,a0q,a0r,hw];rfl;kernel_rfl))
     refine a1y (t + 1) ?_ (by omega) (by omega)
     simp only [hsn]
     (simp +decide only [go_sem,a02,a00,List.nil_append,List.map_cons,List.map_nil,a0d,a0e,u8R,List.length_nil,hIr,hrI]<;>rfl)<;>rfl
    | cons a r=>
     simp only [List.length_cons] at hrm
     (repeat first|simp only [ww]|(apply xa;simp +decide only [go_sem,c1,htl,hm,hg,hgG,hml,hch,List.map_cons,a0d,a0e,hrm,List.length_map,hw];rfl;kernel_rfl))
     refine a1y (t + 1) ?_ (by omega) (by omega)
     simp only [hsn]
     (simp +decide only [go_sem,a02,a00,List.cons_append,List.map_cons,List.map_append,List.map_nil,a0d,a0e,hrr,hrn,u8R,List.length_map,List.length_append,List.length_cons,List.length_nil,hIr,hrI]<;>rfl)<;>rfl
   | true=>
    rw [hq,if_pos rfl] at hsn
    rw [hq] at hch
    have hnt:=fun (d:Bool) (H:a03)=>c02 (d:=d) H g
    cases V with
    | nil=>
     (repeat first|simp only [ww]|(apply xa;simp +decide only [go_sem,c1,htl,hm,hg,hgG,hml,hch,hnt,List.map_nil,a0q,a0r,hw];rfl;kernel_rfl))
     refine a1y (t + 1) ?_ (by omega) (by omega)
     simp only [hsn]
     (simp +decide only [go_sem,a02,a00,List.nil_append,List.map_cons,List.map_nil,a0d,a0e,u8R,List.length_nil,hIr,hrI]<;>rfl)<;>rfl
    | cons a r=>
     simp only [List.length_cons] at hrm
     (repeat first|simp only [ww]|(apply xa;simp +decide only [go_sem,c1,htl,hm,hg,hgG,hml,hch,hnt,List.map_cons,a0d,a0e,hrm,List.length_map,hw];rfl;kernel_rfl))
     refine a1y (t + 1) ?_ (by omega) (by omega)
     simp only [hsn]
     (simp +decide only [go_sem,a02,a00,List.cons_append,List.map_cons,List.map_append,List.map_nil,a0d,a0e,hrr,hrn,u8R,List.length_map,List.length_append,List.length_cons,List.length_nil,hIr,hrI]<;>rfl)<;>rfl
  ·obtain rfl:t = x.ins.length:=by omega
   have c1:¬ (x.ins.length:Int) < x.ins.length:=by omega
   generalize (List.range x.ins.length).map vf = V at hVl
   have hfin:∀ (v:Nat) (R:a03),a1j false 3 (.int .u8 v) ([some (.row 1 [[.iptr [sl c.nc (c.nodes.map Nd.enc),sl c.mc (c.names.map a1n),.nilslice,sl c.oc (c.outs.map a0k),sl rl (D.fs.map Flt.enc),.islice (D.G.map u8R) (some c.nodes.length),.islice LS (some c.nodes.length),a1r a3u es]]]),some (.row 1 [[.int .i64 n]]),some (.row 1 [[.int .u8 x.kind]])] ++ R) = some (.int .u8 v,[some (.row 1 [[.iptr [sl c.nc (c.nodes.map Nd.enc),sl c.mc (c.names.map a1n),.nilslice,sl c.oc (c.outs.map a0k),sl rl (D.fs.map Flt.enc),.islice (D.G.map u8R) (some c.nodes.length),.islice LS (some c.nodes.length),a1r a3u es]]]),some (.row 1 [[.int .i64 n]]),some (.row 1 [[.int .u8 x.kind]])]):=fun v R=>by
    simp +decide only [go_sem,a1j,hIr,hrI]<;>rfl
   cases V with
   | nil=>
    have hcv:=fun (d:Bool) (H:a03)=>d8c M (d:=d) (H:=H) (k:=x.kind) (by omega)
    (repeat first|simp only [ww]|(apply xa;simp +decide only [go_sem,c1,hcv,List.map_nil,a0q,a0r];rfl;kernel_rfl))
    refine a9b (vs:=[.int .u8 _]) (by simp +decide only [go_sem]<;>rfl) (hfin _ [])
   | cons a r=>
    have hcv:=fun (d:Bool) (a0 a1 a2:Option AObj)=>d3f M (d:=d) (H:=[a0,a1,a2,some (.row 1 ((a :: r).map u8R))]) (b:=3) (k:=x.kind) (l:=a :: r) (by omega) (by omega) rfl
    simp only [List.map_cons,List.length_cons,u8R] at hcv
    (repeat first|simp only [ww]|(apply xa;simp +decide only [go_sem,c1,hcv,List.map_cons,a0d,a0e,List.length_map];rfl;kernel_rfl))
    refine a9b (vs:=[.int .u8 _]) (by simp +decide only [go_sem]<;>rfl) (hfin _ [_])
end
section
variable {c:Cir} {D:Ded} {es:List ((Nat × Int) × List Nat)} (M:Mach c D es) {rl:Rep} {LS:List (List AV)}
include M
theorem d1a {d:Bool} (X:Option AObj) (R:a03) {n i:Nat} {x:Nd} {f:Flt} (hx:c.nodes[n]? = some x) (hf:D.fs[i]? = some f) (hk:D.comb n = true) (hL:∀ m ∈ x.ins,LS[m]? = some [.iset (D.dset m)]) :
 a0g L.env d (sem L.env Mf) (.func (.func 106) [] [.ptr 0 0 0,.ptr 1 0 0,.ptr 3 0 0]) [.int .i64 i] (some (.row 1 [[.iptr [sl c.nc (c.nodes.map Nd.enc),sl c.mc (c.names.map a1n),.nilslice,sl c.oc (c.outs.map a0k),sl rl (D.fs.map Flt.enc),.islice (D.G.map u8R) (some c.nodes.length),.islice LS (some c.nodes.length),a1r a3u es]]]) :: some (.row 1 [[.int .i64 n]]) :: X :: some (.row 1 [[.int .u8 x.kind]]) :: R) = some (.int .u8 (D.evB n i:Nat),some (.row 1 [[.iptr [sl c.nc (c.nodes.map Nd.enc),sl c.mc (c.names.map a1n),.nilslice,sl c.oc (c.outs.map a0k),sl rl (D.fs.map Flt.enc),.islice (D.G.map u8R) (some c.nodes.length),.islice LS (some c.nodes.length),a1r a3u es]]]) :: some (.row 1 [[.int .i64 n]]) :: X :: some (.row 1 [[.int .u8 x.kind]]) :: R,[0,1,3]):=
 b6y [0,1,3] (by kernel_rfl) (by kernel_rfl) rfl (by simp +decide only [go_sem]) rfl (by simp) (by
  intro b hb
  simp only [List.mem_cons,List.not_mem_nil,or_false] at hb
  rcases hb with rfl|rfl|rfl<;>exact FlatO.row (FlatR.cons rfl FlatR.nil)) rfl rfl (e0o M hx hf hk hL) rfl
theorem d7i {n:Nat} {x:Nd} (hx:c.nodes[n]? = some x) (hL:D.comb n = true → ∀ m ∈ x.ins,LS[m]? = some [.iset (D.dset m)]) :
 ∃ r:AV × a03,r = (.map 2,[some (.row 1 [[.iptr [sl c.nc (c.nodes.map Nd.enc),sl c.mc (c.names.map a1n),.nilslice,sl c.oc (c.outs.map a0k),sl rl (D.fs.map Flt.enc),.islice (D.G.map u8R) (some c.nodes.length),.islice LS (some c.nodes.length),a1r a3u es]]]),some (.row 1 [[.int .i64 n]]),some (.uset (D.dset n))]) ∧ sem L.env Mf 68 [.iptr [sl c.nc (c.nodes.map Nd.enc),sl c.mc (c.names.map a1n),.nilslice,sl c.oc (c.outs.map a0k),sl rl (D.fs.map Flt.enc),.islice (D.G.map u8R) (some c.nodes.length),.islice LS (some c.nodes.length),a1r a3u es],.int .i64 n] [] = some r:=by
 have hn:=(List.getElem?_eq_some_iff.1 hx).1
 have hnN:n < D.nodes.length:=by rw [M.nodes];exact hn
 have hgl:=M.gl
 have hkd:=M.kind hx
 have hIr:refs (a1r a3u es) = []:=rfl
 have hrI:∀ π,ren π (a1r a3u es) = a1r a3u es:=fun π=>a2m π _ rfl
 obtain ⟨g,hg⟩:∃ g,D.G[n]? = some g:=⟨_,z9e (by omega)⟩
 have hgG:n < D.G.length:=by omega
 have hgg:D.G.getD n 0 = g:=by rw [List.getD_eq_getElem?_getD,hg];rfl
 obtain ⟨dd,hd,hz1⟩:=e55
 obtain ⟨rr,hlk⟩:=keyL.ilook e50 hd hz1 es (n,(-1:Int))
 have hlk:∀ h,a30 L.env h 93 (a1r a3u es) (.agg [.int .i64 n,.int .i64 (-1)]) false = some (sl rr ((atE (n,(-1:Int)) es).map a0k)):=hlk
 have hlt:=fun i=>M.at_lt (n:=n) (pin:=(-1:Int)) (i:=i)
 have hll:=M.at_len (n:=n) (pin:=(-1:Int))
 have hat:=fun i=>M.at_mem (n:=n) (pin:=(-1:Int)) (i:=i)
 generalize atE (n,(-1:Int)) es = l at hlk hlt hll hat
 -- what is left behind the node's own lines
 let q (t i:Nat):Bool:=bif (l.take t).contains i then decide ((D.ft i).value ≠ g) else D.out1 n i
 obtain ⟨O,hO⟩:∃ O,a1a D.fs.length (D.out1 n) = O:=⟨_,rfl⟩
 have hq0:(a1a D.fs.length fun i=>q 0 i) = O:=by rw [← hO];exact a0v fun i _=>by simp [q]
 have hqe:(a1a D.fs.length fun i=>q l.length i) = D.dset n:=by
  rw [M.ok.list hnN]
  refine a0v fun i hi=>?_
  show (bif (l.take l.length).contains i then _ else _) = _
  rw [List.take_length,hat,decide_eq_true hi,Bool.true_and,hgg]
 have hqs:∀ (t v:Nat),l[t]? = some v → v < D.fs.length → (bif decide ((D.ft v).value ≠ g) then a1a D.fs.length fun i=>(q t i && !decide (i = v)) || decide (i = v) else a1a D.fs.length fun i=>q t i && !decide (i = v)) = a1a D.fs.length fun i=>q (t + 1) i:=by
  intro t v hv hvl
  have e:∀ i,q (t + 1) i = if i = v then decide ((D.ft v).value ≠ g) else q t i:=by
   intro i
   show (bif (l.take (t + 1)).contains i then _ else _) = _
   rw [b78 hv]
   by_cases hiv:i = v
   ·subst hiv;simp
   ·rw [decide_eq_false hiv,Bool.or_false,if_neg hiv]
  cases hb:decide ((D.ft v).value ≠ g) with
  | true=>
   refine a0v fun i hi=>?_
   rw [e]
   by_cases hiv:i = v
   ·subst hiv;simp [hb]
   ·simp [hiv]
  | false=>
   refine a0v fun i hi=>?_
   rw [e]
   by_cases hiv:i = v
   ·subst hiv;simp [hb]
   ·simp [hiv]
 have hkx:∀ b,D.comb n = b → (decide (x.kind ≠ 0) && decide (x.kind ≠ 14)) = b:=by intro b hb;rw [← hb];unfold Ded.comb;rw [hkd]
 have hfin:∀ (H:a03),H = [some (.row 1 [[.iptr [sl c.nc (c.nodes.map Nd.enc),sl c.mc (c.names.map a1n),.nilslice,sl c.oc (c.outs.map a0k),sl rl (D.fs.map Flt.enc),.islice (D.G.map u8R) (some c.nodes.length),.islice LS (some c.nodes.length),a1r a3u es]]]),some (.row 1 [[.int .i64 n]]),some (.uset (D.dset n))] → ((AV.map 2,H):AV × a03) = (.map 2,[some (.row 1 [[.iptr [sl c.nc (c.nodes.map Nd.enc),sl c.mc (c.names.map a1n),.nilslice,sl c.oc (c.outs.map a0k),sl rl (D.fs.map Flt.enc),.islice (D.G.map u8R) (some c.nodes.length),.islice LS (some c.nodes.length),a1r a3u es]]]),some (.row 1 [[.int .i64 n]]),some (.uset (D.dset n))]):=fun H h=>by rw [h]
 have hO0:D.comb n = false → O = []:=by
  intro hc
  rw [← hO]
  unfold a1a
  rw [List.map_eq_nil_iff,List.filter_eq_nil_iff]
  intro i _;unfold Ded.out1;rw [hc];simp
 rcases (by omega:x.kind = 0 ∨ x.kind = 14 ∨ (x.kind ≠ 0 ∧ x.kind ≠ 14)) with h0|h0|h0
 case' inl=>(
  have hc:D.comb n = false:=by unfold Ded.comb;rw [hkd,h0];rfl
  have hO1:=hO0 hc
  have d0:(x.kind:Int) = 0:=by omega
  subst hO1
  (refine svE Tryz.f68 ?_;simp only [Tryz.f68,gS])
  (repeat first|simp only [ww]|(apply xa;simp +decide only [go_sem,hx,hn,d0,hlk];rfl;kernel_rfl)))
 case' inr.inl=>(
  have hc:D.comb n = false:=by unfold Ded.comb;rw [hkd,h0];rfl
  have hO1:=hO0 hc
  have d0:¬ (x.kind:Int) = 0:=by omega
  have d14:(x.kind:Int) = 14:=by omega
  subst hO1
  (refine svE Tryz.f68 ?_;simp only [Tryz.f68,gS])
  (repeat first|simp only [ww]|(apply xa;simp +decide only [go_sem,hx,hn,d0,d14,hlk];rfl;kernel_rfl)))
 case' inr.inr=>(
  have hc:D.comb n = true:=by unfold Ded.comb;rw [hkd];simp [h0.1,h0.2]
  have hL:=hL hc
  have d0:¬ (x.kind:Int) = 0:=by omega
  have d14:¬ (x.kind:Int) = 14:=by omega
  have hsm:=fun (d:Bool) (H:a03)=>b9e (rl:=rl) (d:=d) M H hx hL
  have ho:∀ i,i < D.fs.length → (D.sm n i && decide (D.evB n i ≠ g)) = D.out1 n i:=by
   intro i hi;unfold Ded.out1;rw [hc,hgg,Bool.true_and]
  (refine svE Tryz.f68 ?_;simp only [Tryz.f68,gS])
  (repeat first|simp only [ww]|(apply xa;simp +decide only [go_sem,hx,hn,d0,d14,hsm];rfl;kernel_rfl))
  refine c6q kp68_0 (a1a D.fs.length (D.sm n)) (fun V=>[(2,.ptr 0 0 0),(3,.ptr 1 0 0),(5,.map 2),(7,.func (.func 106) [] [.ptr 0 0 0,.ptr 1 0 0,.ptr 3 0 0]),(31,.ptr 4 0 0)])
   (fun V=>[some (.row 1 [[.iptr [sl c.nc (c.nodes.map Nd.enc),sl c.mc (c.names.map a1n),.nilslice,sl c.oc (c.outs.map a0k),sl rl (D.fs.map Flt.enc),.islice (D.G.map u8R) (some c.nodes.length),.islice LS (some c.nodes.length),a1r a3u es]]]),some (.row 1 [[.int .i64 n]]),some (.uset (a1a D.fs.length fun k=>met V k && decide (D.evB n k ≠ g))),some (.row 1 [[.int .u8 x.kind]]),some (.miter (a1a D.fs.length (D.sm n)) V none)]) 4 (.exit 0)
   [(33,.bool false),(32,.tuple [.bool false]),(2,.ptr 0 0 0),(3,.ptr 1 0 0),(5,.map 2),(7,.func (.func 106) [] [.ptr 0 0 0,.ptr 1 0 0,.ptr 3 0 0]),(31,.ptr 4 0 0)] [some (.row 1 [[.iptr [sl c.nc (c.nodes.map Nd.enc),sl c.mc (c.names.map a1n),.nilslice,sl c.oc (c.outs.map a0k),sl rl (D.fs.map Flt.enc),.islice (D.G.map u8R) (some c.nodes.length),.islice LS (some c.nodes.length),a1r a3u es]]]),some (.row 1 [[.int .i64 n]]),some (.uset O),some (.row 1 [[.int .u8 x.kind]]),none] (b1l _ _) ?a0 ?a1 ?a2 ?a3 ?a4
  case a0=>
   have e:(a1a D.fs.length fun k=>met [] k && decide (D.evB n k ≠ g)) = []:=by
    unfold a1a;rw [List.map_eq_nil_iff,List.filter_eq_nil_iff];intro i _;simp [c26]
   (simp +decide only [go_sem,a02,a00,e,hIr,hrI]<;>rfl)<;>rfl
  case a1=>intro V _ _;exact ⟨rfl,none,rfl⟩
  case a2=>
   intro V i h1 h2 h3 h4
   obtain ⟨j,rfl,hj,_⟩:=a7n.1 h3
   obtain ⟨f,hf⟩:∃ f,D.fs[j]? = some f:=⟨_,z9e hj⟩
   have hvc:=fun (d:Bool) (X:Option AObj) (R:a03)=>d1a (rl:=rl) (d:=d) M X R hx hf hc hL
   by_cases hv:D.evB n j = g
   ·have d1:(D.evB n j:Int) = g:=by omega
    have e2:(a1a D.fs.length fun k=>met V k && decide (D.evB n k ≠ g)) = a1a D.fs.length fun k=>met (V ++ [(j:Int)]) k && decide (D.evB n k ≠ g):=a0v fun k _=>by
     rw [b0c]
     by_cases hk:k = j
     ·subst hk;simp [hv]
     ·simp [hk]
    refine xq (by simp +decide only [go_sem]<;>rfl) ?_
    rw [e2]
    (repeat first|simp only [ww]|(apply xa;simp +decide only [go_sem,hvc,hn,hg,hgG,d1];rfl;kernel_rfl))
    show gcD _ _ _ _ = _
    (simp +decide only [go_sem,a02,a00,hIr,hrI]<;>rfl)<;>rfl
   ·have d1:¬ (D.evB n j:Int) = g:=by omega
    have e1:=b4i (q:=fun k=>met V k && decide (D.evB n k ≠ g)) hj
    have e2:(a1a D.fs.length fun k=>met V k && decide (D.evB n k ≠ g) || decide (k = j)) = a1a D.fs.length fun k=>met (V ++ [(j:Int)]) k && decide (D.evB n k ≠ g):=a0v fun k _=>by
     rw [b0c]
     by_cases hk:k = j
     ·subst hk;simp [hv]
     ·simp [hk]
    rw [e2] at e1
    refine xq (by simp +decide only [go_sem]<;>rfl) ?_
    (repeat first|simp only [ww]|(apply xa;simp +decide only [go_sem,hvc,hn,hg,hgG,d1,e1];rfl;kernel_rfl))
    show gcD _ _ _ _ = _
    (simp +decide only [go_sem,a02,a00,hIr,hrI]<;>rfl)<;>rfl
  case a3=>
   intro V hV
   have e:(a1a D.fs.length fun k=>met V k && decide (D.evB n k ≠ g)) = O:=by
    rw [← hO]
    exact a0v fun k hk=>by rw [b7z hV hk,ho k hk]
   refine xq (by simp +decide only [go_sem]<;>rfl) ?_
   rw [e]
   (repeat first|simp only [ww]|(apply xa;simp +decide only [go_sem];rfl;kernel_rfl))
   exact ⟨rfl,rfl,rfl⟩
  (repeat first|simp only [ww]|(apply xa;simp +decide only [go_sem,hlk];rfl;kernel_rfl)))
 all_goals (
  refine a0x (σ:=Nat) kp68_2 (fun t=>[(2,.ptr 0 0 0),(3,.ptr 1 0 0),(5,.map 2),(55,sl rr (l.map a0k)),(56,.int .i64 l.length),(57,.int .i64 t)])
   (fun t=>[some (.row 1 [[.iptr [sl c.nc (c.nodes.map Nd.enc),sl c.mc (c.names.map a1n),.nilslice,sl c.oc (c.outs.map a0k),sl rl (D.fs.map Flt.enc),.islice (D.G.map u8R) (some c.nodes.length),.islice LS (some c.nodes.length),a1r a3u es]]]),some (.row 1 [[.int .i64 n]]),some (.uset (a1a D.fs.length fun i=>q t i))]) (fun t=>l.length - t) (fun t=>t ≤ l.length) 0 ?_ (Nat.zero_le _) ?_
  ·simp only [hq0]
   (simp +decide only [go_sem,a02,a00,hIr,hrI]<;>rfl)<;>rfl
  ·intro t ht
   by_cases htl:t < l.length
   ·obtain ⟨v,hv⟩:∃ v,l[t]? = some v:=⟨_,z9e htl⟩
    have hvl:=hlt v (List.mem_of_getElem? hv)
    obtain ⟨f,hf⟩:∃ f,D.fs[v]? = some f:=⟨_,z9e hvl⟩
    have c1:(t:Int) < l.length:=by omega
    have hw:=wI1 (n:=t) (by omega)
    have e1:=d8d (m:=D.fs.length) (j:=v) (q:=fun i=>q t i)
    have hs:=hqs t v hv hvl
    rw [M.ft hf] at hs
    by_cases hfv:f.value = g
    ·have d1:(f.value:Int) = g:=by omega
     rw [show decide (f.value ≠ g) = false from by simp [hfv]] at hs
     simp only [cond_false] at hs
     rw [hs] at e1
     (repeat first|simp only [ww]|(apply xa;simp +decide only [go_sem,c1,htl,hv,hf,hvl,e1,d1,hn,hg,hgG,Flt.enc,hw];rfl;kernel_rfl))
     refine a1y (t + 1) ?_ (by omega) (by omega)
     (simp +decide only [go_sem,a02,a00,hIr,hrI]<;>rfl)<;>rfl
    ·have d1:¬ (f.value:Int) = g:=by omega
     rw [show decide (f.value ≠ g) = true from by simp [hfv]] at hs
     simp only [cond_true] at hs
     have e2:=b4i (q:=fun i=>q t i && !decide (i = v)) hvl
     rw [hs] at e2
     (repeat first|simp only [ww]|(apply xa;simp +decide only [go_sem,c1,htl,hv,hf,hvl,e1,e2,d1,hn,hg,hgG,Flt.enc,hw];rfl;kernel_rfl))
     refine a1y (t + 1) ?_ (by omega) (by omega)
     (simp +decide only [go_sem,a02,a00,hIr,hrI]<;>rfl)<;>rfl
   ·obtain rfl:t = l.length:=by omega
    have c1:¬ (l.length:Int) < l.length:=by omega
    rw [hqe]
    (repeat first|simp only [ww]|(apply xa;simp +decide only [go_sem,c1];rfl;kernel_rfl))
    refine a77 (vs:=[.map 2]) (r:=(.map 2,_)) (by simp +decide only [go_sem]<;>rfl) rfl (hfin _ ?_)
    rfl)
theorem c8e {d:Bool} {H:a03} {V:AV} {n:Nat} {x:Nd} (hx:c.nodes[n]? = some x) (hL:D.comb n = true → ∀ m ∈ x.ins,LS[m]? = some [.iset (D.dset m)]) (hV:a3f 0 false (a5c (a01 H) 0 12) V = some (.iptr [sl c.nc (c.nodes.map Nd.enc),sl c.mc (c.names.map a1n),.nilslice,sl c.oc (c.outs.map a0k),sl rl (D.fs.map Flt.enc),.islice (D.G.map u8R) (some c.nodes.length),.islice LS (some c.nodes.length),a1r a3u es])) :
 a0g L.env d (sem L.env Mf) (.func (.func 68) [] []) [V,.int .i64 n] H = some (.iset (D.dset n),H,List.range H.length):=by
 obtain ⟨r,rfl,hr⟩:=d7i (rl:=rl) M hx hL
 refine b1w (args:=[V,.int .i64 n]) (args':=[.iptr [sl c.nc (c.nodes.map Nd.enc),sl c.mc (c.names.map a1n),.nilslice,sl c.oc (c.outs.map a0k),sl rl (D.fs.map Flt.enc),.islice (D.G.map u8R) (some c.nodes.length),.islice LS (some c.nodes.length),a1r a3u es],.int .i64 n]) (by kernel_rfl) (by kernel_rfl) rfl ?_ hr rfl ?_
 ·rw [a74,hV];rfl
 ·have hc:a6l [some (.row 1 [[.iptr [sl c.nc (c.nodes.map Nd.enc),sl c.mc (c.names.map a1n),.nilslice,sl c.oc (c.outs.map a0k),sl rl (D.fs.map Flt.enc),.islice (D.G.map u8R) (some c.nodes.length),.islice LS (some c.nodes.length),a1r a3u es]]]),some (.row 1 [[.int .i64 n]]),some (.uset (D.dset n))] 2 = some (.uset (D.dset n)):=rfl
  show (a5c (a6l [some (.row 1 [[.iptr [sl c.nc (c.nodes.map Nd.enc),sl c.mc (c.names.map a1n),.nilslice,sl c.oc (c.outs.map a0k),sl rl (D.fs.map Flt.enc),.islice (D.G.map u8R) (some c.nodes.length),.islice LS (some c.nodes.length),a1r a3u es]]]),some (.row 1 [[.int .i64 n]]),some (.uset (D.dset n))]) 0 12 (.map 2)) = _
  exact c0j (by omega) hc
end
end Go.TInst
