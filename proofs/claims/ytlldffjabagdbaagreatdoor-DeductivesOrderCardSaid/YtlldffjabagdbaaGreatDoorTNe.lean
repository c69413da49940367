/- Part of a proof. No condition. -/
import Derived.Test.YtlldffjabagdbaaGreatDoorTWo
import Derived.Test.YtlldffjabagdbaaGreatDoorTGa
import Derived.Test.YtlldffjabagdbaaGreatDoorPcB
import Derived.Test.YtlldffjabagdbaaGreatDoorAxE
set_option linter.unusedSimpArgs false
set_option linter.unusedVariables false
namespace Go.TInst
open Go.Proofs Go.Ax Go.Pc
set_option maxRecDepth 100000
theorem d8i (k:Nat) (hk:k < 256):sem L.env Mf 24 [.int .u8 k] [] = some (.bool (a1d k),[]):=by
 by_cases h1:1 ≤ k
 ·have c1:(1:Int) ≤ k:=by omega
  by_cases h2:k ≤ 13
  ·have c2:(k:Int) ≤ 13:=by omega
   rw [show a1d k = true by simp [a1d,h1,h2]]
   (refine sv Tryz.f24 ?_;simp only [Tryz.f24,gS])
   (repeat first|simp only [ww]|(apply xa;simp +decide only [go_sem,c1,c2];rfl;kernel_rfl))
   (apply fqb;simp +decide only [go_sem]<;>rfl)
  ·have c2:¬ (k:Int) ≤ 13:=by omega
   rw [show a1d k = false by simp [a1d,h2]]
   (refine sv Tryz.f24 ?_;simp only [Tryz.f24,gS])
   (repeat first|simp only [ww]|(apply xa;simp +decide only [go_sem,c1,c2];rfl;kernel_rfl))
   (apply fqb;simp +decide only [go_sem]<;>rfl)
 ·have c1:¬ (1:Int) ≤ k:=by omega
  rw [show a1d k = false by simp [a1d,h1]]
  (refine sv Tryz.f24 ?_;simp only [Tryz.f24,gS])
  (repeat first|simp only [ww]|(apply xa;simp +decide only [go_sem,c1];rfl;kernel_rfl))
  (apply fqb;simp +decide only [go_sem]<;>rfl)
theorem d7q (k v:Nat):sem L.env Mf 139 [.slice 0 0 1 (some 1),.int .u8 v] [some (.row 1 [[.int .u8 k]])] = some (.int .i64 (if v = k then 0 else -1),[some (.row 1 [[.int .u8 k]])]):=by
 (refine sv Tryz.f139 ?_;simp only [Tryz.f139,gS])
 (repeat first|simp only [ww]|(apply xa;simp +decide only [go_sem];rfl;kernel_rfl))
 refine a0x (σ:=Nat) kp139_0 (fun i=>[(0,.slice 0 0 1 (some 1)),(1,.int .u8 v),(7,.int .i64 1),(8,.int .i64 i)])
  (fun _=>[some (.row 1 [[.int .u8 k]])]) (fun i=>1 - i) (fun i=>i ≤ 1 ∧ (i = 1 → v ≠ k)) 0 ?_ (by simp) ?_
 ·(simp +decide only [go_sem,a02,a00]<;>rfl)
 ·rintro i ⟨hi,hne⟩
  have hh:i = 0 ∨ i = 1:=by omega
  rcases hh with rfl|rfl
  ·by_cases h:v = k
   ·subst h
    (repeat first|simp only [ww]|(apply xa;simp +decide only [go_sem,if_pos];rfl;kernel_rfl))
    (apply fqb;simp +decide only [go_sem,if_pos]<;>rfl)
   ·have c:¬ (v:Int) = k:=by omega
    (repeat first|simp only [ww]|(apply xa;simp +decide only [go_sem,c];rfl;kernel_rfl))
    refine a1y 1 ?_ (by omega) (by simp [h])
    (simp +decide only [go_sem,a02,a00]<;>rfl)
  ·have h:=hne rfl
   have c:¬ (v:Int) = k:=by omega
   rw [if_neg h]
   (repeat first|simp only [ww]|(apply xa;simp +decide only [go_sem,c];rfl;kernel_rfl))
   (apply fqb;simp +decide only [go_sem]<;>rfl)
theorem d3n (k v:Nat):sem L.env Mf 97 [.slice 0 0 1 (some 1),.int .u8 v] [some (.row 1 [[.int .u8 k]])] = some (.bool (decide (v = k)),[some (.row 1 [[.int .u8 k]])]):=by
 have hc:a0g L.env false (sem L.env Mf) (.func (.func 139) [] []) [.slice 0 0 1 (some 1),.int .u8 v] [some (.row 1 [[.int .u8 k]])] = some (.int .i64 (if v = k then 0 else -1),[some (.row 1 [[.int .u8 k]])],[0]):=
  a2b (by kernel_rfl) (by kernel_rfl) rfl rfl rfl (FlatO.row (FlatR.cons rfl FlatR.nil)) rfl rfl (d7q k v) rfl
 by_cases h:v = k
 ·rw [if_pos h] at hc
  (refine sv Tryz.f97 ?_;simp only [Tryz.f97,gS])
  (repeat first|simp only [ww]|(apply xa;simp +decide only [go_sem,hc];rfl;kernel_rfl))
  (apply fqb;simp +decide only [go_sem,h]<;>rfl)
 ·rw [if_neg h] at hc
  (refine sv Tryz.f97 ?_;simp only [Tryz.f97,gS])
  (repeat first|simp only [ww]|(apply xa;simp +decide only [go_sem,hc];rfl;kernel_rfl))
  (apply fqb;simp +decide only [go_sem,h]<;>rfl)
theorem c63 {d:Bool} (k v:Nat) (X:a03):a0g L.env d (sem L.env Mf) (.func (.func 97) [] []) [.slice 0 0 1 (some 1),.int .u8 v] (some (.row 1 [[.int .u8 k]]) :: X) = some (.bool (decide (v = k)),some (.row 1 [[.int .u8 k]]) :: X,[0]):=
 a2b (by kernel_rfl) (by kernel_rfl) rfl rfl rfl (FlatO.row (FlatR.cons rfl FlatR.nil)) rfl rfl (d3n k v) rfl
def a3k (nodes:List Nd) (k i:Nat):List Nat:=(List.range i).filter fun j=>decide (a0c nodes j = k)
theorem a9s (nodes:List Nd) (k i:Nat):a3k nodes k (i + 1) = if a0c nodes i = k then a3k nodes k i ++ [i] else a3k nodes k i:=by
 unfold a3k
 rw [List.range_succ,List.filter_append]
 by_cases h:a0c nodes i = k<;>simp [h]
theorem b0e (nodes:List Nd) (k i:Nat):(a3k nodes k i).length ≤ i:=Nat.le_trans (List.length_filter_le _ _) (by simp)
def kinds (nodes:List Nd) (k:Nat):List Nat:=a3k nodes k nodes.length
def d11 (l:List Nat):AV:=sl (match l with|[]=>none|a :: r=>some (some (r.length + 1))) (l.map a0k)
theorem c3t:d11 [] = .nilslice:=by rfl
theorem c8x (a:Nat) (r:List Nat):d11 (a :: r) = .islice ((a :: r).map a0k) (some (r.length + 1)):=by rfl
theorem a18 {nodes:List Nd} {i:Nat} {x:Nd} (h:nodes[i]? = some x):a0c nodes i = x.kind:=by simp [a0c,h]
theorem a1o (l:List Nat):(l.map a0k).flatMap a0j = []:=a0n (FlatR.map fun _=>rfl)
theorem a2w (π:Nat → Option Nat) (l:List Nat):(l.map a0k).map (fun r=>r.map (ren π)) = l.map a0k:=a0m π (FlatR.map fun _=>rfl)
theorem d3a (l:List Nat):FlatR (l.map a0k):=FlatR.map fun _=>rfl
theorem d80 {m:Nat} {d:AV → Option AV} (l:List Nat):a9a m d (l.map a0k) = some (l.map a0k):=a1g m d (FlatR.map fun _=>rfl)
theorem c4a:sem L.env Mf 69 [.nilslice] [] = some (.nilslice,[]):=by
 (refine sv Tryz.f69 ?_;simp only [Tryz.f69,gS])
 (repeat first|simp only [ww]|(apply xa;simp +decide only [go_sem];rfl;kernel_rfl))
 (apply fqb;simp +decide only [go_sem]<;>rfl)
theorem d8j (n:Nat) (rows:List (List AV)) (hf:FlatR rows):sem L.env Mf 69 [.slice 0 0 n none] [some (.row 1 rows)] = some (.slice 0 0 n (some n),[some (.row 1 rows)]):=by
 have h1:=fun π=>a0m π hf
 (refine sv Tryz.f69 ?_;simp only [Tryz.f69,gS])
 (repeat first|simp only [ww]|(apply xa;simp +decide only [go_sem];rfl;kernel_rfl))
 (apply fqb;simp +decide only [go_sem,h1]<;>rfl)
theorem d00 {d:Bool} {H:a03} {b n:Nat} {rows:List (List AV)} (hf:FlatR rows) (hb:a01 H b = some (.row 1 rows)):a0g L.env d (sem L.env Mf) (.func (.func 69) [] []) [.slice b 0 n none] H = some (.slice b 0 n (some n),H,[b]):=by
 have h:=a4u (E:=L.env) (draw:=d) (call:=sem L.env Mf) (g:=69) (fs:=[]) (cs:=[]) (ar:=[.slice b 0 n none]) (H:=H) (b:=b) (by kernel_rfl) (by kernel_rfl) rfl hb (a0s hf) (FlatO.row hf) rfl (args':=[AV.slice 0 0 n none]) (by simp only [List.nil_append,List.append_nil,List.map_cons,List.map_nil,a20]) (d8j n rows hf) (FlatO.row hf) (a9y b 0 _ n _)
 rw [a8y hb] at h
 exact h
theorem e1j (c:Cir) (k:Nat) (hl:c.nodes.length < 1000000):sem L.env Mf 52 [.agg c.enc,.slice 0 0 1 (some 1)] [some (.row 1 [[.int .u8 k]])] = some (d11 (kinds c.nodes k),[some (.row 1 [[.int .u8 k]])]):=by
 have hck:=fun v X=>c63 (d:=false) k v X
 (refine sv Tryz.f52 ?_;simp only [Tryz.f52,gS])
 (repeat first|simp only [ww]|(apply xa;simp +decide only [go_sem,Cir.enc];rfl;kernel_rfl))
 refine a0x (σ:=Nat) kp52_0 (fun i=>[(1,.slice 0 0 1 (some 1)),(5,grV 1 ((a3k c.nodes k i).map a0k)),(9,sl c.nc (c.nodes.map Nd.enc)),(10,.int .i64 c.nodes.length),(11,.int .i64 i)])
  (fun i=>some (.row 1 [[.int .u8 k]]) :: grH 1 ((a3k c.nodes k i).map a0k)) (fun i=>c.nodes.length - i) (fun i=>i ≤ c.nodes.length) 0 ?_ (Nat.zero_le _) ?_
 ·have e:a3k c.nodes k 0 = []:=rfl
  (simp +decide only [go_sem,a02,a00,e,List.map_nil,a0q,a0r]<;>rfl)
 ·intro i hi
  by_cases hlt:i < c.nodes.length
  ·obtain ⟨x,hx⟩:∃ x,c.nodes[i]? = some x:=⟨_,z9e hlt⟩
   have c1:(i:Int) < c.nodes.length:=by omega
   have hw:=wI1 (n:=i) (by omega)
   have hs:=a9s c.nodes k i
   rw [a18 hx] at hs
   have hle:=b0e c.nodes k i
   have hrm:(a3k c.nodes k i).length + 1 ≤ 1000000000:=by omega
   by_cases hk:x.kind = k
   ·rw [if_pos hk] at hs
    generalize a3k c.nodes k i = l at hs hle hrm
    cases l with
    | nil=>
     (repeat first|simp only [ww]|(apply xa;simp +decide only [go_sem,c1,hlt,hx,hw,hck,hk,List.map_nil,a0q,a0r];rfl;kernel_rfl))
     refine a1y (i + 1) ?_ (by omega) (by omega)
     rw [hs]
     (simp +decide only [go_sem,a02,a00,List.map_nil,List.nil_append,List.map_cons,a0d,a0e,List.length_nil]<;>rfl)
    | cons a r=>
     simp only [List.length_cons] at hrm
     (repeat first|simp only [ww]|(apply xa;simp +decide only [go_sem,c1,hlt,hx,hw,hck,hk,List.map_cons,a0d,a0e,hrm,List.length_cons];rfl;kernel_rfl))
     refine a1y (i + 1) ?_ (by omega) (by omega)
     rw [hs]
     (simp +decide only [go_sem,a02,a00,List.cons_append,List.map_cons,a0d,a0e,a1o,a2w,List.length_cons]<;>rfl)
   ·rw [if_neg hk] at hs
    have hk':¬ (x.kind:Int) = k:=by omega
    generalize a3k c.nodes k i = l at hs hle hrm
    cases l with
    | nil=>
     (repeat first|simp only [ww]|(apply xa;simp +decide only [go_sem,c1,hlt,hx,hw,hck,hk,List.map_nil,a0q,a0r];rfl;kernel_rfl))
     refine a1y (i + 1) ?_ (by omega) (by omega)
     rw [hs]
     (simp +decide only [go_sem,a02,a00,List.map_nil,a0q,a0r]<;>rfl)
    | cons a r=>
     (repeat first|simp only [ww]|(apply xa;simp +decide only [go_sem,c1,hlt,hx,hw,hck,hk,List.map_cons,a0d,a0e];rfl;kernel_rfl))
     refine a1y (i + 1) ?_ (by omega) (by omega)
     rw [hs]
     (simp +decide only [go_sem,a02,a00,List.map_cons,a0d,a0e,a1o,a2w]<;>rfl)
  ·obtain rfl:i = c.nodes.length:=by omega
   have c1:¬ (c.nodes.length:Int) < c.nodes.length:=by omega
   unfold kinds
   generalize a3k c.nodes k c.nodes.length = l
   cases l with
   | nil=>
    have hcl:=fun H=>a04 (E:=L.env) (draw:=false) (call:=sem L.env Mf) (g:=69) (fs:=[]) (cs:=[]) (ar:=[.nilslice]) (H:=H) (by kernel_rfl) (by kernel_rfl) rfl rfl c4a rfl
    (repeat first|simp only [ww]|(apply xa;simp +decide only [go_sem,c1,List.map_nil,a0q,a0r,hcl];rfl;kernel_rfl))
    (apply fqb;simp +decide only [go_sem,c3t]<;>rfl)
   | cons a r=>
    have hcl:=d00 (d:=false) (H:=[some (.row 1 [[.int .u8 k]]),some (.row 1 ((a :: r).map a0k))]) (b:=1) (n:=r.length + 1) (d3a _) rfl
    simp only [List.map_cons,go_sem] at hcl
    (repeat first|simp only [ww]|(apply xa;simp +decide only [go_sem,c1,List.map_cons,a0d,a0e,List.length_map,hcl];rfl;kernel_rfl))
    (apply fqb;simp +decide only [go_sem,c8x,List.map_cons,d80,List.length_cons]<;>rfl)
theorem c7e (π:Nat → Option Nat) (c:Cir):ren π (.agg c.enc) = .agg c.enc:=a2m π _ (by simp only [a1e,Cir.enc,go_sem])
theorem b3n (l:List Nat):refs (d11 l) = []:=a6o _ _
theorem b7v {d:Bool} {H:a03} {b:Nat} (c:Cir) {k:Nat} {n:Int} (hn:n = k) (hl:c.nodes.length < 1000000) (hb:a01 H b = some (.row 1 [[.int .u8 n]])) :
 a0g L.env d (sem L.env Mf) (.func (.func 52) [] []) [.agg c.enc,.slice b 0 1 (some 1)] H = some (d11 (kinds c.nodes k),H,[b]):=by
 subst hn
 exact a2b (E:=L.env) (draw:=d) (call:=sem L.env Mf) (g:=52) (fs:=[]) (cs:=[]) (ar:=[.agg c.enc,.slice b 0 1 (some 1)]) (H:=H) (b:=b) (by kernel_rfl) (by kernel_rfl) rfl hb rfl (FlatO.row (FlatR.cons rfl FlatR.nil)) (by simp only [List.nil_append,List.append_nil,a0a,a1e,Cir.enc,go_sem]) (args':=[.agg c.enc,.slice 0 0 1 (some 1)]) (by simp only [List.nil_append,List.append_nil,List.map_cons,List.map_nil,a20,c7e]) (e1j c k hl) (b3n _)
theorem a8l (l:List Nat):∃ r,d11 l = sl r (l.map a0k):=⟨_,rfl⟩
theorem c8t (c:Cir) (hl:c.nodes.length < 1000000):sem L.env Mf 53 [.agg c.enc] [] = some (d11 (kinds c.nodes 0),[]):=by
 have hc:=fun X=>b7v (d:=false) (H:=[X,some (.row 1 [[.int .u8 0]])]) (b:=1) c (k:=0) rfl hl rfl
 obtain ⟨r,hr⟩:=a8l (kinds c.nodes 0)
 rw [hr] at hc ⊢
 simp only [Cir.enc] at hc ⊢
 (refine sv Tryz.f53 ?_;simp only [Tryz.f53,gS])
 (repeat first|simp only [ww]|(apply xa;simp +decide only [go_sem,hc];rfl;kernel_rfl))
 (apply fqb;simp +decide only [go_sem]<;>rfl)
theorem c73 (c:Cir) (hl:c.nodes.length < 1000000):sem L.env Mf 33 [.agg c.enc] [] = some (d11 (kinds c.nodes 14),[]):=by
 have hc:=fun X=>b7v (d:=false) (H:=[X,some (.row 1 [[.int .u8 14]])]) (b:=1) c (k:=14) rfl hl rfl
 obtain ⟨r,hr⟩:=a8l (kinds c.nodes 14)
 rw [hr] at hc ⊢
 simp only [Cir.enc] at hc ⊢
 (refine sv Tryz.f33 ?_;simp only [Tryz.f33,gS])
 (repeat first|simp only [ww]|(apply xa;simp +decide only [go_sem,hc];rfl;kernel_rfl))
 (apply fqb;simp +decide only [go_sem]<;>rfl)
theorem b4j {d:Bool} (H:a03) (c:Cir) (hl:c.nodes.length < 1000000):a0g L.env d (sem L.env Mf) (.func (.func 53) [] []) [.agg c.enc] H = some (d11 (kinds c.nodes 0),H,[]):=
 a04 (by kernel_rfl) (by kernel_rfl) rfl (by simp only [a0a,a1e,Cir.enc,go_sem]) (c8t c hl) (b3n _)
theorem a7d {d:Bool} (H:a03) (c:Cir) (hl:c.nodes.length < 1000000):a0g L.env d (sem L.env Mf) (.func (.func 33) [] []) [.agg c.enc] H = some (d11 (kinds c.nodes 14),H,[]):=
 a04 (by kernel_rfl) (by kernel_rfl) rfl (by simp only [a0a,a1e,Cir.enc,go_sem]) (c73 c hl) (b3n _)
def c59 (c:Cir):AV:=.func (.func 156) [] [.iptr c.enc]
theorem c7h (c:Cir):refs (c59 c) = []:=by rfl
theorem c58 (c:Cir):sem L.env Mf 136 [.agg c.enc] [] = some (c59 c,[]):=by
 unfold c59
 simp only [Cir.enc]
 (refine sv Tryz.f136 ?_;simp only [Tryz.f136,gS])
 (repeat first|simp only [ww]|(apply xa;simp +decide only [go_sem];rfl;kernel_rfl))
 (apply fqb;simp +decide only [go_sem]<;>rfl)
theorem a8f {d:Bool} (H:a03) (c:Cir):a0g L.env d (sem L.env Mf) (.func (.func 136) [] []) [.agg c.enc] H = some (c59 c,H,[]):=
 a04 (by kernel_rfl) (by kernel_rfl) rfl (by simp only [a0a,a1e,Cir.enc,go_sem]) (c58 c) rfl
theorem d73 (c:Cir) (m:Nat) (hm:m < c.nodes.length):sem L.env Mf 156 [.int .i64 m,.iptr c.enc] [] = some (.bool false,[]):=by
 have c1:¬ (m:Int) < 0:=by omega
 have c2:¬ (c.nodes.length:Int) ≤ m:=by omega
 simp only [Cir.enc]
 (refine sv Tryz.f156 ?_;simp only [Tryz.f156,gS])
 (repeat first|simp only [ww]|(apply xa;simp +decide only [go_sem,c1,c2];rfl;kernel_rfl))
 (apply fqb;simp +decide only [go_sem]<;>rfl)
theorem b9u {d:Bool} (H:a03) (c:Cir) (m:Nat) (hm:m < c.nodes.length):a0g L.env d (sem L.env Mf) (c59 c) [.int .i64 m] H = some (.bool false,H,[]):=
 a04 (by kernel_rfl) (by kernel_rfl) rfl (by simp only [a0a,Cir.enc,go_sem]) (d73 c m hm) rfl
theorem c8w (r:Rep) (l:List Nat) (f:AV) (hf:refs f = []) (hl:l.length < 1000000) (hc:∀ m ∈ l,a0g L.env false (sem L.env Mf) f [.int .i64 m] [] = some (.bool false,[],[])) :
 sem L.env Mf 155 [sl r (l.map a0k),f] [] = some (.int .i64 (-1),[]):=by
 have hr:∀ π,ren π f = f:=fun π=>a2m π f hf
 (refine sv Tryz.f155 ?_;simp only [Tryz.f155,gS])
 (repeat first|simp only [ww]|(apply xa;simp +decide only [go_sem];rfl;kernel_rfl))
 refine a0x (σ:=Nat) kp155_0 (fun i=>[(0,sl r (l.map a0k)),(1,f),(7,.int .i64 l.length),(8,.int .i64 i)])
  (fun _=>[]) (fun i=>l.length - i) (fun i=>i ≤ l.length) 0 ?_ (Nat.zero_le _) ?_
 ·(simp +decide only [go_sem,a02,a00,hf,hr]<;>rfl)
 ·intro i hi
  by_cases hlt:i < l.length
  ·obtain ⟨x,hx⟩:∃ x,l[i]? = some x:=⟨_,z9e hlt⟩
   have c1:(i:Int) < l.length:=by omega
   have hw:=wI1 (n:=i) (by omega)
   have hcx:=hc x (List.mem_of_getElem? hx)
   (repeat first|simp only [ww]|(apply xa;simp +decide only [go_sem,c1,hlt,hx,hw,hcx];rfl;kernel_rfl))
   refine a1y (i + 1) ?_ (by omega) (by omega)
   (simp +decide only [go_sem,a02,a00,hf,hr]<;>rfl)
  ·obtain rfl:i = l.length:=by omega
   have c1:¬ (l.length:Int) < l.length:=by omega
   (repeat first|simp only [ww]|(apply xa;simp +decide only [go_sem,c1];rfl;kernel_rfl))
   (apply fqb;simp +decide only [go_sem]<;>rfl)
theorem c64 (r:Rep) (l:List Nat) (f:AV) (hf:refs f = []) (hl:l.length < 1000000) (hc:∀ m ∈ l,a0g L.env false (sem L.env Mf) f [.int .i64 m] [] = some (.bool false,[],[])) :
 sem L.env Mf 135 [sl r (l.map a0k),f] [] = some (.bool false,[]):=by
 have h:=fun H=>a04 (E:=L.env) (draw:=false) (call:=sem L.env Mf) (g:=155) (fs:=[]) (cs:=[]) (ar:=[sl r (l.map a0k),f]) (H:=H) (by kernel_rfl) (by kernel_rfl) rfl (by simp only [List.nil_append,List.append_nil,a0a,hf,go_sem]) (c8w r l f hf hl hc) rfl
 have c1:¬ (0:Int) ≤ -1:=by omega
 (refine sv Tryz.f135 ?_;simp only [Tryz.f135,gS])
 (repeat first|simp only [ww]|(apply xa;simp +decide only [go_sem,h,c1];rfl;kernel_rfl))
 (apply fqb;simp +decide only [go_sem]<;>rfl)
theorem c0q {d:Bool} (H:a03) (c:Cir) (r:Rep) (l:List Nat) (hl:l.length < 1000000) (h:∀ m ∈ l,m < c.nodes.length) :
 a0g L.env d (sem L.env Mf) (.func (.func 135) [] []) [sl r (l.map a0k),c59 c] H = some (.bool false,H,[]):=
 a04 (by kernel_rfl) (by kernel_rfl) rfl (by simp only [List.nil_append,List.append_nil,a0a,c7h,go_sem]) (c64 r l (c59 c) rfl hl (fun m hm=>b9u [] c m (h m hm))) rfl
/- the drivers of a bus -/
theorem d22 (c:Cir) (m:Nat) (hm:m < c.nodes.length) (hk:a0c c.nodes m = 12):sem L.env Mf 151 [.int .i64 m,.ptr 0 0 0] [some (.row 4 [c.enc])] = some (.bool false,[some (.row 4 [c.enc])]):=by
 obtain ⟨x,hx⟩:∃ x,c.nodes[m]? = some x:=⟨_,z9e hm⟩
 rw [a18 hx] at hk
 simp only [Cir.enc]
 (refine sv Tryz.f151 ?_;simp only [Tryz.f151,gS])
 (repeat first|simp only [ww]|(apply xa;simp +decide only [go_sem,hx,hk,hm];rfl;kernel_rfl))
 (apply fqb;simp +decide only [go_sem]<;>rfl)
theorem a78 (c:Cir):FlatR [c.enc]:=FlatR.cons (by simp only [Cir.enc,go_sem]) FlatR.nil
theorem c5a {d:Bool} (H:a03) (c:Cir) (b m:Nat) (hb:a01 H b = some (.row 4 [c.enc])) (hm:m < c.nodes.length) (hk:a0c c.nodes m = 12):a0g L.env d (sem L.env Mf) (.func (.func 151) [] [.ptr b 0 0]) [.int .i64 m] H = some (.bool false,H,[b]):=
 a2b (fs:=[]) (cs:=[.ptr b 0 0]) (ar:=[.int .i64 m]) (by kernel_rfl) (by kernel_rfl) rfl hb (a0s (a78 c)) (FlatO.row (a78 c)) rfl (args':=[.int .i64 m,.ptr 0 0 0]) (by simp [ren,a9o]) (d22 c m hm hk) rfl
theorem c5n (r:Rep) (l:List Nat) (c:Cir) (hl:l.length < 1000000) (hc:∀ m ∈ l,m < c.nodes.length ∧ a0c c.nodes m = 12) :
 sem L.env Mf 155 [sl r (l.map a0k),.func (.func 151) [] [.ptr 0 0 0]] [some (.row 4 [c.enc])] = some (.int .i64 (-1),[some (.row 4 [c.enc])]):=by
 have hfl:a0j c.enc = []:=by simp only [Cir.enc,go_sem]
 have hrn:∀ π,c.enc.map (ren π) = c.enc:=fun π=>a52 π hfl
 have hcall:=fun m h1 h2=>c5a (d:=false) [some (.row 4 [c.enc])] c 0 m rfl h1 h2
 generalize he:c.enc = E at hfl hrn hcall
 (refine sv Tryz.f155 ?_;simp only [Tryz.f155,gS])
 (repeat first|simp only [ww]|(apply xa;simp +decide only [go_sem];rfl;kernel_rfl))
 refine a0x (σ:=Nat) kp155_0 (fun i=>[(0,sl r (l.map a0k)),(1,.func (.func 151) [] [.ptr 0 0 0]),(7,.int .i64 l.length),(8,.int .i64 i)])
  (fun _=>[some (.row 4 [E])]) (fun i=>l.length - i) (fun i=>i ≤ l.length) 0 ?_ (Nat.zero_le _) ?_
 ·(simp +decide only [go_sem,a02,a00,hfl,hrn]<;>rfl)
 ·intro i hi
  by_cases hlt:i < l.length
  ·obtain ⟨x,hx⟩:∃ x,l[i]? = some x:=⟨_,z9e hlt⟩
   have c1:(i:Int) < l.length:=by omega
   have hw:=wI1 (n:=i) (by omega)
   have hcx:=hcall x (hc x (List.mem_of_getElem? hx)).1 (hc x (List.mem_of_getElem? hx)).2
   (repeat first|simp only [ww]|(apply xa;simp +decide only [go_sem,c1,hlt,hx,hw,hcx];rfl;kernel_rfl))
   refine a1y (i + 1) ?_ (by omega) (by omega)
   (simp +decide only [go_sem,a02,a00,hfl,hrn]<;>rfl)
  ·obtain rfl:i = l.length:=by omega
   have c1:¬ (l.length:Int) < l.length:=by omega
   (repeat first|simp only [ww]|(apply xa;simp +decide only [go_sem,c1];rfl;kernel_rfl))
   (apply fqb;simp +decide only [go_sem,hrn]<;>rfl)
theorem c0r (r:Rep) (l:List Nat) (c:Cir) (hl:l.length < 1000000) (hc:∀ m ∈ l,m < c.nodes.length ∧ a0c c.nodes m = 12) :
 sem L.env Mf 135 [sl r (l.map a0k),.func (.func 151) [] [.ptr 0 0 0]] [some (.row 4 [c.enc])] = some (.bool false,[some (.row 4 [c.enc])]):=by
 have h:=a2b (E:=L.env) (draw:=false) (call:=sem L.env Mf) (g:=155) (fs:=[]) (cs:=[]) (ar:=[sl r (l.map a0k),.func (.func 151) [] [.ptr 0 0 0]]) (H:=[some (.row 4 [c.enc])]) (b:=0) (by kernel_rfl) (by kernel_rfl) rfl rfl (a0s (a78 c)) (FlatO.row (a78 c)) (by simp only [List.nil_append,List.append_nil,a0a,go_sem]) (by simp only [List.nil_append,List.append_nil,List.map_cons,List.map_nil,b9l];simp [ren,c1i,a9o]) (c5n r l c hl hc) rfl
 have c1:¬ (0:Int) ≤ -1:=by omega
 have hfl:a0j c.enc = []:=by simp only [Cir.enc,go_sem]
 have hrn:∀ π,c.enc.map (ren π) = c.enc:=fun π=>a52 π hfl
 generalize he:c.enc = E at hfl hrn h
 (refine sv Tryz.f135 ?_;simp only [Tryz.f135,gS])
 (repeat first|simp only [ww]|(apply xa;simp +decide only [go_sem,h,c1];rfl;kernel_rfl))
 (apply fqb;simp +decide only [go_sem,hrn]<;>rfl)
theorem c2u {d:Bool} {H:a03} {b:Nat} (c:Cir) (r:Rep) (l:List Nat) (hl:l.length < 1000000) (hc:∀ m ∈ l,m < c.nodes.length ∧ a0c c.nodes m = 12) (hb:a01 H b = some (.row 4 [c.enc])) :
 a0g L.env d (sem L.env Mf) (.func (.func 135) [] []) [sl r (l.map a0k),.func (.func 151) [] [.ptr b 0 0]] H = some (.bool false,H,[b]):=
 a2b (fs:=[]) (cs:=[]) (ar:=[sl r (l.map a0k),.func (.func 151) [] [.ptr b 0 0]]) (by kernel_rfl) (by kernel_rfl) rfl hb (a0s (a78 c)) (FlatO.row (a78 c)) (by simp only [List.nil_append,List.append_nil,a0a,go_sem]) (by simp only [List.nil_append,List.append_nil,List.map_cons,List.map_nil,b9l];simp [ren,c1i,a9o]) (c0r r l c hl hc) rfl
theorem e2i (c:Cir) (x:Nd) (hm:x.mem = 0 ∧ x.bit = 0) (hk:x.kind ≤ 14):sem L.env Mf 152 [.agg c.enc,.agg x.enc] [] = some (.bool true,[]):=by
 have c1:¬ (x.kind:Int) = 15:=by omega
 obtain ⟨m1,m2⟩:=hm
 simp only [Cir.enc,Nd.enc,m1,m2]
 (refine sv Tryz.f152 ?_;simp only [Tryz.f152,gS])
 (repeat first|simp only [ww]|(apply xa;simp +decide only [go_sem,c1];rfl;kernel_rfl))
 (apply fqb;simp +decide only [go_sem]<;>rfl)
theorem d3y {d:Bool} (H:a03) (c:Cir) (x:Nd) (hm:x.mem = 0 ∧ x.bit = 0) (hk:x.kind ≤ 14):a0g L.env d (sem L.env Mf) (.func (.func 152) [] []) [.agg c.enc,.agg x.enc] H = some (.bool true,H,[]):=
 a04 (by kernel_rfl) (by kernel_rfl) rfl (by simp only [a0a,a1e,Cir.enc,go_sem]) (e2i c x hm hk) rfl
theorem d79 (c:Cir) (h:c.wf) (x:Nd) (hx:x ∈ c.nodes):sem L.env Mf 132 [.agg c.enc,.agg x.enc] [] = some (.int .i64 0,[]):=by
 have k14:=h.kind x hx
 have hlo:=h.lo x hx
 have hhi:=h.hi x hx
 have hlen:x.ins.length < 1000000:=by
  have:a1s x.kind ≤ 16:=by
   have hk:x.kind = 0 ∨ x.kind = 1 ∨ x.kind = 2 ∨ x.kind = 3 ∨ x.kind = 4 ∨ x.kind = 5 ∨ x.kind = 6 ∨ x.kind = 7 ∨ x.kind = 8 ∨ x.kind = 9 ∨ x.kind = 10 ∨ x.kind = 11 ∨ x.kind = 12 ∨ x.kind = 13 ∨ x.kind = 14:=by omega
   rcases hk with e|e|e|e|e|e|e|e|e|e|e|e|e|e|e<;>rw [e]<;>decide
  omega
 have hf:=fun H=>b6q (d:=false) H x.kind (by omega)
 have ho:=fun H=>a8f (d:=true) H c
 have hc:=fun H=>c0q (d:=true) H c x.c x.ins hlen (h.ins x hx)
 have hb:=fun H=>d3y (d:=false) H c x (h.mem x hx) k14
 have c1:¬ (15:Int) < x.kind:=by omega
 have c2:¬ (x.ins.length:Int) < a1m x.kind:=by omega
 have c3:¬ (a1s x.kind:Int) < x.ins.length:=by omega
 have hfl:a0j c.enc = []:=by simp only [Cir.enc,go_sem]
 by_cases hk:x.kind = 13
 ·have hoth:=fun (X:Option AObj)=>c2u (d:=false) (H:=[some (.row 4 [c.enc]),X]) (b:=0) c x.c x.ins hlen (fun m hm=>⟨h.ins x hx m hm,h.bus x hx hk m hm⟩) rfl
  have ck:decide ((x.kind:Int) = 13) = true:=decide_eq_true (by omega)
  simp only [Cir.enc,Nd.enc] at ho hc hb hoth ⊢
  (refine sv Tryz.f132 ?_;simp only [Tryz.f132,gS])
  (repeat first|simp only [ww]|(apply xa;simp +decide only [go_sem,hf,c1,c2,c3,ho,hc,hb,hoth,ck];rfl;kernel_rfl))
  (apply fqb;simp +decide only [go_sem]<;>rfl)
 ·have ck:¬ (x.kind:Int) = 13:=by omega
  simp only [Cir.enc,Nd.enc] at ho hc hb ⊢
  (refine sv Tryz.f132 ?_;simp only [Tryz.f132,gS])
  (repeat first|simp only [ww]|(apply xa;simp +decide only [go_sem,hf,c1,c2,c3,ho,hc,hb,ck];rfl;kernel_rfl))
  (apply fqb;simp +decide only [go_sem]<;>rfl)
theorem c7v {d:Bool} (H:a03) (c:Cir) (h:c.wf) (x:Nd) (hx:x ∈ c.nodes):a0g L.env d (sem L.env Mf) (.func (.func 132) [] []) [.agg c.enc,.agg x.enc] H = some (.int .i64 0,H,[]):=
 a04 (by kernel_rfl) (by kernel_rfl) rfl (by simp only [a0a,a1e,Cir.enc,go_sem]) (d79 c h x hx) rfl
theorem c8m (i:Nat) (hi:i < 14):sem L.env Mf 153 [.str (a37 i)] [] = some (.bool true,[]):=by
 have h:i = 0 ∨ i = 1 ∨ i = 2 ∨ i = 3 ∨ i = 4 ∨ i = 5 ∨ i = 6 ∨ i = 7 ∨ i = 8 ∨ i = 9 ∨ i = 10 ∨ i = 11 ∨ i = 12 ∨ i = 13:=by omega
 rcases h with rfl|rfl|rfl|rfl|rfl|rfl|rfl|rfl|rfl|rfl|rfl|rfl|rfl|rfl
 ·exact d2z
 ·exact d2y
 ·exact d2x
 ·exact d2w
 ·exact d2v
 ·exact d2u
 ·exact d2t
 ·exact d2s
 ·exact d2r
 ·exact d2q
 ·exact c8q
 ·exact c8p
 ·exact c8o
 ·exact c8n
theorem c2d {d:Bool} (H:a03) (i:Nat) (hi:i < 14):a0g L.env d (sem L.env Mf) (.func (.func 153) [] []) [.str (a37 i)] H = some (.bool true,H,[]):=
 a04 (by kernel_rfl) (by kernel_rfl) rfl rfl (c8m i hi) rfl
def a8g (i:Nat):List AV:=(List.range i).map fun j=>.str (a37 j)
theorem c24 (i:Nat):a8g (i + 1) = a8g i ++ [.str (a37 i)]:=by unfold a8g;rw [List.range_succ,List.map_append];rfl
theorem eqS (a b:List UInt8):aeq L.env 6 9 (.str a) (.str b) = some (a == b):=by kernel_rfl
theorem c83 {i j:Nat} (hi:i < 14) (hj:j < 14) (h:a37 i = a37 j):i = j:=by
 unfold a37 at h
 simp only [List.cons.injEq,and_true,true_and] at h
 have h1:=congrArg UInt8.toNat h.1
 have h2:=congrArg UInt8.toNat h.2
 simp only [UInt8.toNat_ofNat'] at h1 h2
 omega
theorem c9l (s:Nat) (hs:s < 14):∀ (l:List Nat) (b:Nat),(∀ j ∈ l,j < s) → a1t (aeq L.env 6 9) (.str (a37 s)) (l.map fun j=>.str (a37 j)) b = some none
 | [],b,_=>rfl
 | j :: l,b,h=>by
  have hne:(a37 s == a37 j) = false:=by
   rw [beq_eq_false_iff_ne]
   intro e
   have:=c83 hs (by have:=h j (by simp);omega) e
   have:=h j (by simp)
   omega
  simp only [List.map_cons,a1t,eqS,hne,cond_false]
  exact c9l s hs l (b + 1) (fun j hj=>h j (by simp [hj]))
theorem c7z (i:Nat) (hi:i < 14):a1t (aeq L.env 6 9) (.str (a37 i)) (a8g i) 0 = some none:=c9l i hi _ 0 (fun j hj=>by simpa using hj)
def nmO (i:Nat):AObj:=.map (a8g i) (List.replicate i (.bool true)) (List.range i) i
theorem c7y (i:Nat) (hi:i < 14):a30 L.env (a01 [some (nmO i)]) 216 (.map 0) (.str (a37 i)) false = some (.bool false):=by
 have h:=c7z i hi
 have e:a30 L.env (a01 [some (nmO i)]) 216 (.map 0) (.str (a37 i)) false = match a1t (aeq L.env 6 9) (.str (a37 i)) (a8g i) 0 with
  | some (some j)=>match (List.replicate i (AV.bool true))[j]? with
   | some v=>some (bif false then .tuple [v,.bool true] else v)
   | none=>none
  | some none=>some (.bool false)
  | none=>none:=by kernel_rfl
 rw [e,h]
theorem c7x (i:Nat) (hi:i < 14):a1c L.env (a01 [some (nmO i)]) 216 (.map 0) (.str (a37 i)) (.bool true) = some (.set 0 (nmO (i + 1))):=by
 have h:=c7z i hi
 unfold a1c
 have e:a80 L.env (a01 [some (nmO i)]) 216 (.map 0) (.str (a37 i)) = match a1t (aeq L.env 6 9) (.str (a37 i)) (a8g i) 0 with
  | some (some j)=>match (a8g i)[j]? with
   | some k0=>bif c6a k0 (.str (a37 i)) then some (0,a8g i,List.replicate i (AV.bool true),List.range i,i,some j) else none
   | none=>none
  | some none=>some (0,a8g i,List.replicate i (AV.bool true),List.range i,i,none)
  | none=>none:=by kernel_rfl
 rw [e,h]
 simp only [nmO,c24,List.range_succ,List.replicate_succ']
theorem c23 (i:Nat):a15 (some (nmO i)) = []:=by
 simp only [nmO,a15,a8g]
 have h1:∀ l:List Nat,a0j (l.map fun j=>AV.str (a37 j)) = []:=by intro l;induction l with|nil=>rfl|cons a l ih=>simp [a0j,refs,ih]
 have h2:∀ n,a0j (List.replicate n (AV.bool true)) = []:=by intro n;induction n with|zero=>rfl|succ n ih=>simp [List.replicate_succ,a0j,refs,ih]
 rw [h1,h2];rfl
theorem d5a (π:Nat → Option Nat) (i:Nat):a0p π (nmO i) = nmO i:=by
 have h:=c23 i
 simp only [nmO,a15,List.append_eq_nil_iff] at h
 simp only [nmO,a0p,a52 π h.1,a52 π h.2]
theorem d26 (c:Cir) (h:c.wf):sem L.env Mf 133 [.agg c.enc] [] = some (.int .i64 0,[]):=by
 have hn:=h.len
 have hnm:c.names.length = c.nodes.length:=by rw [h.names];simp
 simp only [Cir.enc]
 (refine sv Tryz.f133 ?_;simp only [Tryz.f133,gS])
 (repeat first|simp only [ww]|(apply xa;simp +decide only [go_sem];rfl;kernel_rfl))
 have e0:AObj.map [] [] [] 0 = nmO 0:=by rfl
 refine a0x (σ:=Nat) kp133_0 (fun i=>[(3,.map 0),(8,sl c.mc (c.names.map a1n)),(9,.int .i64 c.names.length),(10,.int .i64 i)])
  (fun i=>[some (nmO i)]) (fun i=>c.names.length - i) (fun i=>i ≤ c.names.length) 0 ?_ (Nat.zero_le _) ?_
 ·rw [e0]
  (simp +decide only [go_sem,a02,a00,c23,d5a]<;>rfl)
 ·intro i hi
  by_cases hlt:i < c.names.length
  ·have hx:c.names[i]? = some (a37 i):=by rw [h.names,List.getElem?_map,List.getElem?_range (by omega)];rfl
   have c1:(i:Int) < c.names.length:=by omega
   have hw:=wI1 (n:=i) (by omega)
   have hcn:=fun H=>c2d (d:=false) H i (by omega)
   have hlk:=c7y i (by omega)
   have hup:=c7x i (by omega)
   (repeat first|simp only [ww]|(apply xa;simp +decide only [go_sem,c1,hlt,hx,hw,hcn,hlk,hup];rfl;kernel_rfl))
   refine a1y (i + 1) ?_ (by omega) (by omega)
   (simp +decide only [go_sem,a02,a00,c23,d5a]<;>rfl)
  ·obtain rfl:i = c.names.length:=by omega
   have c1:¬ (c.names.length:Int) < c.names.length:=by omega
   (repeat first|simp only [ww]|(apply xa;simp +decide only [go_sem,c1];rfl;kernel_rfl))
   (apply fqb;simp +decide only [go_sem]<;>rfl)
theorem a5y (c:Cir):a0j [.agg c.enc] = []:=by simp only [a0a,a1e,Cir.enc,go_sem]
theorem c5c {d:Bool} (H:a03) (c:Cir) (h:c.wf):a0g L.env d (sem L.env Mf) (.func (.func 133) [] []) [.agg c.enc] H = some (.int .i64 0,H,[]):=
 a04 (by kernel_rfl) (by kernel_rfl) rfl (a5y c) (d26 c h) rfl
theorem d1p (c:Cir) (h:c.wf):sem L.env Mf 93 [.agg c.enc] [] = some (.int .i64 0,[]):=by
 have hn:=h.len
 have hnm:c.names.length = c.nodes.length:=by rw [h.names];simp
 have hol:=h.outl
 have c1:¬ (16384:Int) < c.nodes.length:=by omega
 have c2:¬ (16384:Int) < c.outs.length:=by omega
 have hno:=fun H x hx=>c7v (d:=false) H c h x hx
 have hna:=fun H=>c5c (d:=false) H c h
 have hou:=fun H=>a8f (d:=true) H c
 have hcf:=fun H=>c0q (d:=true) H c c.oc c.outs (by omega) h.outs
 have hlen:c.enc.length = 4:=rfl
 simp only [Cir.enc] at hno hna hou hcf ⊢
 (refine sv Tryz.f93 ?_;simp only [Tryz.f93,gS])
 (repeat first|simp only [ww]|(apply xa;simp +decide only [go_sem,c1,c2,hnm];rfl;kernel_rfl))
 refine a0x (σ:=Nat) kp93_1 (fun i=>[(1,.ptr 0 0 0),(36,sl c.nc (c.nodes.map Nd.enc)),(37,.int .i64 c.nodes.length),(38,.int .i64 i)])
  (fun i=>[some (.row 4 [[sl c.nc (c.nodes.map Nd.enc),sl c.mc (c.names.map a1n),.nilslice,sl c.oc (c.outs.map a0k)]])]) (fun i=>c.nodes.length - i) (fun i=>i ≤ c.nodes.length) 0 ?_ (Nat.zero_le _) ?_
 ·(simp +decide only [go_sem,a02,a00]<;>rfl)
 ·intro i hi
  by_cases hlt:i < c.nodes.length
  ·obtain ⟨x,hx⟩:∃ x,c.nodes[i]? = some x:=⟨_,z9e hlt⟩
   have c1:(i:Int) < c.nodes.length:=by omega
   have hw:=wI1 (n:=i) (by omega)
   have hcx:=fun H=>hno H x (List.mem_of_getElem? hx)
   simp only [Nd.enc] at hcx
   (repeat first|simp only [ww]|(apply xa;simp +decide only [go_sem,c1,hlt,hx,hw,hcx];rfl;kernel_rfl))
   refine a1y (i + 1) ?_ (by omega) (by omega)
   (simp +decide only [go_sem,a02,a00]<;>rfl)
  ·obtain rfl:i = c.nodes.length:=by omega
   have c1:¬ (c.nodes.length:Int) < c.nodes.length:=by omega
   (repeat first|simp only [ww]|(apply xa;simp +decide only [go_sem,c1,hna];rfl;kernel_rfl))
   refine a0x (σ:=Nat) kp93_3 (fun i=>[(1,.ptr 0 0 0),(55,.nilslice),(56,.int .i64 0),(57,.int .i64 0)])
    (fun i=>[some (.row 4 [[sl c.nc (c.nodes.map Nd.enc),sl c.mc (c.names.map a1n),.nilslice,sl c.oc (c.outs.map a0k)]])]) (fun i=>0) (fun i=>True) 0 ?_ trivial ?_
   ·(simp +decide only [go_sem,a02,a00]<;>rfl)
   ·intro i _
    (repeat first|simp only [ww]|(apply xa;simp +decide only [go_sem,hou,hcf];rfl;kernel_rfl))
    (apply fqb;simp +decide only [go_sem]<;>rfl)
theorem c4w {d:Bool} (H:a03) (c:Cir) (h:c.wf):a0g L.env d (sem L.env Mf) (.func (.func 93) [] []) [.agg c.enc] H = some (.int .i64 0,H,[]):=
 a04 (by kernel_rfl) (by kernel_rfl) rfl (a5y c) (d1p c h) rfl
theorem b52 {d:Bool} (H:a03) (k:Nat) (hk:k < 256):a0g L.env d (sem L.env Mf) (.func (.func 24) [] []) [.int .u8 k] H = some (.bool (a1d k),H,[]):=
 a04 (by kernel_rfl) (by kernel_rfl) rfl rfl (d8i k hk) rfl
end Go.TInst
