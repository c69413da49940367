/- Part of a proof. No condition. -/
import Derived.Test.YtgmenpackpnmaaaGreatDoorMGa
import Derived.Test.YtgmenpackpnmaaaGreatDoorPcB
import Derived.Test.YtgmenpackpnmaaaGreatDoorAxE
set_option linter.unusedSimpArgs false
set_option linter.unusedVariables false
namespace Go.MInst
open Go.Proofs Go.Ax Go.Pc
set_option maxRecDepth 100000
theorem d0s (w:W) (n v:Nat) (hn:n < 64) (hv:v < 256):sem L.env Mf 125 [.agg w.enc,.int .i64 n,.int .u8 v] [] = some (.agg (b12 w n v).enc,[]):=by
 have hc:=fun H=>b3a (d:=false) H v hv
 simp only [go_sem] at hc
 have h0:¬ (n:Int) < 0:=by omega
 (refine sv Tryz.f125 ?_;simp only [Tryz.f125,gS])
 (repeat first|simp only [ww]|(apply xa;simp +decide only [go_sem,hc,h0];rfl;kernel_rfl))
 (apply fqb;simp +decide only [go_sem,b12,d86]<;>rfl)
theorem c38 {d:Bool} (H:a06) (w:W) (n v:Nat) (hn:n < 64) (hv:v < 256):a0e L.env d (sem L.env Mf) (.func (.func 125) [] []) [.agg w.enc,.int .i64 n,.int .u8 v] H = some (.agg (b12 w n v).enc,H,[]):=
 a05 (by kernel_rfl) (by kernel_rfl) rfl rfl (d0s w n v hn hv) rfl
theorem d7u (k:Nat) (hk:k < 256):sem L.env Mf 64 [.int .u8 k] [] = some (.bool (a1v k),[]):=by
 by_cases h1:1 ≤ k
 ·have c1:(1:Int) ≤ k:=by omega
  by_cases h2:k ≤ 13
  ·have c2:(k:Int) ≤ 13:=by omega
   rw [show a1v k = true by simp [a1v,h1,h2]]
   (refine sv Tryz.f64 ?_;simp only [Tryz.f64,gS])
   (repeat first|simp only [ww]|(apply xa;simp +decide only [go_sem,c1,c2];rfl;kernel_rfl))
   (apply fqb;simp +decide only [go_sem]<;>rfl)
  ·have c2:¬ (k:Int) ≤ 13:=by omega
   rw [show a1v k = false by simp [a1v,h2]]
   (refine sv Tryz.f64 ?_;simp only [Tryz.f64,gS])
   (repeat first|simp only [ww]|(apply xa;simp +decide only [go_sem,c1,c2];rfl;kernel_rfl))
   (apply fqb;simp +decide only [go_sem]<;>rfl)
 ·have c1:¬ (1:Int) ≤ k:=by omega
  rw [show a1v k = false by simp [a1v,h1]]
  (refine sv Tryz.f64 ?_;simp only [Tryz.f64,gS])
  (repeat first|simp only [ww]|(apply xa;simp +decide only [go_sem,c1];rfl;kernel_rfl))
  (apply fqb;simp +decide only [go_sem]<;>rfl)
theorem d6x (k v:Nat):sem L.env Mf 167 [.slice 0 0 1 (some 1),.int .u8 v] [some (.row 1 [[.int .u8 k]])] = some (.int .i64 (if v = k then 0 else -1),[some (.row 1 [[.int .u8 k]])]):=by
 (refine sv Tryz.f167 ?_;simp only [Tryz.f167,gS])
 (repeat first|simp only [ww]|(apply xa;simp +decide only [go_sem];rfl;kernel_rfl))
 refine a0l (σ:=Nat) kp167_0 (fun i=>[(0,.slice 0 0 1 (some 1)),(1,.int .u8 v),(7,.int .i64 1),(8,.int .i64 i)])
  (fun _=>[some (.row 1 [[.int .u8 k]])]) (fun i=>1 - i) (fun i=>i ≤ 1 ∧ (i = 1 → v ≠ k)) 0 ?_ (by simp) ?_
 ·(simp +decide only [go_sem,a02,a00]<;>rfl)
 ·rintro i ⟨hi,hne⟩
  have hh:i = 0 ∨ i = 1:=by omega
  rcases hh with rfl|rfl
  ·by_cases h:v = k
   ·subst h
    (repeat first|simp only [ww]|(apply xa;simp +decide only [go_sem,if_pos];rfl;kernel_rfl))
    (apply fqb;simp +decide only [go_sem,if_pos]<;>rfl)
   ·have c:¬ (v:Int) = k:=by omega
    (repeat first|simp only [ww]|(apply xa;simp +decide only [go_sem,c];rfl;kernel_rfl))
    refine a1m 1 ?_ (by omega) (by simp [h])
    (simp +decide only [go_sem,a02,a00]<;>rfl)
  ·have h:=hne rfl
   have c:¬ (v:Int) = k:=by omega
   rw [if_neg h]
   (repeat first|simp only [ww]|(apply xa;simp +decide only [go_sem,c];rfl;kernel_rfl))
   (apply fqb;simp +decide only [go_sem]<;>rfl)
theorem d2j (k v:Nat):sem L.env Mf 143 [.slice 0 0 1 (some 1),.int .u8 v] [some (.row 1 [[.int .u8 k]])] = some (.bool (decide (v = k)),[some (.row 1 [[.int .u8 k]])]):=by
 have hc:a0e L.env false (sem L.env Mf) (.func (.func 167) [] []) [.slice 0 0 1 (some 1),.int .u8 v] [some (.row 1 [[.int .u8 k]])] = some (.int .i64 (if v = k then 0 else -1),[some (.row 1 [[.int .u8 k]])],[0]):=
  a3f (by kernel_rfl) (by kernel_rfl) rfl rfl rfl (FlatO.row (FlatR.cons rfl FlatR.nil)) rfl rfl (d6x k v) rfl
 by_cases h:v = k
 ·rw [if_pos h] at hc
  (refine sv Tryz.f143 ?_;simp only [Tryz.f143,gS])
  (repeat first|simp only [ww]|(apply xa;simp +decide only [go_sem,hc];rfl;kernel_rfl))
  (apply fqb;simp +decide only [go_sem,h]<;>rfl)
 ·rw [if_neg h] at hc
  (refine sv Tryz.f143 ?_;simp only [Tryz.f143,gS])
  (repeat first|simp only [ww]|(apply xa;simp +decide only [go_sem,hc];rfl;kernel_rfl))
  (apply fqb;simp +decide only [go_sem,h]<;>rfl)
theorem c46 {d:Bool} (k v:Nat) (X:a06):a0e L.env d (sem L.env Mf) (.func (.func 143) [] []) [.slice 0 0 1 (some 1),.int .u8 v] (some (.row 1 [[.int .u8 k]]) :: X) = some (.bool (decide (v = k)),some (.row 1 [[.int .u8 k]]) :: X,[0]):=
 a3f (by kernel_rfl) (by kernel_rfl) rfl rfl rfl (FlatO.row (FlatR.cons rfl FlatR.nil)) rfl rfl (d2j k v) rfl
def a3l (nodes:List Nd) (k i:Nat):List Nat:=(List.range i).filter fun j=>decide (a1h nodes j = k)
theorem b2u (nodes:List Nd) (k i:Nat):a3l nodes k (i + 1) = if a1h nodes i = k then a3l nodes k i ++ [i] else a3l nodes k i:=by
 unfold a3l
 rw [List.range_succ,List.filter_append]
 by_cases h:a1h nodes i = k<;>simp [h]
theorem b2v (nodes:List Nd) (k i:Nat):(a3l nodes k i).length ≤ i:=Nat.le_trans (List.length_filter_le _ _) (by simp)
def kinds (nodes:List Nd) (k:Nat):List Nat:=a3l nodes k nodes.length
def c4r (l:List Nat):AV:=sl (match l with|[]=>none|a :: r=>some (some (r.length + 1))) (l.map a0n)
theorem c1v:c4r [] = .nilslice:=by rfl
theorem c7f (a:Nat) (r:List Nat):c4r (a :: r) = .islice ((a :: r).map a0n) (some (r.length + 1)):=by rfl
theorem a1k {nodes:List Nd} {i:Nat} {x:Nd} (h:nodes[i]? = some x):a1h nodes i = x.kind:=by simp [a1h,h]
theorem a1s (l:List Nat):(l.map a0n).flatMap a0d = []:=a03 (FlatR.map fun _=>rfl)
theorem a2q (π:Nat → Option Nat) (l:List Nat):(l.map a0n).map (fun r=>r.map (ren π)) = l.map a0n:=a01 π (FlatR.map fun _=>rfl)
theorem d23 (l:List Nat):FlatR (l.map a0n):=FlatR.map fun _=>rfl
theorem d7a {m:Nat} {d:AV → Option AV} (l:List Nat):a7m m d (l.map a0n) = some (l.map a0n):=a0s m d (FlatR.map fun _=>rfl)
theorem d2n:sem L.env Mf 22 [.nilslice] [] = some (.nilslice,[]):=by
 (refine sv Tryz.f22 ?_;simp only [Tryz.f22,gS])
 (repeat first|simp only [ww]|(apply xa;simp +decide only [go_sem];rfl;kernel_rfl))
 (apply fqb;simp +decide only [go_sem]<;>rfl)
theorem d80 (n:Nat) (rows:List (List AV)) (hf:FlatR rows):sem L.env Mf 22 [.slice 0 0 n none] [some (.row 1 rows)] = some (.slice 0 0 n (some n),[some (.row 1 rows)]):=by
 have h1:=fun π=>a01 π hf
 (refine sv Tryz.f22 ?_;simp only [Tryz.f22,gS])
 (repeat first|simp only [ww]|(apply xa;simp +decide only [go_sem];rfl;kernel_rfl))
 (apply fqb;simp +decide only [go_sem,h1]<;>rfl)
theorem c8c {d:Bool} {H:a06} {b n:Nat} {rows:List (List AV)} (hf:FlatR rows) (hb:a04 H b = some (.row 1 rows)):a0e L.env d (sem L.env Mf) (.func (.func 22) [] []) [.slice b 0 n none] H = some (.slice b 0 n (some n),H,[b]):=by
 have h:=a1y (E:=L.env) (draw:=d) (call:=sem L.env Mf) (g:=22) (fs:=[]) (cs:=[]) (ar:=[.slice b 0 n none]) (H:=H) (b:=b) (by kernel_rfl) (by kernel_rfl) rfl hb (a0t hf) (FlatO.row hf) rfl (args':=[AV.slice 0 0 n none]) (by simp only [List.nil_append,List.append_nil,List.map_cons,List.map_nil,a59]) (d80 n rows hf) (FlatO.row hf) (b3p b 0 _ n _)
 rw [c0z hb] at h
 exact h
theorem e1d (c:Cir) (k:Nat) (hl:c.nodes.length < 1000000):sem L.env Mf 107 [.agg c.enc,.slice 0 0 1 (some 1)] [some (.row 1 [[.int .u8 k]])] = some (c4r (kinds c.nodes k),[some (.row 1 [[.int .u8 k]])]):=by
 have hck:=fun v X=>c46 (d:=false) k v X
 (refine sv Tryz.f107 ?_;simp only [Tryz.f107,gS])
 (repeat first|simp only [ww]|(apply xa;simp +decide only [go_sem,Cir.enc];rfl;kernel_rfl))
 refine a0l (σ:=Nat) kp107_0 (fun i=>[(1,.slice 0 0 1 (some 1)),(5,grV 1 ((a3l c.nodes k i).map a0n)),(9,sl c.nc (c.nodes.map Nd.enc)),(10,.int .i64 c.nodes.length),(11,.int .i64 i)])
  (fun i=>some (.row 1 [[.int .u8 k]]) :: grH 1 ((a3l c.nodes k i).map a0n)) (fun i=>c.nodes.length - i) (fun i=>i ≤ c.nodes.length) 0 ?_ (Nat.zero_le _) ?_
 ·have e:a3l c.nodes k 0 = []:=rfl
  (simp +decide only [go_sem,a02,a00,e,List.map_nil,a0q,a0r]<;>rfl)
 ·intro i hi
  by_cases hlt:i < c.nodes.length
  ·obtain ⟨x,hx⟩:∃ x,c.nodes[i]? = some x:=⟨_,z9e hlt⟩
   have c1:(i:Int) < c.nodes.length:=by omega
   have hw:=wI1 (n:=i) (by omega)
   have hs:=b2u c.nodes k i
   rw [a1k hx] at hs
   have hle:=b2v c.nodes k i
   have hrm:(a3l c.nodes k i).length + 1 ≤ 1000000000:=by omega
   by_cases hk:x.kind = k
   ·rw [if_pos hk] at hs
    generalize a3l c.nodes k i = l at hs hle hrm
    cases l with
    | nil=>
     (repeat first|simp only [ww]|(apply xa;simp +decide only [go_sem,c1,hlt,hx,hw,hck,hk,List.map_nil,a0q,a0r];rfl;kernel_rfl))
     refine a1m (i + 1) ?_ (by omega) (by omega)
     rw [hs]
     (simp +decide only [go_sem,a02,a00,List.map_nil,List.nil_append,List.map_cons,a0a,a0b,List.length_nil]<;>rfl)
    | cons a r=>
     simp only [List.length_cons] at hrm
     (repeat first|simp only [ww]|(apply xa;simp +decide only [go_sem,c1,hlt,hx,hw,hck,hk,List.map_cons,a0a,a0b,hrm,List.length_cons];rfl;kernel_rfl))
     refine a1m (i + 1) ?_ (by omega) (by omega)
     rw [hs]
     (simp +decide only [go_sem,a02,a00,List.cons_append,List.map_cons,a0a,a0b,a1s,a2q,List.length_cons]<;>rfl)
   ·rw [if_neg hk] at hs
    have hk':¬ (x.kind:Int) = k:=by omega
    generalize a3l c.nodes k i = l at hs hle hrm
    cases l with
    | nil=>
     (repeat first|simp only [ww]|(apply xa;simp +decide only [go_sem,c1,hlt,hx,hw,hck,hk,List.map_nil,a0q,a0r];rfl;kernel_rfl))
     refine a1m (i + 1) ?_ (by omega) (by omega)
     rw [hs]
     (simp +decide only [go_sem,a02,a00,List.map_nil,a0q,a0r]<;>rfl)
    | cons a r=>
     (repeat first|simp only [ww]|(apply xa;simp +decide only [go_sem,c1,hlt,hx,hw,hck,hk,List.map_cons,a0a,a0b];rfl;kernel_rfl))
     refine a1m (i + 1) ?_ (by omega) (by omega)
     rw [hs]
     (simp +decide only [go_sem,a02,a00,List.map_cons,a0a,a0b,a1s,a2q]<;>rfl)
  ·obtain rfl:i = c.nodes.length:=by omega
   have c1:¬ (c.nodes.length:Int) < c.nodes.length:=by omega
   unfold kinds
   generalize a3l c.nodes k c.nodes.length = l
   cases l with
   | nil=>
    have hcl:=fun H=>a05 (E:=L.env) (draw:=false) (call:=sem L.env Mf) (g:=22) (fs:=[]) (cs:=[]) (ar:=[.nilslice]) (H:=H) (by kernel_rfl) (by kernel_rfl) rfl rfl d2n rfl
    (repeat first|simp only [ww]|(apply xa;simp +decide only [go_sem,c1,List.map_nil,a0q,a0r,hcl];rfl;kernel_rfl))
    (apply fqb;simp +decide only [go_sem,c1v]<;>rfl)
   | cons a r=>
    have hcl:=c8c (d:=false) (H:=[some (.row 1 [[.int .u8 k]]),some (.row 1 ((a :: r).map a0n))]) (b:=1) (n:=r.length + 1) (d23 _) rfl
    simp only [List.map_cons,go_sem] at hcl
    (repeat first|simp only [ww]|(apply xa;simp +decide only [go_sem,c1,List.map_cons,a0a,a0b,List.length_map,hcl];rfl;kernel_rfl))
    (apply fqb;simp +decide only [go_sem,c7f,List.map_cons,d7a,List.length_cons]<;>rfl)
theorem d60 (π:Nat → Option Nat) (c:Cir):ren π (.agg c.enc) = .agg c.enc:=a2b π _ (by simp only [a10,Cir.enc,go_sem])
theorem a9k (l:List Nat):refs (c4r l) = []:=a2r _ _
theorem b64 {d:Bool} {H:a06} {b:Nat} (c:Cir) {k:Nat} {n:Int} (hn:n = k) (hl:c.nodes.length < 1000000) (hb:a04 H b = some (.row 1 [[.int .u8 n]])) :
 a0e L.env d (sem L.env Mf) (.func (.func 107) [] []) [.agg c.enc,.slice b 0 1 (some 1)] H = some (c4r (kinds c.nodes k),H,[b]):=by
 subst hn
 exact a3f (E:=L.env) (draw:=d) (call:=sem L.env Mf) (g:=107) (fs:=[]) (cs:=[]) (ar:=[.agg c.enc,.slice b 0 1 (some 1)]) (H:=H) (b:=b) (by kernel_rfl) (by kernel_rfl) rfl hb rfl (FlatO.row (FlatR.cons rfl FlatR.nil)) (by simp only [List.nil_append,List.append_nil,a0c,a10,Cir.enc,go_sem]) (args':=[.agg c.enc,.slice 0 0 1 (some 1)]) (by simp only [List.nil_append,List.append_nil,List.map_cons,List.map_nil,a59,d60]) (e1d c k hl) (a9k _)
theorem a3b (l:List Nat):∃ r,c4r l = sl r (l.map a0n):=⟨_,rfl⟩
theorem c7a (c:Cir) (hl:c.nodes.length < 1000000):sem L.env Mf 74 [.agg c.enc] [] = some (c4r (kinds c.nodes 0),[]):=by
 have hc:=fun X=>b64 (d:=false) (H:=[X,some (.row 1 [[.int .u8 0]])]) (b:=1) c (k:=0) rfl hl rfl
 obtain ⟨r,hr⟩:=a3b (kinds c.nodes 0)
 rw [hr] at hc ⊢
 simp only [Cir.enc] at hc ⊢
 (refine sv Tryz.f74 ?_;simp only [Tryz.f74,gS])
 (repeat first|simp only [ww]|(apply xa;simp +decide only [go_sem,hc];rfl;kernel_rfl))
 (apply fqb;simp +decide only [go_sem]<;>rfl)
theorem c5b (c:Cir) (hl:c.nodes.length < 1000000):sem L.env Mf 73 [.agg c.enc] [] = some (c4r (kinds c.nodes 14),[]):=by
 have hc:=fun X=>b64 (d:=false) (H:=[X,some (.row 1 [[.int .u8 14]])]) (b:=1) c (k:=14) rfl hl rfl
 obtain ⟨r,hr⟩:=a3b (kinds c.nodes 14)
 rw [hr] at hc ⊢
 simp only [Cir.enc] at hc ⊢
 (refine sv Tryz.f73 ?_;simp only [Tryz.f73,gS])
 (repeat first|simp only [ww]|(apply xa;simp +decide only [go_sem,hc];rfl;kernel_rfl))
 (apply fqb;simp +decide only [go_sem]<;>rfl)
theorem b2x {d:Bool} (H:a06) (c:Cir) (hl:c.nodes.length < 1000000):a0e L.env d (sem L.env Mf) (.func (.func 74) [] []) [.agg c.enc] H = some (c4r (kinds c.nodes 0),H,[]):=
 a05 (by kernel_rfl) (by kernel_rfl) rfl (by simp only [a0c,a10,Cir.enc,go_sem]) (c7a c hl) (a9k _)
theorem b20 {d:Bool} (H:a06) (c:Cir) (hl:c.nodes.length < 1000000):a0e L.env d (sem L.env Mf) (.func (.func 73) [] []) [.agg c.enc] H = some (c4r (kinds c.nodes 14),H,[]):=
 a05 (by kernel_rfl) (by kernel_rfl) rfl (by simp only [a0c,a10,Cir.enc,go_sem]) (c5b c hl) (a9k _)
def c3d (c:Cir):AV:=.func (.func 173) [] [.iptr c.enc]
theorem c5z (c:Cir):refs (c3d c) = []:=by rfl
theorem c3c (c:Cir):sem L.env Mf 164 [.agg c.enc] [] = some (c3d c,[]):=by
 unfold c3d
 simp only [Cir.enc]
 (refine sv Tryz.f164 ?_;simp only [Tryz.f164,gS])
 (repeat first|simp only [ww]|(apply xa;simp +decide only [go_sem];rfl;kernel_rfl))
 (apply fqb;simp +decide only [go_sem]<;>rfl)
theorem a7u {d:Bool} (H:a06) (c:Cir):a0e L.env d (sem L.env Mf) (.func (.func 164) [] []) [.agg c.enc] H = some (c3d c,H,[]):=
 a05 (by kernel_rfl) (by kernel_rfl) rfl (by simp only [a0c,a10,Cir.enc,go_sem]) (c3c c) rfl
theorem d6c (c:Cir) (m:Nat) (hm:m < c.nodes.length):sem L.env Mf 173 [.int .i64 m,.iptr c.enc] [] = some (.bool false,[]):=by
 have c1:¬ (m:Int) < 0:=by omega
 have c2:¬ (c.nodes.length:Int) ≤ m:=by omega
 simp only [Cir.enc]
 (refine sv Tryz.f173 ?_;simp only [Tryz.f173,gS])
 (repeat first|simp only [ww]|(apply xa;simp +decide only [go_sem,c1,c2];rfl;kernel_rfl))
 (apply fqb;simp +decide only [go_sem]<;>rfl)
theorem b7w {d:Bool} (H:a06) (c:Cir) (m:Nat) (hm:m < c.nodes.length):a0e L.env d (sem L.env Mf) (c3d c) [.int .i64 m] H = some (.bool false,H,[]):=
 a05 (by kernel_rfl) (by kernel_rfl) rfl (by simp only [a0c,Cir.enc,go_sem]) (d6c c m hm) rfl
theorem c7e (r:Rep) (l:List Nat) (f:AV) (hf:refs f = []) (hl:l.length < 1000000) (hc:∀ m ∈ l,a0e L.env false (sem L.env Mf) f [.int .i64 m] [] = some (.bool false,[],[])) :
 sem L.env Mf 55 [sl r (l.map a0n),f] [] = some (.int .i64 (-1),[]):=by
 have hr:∀ π,ren π f = f:=fun π=>a2b π f hf
 (refine sv Tryz.f55 ?_;simp only [Tryz.f55,gS])
 (repeat first|simp only [ww]|(apply xa;simp +decide only [go_sem];rfl;kernel_rfl))
 refine a0l (σ:=Nat) kp55_0 (fun i=>[(0,sl r (l.map a0n)),(1,f),(7,.int .i64 l.length),(8,.int .i64 i)])
  (fun _=>[]) (fun i=>l.length - i) (fun i=>i ≤ l.length) 0 ?_ (Nat.zero_le _) ?_
 ·(simp +decide only [go_sem,a02,a00,hf,hr]<;>rfl)
 ·intro i hi
  by_cases hlt:i < l.length
  ·obtain ⟨x,hx⟩:∃ x,l[i]? = some x:=⟨_,z9e hlt⟩
   have c1:(i:Int) < l.length:=by omega
   have hw:=wI1 (n:=i) (by omega)
   have hcx:=hc x (List.mem_of_getElem? hx)
   (repeat first|simp only [ww]|(apply xa;simp +decide only [go_sem,c1,hlt,hx,hw,hcx];rfl;kernel_rfl))
   refine a1m (i + 1) ?_ (by omega) (by omega)
   (simp +decide only [go_sem,a02,a00,hf,hr]<;>rfl)
  ·obtain rfl:i = l.length:=by omega
   have c1:¬ (l.length:Int) < l.length:=by omega
   (repeat first|simp only [ww]|(apply xa;simp +decide only [go_sem,c1];rfl;kernel_rfl))
   (apply fqb;simp +decide only [go_sem]<;>rfl)
theorem c47 (r:Rep) (l:List Nat) (f:AV) (hf:refs f = []) (hl:l.length < 1000000) (hc:∀ m ∈ l,a0e L.env false (sem L.env Mf) f [.int .i64 m] [] = some (.bool false,[],[])) :
 sem L.env Mf 163 [sl r (l.map a0n),f] [] = some (.bool false,[]):=by
 have h:=fun H=>a05 (E:=L.env) (draw:=false) (call:=sem L.env Mf) (g:=55) (fs:=[]) (cs:=[]) (ar:=[sl r (l.map a0n),f]) (H:=H) (by kernel_rfl) (by kernel_rfl) rfl (by simp only [List.nil_append,List.append_nil,a0c,hf,go_sem]) (c7e r l f hf hl hc) rfl
 have c1:¬ (0:Int) ≤ -1:=by omega
 (refine sv Tryz.f163 ?_;simp only [Tryz.f163,gS])
 (repeat first|simp only [ww]|(apply xa;simp +decide only [go_sem,h,c1];rfl;kernel_rfl))
 (apply fqb;simp +decide only [go_sem]<;>rfl)
theorem b8l {d:Bool} (H:a06) (c:Cir) (r:Rep) (l:List Nat) (hl:l.length < 1000000) (h:∀ m ∈ l,m < c.nodes.length) :
 a0e L.env d (sem L.env Mf) (.func (.func 163) [] []) [sl r (l.map a0n),c3d c] H = some (.bool false,H,[]):=
 a05 (by kernel_rfl) (by kernel_rfl) rfl (by simp only [List.nil_append,List.append_nil,a0c,c5z,go_sem]) (c47 r l (c3d c) rfl hl (fun m hm=>b7w [] c m (h m hm))) rfl
/- the drivers of a bus -/
theorem d0w (c:Cir) (m:Nat) (hm:m < c.nodes.length) (hk:a1h c.nodes m = 12):sem L.env Mf 169 [.int .i64 m,.ptr 0 0 0] [some (.row 4 [c.enc])] = some (.bool false,[some (.row 4 [c.enc])]):=by
 obtain ⟨x,hx⟩:∃ x,c.nodes[m]? = some x:=⟨_,z9e hm⟩
 rw [a1k hx] at hk
 simp only [Cir.enc]
 (refine sv Tryz.f169 ?_;simp only [Tryz.f169,gS])
 (repeat first|simp only [ww]|(apply xa;simp +decide only [go_sem,hx,hk,hm];rfl;kernel_rfl))
 (apply fqb;simp +decide only [go_sem]<;>rfl)
theorem a6u (c:Cir):FlatR [c.enc]:=FlatR.cons (by simp only [Cir.enc,go_sem]) FlatR.nil
theorem c3e {d:Bool} (H:a06) (c:Cir) (b m:Nat) (hb:a04 H b = some (.row 4 [c.enc])) (hm:m < c.nodes.length) (hk:a1h c.nodes m = 12):a0e L.env d (sem L.env Mf) (.func (.func 169) [] [.ptr b 0 0]) [.int .i64 m] H = some (.bool false,H,[b]):=
 a3f (fs:=[]) (cs:=[.ptr b 0 0]) (ar:=[.int .i64 m]) (by kernel_rfl) (by kernel_rfl) rfl hb (a0t (a6u c)) (FlatO.row (a6u c)) rfl (args':=[.int .i64 m,.ptr 0 0 0]) (by simp [ren,a50]) (d0w c m hm hk) rfl
theorem c3p (r:Rep) (l:List Nat) (c:Cir) (hl:l.length < 1000000) (hc:∀ m ∈ l,m < c.nodes.length ∧ a1h c.nodes m = 12) :
 sem L.env Mf 55 [sl r (l.map a0n),.func (.func 169) [] [.ptr 0 0 0]] [some (.row 4 [c.enc])] = some (.int .i64 (-1),[some (.row 4 [c.enc])]):=by
 have hfl:a0d c.enc = []:=by simp only [Cir.enc,go_sem]
 have hrn:∀ π,c.enc.map (ren π) = c.enc:=fun π=>a5n π hfl
 have hcall:=fun m h1 h2=>c3e (d:=false) [some (.row 4 [c.enc])] c 0 m rfl h1 h2
 generalize he:c.enc = E at hfl hrn hcall
 (refine sv Tryz.f55 ?_;simp only [Tryz.f55,gS])
 (repeat first|simp only [ww]|(apply xa;simp +decide only [go_sem];rfl;kernel_rfl))
 refine a0l (σ:=Nat) kp55_0 (fun i=>[(0,sl r (l.map a0n)),(1,.func (.func 169) [] [.ptr 0 0 0]),(7,.int .i64 l.length),(8,.int .i64 i)])
  (fun _=>[some (.row 4 [E])]) (fun i=>l.length - i) (fun i=>i ≤ l.length) 0 ?_ (Nat.zero_le _) ?_
 ·(simp +decide only [go_sem,a02,a00,hfl,hrn]<;>rfl)
 ·intro i hi
  by_cases hlt:i < l.length
  ·obtain ⟨x,hx⟩:∃ x,l[i]? = some x:=⟨_,z9e hlt⟩
   have c1:(i:Int) < l.length:=by omega
   have hw:=wI1 (n:=i) (by omega)
   have hcx:=hcall x (hc x (List.mem_of_getElem? hx)).1 (hc x (List.mem_of_getElem? hx)).2
   (repeat first|simp only [ww]|(apply xa;simp +decide only [go_sem,c1,hlt,hx,hw,hcx];rfl;kernel_rfl))
   refine a1m (i + 1) ?_ (by omega) (by omega)
   (simp +decide only [go_sem,a02,a00,hfl,hrn]<;>rfl)
  ·obtain rfl:i = l.length:=by omega
   have c1:¬ (l.length:Int) < l.length:=by omega
   (repeat first|simp only [ww]|(apply xa;simp +decide only [go_sem,c1];rfl;kernel_rfl))
   (apply fqb;simp +decide only [go_sem,hrn]<;>rfl)
theorem b8m (r:Rep) (l:List Nat) (c:Cir) (hl:l.length < 1000000) (hc:∀ m ∈ l,m < c.nodes.length ∧ a1h c.nodes m = 12) :
 sem L.env Mf 163 [sl r (l.map a0n),.func (.func 169) [] [.ptr 0 0 0]] [some (.row 4 [c.enc])] = some (.bool false,[some (.row 4 [c.enc])]):=by
 have h:=a3f (E:=L.env) (draw:=false) (call:=sem L.env Mf) (g:=55) (fs:=[]) (cs:=[]) (ar:=[sl r (l.map a0n),.func (.func 169) [] [.ptr 0 0 0]]) (H:=[some (.row 4 [c.enc])]) (b:=0) (by kernel_rfl) (by kernel_rfl) rfl rfl (a0t (a6u c)) (FlatO.row (a6u c)) (by simp only [List.nil_append,List.append_nil,a0c,go_sem]) (by simp only [List.nil_append,List.append_nil,List.map_cons,List.map_nil,c1d];simp [ren,b76,a50]) (c3p r l c hl hc) rfl
 have c1:¬ (0:Int) ≤ -1:=by omega
 have hfl:a0d c.enc = []:=by simp only [Cir.enc,go_sem]
 have hrn:∀ π,c.enc.map (ren π) = c.enc:=fun π=>a5n π hfl
 generalize he:c.enc = E at hfl hrn h
 (refine sv Tryz.f163 ?_;simp only [Tryz.f163,gS])
 (repeat first|simp only [ww]|(apply xa;simp +decide only [go_sem,h,c1];rfl;kernel_rfl))
 (apply fqb;simp +decide only [go_sem,hrn]<;>rfl)
theorem c0k {d:Bool} {H:a06} {b:Nat} (c:Cir) (r:Rep) (l:List Nat) (hl:l.length < 1000000) (hc:∀ m ∈ l,m < c.nodes.length ∧ a1h c.nodes m = 12) (hb:a04 H b = some (.row 4 [c.enc])) :
 a0e L.env d (sem L.env Mf) (.func (.func 163) [] []) [sl r (l.map a0n),.func (.func 169) [] [.ptr b 0 0]] H = some (.bool false,H,[b]):=
 a3f (fs:=[]) (cs:=[]) (ar:=[sl r (l.map a0n),.func (.func 169) [] [.ptr b 0 0]]) (by kernel_rfl) (by kernel_rfl) rfl hb (a0t (a6u c)) (FlatO.row (a6u c)) (by simp only [List.nil_append,List.append_nil,a0c,go_sem]) (by simp only [List.nil_append,List.append_nil,List.map_cons,List.map_nil,c1d];simp [ren,b76,a50]) (b8m r l c hl hc) rfl
theorem e2u (c:Cir) (x:Nd) (hm:x.mem = 0 ∧ x.bit = 0) (hk:x.kind ≤ 14):sem L.env Mf 170 [.agg c.enc,.agg x.enc] [] = some (.bool true,[]):=by
 have c1:¬ (x.kind:Int) = 15:=by omega
 obtain ⟨m1,m2⟩:=hm
 simp only [Cir.enc,Nd.enc,m1,m2]
 (refine sv Tryz.f170 ?_;simp only [Tryz.f170,gS])
 (repeat first|simp only [ww]|(apply xa;simp +decide only [go_sem,c1];rfl;kernel_rfl))
 (apply fqb;simp +decide only [go_sem]<;>rfl)
theorem d2u {d:Bool} (H:a06) (c:Cir) (x:Nd) (hm:x.mem = 0 ∧ x.bit = 0) (hk:x.kind ≤ 14):a0e L.env d (sem L.env Mf) (.func (.func 170) [] []) [.agg c.enc,.agg x.enc] H = some (.bool true,H,[]):=
 a05 (by kernel_rfl) (by kernel_rfl) rfl (by simp only [a0c,a10,Cir.enc,go_sem]) (e2u c x hm hk) rfl
theorem d6h (c:Cir) (h:c.wf) (x:Nd) (hx:x ∈ c.nodes):sem L.env Mf 160 [.agg c.enc,.agg x.enc] [] = some (.int .i64 0,[]):=by
 have k14:=h.kind x hx
 have hlo:=h.lo x hx
 have hhi:=h.hi x hx
 have hlen:x.ins.length < 1000000:=by
  have:a1p x.kind ≤ 16:=by
   have hk:x.kind = 0 ∨ x.kind = 1 ∨ x.kind = 2 ∨ x.kind = 3 ∨ x.kind = 4 ∨ x.kind = 5 ∨ x.kind = 6 ∨ x.kind = 7 ∨ x.kind = 8 ∨ x.kind = 9 ∨ x.kind = 10 ∨ x.kind = 11 ∨ x.kind = 12 ∨ x.kind = 13 ∨ x.kind = 14:=by omega
   rcases hk with e|e|e|e|e|e|e|e|e|e|e|e|e|e|e<;>rw [e]<;>decide
  omega
 have hf:=fun H=>b0w (d:=false) H x.kind (by omega)
 have ho:=fun H=>a7u (d:=true) H c
 have hc:=fun H=>b8l (d:=true) H c x.c x.ins hlen (h.ins x hx)
 have hb:=fun H=>d2u (d:=false) H c x (h.mem x hx) k14
 have c1:¬ (15:Int) < x.kind:=by omega
 have c2:¬ (x.ins.length:Int) < a21 x.kind:=by omega
 have c3:¬ (a1p x.kind:Int) < x.ins.length:=by omega
 have hfl:a0d c.enc = []:=by simp only [Cir.enc,go_sem]
 by_cases hk:x.kind = 13
 ·have hoth:=fun (X:Option AObj)=>c0k (d:=false) (H:=[some (.row 4 [c.enc]),X]) (b:=0) c x.c x.ins hlen (fun m hm=>⟨h.ins x hx m hm,h.bus x hx hk m hm⟩) rfl
  have ck:decide ((x.kind:Int) = 13) = true:=decide_eq_true (by omega)
  simp only [Cir.enc,Nd.enc] at ho hc hb hoth ⊢
  (refine sv Tryz.f160 ?_;simp only [Tryz.f160,gS])
  (repeat first|simp only [ww]|(apply xa;simp +decide only [go_sem,hf,c1,c2,c3,ho,hc,hb,hoth,ck];rfl;kernel_rfl))
  (apply fqb;simp +decide only [go_sem]<;>rfl)
 ·have ck:¬ (x.kind:Int) = 13:=by omega
  simp only [Cir.enc,Nd.enc] at ho hc hb ⊢
  (refine sv Tryz.f160 ?_;simp only [Tryz.f160,gS])
  (repeat first|simp only [ww]|(apply xa;simp +decide only [go_sem,hf,c1,c2,c3,ho,hc,hb,ck];rfl;kernel_rfl))
  (apply fqb;simp +decide only [go_sem]<;>rfl)
theorem c6f {d:Bool} (H:a06) (c:Cir) (h:c.wf) (x:Nd) (hx:x ∈ c.nodes):a0e L.env d (sem L.env Mf) (.func (.func 160) [] []) [.agg c.enc,.agg x.enc] H = some (.int .i64 0,H,[]):=
 a05 (by kernel_rfl) (by kernel_rfl) rfl (by simp only [a0c,a10,Cir.enc,go_sem]) (d6h c h x hx) rfl
theorem c75 (i:Nat) (hi:i < 14):sem L.env Mf 171 [.str (a2y i)] [] = some (.bool true,[]):=by
 have h:i = 0 ∨ i = 1 ∨ i = 2 ∨ i = 3 ∨ i = 4 ∨ i = 5 ∨ i = 6 ∨ i = 7 ∨ i = 8 ∨ i = 9 ∨ i = 10 ∨ i = 11 ∨ i = 12 ∨ i = 13:=by omega
 rcases h with rfl|rfl|rfl|rfl|rfl|rfl|rfl|rfl|rfl|rfl|rfl|rfl|rfl|rfl
 ·exact d1q
 ·exact d1p
 ·exact d1o
 ·exact d1n
 ·exact d1m
 ·exact d1l
 ·exact d1k
 ·exact d1j
 ·exact d1i
 ·exact d1h
 ·exact c79
 ·exact c78
 ·exact c77
 ·exact c76
theorem c08 {d:Bool} (H:a06) (i:Nat) (hi:i < 14):a0e L.env d (sem L.env Mf) (.func (.func 171) [] []) [.str (a2y i)] H = some (.bool true,H,[]):=
 a05 (by kernel_rfl) (by kernel_rfl) rfl rfl (c75 i hi) rfl
def a7w (i:Nat):List AV:=(List.range i).map fun j=>.str (a2y j)
theorem c02 (i:Nat):a7w (i + 1) = a7w i ++ [.str (a2y i)]:=by unfold a7w;rw [List.range_succ,List.map_append];rfl
theorem eqS (a b:List UInt8):aeq L.env 6 9 (.str a) (.str b) = some (a == b):=by kernel_rfl
theorem c6l {i j:Nat} (hi:i < 14) (hj:j < 14) (h:a2y i = a2y j):i = j:=by
 unfold a2y at h
 simp only [List.cons.injEq,and_true,true_and] at h
 have h1:=congrArg UInt8.toNat h.1
 have h2:=congrArg UInt8.toNat h.2
 simp only [UInt8.toNat_ofNat'] at h1 h2
 omega
theorem c7x (s:Nat) (hs:s < 14):∀ (l:List Nat) (b:Nat),(∀ j ∈ l,j < s) → a27 (aeq L.env 6 9) (.str (a2y s)) (l.map fun j=>.str (a2y j)) b = some none
 | [],b,_=>rfl
 | j :: l,b,h=>by
  have hne:(a2y s == a2y j) = false:=by
   rw [beq_eq_false_iff_ne]
   intro e
   have:=c6l hs (by have:=h j (by simp);omega) e
   have:=h j (by simp)
   omega
  simp only [List.map_cons,a27,eqS,hne,cond_false]
  exact c7x s hs l (b + 1) (fun j hj=>h j (by simp [hj]))
theorem c6i (i:Nat) (hi:i < 14):a27 (aeq L.env 6 9) (.str (a2y i)) (a7w i) 0 = some none:=c7x i hi _ 0 (fun j hj=>by simpa using hj)
def nmO (i:Nat):AObj:=.map (a7w i) (List.replicate i (.bool true)) (List.range i) i
theorem c6h (i:Nat) (hi:i < 14):a7f L.env (a04 [some (nmO i)]) 233 (.map 0) (.str (a2y i)) false = some (.bool false):=by
 have h:=c6i i hi
 have e:a7f L.env (a04 [some (nmO i)]) 233 (.map 0) (.str (a2y i)) false = match a27 (aeq L.env 6 9) (.str (a2y i)) (a7w i) 0 with
  | some (some j)=>match (List.replicate i (AV.bool true))[j]? with
   | some v=>some (bif false then .tuple [v,.bool true] else v)
   | none=>none
  | some none=>some (.bool false)
  | none=>none:=by kernel_rfl
 rw [e,h]
theorem c6g (i:Nat) (hi:i < 14):a2h L.env (a04 [some (nmO i)]) 233 (.map 0) (.str (a2y i)) (.bool true) = some (.set 0 (nmO (i + 1))):=by
 have h:=c6i i hi
 unfold a2h
 have e:b1b L.env (a04 [some (nmO i)]) 233 (.map 0) (.str (a2y i)) = match a27 (aeq L.env 6 9) (.str (a2y i)) (a7w i) 0 with
  | some (some j)=>match (a7w i)[j]? with
   | some k0=>bif d2x k0 (.str (a2y i)) then some (0,a7w i,List.replicate i (AV.bool true),List.range i,i,some j) else none
   | none=>none
  | some none=>some (0,a7w i,List.replicate i (AV.bool true),List.range i,i,none)
  | none=>none:=by kernel_rfl
 rw [e,h]
 simp only [nmO,c02,List.range_succ,List.replicate_succ']
theorem c01 (i:Nat):a0v (some (nmO i)) = []:=by
 simp only [nmO,a0v,a7w]
 have h1:∀ l:List Nat,a0d (l.map fun j=>AV.str (a2y j)) = []:=by intro l;induction l with|nil=>rfl|cons a l ih=>simp [a0d,refs,ih]
 have h2:∀ n,a0d (List.replicate n (AV.bool true)) = []:=by intro n;induction n with|zero=>rfl|succ n ih=>simp [List.replicate_succ,a0d,refs,ih]
 rw [h1,h2];rfl
theorem d43 (π:Nat → Option Nat) (i:Nat):a0m π (nmO i) = nmO i:=by
 have h:=c01 i
 simp only [nmO,a0v,List.append_eq_nil_iff] at h
 simp only [nmO,a0m,a5n π h.1,a5n π h.2]
theorem d11 (c:Cir) (h:c.wf):sem L.env Mf 161 [.agg c.enc] [] = some (.int .i64 0,[]):=by
 have hn:=h.len
 have hnm:c.names.length = c.nodes.length:=by rw [h.names];simp
 simp only [Cir.enc]
 (refine sv Tryz.f161 ?_;simp only [Tryz.f161,gS])
 (repeat first|simp only [ww]|(apply xa;simp +decide only [go_sem];rfl;kernel_rfl))
 have e0:AObj.map [] [] [] 0 = nmO 0:=by rfl
 refine a0l (σ:=Nat) kp161_0 (fun i=>[(3,.map 0),(8,sl c.mc (c.names.map a44)),(9,.int .i64 c.names.length),(10,.int .i64 i)])
  (fun i=>[some (nmO i)]) (fun i=>c.names.length - i) (fun i=>i ≤ c.names.length) 0 ?_ (Nat.zero_le _) ?_
 ·rw [e0]
  (simp +decide only [go_sem,a02,a00,c01,d43]<;>rfl)
 ·intro i hi
  by_cases hlt:i < c.names.length
  ·have hx:c.names[i]? = some (a2y i):=by rw [h.names,List.getElem?_map,List.getElem?_range (by omega)];rfl
   have c1:(i:Int) < c.names.length:=by omega
   have hw:=wI1 (n:=i) (by omega)
   have hcn:=fun H=>c08 (d:=false) H i (by omega)
   have hlk:=c6h i (by omega)
   have hup:=c6g i (by omega)
   (repeat first|simp only [ww]|(apply xa;simp +decide only [go_sem,c1,hlt,hx,hw,hcn,hlk,hup];rfl;kernel_rfl))
   refine a1m (i + 1) ?_ (by omega) (by omega)
   (simp +decide only [go_sem,a02,a00,c01,d43]<;>rfl)
  ·obtain rfl:i = c.names.length:=by omega
   have c1:¬ (c.names.length:Int) < c.names.length:=by omega
   (repeat first|simp only [ww]|(apply xa;simp +decide only [go_sem,c1];rfl;kernel_rfl))
   (apply fqb;simp +decide only [go_sem]<;>rfl)
theorem a3w (c:Cir):a0d [.agg c.enc] = []:=by simp only [a0c,a10,Cir.enc,go_sem]
theorem c3h {d:Bool} (H:a06) (c:Cir) (h:c.wf):a0e L.env d (sem L.env Mf) (.func (.func 161) [] []) [.agg c.enc] H = some (.int .i64 0,H,[]):=
 a05 (by kernel_rfl) (by kernel_rfl) rfl (a3w c) (d11 c h) rfl
theorem d0a (c:Cir) (h:c.wf):sem L.env Mf 140 [.agg c.enc] [] = some (.int .i64 0,[]):=by
 have hn:=h.len
 have hnm:c.names.length = c.nodes.length:=by rw [h.names];simp
 have hol:=h.outl
 have c1:¬ (16384:Int) < c.nodes.length:=by omega
 have c2:¬ (16384:Int) < c.outs.length:=by omega
 have hno:=fun H x hx=>c6f (d:=false) H c h x hx
 have hna:=fun H=>c3h (d:=false) H c h
 have hou:=fun H=>a7u (d:=true) H c
 have hcf:=fun H=>b8l (d:=true) H c c.oc c.outs (by omega) h.outs
 have hlen:c.enc.length = 4:=rfl
 simp only [Cir.enc] at hno hna hou hcf ⊢
 (refine sv Tryz.f140 ?_;simp only [Tryz.f140,gS])
 (repeat first|simp only [ww]|(apply xa;simp +decide only [go_sem,c1,c2,hnm];rfl;kernel_rfl))
 refine a0l (σ:=Nat) kp140_1 (fun i=>[(1,.ptr 0 0 0),(36,sl c.nc (c.nodes.map Nd.enc)),(37,.int .i64 c.nodes.length),(38,.int .i64 i)])
  (fun i=>[some (.row 4 [[sl c.nc (c.nodes.map Nd.enc),sl c.mc (c.names.map a44),.nilslice,sl c.oc (c.outs.map a0n)]])]) (fun i=>c.nodes.length - i) (fun i=>i ≤ c.nodes.length) 0 ?_ (Nat.zero_le _) ?_
 ·(simp +decide only [go_sem,a02,a00]<;>rfl)
 ·intro i hi
  by_cases hlt:i < c.nodes.length
  ·obtain ⟨x,hx⟩:∃ x,c.nodes[i]? = some x:=⟨_,z9e hlt⟩
   have c1:(i:Int) < c.nodes.length:=by omega
   have hw:=wI1 (n:=i) (by omega)
   have hcx:=fun H=>hno H x (List.mem_of_getElem? hx)
   simp only [Nd.enc] at hcx
   (repeat first|simp only [ww]|(apply xa;simp +decide only [go_sem,c1,hlt,hx,hw,hcx];rfl;kernel_rfl))
   refine a1m (i + 1) ?_ (by omega) (by omega)
   (simp +decide only [go_sem,a02,a00]<;>rfl)
  ·obtain rfl:i = c.nodes.length:=by omega
   have c1:¬ (c.nodes.length:Int) < c.nodes.length:=by omega
   (repeat first|simp only [ww]|(apply xa;simp +decide only [go_sem,c1,hna];rfl;kernel_rfl))
   refine a0l (σ:=Nat) kp140_3 (fun i=>[(1,.ptr 0 0 0),(55,.nilslice),(56,.int .i64 0),(57,.int .i64 0)])
    (fun i=>[some (.row 4 [[sl c.nc (c.nodes.map Nd.enc),sl c.mc (c.names.map a44),.nilslice,sl c.oc (c.outs.map a0n)]])]) (fun i=>0) (fun i=>True) 0 ?_ trivial ?_
   ·(simp +decide only [go_sem,a02,a00]<;>rfl)
   ·intro i _
    (repeat first|simp only [ww]|(apply xa;simp +decide only [go_sem,hou,hcf];rfl;kernel_rfl))
    (apply fqb;simp +decide only [go_sem]<;>rfl)
theorem c2z {d:Bool} (H:a06) (c:Cir) (h:c.wf):a0e L.env d (sem L.env Mf) (.func (.func 140) [] []) [.agg c.enc] H = some (.int .i64 0,H,[]):=
 a05 (by kernel_rfl) (by kernel_rfl) rfl (a3w c) (d0a c h) rfl
theorem b8q {d:Bool} (H:a06) (k:Nat) (hk:k < 256):a0e L.env d (sem L.env Mf) (.func (.func 64) [] []) [.int .u8 k] H = some (.bool (a1v k),H,[]):=
 a05 (by kernel_rfl) (by kernel_rfl) rfl rfl (d7u k hk) rfl
def foE (fo:List (List (Nat × Nat))):List (List (List AV)):=fo.map (·.map a7z)
theorem a5q (fo:List (List (Nat × Nat))):(foE fo).length = fo.length:=by unfold foE;simp
theorem a7a {fo:List (List (Nat × Nat))} {j:Nat} {L:List (Nat × Nat)} (h:fo[j]? = some L):(foE fo)[j]? = some (L.map a7z):=by unfold foE;rw [List.getElem?_map,h];rfl
theorem c7t (fo:List (List (Nat × Nat))) (j:Nat) (L:List (Nat × Nat)) (i k:Nat):(foE fo).set j (L.map a7z ++ [a7z (i,k)]) = foE (fo.set j (L ++ [(i,k)])):=by unfold foE;rw [List.map_set,List.map_append];rfl
def J0 (c:Cir) (n:Nat) (F:Frm) (H:a06):Prop:=∃ i b ids fo,n = c.nodes.length - i ∧ i ≤ c.nodes.length ∧
 F = [(3,.slice b 0 c.nodes.length (some c.nodes.length)),(4,c3d c),(18,sl c.nc (c.nodes.map Nd.enc)),(19,.int .i64 c.nodes.length),(20,.int .i64 i)] ∧ Two H b 2 ids (fun _=>none) (foE fo) ∧ FoOk c.nodes i 0 fo
def J2 (c:Cir) (i:Nat) (x:Nd) (n:Nat) (F:Frm) (H:a06):Prop:=∃ k b ids fo,n = x.ins.length - k ∧ k ≤ x.ins.length ∧
 F = [(3,.slice b 0 c.nodes.length (some c.nodes.length)),(4,c3d c),(5,.int .i64 i),(18,sl c.nc (c.nodes.map Nd.enc)),(19,.int .i64 c.nodes.length),(20,.int .i64 i),(26,sl x.c (x.ins.map a0n)),(27,.int .i64 x.ins.length),(28,.int .i64 k)] ∧ Two H b 2 ids (fun _=>none) (foE fo) ∧ FoOk c.nodes i k fo
def cpT (fo:List (List (Nat × Nat))) (t:Nat):Nat → Option Nat:=fun j=>if j < t then (fo[j]?).map List.length else none
def J4 (c:Cir) (fo:List (List (Nat × Nat))) (n:Nat) (F:Frm) (H:a06):Prop:=∃ t b ids,n = c.nodes.length - t ∧ t ≤ c.nodes.length ∧
 F = [(3,.slice b 0 c.nodes.length (some c.nodes.length)),(51,.slice b 0 c.nodes.length (some c.nodes.length)),(52,.int .i64 c.nodes.length),(53,.int .i64 t)] ∧ Two H b 2 ids (cpT fo t) (foE fo)
theorem c9w (H:a06) (n:Nat) (b:Nat) (h:a04 H b = some (.row 1 (List.replicate n [.nilslice]))):Two H b 2 (fun _=>0) (fun _=>none) (foE (List.replicate n [])):=by
 have hfo:foE (List.replicate n []) = List.replicate n []:=by unfold foE;rw [List.map_replicate];rfl
 rw [hfo]
 have hno:∀ (j:Nat) (f:List (List AV)),(List.replicate n ([]:List (List AV)))[j]? = some f → f = []:=by
  intro j f hf
  rw [List.getElem?_replicate] at hf
  split at hf
  ·cases hf;rfl
  ·cases hf
 refine ⟨?_,fun j f hf hne=>absurd (hno j f hf) hne,fun i j f g hf _ hne=>absurd (hno i f hf) hne,fun f hf=>?_⟩
 ·rw [h]
  congr 2
  apply List.ext_getElem?
  intro j
  unfold a5l
  rw [List.getElem?_mapIdx,List.getElem?_replicate,List.getElem?_replicate]
  split<;>rfl
 ·rw [(List.mem_replicate.1 hf).2];exact FlatR.nil
theorem d2e (fo:List (List (Nat × Nat))):cpT fo 0 = fun _=>none:=by funext j;simp [cpT]
theorem d2f {fo:List (List (Nat × Nat))} {t:Nat} {L:List (Nat × Nat)} (h:fo[t]? = some L):(fun i=>if i = t then some L.length else cpT fo t i) = cpT fo (t + 1):=by
 funext j
 unfold cpT
 by_cases h1:j = t
 ·subst h1;simp [h]
 ·by_cases h2:j < t
  ·simp [h1,h2,show j < t + 1 by omega]
  ·simp [h1,h2,show ¬ j < t + 1 by omega]
theorem c8d:sem L.env Mf 124 [.nilslice] [] = some (.nilslice,[]):=by
 (refine sv Tryz.f124 ?_;simp only [Tryz.f124,gS])
 (repeat first|simp only [ww]|(apply xa;simp +decide only [go_sem];rfl;kernel_rfl))
 (apply fqb;simp +decide only [go_sem]<;>rfl)
theorem d2o (n:Nat) (rows:List (List AV)) (hf:FlatR rows):sem L.env Mf 124 [.slice 0 0 n none] [some (.row 2 rows)] = some (.slice 0 0 n (some n),[some (.row 2 rows)]):=by
 have h1:=fun π=>a01 π hf
 (refine sv Tryz.f124 ?_;simp only [Tryz.f124,gS])
 (repeat first|simp only [ww]|(apply xa;simp +decide only [go_sem];rfl;kernel_rfl))
 (apply fqb;simp +decide only [go_sem,h1]<;>rfl)
theorem b3g {d:Bool} (H:a06):a0e L.env d (sem L.env Mf) (.func (.func 124) [] []) [.nilslice] H = some (.nilslice,H,[]):=
 a05 (by kernel_rfl) (by kernel_rfl) rfl rfl c8d rfl
theorem b5c {d:Bool} {H:a06} {b n:Nat} {rows:List (List AV)} (hf:FlatR rows) (hb:a04 H b = some (.row 2 rows)):a0e L.env d (sem L.env Mf) (.func (.func 124) [] []) [.slice b 0 n none] H = some (.slice b 0 n (some n),H,[b]):=by
 have h:=a1y (E:=L.env) (draw:=d) (call:=sem L.env Mf) (g:=124) (fs:=[]) (cs:=[]) (ar:=[.slice b 0 n none]) (H:=H) (b:=b) (by kernel_rfl) (by kernel_rfl) rfl hb (a0t hf) (FlatO.row hf) rfl (args':=[AV.slice 0 0 n none]) (by simp only [List.nil_append,List.append_nil,List.map_cons,List.map_nil,a59]) (d2o n rows hf) (FlatO.row hf) (b3p b 0 _ n _)
 rw [c0z hb] at h
 exact h
theorem c7z (c:Cir) (h:c.wf):∃ r:AV × a06,(∃ fo,FoOk c.nodes c.nodes.length 0 fo ∧ r = (AV.islice ((foE fo).mapIdx fun j f=>[slF (cpT fo c.nodes.length j) f]) (some c.nodes.length),[])) ∧ sem L.env Mf 141 [.agg c.enc] [] = some r:=by
 have hn:=h.len
 have hou:=fun H=>a7u (d:=false) H c
 have hrm:c.nodes.length ≤ 1000000000:=by omega
 have hov:refs (c3d c) = []:=rfl
 have hor:∀ π,ren π (c3d c) = c3d c:=fun π=>a2b π _ rfl
 have ho1:=fun H m hm=>b7w (d:=false) H c m hm
 generalize hO:c3d c = O at hou hov hor ho1
 simp only [Cir.enc] at hou ⊢
 (refine svE Tryz.f141 ?_;simp only [Tryz.f141,gS])
 (repeat first|simp only [ww]|(apply xa;simp +decide only [go_sem,hou,hrm];rfl;kernel_rfl))
 refine a24 kp141_0 (J0 c) (c.nodes.length - 0) ?_ ?_
 ·refine a5w (c9w _ c.nodes.length 1 rfl) ?_ (by rw [a5q];simp;omega) ?_
  ·exact .inl (by simp +decide only [go_sem,hov])
  ·intro π b' ids' H1 hb hT
   refine ⟨0,b',ids',_,rfl,Nat.zero_le _,?_,hT,FoOk.zero _⟩
   simp +decide only [go_sem,hb,hor,hO]<;>rfl
 ·rintro n F H ⟨i,b,ids,fo,rfl,hi,rfl,hT,hF⟩
  by_cases hlt:i < c.nodes.length
  ·obtain ⟨x,hx⟩:∃ x,c.nodes[i]? = some x:=⟨_,z9e hlt⟩
   have c1:(i:Int) < c.nodes.length:=by omega
   have hw:=wI1 (n:=i) (by omega)
   have hbl:=a0k hT.top
   have hxi:=a2g hx
   rw [hO]
   (repeat first|simp only [ww]|(apply xa;simp +decide only [go_sem,c1,hlt,hx,hw,a4q,a78,b22,b7h,a7x];rfl;kernel_rfl))
   refine a24 kp141_2 (J2 c i x) (x.ins.length - 0) ?_ ?_
   ·refine a5w (hT.more) ?_ (by rw [a5q,hF.len];omega) ?_
    ·exact .inl (by simp +decide only [go_sem,hov])
    ·intro π b' ids' H1 hb hT
     refine ⟨0,b',ids',_,rfl,Nat.zero_le _,?_,hT,hF⟩
     simp +decide only [go_sem,hb,hor,hO]<;>rfl
   ·rintro n F H ⟨k,b,ids,fo,rfl,hk,rfl,hT,hF⟩
    rw [hO]
    by_cases hkl:k < x.ins.length
    ·obtain ⟨m,hm⟩:∃ m,x.ins[k]? = some m:=⟨_,z9e hkl⟩
     have hmn:=h.ins x (List.mem_of_getElem? hx) m (List.mem_of_getElem? hm)
     have hom:=fun H=>ho1 H m hmn
     have c2:(k:Int) < x.ins.length:=by omega
     have hil:=h.insl (List.mem_of_getElem? hx)
     have hw2:=wI1 (n:=k) (by omega)
     have hbl:=a0k hT.top
     have htop:=hT.top
     have hmf:m < fo.length:=by rw [hF.len];exact hmn
     obtain ⟨L,hL⟩:∃ L,fo[m]? = some L:=⟨_,z9e hmf⟩
     have hget:=b27 (ids:=ids) (cp:=fun _=>none) (a7a hL)
     have hstep:=hF.step (by rw [hxi];exact hm) hL
     have hrl:(a5l ids (fun _=>none) (foE fo)).length = c.nodes.length:=by rw [a6l,a5q,hF.len]
     cases L with
     | nil=>
      simp only [List.map_nil,slV] at hget
      (repeat first|simp only [ww]|(apply xa;simp +decide only [go_sem,c2,hkl,hm,hw2,hom,hbl,htop,hmn,hget,a4q,a78,a55,b22,b7h,c5f,a7x,b69,List.append_assoc,List.cons_append,List.nil_append,hrl];rfl;kernel_rfl))
      refine a12 (x.ins.length - (k + 1)) (by omega) ?_
      have hT2:=hT.app1 (o:=some (.row 2 [a7z (i,k)])) (x:=a7z (i,k)) (a7a hL) rfl rfl
      have e2:(foE fo).set m [a7z (i,k)] = foE (fo.set m ([] ++ [(i,k)])):=c7t fo m [] i k
      rw [e2] at hT2
      refine a5w hT2 ?_ (by rw [a5q,List.length_set,hF.len];omega) ?_
      ·exact .inl (by simp +decide only [go_sem,hov])
      ·intro π b' ids' H1 hb hT
       refine ⟨k + 1,b',ids',_,rfl,hkl,?_,hT,hstep⟩
       simp +decide only [go_sem,hb,hor,hO]<;>rfl
     | cons a r=>
      simp only [List.map_cons,slV] at hget
      have hsub:=hT.sub m _ (a7a hL) (by simp)
      obtain ⟨s1,s2⟩:=hsub
      have s3:=a0k s1
      simp only [List.map_cons] at s1
      have hLl:r.length + 1 + 1 ≤ 1000000000:=by
       have:=hF.total hL (h.len) (fun y hy=>h.insl hy)
       simp only [List.length_cons] at this;omega
      (repeat first|simp only [ww]|(apply xa;simp +decide only [go_sem,c2,hkl,hm,hw2,hom,hbl,htop,hmn,hget,a4q,a78,a55,c3s,List.length_set,s1,s2,s3,hLl,b22,b7h,c5f,a7x,b69,List.append_assoc,List.cons_append,List.nil_append,hrl];rfl;kernel_rfl))
      refine a12 (x.ins.length - (k + 1)) (by omega) ?_
      have hT2:=hT.app2 (o:=some (.row 2 [a7z (i,k)])) (x:=a7z (i,k)) (a7a hL) rfl rfl
      have e2:(foE fo).set m (a7z a :: List.map a7z r ++ [a7z (i,k)]) = foE (fo.set m (a :: r ++ [(i,k)])):=c7t fo m (a :: r) i k
      rw [e2] at hT2
      rw [List.length_map] at hT2
      refine a5w hT2 ?_ (by rw [a5q,List.length_set,hF.len];omega) ?_
      ·exact .inl (by simp +decide only [go_sem,hov])
      ·intro π b' ids' H1 hb hT
       refine ⟨k + 1,b',ids',_,rfl,hkl,?_,hT,hstep⟩
       simp +decide only [go_sem,hb,hor,hO]<;>rfl
    ·obtain rfl:k = x.ins.length:=by omega
     have c2:¬ (x.ins.length:Int) < x.ins.length:=by omega
     (repeat first|simp only [ww]|(apply xa;simp +decide only [go_sem,c2,hw];rfl;kernel_rfl))
     refine a12 (c.nodes.length - (i + 1)) (by omega) ?_
     refine a5w hT ?_ (by rw [a5q,hF.len];omega) ?_
     ·exact .inl (by simp +decide only [go_sem,hov])
     ·intro π b' ids' H1 hb hT
      refine ⟨i + 1,b',ids',_,rfl,by omega,?_,hT,hF.next (by rw [hxi])⟩
      simp +decide only [go_sem,hb,hor,hO]<;>rfl
  ·obtain rfl:i = c.nodes.length:=by omega
   have c1:¬ (c.nodes.length:Int) < c.nodes.length:=by omega
   rw [hO]
   (repeat first|simp only [ww]|(apply xa;simp +decide only [go_sem,c1];rfl;kernel_rfl))
   refine a24 kp141_4 (J4 c fo) (c.nodes.length - 0) ?_ ?_
   ·refine a5w hT ?_ (by rw [a5q,hF.len];omega) ?_
    ·exact .inr (by simp +decide only [go_sem,hov])
    ·intro π b' ids' H1 hb hT
     refine ⟨0,b',ids',rfl,Nat.zero_le _,?_,by rw [d2e];exact hT⟩
     simp +decide only [go_sem,hb,hor,hO]<;>rfl
   ·rintro n F H ⟨t,b,ids,rfl,ht,rfl,hT⟩
    by_cases htl:t < c.nodes.length
    ·have c2:(t:Int) < c.nodes.length:=by omega
     have hw2:=wI1 (n:=t) (by omega)
     have hbl:=a0k hT.top
     have htop:=hT.top
     obtain ⟨L,hL⟩:∃ L,fo[t]? = some L:=⟨_,z9e (by rw [hF.len];exact htl)⟩
     have hget:=b27 (ids:=ids) (cp:=cpT fo t) (a7a hL)
     have hct:cpT fo t t = none:=by simp [cpT]
     have hrl:(a5l ids (cpT fo t) (foE fo)).length = c.nodes.length:=by rw [a6l,a5q,hF.len]
     rw [hct] at hget
     have hfin:∀ H1,H1 = H.set b (some (.row 1 ((a5l ids (cpT fo t) (foE fo)).set t [slV (ids t) (some L.length) (L.map a7z)]))) → Two H1 b 2 ids (cpT fo (t + 1)) (foE fo):=by
      intro H1 hH1
      have:=hT.clip (H1:=H1) (a7a hL) (by rw [hH1,b15 hbl]) (fun c hc=>by rw [hH1,a33 (Ne.symm hc)])
      rwa [d2f hL] at this
     cases L with
     | nil=>
      simp only [List.map_nil,slV] at hget
      have hcl:=fun H=>b3g (d:=false) H
      (repeat first|simp only [ww]|(apply xa;simp +decide only [go_sem,c2,htl,hw2,hbl,htop,hget,hcl,hrl,List.length_set];rfl;kernel_rfl))
      refine a12 (c.nodes.length - (t + 1)) (by omega) ?_
      refine a5w (hfin _ rfl) ?_ (by rw [a5q,hF.len];omega) ?_
      ·exact .inr (by simp +decide only [go_sem,hov])
      ·intro π b' ids' H1 hb hT
       refine ⟨t + 1,b',ids',rfl,by omega,?_,hT⟩
       simp +decide only [go_sem,hb,hor,hO]<;>rfl
     | cons a r=>
      simp only [List.map_cons,slV] at hget
      obtain ⟨s1,s2⟩:=hT.sub t _ (a7a hL) (by simp)
      have hcl:=b5c (d:=false) (H:=H) (b:=ids t) (n:=r.length + 1) (hT.flat _ (List.mem_of_getElem? (a7a hL))) s1
      (repeat first|simp only [ww]|(apply xa;simp +decide only [go_sem,c2,htl,hw2,hbl,htop,hget,hcl,hrl,List.length_set];rfl;kernel_rfl))
      refine a12 (c.nodes.length - (t + 1)) (by omega) ?_
      refine a5w (hfin _ (by simp only [List.map_cons,slV,List.length_map,List.length_cons])) ?_ (by rw [a5q,hF.len];omega) ?_
      ·exact .inr (by simp +decide only [go_sem,hov])
      ·intro π b' ids' H1 hb hT
       refine ⟨t + 1,b',ids',rfl,by omega,?_,hT⟩
       simp +decide only [go_sem,hb,hor,hO]<;>rfl
    ·obtain rfl:t = c.nodes.length:=by omega
     have c2:¬ (c.nodes.length:Int) < c.nodes.length:=by omega
     have hz:=hT.frz (some c.nodes.length)
     rw [a5q,hF.len] at hz
     (repeat first|simp only [ww]|(apply xa;simp +decide only [go_sem,c2];rfl;kernel_rfl))
     refine a5v (vs:=[.slice b 0 c.nodes.length (some c.nodes.length)]) (r:=(_,[])) (by simp +decide only [go_sem]) ?_ ⟨fo,hF,rfl⟩
     show a2a false 0 (.slice b 0 c.nodes.length (some c.nodes.length)) H = _
     rw [a87,hz]
     rfl
def foR (c:Cir) (fo:List (List (Nat × Nat))):List (List AV):=(foE fo).mapIdx fun j f=>[slF (cpT fo c.nodes.length j) f]
theorem d7c {c:Cir} {fo:List (List (Nat × Nat))} {j:Nat} {L:List (Nat × Nat)} (h:fo[j]? = some L) (hj:j < c.nodes.length):(foR c fo)[j]? = some [slF (some L.length) (L.map a7z)]:=by
 unfold foR
 rw [List.getElem?_mapIdx,a7a h]
 simp [cpT,hj,h]
theorem c0g (c:Cir) (h:c.wf):∃ fo,FoOk c.nodes c.nodes.length 0 fo ∧ ∀ (d:Bool) (H:a06),a0e L.env d (sem L.env Mf) (.func (.func 141) [] []) [.agg c.enc] H = some (.islice (foR c fo) (some c.nodes.length),H,[]):=by
 obtain ⟨r,⟨fo,h1,rfl⟩,h2⟩:=c7z c h
 exact ⟨fo,h1,fun d H=>a05 (by kernel_rfl) (by kernel_rfl) rfl (a3w c) h2 rfl⟩
def kcb (c:Cir):Option AObj:=some (.row 4 [[sl c.nc (c.nodes.map Nd.enc),sl c.mc (c.names.map a44),.nilslice,sl c.oc (c.outs.map a0n)]])
attribute [go_sem] kcb
def JL2 (c:Cir) (fo:List (List (Nat × Nat))) (n:Nat) (F:Frm) (H:a06):Prop:=∃ (out left ready:List Nat) (done:Nat),n = c.nodes.length - done ∧
 F = [(1,.ptr 0 0 0),(5,.slice 1 0 c.nodes.length (some c.nodes.length)),(6,.slice 2 0 c.nodes.length (some c.nodes.length)),(7,grV 3 (ready.map a0n)),(10,.islice (foR c fo) (some c.nodes.length)),(11,.int .i64 done)] ∧
 H = [kcb c,some (.row 1 (out.map a0n)),some (.row 1 (left.map a0n))] ++ grH 1 (ready.map a0n) ∧ Kahn c.nodes left ready done [] ∧ out.length = c.nodes.length ∧ (∀ v ∈ out,v ≤ 300 * done) ∧ Lev c.nodes out ready done []
def JL4 (c:Cir) (fo:List (List (Nat × Nat))) (done x:Nat) (L:List (Nat × Nat)) (n:Nat) (F:Frm) (H:a06):Prop:=∃ (out left ready:List Nat) (q:Nat),n = L.length - q ∧ q ≤ L.length ∧
 F = [(1,.ptr 0 0 0),(5,.slice 1 0 c.nodes.length (some c.nodes.length)),(6,.slice 2 0 c.nodes.length (some c.nodes.length)),(7,grV 3 (ready.map a0n)),(10,.islice (foR c fo) (some c.nodes.length)),(11,.int .i64 (done + 1:Nat)),(12,.int .i64 x),(76,.islice (L.map a7z) (some L.length)),(77,.int .i64 L.length),(78,.int .i64 q)] ∧
 H = [kcb c,some (.row 1 (out.map a0n)),some (.row 1 (left.map a0n))] ++ grH 1 (ready.map a0n) ∧ Kahn c.nodes left ready done (L.take q) ∧ ready[done]? = some x ∧ out.length = c.nodes.length ∧ (∀ v ∈ out,v ≤ 300 * done + q) ∧ Lev c.nodes out ready done (L.take q)
theorem e8e (n:Nat):List.replicate n [AV.int .i64 0] = (List.replicate n 0).map a0n:=by rw [List.map_replicate];rfl
theorem d32 (a b:Nat):d33 (.int .i64 a) [.int .i64 (b:Int)] = some (.int .i64 ((max a b:Nat):Int)):=by
 simp only [d33]
 by_cases h:(b:Int) > a
 ·rw [if_pos h];congr 2;omega
 ·rw [if_neg h];congr 2;omega
theorem c6v (c:Cir) (h:c.wf):∃ r:AV × a06,(∃ lv:List Nat,lv.length = c.nodes.length ∧ (∀ v ∈ lv,v ≤ 100000) ∧ Rises c.nodes lv ∧ r = (.tuple [.islice (lv.map a0n) (some c.nodes.length),.int .i64 0],[])) ∧ sem L.env Mf 103 [.agg c.enc] [] = some r:=by
 have hn:=h.len
 obtain ⟨fo,hfo,hfc⟩:=c0g c h
 have hfc:=hfc false
 have hsh:=fun H=>c2z (d:=false) H c h
 have hrm:c.nodes.length ≤ 1000000000:=by omega
 have hko:a0v (kcb c) = []:=by simp only [go_sem]
 simp only [Cir.enc] at hfc hsh ⊢
 (refine svE Tryz.f103 ?_;simp only [Tryz.f103,gS])
 (repeat first|simp only [ww]|(apply xa;simp +decide only [go_sem,hsh,hrm];rfl;kernel_rfl))
 refine a0l (σ:=Nat) kp103_0 (fun i=>[(1,.ptr 0 0 0),(5,.slice 1 0 c.nodes.length (some c.nodes.length)),(6,.slice 2 0 c.nodes.length (some c.nodes.length)),(7,grV 3 ((a3j c.nodes i).map a0n)),(29,sl c.nc (c.nodes.map Nd.enc)),(30,.int .i64 c.nodes.length),(31,.int .i64 i)])
  (fun i=>[kcb c,some (.row 1 ((List.replicate c.nodes.length 0).map a0n)),some (.row 1 ((a2z c.nodes i).map a0n))] ++ grH 1 ((a3j c.nodes i).map a0n)) (fun i=>c.nodes.length - i) (fun i=>i ≤ c.nodes.length) 0 ?_ (Nat.zero_le _) ?_
 ·rw [c06,show a3j c.nodes 0 = [] from rfl]
  (simp +decide only [go_sem,a02,a00,e8e,List.map_nil,a0q,a0r,a1s,a2q]<;>rfl)
 ·intro i hi
  by_cases hlt:i < c.nodes.length
  ·obtain ⟨x,hx⟩:∃ x,c.nodes[i]? = some x:=⟨_,z9e hlt⟩
   have c1:(i:Int) < c.nodes.length:=by omega
   have hw:=wI1 (n:=i) (by omega)
   have k14:=h.kind x (List.mem_of_getElem? hx)
   have hcb:=fun H=>b8q (d:=false) H x.kind (by omega)
   have hll:(a2z c.nodes i).length = c.nodes.length:=by simp [a2z]
   have hgl:(a2z c.nodes i)[i]? = some 0:=by rw [a5b hlt];simp
   have hrl:=c34 c.nodes i
   have hrs:=b7r c.nodes i
   have hset:=b2q hlt
   have hgl2:(a2z c.nodes (i + 1))[i]? = some (b0b c.nodes i):=by rw [a5b hlt];simp
   have hnd:b0b c.nodes i = if a1v x.kind = true then x.ins.length else 0:=by unfold b0b;rw [a1k hx,a2g hx]
   have hsetR:((a2z c.nodes i).map a0n).set i [AV.int .i64 (b0b c.nodes i)] = (a2z c.nodes (i + 1)).map a0n:=by rw [← hset,List.map_set];rfl
   by_cases hcm:a1v x.kind = true
   ·rw [if_pos hcm] at hnd
    rw [hnd] at hsetR hgl2 hrs
    by_cases hz:x.ins.length = 0
    ·rw [if_pos hz] at hrs
     have hz':(x.ins.length:Int) = 0:=by omega
     rw [hz] at hsetR hgl2
     generalize a3j c.nodes i = l at hrl hrs
     cases l with
     | nil=>
      (repeat first|simp only [ww]|(apply xa;simp +decide only [go_sem,c1,hlt,hx,hw,hcb,hcm,hll,hgl,hsetR,hgl2,hz,List.map_nil,a0q,a0r];rfl;kernel_rfl))
      refine a1m (i + 1) ?_ (by omega) (by omega)
      rw [hrs]
      (simp +decide only [go_sem,a02,a00,List.map_nil,List.nil_append,List.map_cons,a0a,a0b,List.length_nil,a1s,a2q]<;>rfl)
     | cons a r=>
      simp only [List.length_cons] at hrl
      have hrm2:r.length + 1 + 1 ≤ 1000000000:=by omega
      (repeat first|simp only [ww]|(apply xa;simp +decide only [go_sem,c1,hlt,hx,hw,hcb,hcm,hll,hgl,hsetR,hgl2,hz,List.map_cons,a0a,a0b,hrm2,List.length_cons];rfl;kernel_rfl))
      refine a1m (i + 1) ?_ (by omega) (by omega)
      rw [hrs]
      (simp +decide only [go_sem,a02,a00,List.cons_append,List.map_cons,a0a,a0b,a1s,a2q,List.length_cons]<;>rfl)
    ·rw [if_neg hz] at hrs
     have hz':¬ (x.ins.length:Int) = 0:=by omega
     generalize a3j c.nodes i = l at hrl hrs
     cases l with
     | nil=>
      (repeat first|simp only [ww]|(apply xa;simp +decide only [go_sem,c1,hlt,hx,hw,hcb,hcm,hll,hgl,hsetR,hgl2,hz',List.map_nil,a0q,a0r];rfl;kernel_rfl))
      refine a1m (i + 1) ?_ (by omega) (by omega)
      rw [hrs]
      (simp +decide only [go_sem,a02,a00,List.map_nil,a0q,a0r,a1s,a2q]<;>rfl)
     | cons a r=>
      (repeat first|simp only [ww]|(apply xa;simp +decide only [go_sem,c1,hlt,hx,hw,hcb,hcm,hll,hgl,hsetR,hgl2,hz',List.map_cons,a0a,a0b];rfl;kernel_rfl))
      refine a1m (i + 1) ?_ (by omega) (by omega)
      rw [hrs]
      (simp +decide only [go_sem,a02,a00,List.map_cons,a0a,a0b,a1s,a2q]<;>rfl)
   ·have hcm:a1v x.kind = false:=by simpa using hcm
    rw [hcm] at hnd
    have hnd:b0b c.nodes i = 0:=hnd
    rw [hnd,if_pos rfl] at hrs
    have hsame:=c07 hlt hnd
    ·
     generalize a3j c.nodes i = l at hrl hrs
     cases l with
     | nil=>
      (repeat first|simp only [ww]|(apply xa;simp +decide only [go_sem,c1,hlt,hx,hw,hcb,hcm,hll,hgl,List.map_nil,a0q,a0r];rfl;kernel_rfl))
      refine a1m (i + 1) ?_ (by omega) (by omega)
      rw [hrs,← hsame]
      (simp +decide only [go_sem,a02,a00,List.map_nil,List.nil_append,List.map_cons,a0a,a0b,List.length_nil,a1s,a2q]<;>rfl)
     | cons a r=>
      simp only [List.length_cons] at hrl
      have hrm2:r.length + 1 + 1 ≤ 1000000000:=by omega
      (repeat first|simp only [ww]|(apply xa;simp +decide only [go_sem,c1,hlt,hx,hw,hcb,hcm,hll,hgl,List.map_cons,a0a,a0b,hrm2,List.length_cons];rfl;kernel_rfl))
      refine a1m (i + 1) ?_ (by omega) (by omega)
      rw [hrs,← hsame]
      (simp +decide only [go_sem,a02,a00,List.cons_append,List.map_cons,a0a,a0b,a1s,a2q,List.length_cons]<;>rfl)
  ·obtain rfl:i = c.nodes.length:=by omega
   have c1:¬ (c.nodes.length:Int) < c.nodes.length:=by omega
   have hK:=Kahn.start c.nodes
   generalize a3j c.nodes c.nodes.length = ready at hK
   generalize a2z c.nodes c.nodes.length = left at hK
   (repeat first|simp only [ww]|(apply xa;simp +decide only [go_sem,c1,hfc];rfl;kernel_rfl))
   refine a24 kp103_2 (JL2 c fo) (c.nodes.length - 0) ?_ ?_
   ·refine ⟨_,_,?_,List.replicate c.nodes.length 0,left,ready,0,rfl,rfl,rfl,hK,by simp,by simp,Lev.start _ _ _⟩
    cases ready with
    | nil=>(simp +decide only [go_sem,a02,a00,List.map_nil,a0q,a0r,a1s,a2q]<;>rfl)
    | cons a r=>(simp +decide only [go_sem,a02,a00,List.map_cons,a0a,a0b,a1s,a2q]<;>rfl)
   ·rintro n F H ⟨out,left,ready,done,rfl,rfl,rfl,hK,hol,hob,hV⟩
    have hne:ready ≠ []:=by
     rintro rfl
     have hd0:done = 0:=by have:=hK.dle;simpa using this
     subst hd0
     have h1:c.nodes.length ≤ 0:=hK.all h.acyc
     have h2:=h.pos
     omega
    have hbd:=hK.bound
    have hdl:=hK.dle
    have hneE:ready.map a0n ≠ []:=by simpa using hne
    rw [a82 3 hneE,a83 1 hneE,List.length_map]
    have hwd:=wI1 (n:=done) (by omega)
    have hll:=hK.ll
    by_cases hlt:done < ready.length
    ·obtain ⟨x,hx⟩:∃ x,ready[done]? = some x:=⟨_,z9e hlt⟩
     have hxn:=hK.rn x (List.mem_of_getElem? hx)
     have c1:(done:Int) < ready.length:=by omega
     obtain ⟨L,hL⟩:∃ L,fo[x]? = some L:=⟨_,z9e (by rw [hfo.len];exact hxn)⟩
     have hLn:=hfo.node hL (Nat.le_refl _)
     have hLt:=hfo.total hL hn (fun y hy=>h.insl hy)
     have hLc:∀ a,a < c.nodes.length → cnt L a = (a31 c.nodes a).count x:=fun a ha=>by rw [hfo.num x L hL a,if_pos ha]
     have hg:=d7c hL hxn
     cases hLL:L with
     | nil=>
      subst hLL
      simp only [List.map_nil,slF] at hg
      (repeat first|simp only [ww]|(apply xa;simp +decide only [go_sem,c1,hlt,hx,hwd,hg];rfl;kernel_rfl))
      refine a12 (c.nodes.length - (done + 1)) (by omega) ⟨_,_,?_,out,left,ready,done + 1,rfl,rfl,rfl,hK.next hx hLc,hol,fun v hv=>by have:=hob v hv;omega,hV.next hx hLc⟩
      rw [a82 3 hneE,a83 1 hneE]
      (simp +decide only [go_sem,a02,a00,a1s,a2q]<;>rfl)
     | cons l0 lr=>
      rw [hLL] at hg
      simp only [List.map_cons,slF] at hg
      rw [← List.map_cons,← hLL] at hg
      have hLp:L.length ≠ 0:=by rw [hLL];simp
      have hLi:¬ (L.length:Int) = 0:=by omega
      have hLl:(L.map a7z).length = L.length:=List.length_map ..
      (repeat first|simp only [ww]|(apply xa;simp +decide only [go_sem,c1,hlt,hx,hwd,hg,hLi,hLl];rfl;kernel_rfl))
      refine a24 kp103_4 (JL4 c fo done x L) (L.length - 0) ?_ ?_
      ·refine ⟨_,_,?_,out,left,ready,0,rfl,Nat.zero_le _,rfl,rfl,by rw [List.take_zero];exact hK,hx,hol,fun v hv=>by have:=hob v hv;omega,by rw [List.take_zero];exact hV⟩
       rw [a82 3 hneE,a83 1 hneE]
       (simp +decide only [go_sem,a02,a00,a1s,a2q]<;>rfl)<;>rfl
      ·clear hK hbd hdl hneE hll hob hol hx hlt c1 hne hV
       rintro n F H ⟨out,left,ready,q,rfl,hq,rfl,rfl,hK,hx,hol,hob,hV⟩
       have hbd:=hK.bound
       have hdlt:=(List.getElem?_eq_some_iff.1 hx).1
       have hne:ready ≠ []:=by rintro rfl;simp at hdlt
       have hneE:ready.map a0n ≠ []:=by simpa using hne
       rw [a82 3 hneE,a83 1 hneE,List.length_map]
       have hll:=hK.ll
       have hwq:=wI1 (n:=q) (by omega)
       by_cases hql:q < L.length
       ·obtain ⟨l,hl⟩:∃ l,L[q]? = some l:=⟨_,z9e hql⟩
        obtain ⟨a,p⟩:=l
        have han:a < c.nodes.length:=hLn (a,p) (List.mem_of_getElem? hl)
        obtain ⟨y,hy⟩:∃ y,c.nodes[a]? = some y:=⟨_,z9e han⟩
        have c2:(q:Int) < L.length:=by omega
        have k14:=h.kind y (List.mem_of_getElem? hy)
        have hcb:=fun H=>b8q (d:=false) H y.kind (by omega)
        have ht:=a15 hl
        have hlR:(L.map a7z)[q]? = some [.int .i64 a,.int .i64 p]:=by rw [List.getElem?_map,hl];rfl
        by_cases hcm:a1v y.kind = true
        ·have hkc:a1v (a1h c.nodes a) = true:=by rw [a1k hy];exact hcm
         have hcn:Pc.cnt (L.take q ++ [(a,p)]) a ≤ b77 c.nodes ready done a:=by
          refine Nat.le_trans ?_ (d6a hK.nd hx)
          rw [← hLc a han,← ht]
          unfold Pc.cnt
          exact List.Sublist.count_le _ ((List.take_sublist _ _).map _)
         have hps:=hK.pos han hkc hcn
         have hna:a ∉ ready:=fun hm=>by have:=(hK.zero a han).1 hm;omega
         have hdc:=hK.dec han hkc hcn
         rw [← ht] at hdc
         obtain ⟨va,hva⟩:∃ v,out[a]? = some v:=⟨_,z9e (by omega)⟩
         obtain ⟨vx,hvx⟩:∃ v,out[x]? = some v:=⟨_,z9e (by omega)⟩
         obtain ⟨w,hw⟩:∃ v,left[a]? = some v:=⟨_,z9e (by omega)⟩
         have hwD:left.getD a 0 = w:=by rw [List.getD,hw];rfl
         rw [hwD] at hps hdc
         have bx:=hob vx (List.mem_of_getElem? hvx)
         have ba:=hob va (List.mem_of_getElem? hva)
         have hw1:=wI1 (n:=vx) (by omega)
         have hw2:IntKind.i64.wrap ((w:Int) - 1) = ((w - 1:Nat):Int):=by
          have hwl:w ≤ 100000:=by
           have h1:=hK.eq a han hkc
           rw [hwD] at h1
           have h2:b77 c.nodes ready done a ≤ (a31 c.nodes a).length:=List.length_filter_le _ _
           rw [a2g hy] at h2
           have h3:=h.insl (List.mem_of_getElem? hy)
           omega
          rw [w64 (by omega) (by omega)];omega
         have hmx:d33 (.int .i64 va) [.int .i64 ((vx + 1:Nat):Int)] = some (.int .i64 ((max va (vx + 1):Nat):Int)):=d32 _ _
         have hsO:(out.map a0n).set a [AV.int .i64 ((max va (vx + 1):Nat):Int)] = (out.set a (max va (vx + 1))).map a0n:=by rw [List.map_set];rfl
         have hsL:(left.map a0n).set a [AV.int .i64 ((w - 1:Nat):Int)] = (left.set a (w - 1)).map a0n:=by rw [List.map_set];rfl
         have hgw:(left.set a (w - 1))[a]? = some (w - 1):=by rw [List.getElem?_set];simp;omega
         have hlo:(left.set a (w - 1)).length = c.nodes.length:=by rw [List.length_set];exact hll
         have hoO:(out.set a (max va (vx + 1))).length = c.nodes.length:=by rw [List.length_set];exact hol
         have hob2:∀ v ∈ out.set a (max va (vx + 1)),v ≤ 300 * done + (q + 1):=by
          intro v hv
          rcases List.mem_or_eq_of_mem_set hv with hv|rfl
          ·have:=hob v hv;omega
          ·omega
         have hdn:done < c.nodes.length:=by omega
         have han':a < left.length:=by omega
         have hxl:x < out.length:=by omega
         by_cases hz:w - 1 = 0
         ·rw [if_pos hz] at hdc
          have hz':decide (((w - 1:Nat):Int) = 0) = true:=decide_eq_true (by omega)
          have hrm2:ready.length + 1 ≤ 1000000000:=by omega
          have hx':(ready ++ [a])[done]? = some x:=by rw [List.getElem?_append_left hdlt];exact hx
          (repeat first|simp only [ww]|(apply xa;simp +decide only [go_sem,c2,hql,hlR,hy,hcb,hcm,hwq,han,hva,hvx,hw,hol,hll,hxn,hw1,hw2,hmx,hsO,hsL,hgw,hlo,hoO,hz',hrm2];rfl;kernel_rfl))
          refine a12 (L.length - (q + 1)) (by omega) ⟨_,_,?_,out.set a (max va (vx + 1)),left.set a (w - 1),ready ++ [a],q + 1,rfl,hql,rfl,rfl,hdc,hx',hoO,hob2,by rw [ht];exact hV.dec hx hna hva hvx (.inr rfl)⟩
          (simp +decide only [go_sem,a02,a00,b1s,b6c,a1s,a2q]<;>rfl)<;>rfl
         ·rw [if_neg hz] at hdc
          have hz':¬ ((w - 1:Nat):Int) = 0:=by omega
          (repeat first|simp only [ww]|(apply xa;simp +decide only [go_sem,c2,hql,hlR,hy,hcb,hcm,hwq,han,hva,hvx,hw,hol,hll,hxn,hw1,hw2,hmx,hsO,hsL,hgw,hlo,hoO,hz'];rfl;kernel_rfl))
          refine a12 (L.length - (q + 1)) (by omega) ⟨_,_,?_,out.set a (max va (vx + 1)),left.set a (w - 1),ready,q + 1,rfl,hql,rfl,rfl,hdc,hx,hoO,hob2,by rw [ht];exact hV.dec hx hna hva hvx (.inl rfl)⟩
          rw [a82 3 hneE,a83 1 hneE]
          (simp +decide only [go_sem,a02,a00,a1s,a2q]<;>rfl)<;>rfl
        ·have hcm:a1v y.kind = false:=by simpa using hcm
         (repeat first|simp only [ww]|(apply xa;simp +decide only [go_sem,c2,hql,hlR,hy,hcb,hcm,hwq,han];rfl;kernel_rfl))
         refine a12 (L.length - (q + 1)) (by omega) ⟨_,_,?_,out,left,ready,q + 1,rfl,hql,rfl,rfl,by rw [ht];exact hK.skip (by rw [a1k hy];exact hcm),hx,hol,fun v hv=>by have:=hob v hv;omega,by rw [ht];exact hV.skip (by rw [a1k hy];exact hcm)⟩
         rw [a82 3 hneE,a83 1 hneE]
         (simp +decide only [go_sem,a02,a00,a1s,a2q]<;>rfl)<;>rfl
       ·obtain rfl:q = L.length:=by omega
        have c2:¬ (L.length:Int) < L.length:=by omega
        rw [List.take_length] at hK hV
        (repeat first|simp only [ww]|(apply xa;simp +decide only [go_sem,c2];rfl;kernel_rfl))
        refine a12 (c.nodes.length - (done + 1)) (by omega) ⟨_,_,?_,out,left,ready,done + 1,rfl,rfl,rfl,hK.next hx hLc,hol,fun v hv=>by have:=hob v hv;omega,hV.next hx hLc⟩
        rw [a82 3 hneE,a83 1 hneE]
        (simp +decide only [go_sem,a02,a00,a1s,a2q]<;>rfl)<;>rfl
    ·obtain rfl:done = ready.length:=by omega
     have c1:¬ (ready.length:Int) < ready.length:=by omega
     have hall:=hK.all h.acyc
     have c2:¬ (ready.length:Int) < c.nodes.length:=by omega
     (repeat first|simp only [ww]|(apply xa;simp +decide only [go_sem,c1,c2];rfl;kernel_rfl))
     refine a4s (vs:=[.slice 1 0 c.nodes.length (some c.nodes.length),.int .i64 0]) (r:=(_,[])) (by simp +decide only [go_sem]) ?_ ⟨out,hol,fun v hv=>by have:=hob v hv;omega,hV.all hK hall,rfl⟩
     show a2a false 0 (.tuple [.slice 1 0 c.nodes.length (some c.nodes.length),.int .i64 0]) _ = _
     rw [← hol]
     simp +decide only [go_sem,d7a]
theorem b2o (c:Cir) (h:c.wf):∃ lv:List Nat,lv.length = c.nodes.length ∧ (∀ v ∈ lv,v ≤ 100000) ∧ Rises c.nodes lv ∧ ∀ (d:Bool) (H:a06),a0e L.env d (sem L.env Mf) (.func (.func 103) [] []) [.agg c.enc] H = some (.tuple [.islice (lv.map a0n) (some c.nodes.length),.int .i64 0],H,[]):=by
 obtain ⟨r,⟨lv,h1,h2,hR,rfl⟩,h3⟩:=c6v c h
 exact ⟨lv,h1,h2,hR,fun d H=>a05 (by kernel_rfl) (by kernel_rfl) rfl (a3w c) h3 rfl⟩
theorem c6k (c:Cir) (h:c.wf):sem L.env Mf 101 [.agg c.enc] [] = some (.int .i64 0,[]):=by
 obtain ⟨lv,_,_,_,hc⟩:=b2o c h
 have hc:=hc false
 simp only [Cir.enc] at hc ⊢
 (refine sv Tryz.f101 ?_;simp only [Tryz.f101,gS])
 (repeat first|simp only [ww]|(apply xa;simp +decide only [go_sem,hc];rfl;kernel_rfl))
 (apply fqb;simp +decide only [go_sem]<;>rfl)
theorem b2j {d:Bool} (H:a06) (c:Cir) (h:c.wf):a0e L.env d (sem L.env Mf) (.func (.func 101) [] []) [.agg c.enc] H = some (.int .i64 0,H,[]):=
 a05 (by kernel_rfl) (by kernel_rfl) rfl (a3w c) (c6k c h) rfl
theorem d1g (i:Int):sem L.env Mf 139 [.int .i64 i] [] = some (.bool false,[]):=by
 (refine sv Tryz.f139 ?_;simp only [Tryz.f139,gS])
 (repeat first|simp only [ww]|(apply xa;simp +decide only [go_sem];rfl;kernel_rfl))
 (apply fqb;simp +decide only [go_sem]<;>rfl)
theorem c3o {d:Bool} (H:a06) (i:Int):a0e L.env d (sem L.env Mf) (.func (.func 139) [] []) [.int .i64 i] H = some (.bool false,H,[]):=
 a05 (by kernel_rfl) (by kernel_rfl) rfl rfl (d1g i) rfl
theorem c48 (a b:Nat):sem L.env Mf 106 [.int .i64 a,.int .i64 b] [] = some (.int .i64 (d4g a b),[]):=by
 have hn:=fun H i=>c3o (d:=false) H i
 unfold d4g
 by_cases h1:a < b
 ·have c1:(a:Int) < b:=by omega
  rw [if_pos h1]
  (refine sv Tryz.f106 ?_;simp only [Tryz.f106,gS])
  (repeat first|simp only [ww]|(apply xa;simp +decide only [go_sem,hn,c1];rfl;kernel_rfl))
  (apply fqb;simp +decide only [go_sem]<;>rfl)
 have c1:¬ (a:Int) < b:=by omega
 rw [if_neg h1]
 by_cases h2:b < a
 ·have c2:(b:Int) < a:=by omega
  rw [if_pos h2]
  (refine sv Tryz.f106 ?_;simp only [Tryz.f106,gS])
  (repeat first|simp only [ww]|(apply xa;simp +decide only [go_sem,hn,c1,c2];rfl;kernel_rfl))
  (apply fqb;simp +decide only [go_sem]<;>rfl)
 ·have c2:¬ (b:Int) < a:=by omega
  rw [if_neg h2]
  (refine sv Tryz.f106 ?_;simp only [Tryz.f106,gS])
  (repeat first|simp only [ww]|(apply xa;simp +decide only [go_sem,hn,c1,c2];rfl;kernel_rfl))
  (apply fqb;simp +decide only [go_sem]<;>rfl)
theorem b8p {d:Bool} (H:a06) (a b:Nat):a0e L.env d (sem L.env Mf) (.func (.func 106) [] []) [.int .i64 a,.int .i64 b] H = some (.int .i64 (d4g a b),H,[]):=
 a05 (by kernel_rfl) (by kernel_rfl) rfl rfl (c48 a b) rfl
def lvO (lv:List Nat):AObj:=.row 1 [[.islice (lv.map a0n) (some lv.length)]]
attribute [go_sem] lvO
theorem a3z (lv:List Nat):FlatR [[AV.islice (lv.map a0n) (some lv.length)]]:=FlatR.cons rfl FlatR.nil
theorem c6d (lv:List Nat) (x y vx vy:Nat) (hx:lv[x]? = some vx) (hy:lv[y]? = some vy):sem L.env Mf 105 [.int .i64 x,.int .i64 y,.ptr 0 0 0] [some (lvO lv)] = some (.int .i64 (d4g vx vy),[some (lvO lv)]):=by
 have hc:=fun H=>b8p (d:=true) H vx vy
 have h1:=(List.getElem?_eq_some_iff.1 hx).1
 have h2:=(List.getElem?_eq_some_iff.1 hy).1
 (refine sv Tryz.f105 ?_;simp only [Tryz.f105,gS])
 (repeat first|simp only [ww]|(apply xa;simp +decide only [go_sem,hc,hx,hy,h1,h2];rfl;kernel_rfl))
 (apply fqb;simp +decide only [go_sem]<;>rfl)
theorem b9z {d:Bool} {H:a06} {b:Nat} (lv:List Nat) (x y vx vy:Nat) (hx:lv[x]? = some vx) (hy:lv[y]? = some vy) (hb:a04 H b = some (lvO lv)):a0e L.env d (sem L.env Mf) (.func (.func 105) [] [.ptr b 0 0]) [.int .i64 x,.int .i64 y] H = some (.int .i64 (d4g vx vy),H,[b]):=
 a3f (fs:=[]) (cs:=[.ptr b 0 0]) (ar:=[.int .i64 x,.int .i64 y]) (by kernel_rfl) (by kernel_rfl) rfl hb (a0t (a3z lv)) (FlatO.row (a3z lv)) rfl (args':=[.int .i64 x,.int .i64 y,.ptr 0 0 0]) (by simp [ren,a50]) (c6d lv x y vx vy hx hy) rfl
def b1v:AV:=.func (.func 105) [] [.ptr 1 0 0]
def Srt (lv data:List Nat):Prop:=SortI (fun v=>lv.getD v 0) data data.length
def JI0 (lv d0:List Nat) (n:Nat) (F:Frm) (H:a06):Prop:=∃ (i:Nat) (data:List Nat),n = d0.length - i ∧ 1 ≤ i ∧
 F = [(0,.slice 0 0 d0.length (some d0.length)),(1,.int .i64 0),(2,.int .i64 d0.length),(3,b1v),(8,.int .i64 i)] ∧ H = [some (.row 1 (data.map a0n)),some (lvO lv)] ∧ data.Perm d0 ∧ SortI (fun v=>lv.getD v 0) data i
def JI2 (lv d0:List Nat) (i:Nat) (n:Nat) (F:Frm) (H:a06):Prop:=∃ (j:Nat) (data:List Nat),n = j ∧ j < d0.length ∧
 F = [(0,.slice 0 0 d0.length (some d0.length)),(1,.int .i64 0),(2,.int .i64 d0.length),(3,b1v),(8,.int .i64 i),(9,.int .i64 j)] ∧ H = [some (.row 1 (data.map a0n)),some (lvO lv)] ∧ data.Perm d0 ∧ j ≤ i ∧ SortJ (fun v=>lv.getD v 0) data i j
theorem b88 (lv d0:List Nat) (hl:d0.length ≤ 1000) (hd:∀ v ∈ d0,v < lv.length):∃ r:AV × a06,(∃ data:List Nat,data.Perm d0 ∧ Srt lv data ∧ r = (.tuple [],[some (.row 1 (data.map a0n)),some (lvO lv)])) ∧
 sem L.env Mf 165 [.slice 0 0 d0.length (some d0.length),.int .i64 0,.int .i64 d0.length,b1v] [some (.row 1 (d0.map a0n)),some (lvO lv)] = some r:=by
 unfold b1v
 (refine svE Tryz.f165 ?_;simp only [Tryz.f165,gS])
 (repeat first|simp only [ww]|(apply xa;simp +decide only [go_sem];rfl;kernel_rfl))
 refine a24 kp165_0 (JI0 lv d0) (d0.length - 1) ?_ ?_
 ·refine ⟨_,_,?_,1,d0,rfl,Nat.le_refl _,rfl,rfl,List.Perm.refl _,SortI.one⟩
  unfold b1v
  (simp +decide only [go_sem,a02,a00,a1s,a2q]<;>rfl)<;>rfl
 ·rintro n F H ⟨i,data,rfl,hi1,rfl,rfl,hp,hS⟩
  unfold b1v
  have hw:=wI1 (n:=i) 
  by_cases hlt:i < d0.length
  ·have c1:(i:Int) < d0.length:=by omega
   have hw:=wI1 (n:=i) (by omega)
   (repeat first|simp only [ww]|(apply xa;simp +decide only [go_sem,c1];rfl;kernel_rfl))
   refine a24 kp165_2 (JI2 lv d0 i) i ?_ ?_
   ·refine ⟨_,_,?_,i,data,rfl,hlt,rfl,rfl,hp,Nat.le_refl _,hS.start⟩
    unfold b1v
    (simp +decide only [go_sem,a02,a00,a1s,a2q]<;>rfl)<;>rfl
   ·rintro n F H ⟨j,data,rfl,hj,rfl,rfl,hp,hji,hS⟩
    unfold b1v
    have hlen:=hp.length_eq
    cases n with
    | zero=>
     (repeat first|simp only [ww]|(apply xa;simp +decide only [go_sem];rfl;kernel_rfl))
     refine a12 (d0.length - (i + 1)) (by omega) ⟨_,_,?_,i + 1,data,rfl,by omega,rfl,rfl,hp,hS.stop (.inl rfl)⟩
     unfold b1v
     (simp +decide only [go_sem,a02,a00,a1s,a2q,hw]<;>rfl)<;>rfl
    | succ j=>
     obtain ⟨x,hx⟩:∃ x,data[j + 1]? = some x:=⟨_,z9e (by omega)⟩
     obtain ⟨y,hy⟩:∃ y,data[j]? = some y:=⟨_,z9e (by omega)⟩
     obtain ⟨vx,hvx⟩:∃ v,lv[x]? = some v:=⟨_,z9e (hd x (hp.mem_iff.1 (List.mem_of_getElem? hx)))⟩
     obtain ⟨vy,hvy⟩:∃ v,lv[y]? = some v:=⟨_,z9e (hd y (hp.mem_iff.1 (List.mem_of_getElem? hy)))⟩
     have c0:(0:Int) < ((j + 1:Nat):Int):=by omega
     have hj1:j < d0.length:=by omega
     have hj2:j + 1 < data.length:=by omega
     have hj3:j < data.length:=by omega
     have hsub:IntKind.i64.wrap (((j + 1:Nat):Int) - 1) = (j:Int):=by rw [w64 (by omega) (by omega)];omega
     have hcall:=b9z (d:=true) (H:=[some (.row 1 (data.map a0n)),some (lvO lv)]) (b:=1) lv x y vx vy hvx hvy rfl
     simp only [lvO] at hcall
     have kx:lv.getD x 0 = vx:=by rw [List.getD,hvx];rfl
     have ky:lv.getD y 0 = vy:=by rw [List.getD,hvy];rfl
     by_cases hlt2:d4g vx vy < 0
     ·have hs1:(((data.map a0n).set (j + 1) [AV.int .i64 y]).set j [AV.int .i64 x]) = ((data.set (j + 1) y).set j x).map a0n:=by rw [List.map_set,List.map_set];rfl
      have hg2:((data.map a0n).set (j + 1) [AV.int .i64 y])[j]? = some [AV.int .i64 y]:=by rw [List.getElem?_set_ne (by omega),List.getElem?_map,hy];rfl
      (repeat first|simp only [ww]|(apply xa;simp +decide only [go_sem,c0,hj,hj1,hj2,hj3,hx,hy,hsub,hcall,hlt2,hlen,List.length_set,hs1,hg2];rfl;kernel_rfl))
      refine a12 j (by omega) ⟨_,_,?_,j,_,rfl,hj1,rfl,rfl,(c54 hx hy).trans hp,by omega,hS.swap hji hy hx (by show lv.getD x 0 < lv.getD y 0;rw [kx,ky];unfold d4g at hlt2;split at hlt2<;>first|assumption|(exfalso;split at hlt2<;>omega))⟩
      unfold b1v
      (simp +decide only [go_sem,a02,a00,a1s,a2q,hs1]<;>rfl)<;>rfl
     ·(repeat first|simp only [ww]|(apply xa;simp +decide only [go_sem,c0,hj,hj1,hj2,hj3,hx,hy,hsub,hcall,hlt2,hlen];rfl;kernel_rfl))
      refine a12 (d0.length - (i + 1)) (by omega) ⟨_,_,?_,i + 1,data,rfl,by omega,rfl,rfl,hp,hS.stop (.inr ⟨y,x,hy,hx,by show lv.getD y 0 ≤ lv.getD x 0;rw [kx,ky];unfold d4g at hlt2;split at hlt2<;>omega⟩)⟩
      unfold b1v
      (simp +decide only [go_sem,a02,a00,a1s,a2q,hw]<;>rfl)<;>rfl
  ·have c1:¬ (i:Int) < d0.length:=by omega
   (repeat first|simp only [ww]|(apply xa;simp +decide only [go_sem,c1];rfl;kernel_rfl))
   refine a5v (vs:=[]) (r:=(_,[_,_])) (by simp +decide only [go_sem]) ?_ ⟨data,hp,fun p q x y h1 h2=>hS p q x y h1 (by have:=hp.length_eq;omega),rfl⟩
   simp +decide only [go_sem,a2q]<;>rfl
def d08 (b:Nat):AV:=.func (.func 105) [] [.ptr b 0 0]
theorem a37 (l:List Nat):FlatR (l.map a0n):=FlatR.map fun _=>rfl
theorem b40 (lv d0:List Nat) (hl:d0.length ≤ 1000) (hd:∀ v ∈ d0,v < lv.length):∃ data:List Nat,data.Perm d0 ∧ Srt lv data ∧
 a0e L.env false (sem L.env Mf) (.func (.func 165) [] []) [.slice 0 0 d0.length (some d0.length),.int .i64 0,.int .i64 d0.length,b1v] [some (.row 1 (d0.map a0n)),some (lvO lv)] = some (.tuple [],[some (.row 1 (data.map a0n)),some (lvO lv)],[0,1]):=by
 obtain ⟨r,⟨data,hp,hS,rfl⟩,h⟩:=b88 lv d0 hl hd
 refine ⟨data,hp,hS,?_⟩
 exact b3i (a:=0) (b:=1) (fs:=[]) (cs:=[]) (ar:=[.slice 0 0 d0.length (some d0.length),.int .i64 0,.int .i64 d0.length,b1v]) (H:=[some (.row 1 (d0.map a0n)),some (lvO lv)]) (by kernel_rfl) (by kernel_rfl) rfl (by decide) rfl rfl (a0t (a37 d0)) (a0t (a3z lv)) (FlatO.row (a37 d0)) (FlatO.row (a3z lv)) rfl rfl h (FlatO.row (a37 data)) (FlatO.row (a3z lv)) rfl
theorem c5c (lv d0:List Nat) (hl:d0.length ≤ 19) (hd:∀ v ∈ d0,v < lv.length):∃ r:AV × a06,(∃ data:List Nat,data.Perm d0 ∧ Srt lv data ∧ r = (.tuple [],[some (.row 1 (data.map a0n)),some (lvO lv)])) ∧
 sem L.env Mf 142 [.slice 0 0 d0.length (some d0.length),.int .i64 d0.length,b1v] [some (.row 1 (d0.map a0n)),some (lvO lv)] = some r:=by
 obtain ⟨data,hp,hS,hc⟩:=b40 lv d0 (by omega) hd
 have c1:¬ (20:Int) ≤ d0.length:=by omega
 have c2:¬ (20:Int) < d0.length:=by omega
 unfold b1v at hc ⊢
 simp only [lvO] at hc ⊢
 (refine svE Tryz.f142 ?_;simp only [Tryz.f142,gS])
 (repeat first|simp only [ww]|(apply xa;simp +decide only [go_sem,c1];rfl;kernel_rfl))
 refine a0l (σ:=Nat) kp142_0 (fun i=>[(0,.slice 0 0 d0.length (some d0.length)),(1,.int .i64 d0.length),(2,b1v),(6,.int .i64 20),(7,.int .i64 0),(8,.int .i64 20)])
  (fun i=>[some (.row 1 (d0.map a0n)),some (.row 1 [[.islice (lv.map a0n) (some lv.length)]])]) (fun i=>0) (fun i=>True) 0 ?_ trivial ?_
 ·unfold b1v
  (simp +decide only [go_sem,a02,a00,a1s,a2q]<;>rfl)<;>rfl
 ·intro i _
  unfold b1v
  (repeat first|simp only [ww]|(apply xa;simp +decide only [go_sem,c1,hc];rfl;kernel_rfl))
  refine a0l (σ:=Nat) kp142_2 (fun i=>[(0,.slice 0 0 d0.length (some d0.length)),(1,.int .i64 d0.length),(2,b1v),(6,.int .i64 20)])
   (fun i=>[some (.row 1 (data.map a0n)),some (.row 1 [[.islice (lv.map a0n) (some lv.length)]])]) (fun i=>0) (fun i=>True) 0 ?_ trivial ?_
  ·unfold b1v
   (simp +decide only [go_sem,a02,a00,a1s,a2q]<;>rfl)<;>rfl
  ·intro i _
   unfold b1v
   (repeat first|simp only [ww]|(apply xa;simp +decide only [go_sem,c2];rfl;kernel_rfl))
   refine a5v (vs:=[]) (r:=(_,[_,_])) (by simp +decide only [go_sem]) ?_ ⟨data,hp,hS,rfl⟩
   simp +decide only [go_sem,a2q]<;>rfl
theorem b5m (lv d0:List Nat) (hl:d0.length ≤ 19) (hd:∀ v ∈ d0,v < lv.length):∃ r:AV × a06,(∃ data:List Nat,data.Perm d0 ∧ Srt lv data ∧ r = (.tuple [],[some (.row 1 (data.map a0n)),some (lvO lv)])) ∧
 sem L.env Mf 104 [.slice 0 0 d0.length (some d0.length),b1v] [some (.row 1 (d0.map a0n)),some (lvO lv)] = some r:=by
 obtain ⟨r,⟨data,hp,hS,rfl⟩,h⟩:=c5c lv d0 hl hd
 have hc:=b3i (E:=L.env) (draw:=false) (call:=sem L.env Mf) (g:=142) (a:=0) (b:=1) (fs:=[]) (cs:=[]) (ar:=[.slice 0 0 d0.length (some d0.length),.int .i64 d0.length,b1v]) (H:=[some (.row 1 (d0.map a0n)),some (lvO lv)]) (v':=.tuple []) (by kernel_rfl) (by kernel_rfl) rfl (by decide) rfl rfl (a0t (a37 d0)) (a0t (a3z lv)) (FlatO.row (a37 d0)) (FlatO.row (a3z lv)) rfl rfl h (FlatO.row (a37 data)) (FlatO.row (a3z lv)) rfl
 unfold b1v at hc ⊢
 simp only [lvO] at hc ⊢
 (refine svE Tryz.f104 ?_;simp only [Tryz.f104,gS])
 (repeat first|simp only [ww]|(apply xa;simp +decide only [go_sem,hc];rfl;kernel_rfl))
 refine a5v (vs:=[]) (r:=(_,[_,_])) (by simp +decide only [go_sem]) ?_ ⟨data,hp,hS,rfl⟩
 simp +decide only [go_sem,a2q]<;>rfl
theorem b21 (lv d0:List Nat) (hl:d0.length ≤ 19) (hd:∀ v ∈ d0,v < lv.length):∃ data:List Nat,data.Perm d0 ∧ Srt lv data ∧ ∀ (d:Bool) (H:a06) (a b:Nat),a ≠ b → a04 H a = some (.row 1 (d0.map a0n)) → a04 H b = some (lvO lv) →
 a0e L.env d (sem L.env Mf) (.func (.func 104) [] []) [.slice a 0 d0.length (some d0.length),d08 b] H = some (.tuple [],(H.set a (some (.row 1 (data.map a0n)))).set b (some (lvO lv)),[a,b]):=by
 obtain ⟨r,⟨data,hp,hS,rfl⟩,h⟩:=b5m lv d0 hl hd
 refine ⟨data,hp,hS,fun d H a b hab ha hb=>?_⟩
 exact b3i (a:=a) (b:=b) (fs:=[]) (cs:=[]) (ar:=[.slice a 0 d0.length (some d0.length),d08 b]) (H:=H) (by kernel_rfl) (by kernel_rfl) rfl hab ha hb (a0t (a37 d0)) (a0t (a3z lv)) (FlatO.row (a37 d0)) (FlatO.row (a3z lv)) rfl
  (by simp only [List.nil_append,List.append_nil,List.map_cons,List.map_nil,b9u,d08,c1e,c5u hab];rfl) h (FlatO.row (a37 data)) (FlatO.row (a3z lv)) rfl
theorem d0x (c:Cir) (h:c.wf):∃ r:AV × a06,(∃ ord:List Nat,ord.Perm (List.range c.nodes.length) ∧ e50 c.nodes ord ∧ r = (.tuple [.islice (ord.map a0n) (some c.nodes.length),.int .i64 0],[])) ∧ sem L.env Mf 61 [.agg c.enc] [] = some r:=by
 have hn:=h.len
 obtain ⟨lv,hlv,hlb,hR,hc⟩:=b2o c h
 have hc:=hc false
 have hrm:c.nodes.length ≤ 1000000000:=by omega
 obtain ⟨data,hp,hS,hs⟩:=b21 lv (List.range c.nodes.length) (by simp;omega) (fun v hv=>by rw [hlv];simpa using hv)
 have hdl:data.length = c.nodes.length:=by rw [hp.length_eq];simp
 rw [List.length_range] at hs
 simp only [Cir.enc] at hc ⊢
 (refine svE Tryz.f61 ?_;simp only [Tryz.f61,gS])
 (repeat first|simp only [ww]|(apply xa;simp +decide only [go_sem,hc,hrm];rfl;kernel_rfl))
 refine a0l (σ:=Nat) kp61_0 (fun i=>[(4,.ptr 0 0 0),(6,.slice 1 0 c.nodes.length (some c.nodes.length)),(21,.int .i64 c.nodes.length),(22,.int .i64 i)])
  (fun i=>[some (lvO lv),some (.row 1 ((List.range i ++ List.replicate (c.nodes.length - i) 0).map a0n))]) (fun i=>c.nodes.length - i) (fun i=>i ≤ c.nodes.length) 0 ?_ (Nat.zero_le _) ?_
 ·rw [lvO,hlv]
  (simp +decide only [go_sem,a02,a00,e8e,a1s,a2q,List.range_zero,List.nil_append,Nat.sub_zero]<;>rfl)<;>rfl
 ·intro i hi
  rw [lvO]
  by_cases hlt:i < c.nodes.length
  ·have c1:(i:Int) < c.nodes.length:=by omega
   have hw:=wI1 (n:=i) (by omega)
   have hln:(List.range i ++ List.replicate (c.nodes.length - i) 0).length = c.nodes.length:=by simp;omega
   have hg:(List.range i ++ List.replicate (c.nodes.length - i) 0)[i]? = some 0:=by rw [List.getElem?_append_right (by simp),List.length_range,Nat.sub_self,List.getElem?_replicate,if_pos (by omega)]
   have hst:((List.range i ++ List.replicate (c.nodes.length - i) 0).map a0n).set i [AV.int .i64 i] = (List.range (i + 1) ++ List.replicate (c.nodes.length - (i + 1)) 0).map a0n:=by
    have e:c.nodes.length - i = (c.nodes.length - (i + 1)) + 1:=by omega
    rw [e,List.replicate_succ]
    rw [show [AV.int IntKind.i64 (i:Int)] = a0n i from rfl,← List.map_set,List.set_append_right _ _ (by simp),List.range_succ,List.append_assoc]
    simp
   generalize hA:(List.range i ++ List.replicate (c.nodes.length - i) 0) = A at hln hg hst
   (repeat first|simp only [ww]|(apply xa;simp +decide only [go_sem,c1,hlt,hw,hln,hg,hst];rfl;kernel_rfl))
   refine a1m (i + 1) ?_ (by omega) (by omega)
   (simp +decide only [go_sem,a02,a00,a1s,a2q]<;>rfl)<;>rfl
  ·obtain rfl:i = c.nodes.length:=by omega
   have c1:¬ (c.nodes.length:Int) < c.nodes.length:=by omega
   rw [Nat.sub_self,List.replicate_zero,List.append_nil]
   have hs2:=hs false [some (lvO lv),some (.row 1 ((List.range c.nodes.length).map a0n))] 1 0 (by decide) rfl rfl
   simp only [lvO,d08] at hs2
   (repeat first|simp only [ww]|(apply xa;simp +decide only [go_sem,c1,hs2];rfl;kernel_rfl))
   refine a4s (vs:=[.slice 1 0 c.nodes.length (some c.nodes.length),.int .i64 0]) (r:=(_,[])) (by simp +decide only [go_sem]) ?_ ⟨data,hp,hR.topo hp hS.pairwise h.inAt,rfl⟩
   show a2a false 0 (.tuple [.slice 1 0 c.nodes.length (some c.nodes.length),.int .i64 0]) _ = _
   rw [← hdl]
   simp +decide only [go_sem,d7a]
theorem c3f (c:Cir) (h:c.wf):∃ ord:List Nat,ord.Perm (List.range c.nodes.length) ∧ e50 c.nodes ord ∧ ∀ (d:Bool) (H:a06),a0e L.env d (sem L.env Mf) (.func (.func 61) [] []) [.agg c.enc] H = some (.tuple [.islice (ord.map a0n) (some c.nodes.length),.int .i64 0],H,[]):=by
 obtain ⟨r,⟨ord,h1,h2,rfl⟩,h3⟩:=d0x c h
 exact ⟨ord,h1,h2,fun d H=>a05 (by kernel_rfl) (by kernel_rfl) rfl (a3w c) h3 rfl⟩
theorem c7n (c:Cir) (h:c.wf):sem L.env Mf 58 [.agg c.enc] [] = some (.int .i64 0,[]):=by
 have hc:=fun H=>b2j (d:=false) H c h
 simp only [Cir.enc] at hc ⊢
 (refine sv Tryz.f58 ?_;simp only [Tryz.f58,gS])
 (repeat first|simp only [ww]|(apply xa;simp +decide only [go_sem,hc];rfl;kernel_rfl))
 (apply fqb;simp +decide only [go_sem]<;>rfl)
theorem b32 {d:Bool} (H:a06) (c:Cir) (h:c.wf):a0e L.env d (sem L.env Mf) (.func (.func 58) [] []) [.agg c.enc] H = some (.int .i64 0,H,[]):=
 a05 (by kernel_rfl) (by kernel_rfl) rfl (a3w c) (c7n c h) rfl
theorem d22 (c:Cir) (h:c.wf) (n:Nat) (p:Int) (hn:n < c.nodes.length) (hp:-1 ≤ p) (hp2:p < (a31 c.nodes n).length):sem L.env Mf 59 [.agg c.enc,.agg [.int .i64 n,.int .i64 p]] [] = some (.bool true,[]):=by
 obtain ⟨x,hx⟩:∃ x,c.nodes[n]? = some x:=⟨_,z9e hn⟩
 rw [a2g hx] at hp2
 have c1:0 ≤ (n:Int):=by omega
 have c2:(n:Int) < c.nodes.length:=by omega
 simp only [Cir.enc]
 (refine sv Tryz.f59 ?_;simp only [Tryz.f59,gS])
 (repeat first|simp only [ww]|(apply xa;simp +decide only [go_sem,c1,c2,hn,hp,hp2,hx];rfl;kernel_rfl))
 (apply fqb;simp +decide only [go_sem]<;>rfl)
theorem c3x {d:Bool} (H:a06) (c:Cir) (h:c.wf) (n:Nat) (p:Int) (hn:n < c.nodes.length) (hp:-1 ≤ p) (hp2:p < (a31 c.nodes n).length):a0e L.env d (sem L.env Mf) (.func (.func 59) [] []) [.agg c.enc,.agg [.int .i64 n,.int .i64 p]] H = some (.bool true,H,[]):=
 a05 (by kernel_rfl) (by kernel_rfl) rfl (by simp only [a0c,a10,Cir.enc,go_sem]) (d22 c h n p hn hp hp2) rfl
/- dependence, by the statements -/
theorem c42 (c:Cir) (h:c.wf) (b:Nat) (hb:b < c.nodes.length):∀ (k depth a:Nat),c.nodes.length + 1 ≤ depth + k → a < c.nodes.length → depth ≤ 100 →
 ∃ q:Bool,(depth + a ≤ c.nodes.length → DepOn c.nodes a b → q = true) ∧ sem L.env Mf 49 [.agg c.enc,.int .i64 a,.int .i64 b,.int .i64 depth] [] = some (.bool q,[]):=by
 intro k
 induction k with
 | zero=>
  intro depth a hk ha hd
  have hl:=h.len
  by_cases hab:a = b
  ·subst hab
   refine ⟨true,fun _ _=>rfl,?_⟩
   simp only [Cir.enc]
   (refine sv Tryz.f49 ?_;simp only [Tryz.f49,gS])
   (repeat first|simp only [ww]|(apply xa;simp +decide only [go_sem];rfl;kernel_rfl))
   (apply fqb;simp +decide only [go_sem]<;>rfl)
  ·refine ⟨false,fun h1 _=>by omega,?_⟩
   have c1:¬ (a:Int) = b:=by omega
   have c2:(c.nodes.length:Int) < depth:=by omega
   simp only [Cir.enc]
   (refine sv Tryz.f49 ?_;simp only [Tryz.f49,gS])
   (repeat first|simp only [ww]|(apply xa;simp +decide only [go_sem,c1,c2];rfl;kernel_rfl))
   (apply fqb;simp +decide only [go_sem]<;>rfl)
 | succ k ih=>
  intro depth a hk ha hd
  have hl:=h.len
  by_cases hab:a = b
  ·subst hab
   refine ⟨true,fun _ _=>rfl,?_⟩
   simp only [Cir.enc]
   (refine sv Tryz.f49 ?_;simp only [Tryz.f49,gS])
   (repeat first|simp only [ww]|(apply xa;simp +decide only [go_sem];rfl;kernel_rfl))
   (apply fqb;simp +decide only [go_sem]<;>rfl)
  have c1:¬ (a:Int) = b:=by omega
  by_cases hdl:c.nodes.length < depth
  ·refine ⟨false,fun h1 _=>by omega,?_⟩
   have c2:(c.nodes.length:Int) < depth:=by omega
   simp only [Cir.enc]
   (refine sv Tryz.f49 ?_;simp only [Tryz.f49,gS])
   (repeat first|simp only [ww]|(apply xa;simp +decide only [go_sem,c1,c2];rfl;kernel_rfl))
   (apply fqb;simp +decide only [go_sem]<;>rfl)
  have c2:¬ (c.nodes.length:Int) < depth:=by omega
  obtain ⟨x,hx⟩:∃ x,c.nodes[a]? = some x:=⟨_,z9e ha⟩
  by_cases h14:x.kind = 14
  ·refine ⟨false,fun _ hr=>absurd hr (DepOn.not_dff hab (by rw [a1k hx];exact h14)),?_⟩
   have c3:decide ((x.kind:Int) = 14) = true:=decide_eq_true (by omega)
   simp only [Cir.enc]
   (refine sv Tryz.f49 ?_;simp only [Tryz.f49,gS])
   (repeat first|simp only [ww]|(apply xa;simp +decide only [go_sem,c1,c2,hx,ha,c3];rfl;kernel_rfl))
   (apply fqb;simp +decide only [go_sem]<;>rfl)
  have c3:¬ (x.kind:Int) = 14:=by omega
  have hxm:=List.mem_of_getElem? hx
  have hil:=h.insl hxm
  have hwd:=wI1 (n:=depth) (by omega)
  suffices hs:∃ r:AV × a06,(∃ q:Bool,(depth + a ≤ c.nodes.length → DepOn c.nodes a b → q = true) ∧ r = (.bool q,[])) ∧ sem L.env Mf 49 [.agg c.enc,.int .i64 a,.int .i64 b,.int .i64 depth] [] = some r by
   obtain ⟨r,⟨q,h1,rfl⟩,h2⟩:=hs
   exact ⟨q,h1,h2⟩
  simp only [Cir.enc] at ih ⊢
  (refine svE Tryz.f49 ?_;simp only [Tryz.f49,gS])
  (repeat first|simp only [ww]|(apply xa;simp +decide only [go_sem,c1,c2,hx,ha,c3];rfl;kernel_rfl))
  refine a24 kp49_0 (fun n F H=>∃ i,n = x.ins.length - i ∧ i ≤ x.ins.length ∧ F = [(1,.int .i64 a),(2,.int .i64 b),(3,.int .i64 depth),(4,.ptr 0 0 0),(9,.int .i64 i)] ∧
   H = [some (.row 4 [[sl c.nc (c.nodes.map Nd.enc),sl c.mc (c.names.map a44),.nilslice,sl c.oc (c.outs.map a0n)]])] ∧ (depth + a ≤ c.nodes.length → ∀ m ∈ x.ins.take i,¬ DepOn c.nodes m b)) (x.ins.length - 0) ?_ ?_
  ·refine ⟨_,_,?_,0,rfl,Nat.zero_le _,rfl,rfl,by simp⟩
   (simp +decide only [go_sem,a02,a00]<;>rfl)<;>rfl
  ·rintro n F H ⟨i,rfl,hi,rfl,rfl,hno⟩
   by_cases hlt:i < x.ins.length
   ·obtain ⟨m,hm⟩:∃ m,x.ins[i]? = some m:=⟨_,z9e hlt⟩
    have hmn:=h.ins x hxm m (List.mem_of_getElem? hm)
    have c4:(i:Int) < x.ins.length:=by omega
    have hw:=wI1 (n:=i) (by omega)
    obtain ⟨q,hq1,hq2⟩:=ih (depth + 1) m (by omega) hmn (by omega)
    have hcall:=fun H=>a05 (E:=L.env) (draw:=true) (call:=sem L.env Mf) (g:=49) (fs:=[]) (cs:=[]) (ar:=[.agg [sl c.nc (c.nodes.map Nd.enc),sl c.mc (c.names.map a44),.nilslice,sl c.oc (c.outs.map a0n)],.int .i64 m,.int .i64 b,.int .i64 (depth + 1:Nat)]) (H:=H) (by kernel_rfl) (by kernel_rfl) rfl (by simp only [List.nil_append,List.append_nil,a0c,a10,go_sem]) hq2 rfl
    have hma:depth + a ≤ c.nodes.length → depth + 1 + m ≤ c.nodes.length:=by
     intro hda
     have:=h.acyc a x hx (h.comb_of hxm (by omega) h14) m (List.mem_of_getElem? hm)
     omega
    cases q with
    | true=>
     (repeat first|simp only [ww]|(apply xa;simp +decide only [go_sem,c4,hlt,hx,ha,hm,hw,hwd,hcall];rfl;kernel_rfl))
     refine a4s (vs:=[.bool true]) (r:=(_,[])) (by simp +decide only [go_sem]) ?_ ⟨true,fun _ _=>rfl,rfl⟩
     simp +decide only [go_sem]
    | false=>
     have hr:depth + a ≤ c.nodes.length → ¬ DepOn c.nodes m b:=fun hda hr=>by have:=hq1 (hma hda) hr;cases this
     (repeat first|simp only [ww]|(apply xa;simp +decide only [go_sem,c4,hlt,hx,ha,hm,hw,hwd,hcall];rfl;kernel_rfl))
     refine a12 (x.ins.length - (i + 1)) (by omega) ⟨_,_,?_,i + 1,rfl,hlt,rfl,rfl,?_⟩
     ·(simp +decide only [go_sem,a02,a00]<;>rfl)<;>rfl
     ·intro hda m' hm'
      rw [a15 hm,List.mem_append] at hm'
      rcases hm' with hm'|hm'
      ·exact hno hda m' hm'
      ·simp only [List.mem_singleton] at hm';subst hm';exact hr hda
   ·obtain rfl:i = x.ins.length:=by omega
    have c4:¬ (x.ins.length:Int) < x.ins.length:=by omega
    (repeat first|simp only [ww]|(apply xa;simp +decide only [go_sem,c4,hx,ha];rfl;kernel_rfl))
    refine a4s (vs:=[.bool false]) (r:=(_,[])) (by simp +decide only [go_sem]) ?_ ⟨false,?_,rfl⟩
    ·simp +decide only [go_sem]
    ·intro hda hr
     rw [List.take_length] at hno
     rcases hr.cases with e|⟨_,m,hm,hr⟩
     ·exact absurd e hab
     ·rw [a2g hx] at hm
      exact absurd hr (hno hda m hm)
def b0z (b:Bool):List AV:=[.bool b]
attribute [go_sem] b0z
theorem a9y (l:List Bool):(l.map b0z).flatMap a0d = []:=a03 (FlatR.map fun _=>rfl)
theorem b5v (π:Nat → Option Nat) (l:List Bool):(l.map b0z).map (fun r=>r.map (ren π)) = l.map b0z:=a01 π (FlatR.map fun _=>rfl)
theorem e6x {m:Nat} {d:AV → Option AV} (l:List Bool):a7m m d (l.map b0z) = some (l.map b0z):=a0s m d (FlatR.map fun _=>rfl)
theorem b8k {l:List Bool} {m:Nat} (h:l[m]? = some false):(l.set m true).count false + 1 = l.count false:=by
 induction l generalizing m with
 | nil=>simp at h
 | cons a l ih=>
  cases m with
  | zero=>simp only [List.getElem?_cons_zero,Option.some.injEq] at h;subst h;simp
  | succ m=>
   simp only [List.getElem?_cons_succ] at h
   simp only [List.set_cons_succ,List.count_cons]
   have:=ih h
   omega
structure Cone (c:Cir) (a:Nat) (inn:List Bool) (T:List Nat) (J:List (List AV)) (cap:Option Nat):Prop where
 len:inn.length = c.nodes.length
 mark:∀ b:Nat,inn[b]? = some true → DepOn c.nodes a b
 todo:∀ t ∈ T,t < c.nodes.length ∧ DepOn c.nodes a t
 flat:FlatR J
 cap:cap = none ∨ (cap = some 1 ∧ T.length + J.length = 1)
def cnH (c:Cir) (inn:List Bool) (T:List Nat) (J:List (List AV)):a06:=[some (.row 4 [[sl c.nc (c.nodes.map Nd.enc),sl c.mc (c.names.map a44),.nilslice,sl c.oc (c.outs.map a0n)]]),some (.row 1 (inn.map b0z)),some (.row 1 (T.map a0n ++ J))]
def JC0 (c:Cir) (a:Nat) (n:Nat) (F:Frm) (H:a06):Prop:=∃ inn T J cap,n = inn.count false + T.length ∧ n ≤ c.nodes.length ∧ F = [(2,.ptr 0 0 0),(5,.slice 1 0 c.nodes.length (some c.nodes.length)),(6,.slice 2 0 T.length cap)] ∧ H = cnH c inn T J ∧ Cone c a inn T J cap
def JC2 (c:Cir) (a:Nat) (x:Nd) (N n:Nat) (F:Frm) (H:a06):Prop:=∃ inn T J cap k,n = x.ins.length - k ∧ k ≤ x.ins.length ∧ inn.count false + T.length < N ∧ N ≤ c.nodes.length ∧ F = [(2,.ptr 0 0 0),(5,.slice 1 0 c.nodes.length (some c.nodes.length)),(6,.slice 2 0 T.length cap),(45,sl x.c (x.ins.map a0n)),(46,.int .i64 x.ins.length),(47,.int .i64 k)] ∧ H = cnH c inn T J ∧ Cone c a inn T J cap
theorem e5p (n:Nat):List.replicate n [AV.bool false] = (List.replicate n false).map b0z:=by rw [List.map_replicate];rfl
theorem d7t (c:Cir) (h:c.wf) (a:Nat) (ha:a < c.nodes.length):∃ r:AV × a06,(∃ l:List Bool,l.length = c.nodes.length ∧ (∀ b:Nat,l[b]? = some true → DepOn c.nodes a b) ∧ r = (.islice (l.map b0z) (some c.nodes.length),[])) ∧ sem L.env Mf 102 [.agg c.enc,.int .i64 a] [] = some r:=by
 have hn:=h.len
 have hrm:c.nodes.length ≤ 1000000000:=by omega
 have hst:(List.replicate c.nodes.length [AV.bool false]).set a [AV.bool true] = ((List.replicate c.nodes.length false).set a true).map b0z:=by rw [e5p,List.map_set];rfl
 have hgr:(List.replicate c.nodes.length [AV.bool false])[a]? = some [AV.bool false]:=by rw [List.getElem?_replicate,if_pos ha]
 have hga:(List.replicate c.nodes.length false)[a]? = some false:=by rw [List.getElem?_replicate,if_pos ha]
 have hcnt:((List.replicate c.nodes.length false).set a true).count false + 1 ≤ c.nodes.length:=by
  rw [b8k hga];exact Nat.le_trans List.count_le_length (by simp)
 simp only [Cir.enc]
 (refine svE Tryz.f102 ?_;simp only [Tryz.f102,gS])
 (repeat first|simp only [ww]|(apply xa;simp +decide only [go_sem,hrm,ha,hgr];rfl;kernel_rfl))
 refine a24 kp102_0 (JC0 c a) (((List.replicate c.nodes.length false).set a true).count false + 1) ?_ ?_
 ·refine ⟨_,_,?_,(List.replicate c.nodes.length false).set a true,[a],[],some 1,rfl,hcnt,rfl,rfl,⟨by simp,?_,?_,FlatR.nil,.inr ⟨rfl,rfl⟩⟩⟩
  ·rw [cnH]
   (simp +decide only [go_sem,a02,a00,a9y,b5v,hst]<;>rfl)<;>rfl
  ·intro b hb
   rw [List.getElem?_set] at hb
   by_cases hab:a = b
   ·subst hab;exact .refl _
   ·rw [if_neg hab,List.getElem?_replicate] at hb
    split at hb<;>cases hb
  ·intro t ht
   simp only [List.mem_singleton] at ht
   subst ht;exact ⟨ha,.refl _⟩
 ·rintro N F H ⟨inn,T,J,cap,rfl,hB,rfl,rfl,hC⟩
  rw [cnH]
  rcases List.eq_nil_or_concat T with rfl|⟨T,t,rfl⟩
  · -- nothing is left
   (repeat first|simp only [ww]|(apply xa;simp +decide only [go_sem];rfl;kernel_rfl))
   refine a4s (vs:=[.slice 1 0 c.nodes.length (some c.nodes.length)]) (r:=(_,[])) (by simp +decide only [go_sem]) ?_ ⟨inn,hC.len,hC.mark,rfl⟩
   show a2a false 0 (.slice 1 0 c.nodes.length (some c.nodes.length)) _ = _
   rw [← hC.len]
   simp +decide only [go_sem,e6x]
  ·simp only [List.concat_eq_append] at hB hC ⊢
   obtain ⟨htn,htr⟩:=hC.todo t (by simp)
   obtain ⟨x,hx⟩:∃ x,c.nodes[t]? = some x:=⟨_,z9e htn⟩
   have hlen:(T ++ [t]).length = T.length + 1:=by simp
   rw [hlen] at hB
   have c1:(0:Int) < ((T.length + 1:Nat):Int):=by omega
   have hTl:T.length + 1 ≤ c.nodes.length:=by omega
   have hsub:IntKind.i64.wrap (((T.length + 1:Nat):Int) - 1) = (T.length:Int):=by rw [w64 (by omega) (by omega)];omega
   have hrow:(T ++ [t]).map a0n ++ J = T.map a0n ++ (a0n t :: J):=by simp
   have hget:(T.map a0n ++ (a0n t :: J))[T.length]? = some (a0n t):=by rw [List.getElem?_append_right (by simp)];simp
   have hle:T.length ≤ T.length + 1:=by omega
   have hC2:Cone c a inn T (a0n t :: J) cap:=⟨hC.len,hC.mark,fun s hs=>hC.todo s (by simp [hs]),FlatR.cons rfl hC.flat,hC.cap.imp id (fun ⟨e1,e2⟩=>⟨e1,by rw [hlen] at e2;simp;omega⟩)⟩
   have hfJ:=a03 hC2.flat
   have hrJ:=fun π=>a01 π hC2.flat
   rw [hrow,hlen]
   generalize hJ':a0n t :: J = J' at hget hC2 hfJ hrJ
   have hxm:=List.mem_of_getElem? hx
   have hil:=h.insl hxm
   have hcl:a14 (T.length + 1) cap = T.length + 1 ∨ a14 (T.length + 1) cap = 1:=by
    rcases hC.cap with e|⟨e,_⟩<;>rw [e]
    ·exact .inl rfl
    ·exact .inr rfl
   have hinb:T.length ≤ a14 (T.length + 1) cap:=by
    rcases hC.cap with e|⟨e,e2⟩
    ·rw [e];show T.length ≤ T.length + 1;omega
    ·rw [e];show T.length ≤ 1;rw [hlen] at e2;omega
   by_cases h14:x.kind = 14
   ·have c3:decide ((x.kind:Int) = 14) = true:=decide_eq_true (by omega)
    (repeat first|simp only [ww]|(apply xa;simp +decide only [go_sem,c1,hsub,hget,hx,htn,c3,hinb,hle,a7x];rfl;kernel_rfl))
    refine a12 (inn.count false + T.length) (by omega) ⟨_,_,?_,inn,T,J',cap,rfl,by omega,rfl,rfl,hC2⟩
    rw [cnH]
    (simp +decide only [go_sem,a02,a00,a9y,b5v,a1s,a2q,hfJ,hrJ]<;>rfl)<;>rfl
   have c3:¬ (x.kind:Int) = 14:=by omega
   (repeat first|simp only [ww]|(apply xa;simp +decide only [go_sem,c1,hsub,hget,hx,htn,c3,hinb,hle,a7x];rfl;kernel_rfl))
   refine a24 kp102_2 (JC2 c a x (inn.count false + (T.length + 1))) (x.ins.length - 0) ?_ ?_
   ·refine ⟨_,_,?_,inn,T,J',cap,0,rfl,Nat.zero_le _,by omega,hB,rfl,rfl,hC2⟩
    rw [cnH]
    (simp +decide only [go_sem,a02,a00,a9y,b5v,a1s,a2q,hfJ,hrJ]<;>rfl)<;>rfl
   ·generalize inn.count false + (T.length + 1) = N at hB ⊢
    clear hC2 hfJ hrJ hget hcl hinb hC hrow hsub c1 hle hTl hlen hJ'
    clear J' inn cap J
    rintro n F H ⟨inn,T,J,cap,k,rfl,hk,hN,hNn,rfl,rfl,hC⟩
    rw [cnH]
    have hfJ:=a03 hC.flat
    have hrJ:=fun π=>a01 π hC.flat
    by_cases hkl:k < x.ins.length
    ·obtain ⟨m,hm⟩:∃ m,x.ins[k]? = some m:=⟨_,z9e hkl⟩
     have hmn:=h.ins x hxm m (List.mem_of_getElem? hm)
     have c2:(k:Int) < x.ins.length:=by omega
     have hw:=wI1 (n:=k) (by omega)
     obtain ⟨q,hq⟩:∃ q,inn[m]? = some q:=⟨_,z9e (by rw [hC.len];exact hmn)⟩
     have hil2:=hC.len
     have hmr:DepOn c.nodes a m:=htr.snoc (by rw [a1k hx];exact h14) (by rw [a2g hx];exact List.mem_of_getElem? hm)
     cases q with
     | true=>
      (repeat first|simp only [ww]|(apply xa;simp +decide only [go_sem,c2,hkl,hm,hw,hmn,hq,hil2];rfl;kernel_rfl))
      refine a12 (x.ins.length - (k + 1)) (by omega) ⟨_,_,?_,inn,T,J,cap,k + 1,rfl,hkl,hN,hNn,rfl,rfl,hC⟩
      rw [cnH]
      (simp +decide only [go_sem,a02,a00,a9y,b5v,a1s,a2q,hfJ,hrJ]<;>rfl)<;>rfl
     | false=>
      have hst:(inn.map b0z).set m [AV.bool true] = (inn.set m true).map b0z:=by rw [List.map_set];rfl
      have hcs:=b8k hq
      have hTb:T.length + 1 ≤ 1000000000:=by omega
      have hC3:∀ J' cap',FlatR J' → (cap' = none ∨ (cap' = some 1 ∧ (T ++ [m]).length + J'.length = 1)) → Cone c a (inn.set m true) (T ++ [m]) J' cap':=by
       intro J' cap' hf hcap
       refine ⟨by rw [List.length_set];exact hC.len,?_,?_,hf,hcap⟩
       ·intro b hb
        rw [List.getElem?_set] at hb
        by_cases hmb:m = b
        ·subst hmb;exact hmr
        ·rw [if_neg hmb] at hb;exact hC.mark b hb
       ·intro s hs
        simp only [List.mem_append,List.mem_singleton] at hs
        rcases hs with hs|rfl
        ·exact hC.todo s hs
        ·exact ⟨hmn,hmr⟩
      have hN2:(inn.set m true).count false + (T ++ [m]).length < N:=by simp;omega
      rcases hC.cap with rfl|⟨rfl,h1⟩
      ·cases J with
       | nil=>
        (repeat first|simp only [ww]|(apply xa;simp +decide only [go_sem,c2,hkl,hm,hw,hmn,hq,hil2,hst,hTb,List.append_nil];rfl;kernel_rfl))
        refine a12 (x.ins.length - (k + 1)) (by omega) ⟨_,_,?_,inn.set m true,T ++ [m],[],none,k + 1,rfl,hkl,hN2,hNn,rfl,rfl,hC3 [] none FlatR.nil (.inl rfl)⟩
        rw [cnH]
        (simp +decide only [go_sem,a02,a00,a9y,b5v,a1s,a2q,hst,List.append_nil]<;>rfl)<;>rfl
       | cons j js=>
        have hne:¬ (T.length = T.length + (js.length + 1)):=by omega
        have hle2:T.length ≤ T.length + (js.length + 1):=by omega
        have htk:(T.map a0n ++ (j :: js)).take T.length = T.map a0n:=by rw [List.take_append_of_le_length (by simp)];exact b7d a0n T
        (repeat first|simp only [ww]|(apply xa;simp +decide only [go_sem,c2,hkl,hm,hw,hmn,hq,hil2,hst,hTb,hne,hle2,htk,List.length_cons];rfl;kernel_rfl))
        refine a12 (x.ins.length - (k + 1)) (by omega) ⟨_,_,?_,inn.set m true,T ++ [m],[],none,k + 1,rfl,hkl,hN2,hNn,rfl,rfl,hC3 [] none FlatR.nil (.inl rfl)⟩
        rw [cnH]
        (simp +decide only [go_sem,a02,a00,a9y,b5v,a1s,a2q,hst,List.append_nil]<;>rfl)<;>rfl
      ·cases T with
       | nil=>
        obtain ⟨j,rfl⟩:∃ j,J = [j]:=by
         cases J with
         | nil=>simp at h1
         | cons j js=>cases js with
          | nil=>exact ⟨j,rfl⟩
          | cons=>simp only [List.length_cons,List.length_nil] at h1;omega
        (repeat first|simp only [ww]|(apply xa;simp +decide only [go_sem,c2,hkl,hm,hw,hmn,hq,hil2,hst,hTb,List.map_nil,List.nil_append,List.length_nil,List.length_cons];rfl;kernel_rfl))
        refine a12 (x.ins.length - (k + 1)) (by omega) ⟨_,_,?_,inn.set m true,[m],[],some 1,k + 1,rfl,hkl,hN2,hNn,rfl,rfl,hC3 [] (some 1) FlatR.nil (.inr ⟨rfl,rfl⟩)⟩
        rw [cnH]
        (simp +decide only [go_sem,a02,a00,a9y,b5v,a1s,a2q,hst,List.append_nil,List.map_cons,List.map_nil]<;>rfl)<;>rfl
       | cons t0 ts=>
        obtain rfl:ts = []:=by cases ts with
         | nil=>rfl
         | cons=>simp only [List.length_cons,List.length_nil] at h1;omega
        obtain rfl:J = []:=by cases J with
         | nil=>rfl
         | cons=>simp only [List.length_cons,List.length_nil] at h1;omega
        (repeat first|simp only [ww]|(apply xa;simp +decide only [go_sem,c2,hkl,hm,hw,hmn,hq,hil2,hst,hTb,List.map_nil,List.nil_append,List.length_nil,List.length_cons,List.map_cons,List.append_nil];rfl;kernel_rfl))
        refine a12 (x.ins.length - (k + 1)) (by omega) ⟨_,_,?_,inn.set m true,[t0,m],[],none,k + 1,rfl,hkl,hN2,hNn,rfl,rfl,hC3 [] none FlatR.nil (.inl rfl)⟩
        rw [cnH]
        (simp +decide only [go_sem,a02,a00,a9y,b5v,a1s,a2q,hst,List.append_nil,List.map_cons,List.map_nil]<;>rfl)<;>rfl
    ·obtain rfl:k = x.ins.length:=by omega
     have c2:¬ (x.ins.length:Int) < x.ins.length:=by omega
     (repeat first|simp only [ww]|(apply xa;simp +decide only [go_sem,c2];rfl;kernel_rfl))
     refine a12 (inn.count false + T.length) hN ⟨_,_,?_,inn,T,J,cap,rfl,by omega,rfl,rfl,hC⟩
     rw [cnH]
     (simp +decide only [go_sem,a02,a00,a9y,b5v,a1s,a2q,hfJ,hrJ]<;>rfl)<;>rfl
set_option maxHeartbeats 200000000
attribute [go_sem] Flt.enc
theorem b8o (c:Cir) (h:c.wf) (a:Nat) (ha:a < c.nodes.length):∃ l:List Bool,l.length = c.nodes.length ∧ (∀ b:Nat,l[b]? = some true → DepOn c.nodes a b) ∧ ∀ (d:Bool) (H:a06),a0e L.env d (sem L.env Mf) (.func (.func 102) [] []) [.agg c.enc,.int .i64 a] H = some (.islice (l.map b0z) (some c.nodes.length),H,[]):=by
 obtain ⟨r,⟨l,h1,h2,rfl⟩,h3⟩:=d7t c h a ha
 exact ⟨l,h1,h2,fun d H=>a05 (by kernel_rfl) (by kernel_rfl) rfl (by simp only [a0c,a10,Cir.enc,go_sem]) h3 rfl⟩
theorem b18 (c:Cir) (h:c.wf) (a b:Nat) (ha:a < c.nodes.length) (hb:b < c.nodes.length):∃ q:Bool,(DepOn c.nodes a b → q = true) ∧ ∀ (d:Bool) (H:a06),a0e L.env d (sem L.env Mf) (.func (.func 49) [] []) [.agg c.enc,.int .i64 a,.int .i64 b,.int .i64 0] H = some (.bool q,H,[]):=by
 have hn:=h.len
 obtain ⟨q,h1,h2⟩:=c42 c h b hb (c.nodes.length + 1) 0 a (by omega) ha (by omega)
 exact ⟨q,fun hr=>h1 (by omega) hr,fun d H=>a05 (by kernel_rfl) (by kernel_rfl) rfl (by simp only [a0c,a10,Cir.enc,go_sem]) h2 rfl⟩
theorem b8a {l:List Bool} {b n:Nat} (hl:l.length = n) (hb:b < n) {P:Prop} (h:l[b]? = some true → P) (hP:¬ P):l[b]? = some false:=by
 obtain ⟨q,hq⟩:∃ q,l[b]? = some q:=⟨_,z9e (by omega)⟩
 cases q with
 | false=>exact hq
 | true=>exact absurd (h hq) hP
theorem c8o (c:Cir) (h:c.wf) (f:Flt) (hf:FltOk c.nodes f) (hm:f.model ≠ 0):sem L.env Mf 60 [.agg c.enc,.agg f.enc] [] = some (.int .i64 0,[]):=by
 obtain ⟨b1,b2,b3,b4,b5,b6,b7,b8⟩:=hf.bridge hm
 obtain ⟨x,hx⟩:∃ x,c.nodes[f.node]? = some x:=⟨_,z9e hf.node⟩
 obtain ⟨y,hy⟩:∃ y,c.nodes[f.other]? = some y:=⟨_,z9e hf.other⟩
 rw [a1k hx] at b5
 rw [a1k hy] at b6
 obtain ⟨l1,l1n,l1r,hc1⟩:=b8o c h f.node hf.node
 obtain ⟨l2,l2n,l2r,hc2⟩:=b8o c h f.other hf.other
 have g1:=b8a l1n hf.other (l1r f.other) b7
 have g2:=b8a l2n hf.node (l2r f.node) b8
 have hc1:=hc1 false
 have hc2:=hc2 false
 have c0:¬ (f.other:Int) < 0:=by omega
 have c1:¬ (c.nodes.length:Int) ≤ f.other:=by have:=hf.other;omega
 have c2:¬ (f.node:Int) = f.other:=by omega
 have c3:¬ (x.kind:Int) = 12:=by omega
 have c4:¬ (y.kind:Int) = 12:=by omega
 have hn1:=hf.node
 have hn2:=hf.other
 have hmm:f.model = 2 ∨ f.model = 3:=by rcases hf.model with e|e|e;exact absurd e hm;exact .inl e;exact .inr e
 simp only [Cir.enc] at hc1 hc2
 simp only [Cir.enc,Flt.enc]
 rw [b1]
 rcases hmm with e|e
 ·have c5:¬ (f.other:Int) < f.node:=by have:=b3 e;omega
  rw [e]
  (refine sv Tryz.f60 ?_;simp only [Tryz.f60,gS])
  (repeat first|simp only [ww]|(apply xa;simp +decide only [go_sem,c0,c1,c2,c3,c4,c5,hx,hy,hc1,hc2,g1,g2,hn1,hn2];rfl;kernel_rfl))
  (apply fqb;simp +decide only [go_sem]<;>rfl)
 ·have hv:=b4 e
  rw [e,hv]
  (refine sv Tryz.f60 ?_;simp only [Tryz.f60,gS])
  (repeat first|simp only [ww]|(apply xa;simp +decide only [go_sem,c0,c1,c2,c3,c4,hx,hy,hc1,hc2,g1,g2,hn1,hn2];rfl;kernel_rfl))
  (apply fqb;simp +decide only [go_sem]<;>rfl)
theorem c7y (c:Cir) (h:c.wf) (f:Flt) (hf:FltOk c.nodes f):sem L.env Mf 42 [.agg c.enc,.agg f.enc] [] = some (.int .i64 0,[]):=by
 have hv:=fun H=>b32 (d:=false) H c h
 have hl:=fun H=>c3x (d:=false) H c h f.node f.pin hf.node hf.pin.1 hf.pin.2
 have hval:=hf.value
 have c2:¬ (1:Int) < f.value:=by omega
 by_cases hm:f.model = 0
 ·have ho:=hf.stuck hm
  simp only [Cir.enc] at hv hl
  simp only [Cir.enc,Flt.enc,hm,ho]
  (refine sv Tryz.f42 ?_;simp only [Tryz.f42,gS])
  (repeat first|simp only [ww]|(apply xa;simp +decide only [go_sem,hv,hl,c2];rfl;kernel_rfl))
  (apply fqb;simp +decide only [go_sem]<;>rfl)
 ·have hb:=fun H=>a05 (E:=L.env) (draw:=false) (call:=sem L.env Mf) (g:=60) (fs:=[]) (cs:=[]) (ar:=[.agg c.enc,.agg f.enc]) (H:=H) (by kernel_rfl) (by kernel_rfl) rfl (by simp only [List.nil_append,List.append_nil,a0c,a10,Cir.enc,go_sem]) (c8o c h f hf hm) rfl
  have hmm:f.model = 2 ∨ f.model = 3:=by rcases hf.model with e|e|e;exact absurd e hm;exact .inl e;exact .inr e
  have c1:¬ (3:Int) < f.model:=by omega
  have c3:(2:Int) ≤ f.model:=by omega
  simp only [Cir.enc] at hv hl
  simp only [Cir.enc,Flt.enc] at hb ⊢
  (refine sv Tryz.f42 ?_;simp only [Tryz.f42,gS])
  (repeat first|simp only [ww]|(apply xa;simp +decide only [go_sem,hv,hl,c1,c2,c3,hb];rfl;kernel_rfl))
  (apply fqb;simp +decide only [go_sem]<;>rfl)
theorem c0f {d:Bool} (H:a06) (c:Cir) (h:c.wf) (f:Flt) (hf:FltOk c.nodes f):a0e L.env d (sem L.env Mf) (.func (.func 42) [] []) [.agg c.enc,.agg f.enc] H = some (.int .i64 0,H,[]):=
 a05 (by kernel_rfl) (by kernel_rfl) rfl (by simp only [a0c,a10,Cir.enc,go_sem]) (c7y c h f hf) rfl
/- the statements' own check of a bridge -/
structure Cand (nodes:List Nd) (f:Flt):Prop where
 model:f.model = 2 ∨ f.model = 3
 node:f.node < nodes.length
 pin:f.pin = -1
 value:f.value ≤ 1
 other:f.other < nodes.length
 wired:f.model = 2 → f.node ≤ f.other
 strong:f.model = 3 → f.value = 0
theorem c6y (c:Cir) (h:c.wf) (f:Flt) (hf:Cand c.nodes f):∃ e:Nat,(e = 0 → FltOk c.nodes f) ∧ sem L.env Mf 28 [.agg c.enc,.agg f.enc] [] = some (.int .i64 e,[]):=by
 obtain ⟨x,hx⟩:∃ x,c.nodes[f.node]? = some x:=⟨_,z9e hf.node⟩
 obtain ⟨y,hy⟩:∃ y,c.nodes[f.other]? = some y:=⟨_,z9e hf.other⟩
 have hval:=hf.value
 have hpin:=hf.pin
 have hn1:=hf.node
 have hn2:=hf.other
 have c0:¬ (1:Int) < f.value:=by omega
 have c1:¬ (f.node:Int) < 0:=by omega
 have c2:¬ (c.nodes.length:Int) ≤ f.node:=by omega
 have c3:¬ (x.ins.length:Int) ≤ -1:=by omega
 have c4:¬ (f.other:Int) < 0:=by omega
 have c5:¬ (c.nodes.length:Int) ≤ f.other:=by omega
 have e1:¬ ((-1:Int) < -1):=by omega
 by_cases hno:f.node = f.other
 ·have c6:decide ((f.node:Int) = f.other) = true:=decide_eq_true (by omega)
  refine ⟨1,by omega,?_⟩
  simp only [Cir.enc,Flt.enc,hpin]
  rcases hf.model with e|e
  ·rw [e]
   (refine sv Tryz.f28 ?_;simp only [Tryz.f28,gS])
   (repeat first|simp only [ww]|(apply xa;simp +decide only [go_sem,c0,c1,c2,c3,c4,c5,c6,hx,hy,hn1,hn2,e1];rfl;kernel_rfl))
   (apply fqb;simp +decide only [go_sem]<;>rfl)
  ·rw [e]
   (refine sv Tryz.f28 ?_;simp only [Tryz.f28,gS])
   (repeat first|simp only [ww]|(apply xa;simp +decide only [go_sem,c0,c1,c2,c3,c4,c5,c6,hx,hy,hn1,hn2,e1];rfl;kernel_rfl))
   (apply fqb;simp +decide only [go_sem]<;>rfl)
 have c6:¬ (f.node:Int) = f.other:=by omega
 by_cases k1:x.kind = 12 ∨ y.kind = 12
 ·refine ⟨7,by omega,?_⟩
  simp only [Cir.enc,Flt.enc,hpin]
  by_cases kx:x.kind = 12
  ·have c7:decide ((x.kind:Int) = 12) = true:=decide_eq_true (by omega)
   rcases hf.model with e|e
   ·have c9:¬ (f.other:Int) < f.node:=by have:=hf.wired e;omega
    rw [e]
    (refine sv Tryz.f28 ?_;simp only [Tryz.f28,gS])
    (repeat first|simp only [ww]|(apply xa;simp +decide only [go_sem,c0,c1,c2,c3,c4,c5,c6,c7,c9,hx,hy,hn1,hn2,e1];rfl;kernel_rfl))
    (apply fqb;simp +decide only [go_sem]<;>rfl)
   ·have hv:=hf.strong e
    rw [e,hv]
    (refine sv Tryz.f28 ?_;simp only [Tryz.f28,gS])
    (repeat first|simp only [ww]|(apply xa;simp +decide only [go_sem,c0,c1,c2,c3,c4,c5,c6,c7,hx,hy,hn1,hn2,e1];rfl;kernel_rfl))
    (apply fqb;simp +decide only [go_sem]<;>rfl)
  ·have c7:¬ (x.kind:Int) = 12:=by omega
   have c8:decide ((y.kind:Int) = 12) = true:=decide_eq_true (by omega)
   rcases hf.model with e|e
   ·have c9:¬ (f.other:Int) < f.node:=by have:=hf.wired e;omega
    rw [e]
    (refine sv Tryz.f28 ?_;simp only [Tryz.f28,gS])
    (repeat first|simp only [ww]|(apply xa;simp +decide only [go_sem,c0,c1,c2,c3,c4,c5,c6,c7,c8,c9,hx,hy,hn1,hn2,e1];rfl;kernel_rfl))
    (apply fqb;simp +decide only [go_sem]<;>rfl)
   ·have hv:=hf.strong e
    rw [e,hv]
    (refine sv Tryz.f28 ?_;simp only [Tryz.f28,gS])
    (repeat first|simp only [ww]|(apply xa;simp +decide only [go_sem,c0,c1,c2,c3,c4,c5,c6,c7,c8,hx,hy,hn1,hn2,e1];rfl;kernel_rfl))
    (apply fqb;simp +decide only [go_sem]<;>rfl)
 have kx:¬ x.kind = 12:=fun e=>k1 (.inl e)
 have ky:¬ y.kind = 12:=fun e=>k1 (.inr e)
 have c7:¬ (x.kind:Int) = 12:=by omega
 have c8:¬ (y.kind:Int) = 12:=by omega
 obtain ⟨q1,r1,d1⟩:=b18 c h f.node f.other hn1 hn2
 obtain ⟨q2,r2,d2⟩:=b18 c h f.other f.node hn2 hn1
 have d1:=d1 false
 have d2:=d2 false
 simp only [Cir.enc] at d1 d2
 have hfin:q1 = false → q2 = false → FltOk c.nodes f:=by
  rintro rfl rfl
  refine ⟨.inr hf.model,hn1,by omega,hval,hn2,fun e=>by rcases hf.model with e2|e2<;>omega,fun _=>⟨hpin,hno,hf.wired,hf.strong,by rw [a1k hx];exact kx,by rw [a1k hy];exact ky,fun hr=>absurd (r1 hr) (by decide),fun hr=>absurd (r2 hr) (by decide)⟩⟩
 refine ⟨if q1 || q2 then 6 else 0,?_,?_⟩
 ·intro e
  cases q1<;>cases q2<;>first|exact hfin rfl rfl|(simp at e)
 ·simp only [Cir.enc,Flt.enc,hpin]
  rcases hf.model with e|e
  ·have c9:¬ (f.other:Int) < f.node:=by have:=hf.wired e;omega
   rw [e]
   cases q1<;>cases q2
   all_goals
    (refine sv Tryz.f28 ?_;simp only [Tryz.f28,gS])
    (repeat first|simp only [ww]|(apply xa;simp +decide only [go_sem,c0,c1,c2,c3,c4,c5,c6,c7,c8,c9,hx,hy,hn1,hn2,e1,d1,d2];rfl;kernel_rfl))
    (apply fqb;simp +decide only [go_sem]<;>rfl)
  ·have hv:=hf.strong e
   rw [e,hv]
   cases q1<;>cases q2
   all_goals
    (refine sv Tryz.f28 ?_;simp only [Tryz.f28,gS])
    (repeat first|simp only [ww]|(apply xa;simp +decide only [go_sem,c0,c1,c2,c3,c4,c5,c6,c7,c8,hx,hy,hn1,hn2,e1,d1,d2];rfl;kernel_rfl))
    (apply fqb;simp +decide only [go_sem]<;>rfl)
theorem a4h (c:Cir) (h:c.wf) (f:Flt) (hf:Cand c.nodes f):∃ e:Nat,(e = 0 → FltOk c.nodes f) ∧ ∀ (d:Bool) (H:a06),a0e L.env d (sem L.env Mf) (.func (.func 28) [] []) [.agg c.enc,.agg f.enc] H = some (.int .i64 e,H,[]):=by
 obtain ⟨e,h1,h2⟩:=c6y c h f hf
 exact ⟨e,h1,fun d H=>a05 (by kernel_rfl) (by kernel_rfl) rfl (by simp only [a0c,a10,Cir.enc,go_sem]) h2 rfl⟩
structure FX where
 model:Nat
 node:Nat
 pin:Nat
 other:Nat
 one:Bool
def FX.enc (f:FX):List AV:=[.int .u8 f.model,.int .u8 f.node,.int .u8 f.pin,.int .u8 f.other,.bool f.one]
structure FX.ok (f:FX):Prop where
 model:f.model < 256
 node:f.node < 256
 pin:f.pin < 256
 other:f.other < 256
attribute [go_sem] FX.enc
theorem a7q {nodes:List Nd} {a p v:Nat} {x:Nd} (hx:nodes[a]? = some x) (hv:v ≤ 1):FltOk nodes ⟨0,a,((p % (x.ins.length + 1):Nat):Int) - 1,v,0⟩:=by
 have ha:=(List.getElem?_eq_some_iff.1 hx).1
 have hp:=Nat.mod_lt p (show 0 < x.ins.length + 1 by omega)
 refine ⟨.inl rfl,ha,?_,hv,by show 0 < nodes.length;omega,fun _=>rfl,fun h=>absurd rfl h⟩
 show -1 ≤ ((p % (x.ins.length + 1):Nat):Int) - 1 ∧ ((p % (x.ins.length + 1):Nat):Int) - 1 < (a31 nodes a).length
 rw [a2g hx]
 generalize p % (x.ins.length + 1) = q at hp ⊢
 omega
theorem e1x (c:Cir) (h:c.wf) (f:FX) (hf:f.ok) (hm:f.model % 4 ≠ 1):∃ r:AV × a06,(∃ g,FltOk c.nodes g ∧ r = (.agg g.enc,[])) ∧ sem L.env Mf 18 [.agg f.enc,.agg c.enc] [] = some r:=by
 obtain ⟨f1,f2,f3,f4⟩:=hf
 have hn:=h.len
 have hp:=h.pos
 have c0:¬ (c.nodes.length:Int) = 0:=by omega
 have hnd:f.node % c.nodes.length < c.nodes.length:=Nat.mod_lt _ hp
 have hot:f.other % c.nodes.length < c.nodes.length:=Nat.mod_lt _ hp
 have w1:=wB (n:=f.model % 4) (by omega)
 have w2:=wI (n:=f.node) (by omega)
 have w3:=wI (n:=f.node % c.nodes.length) (by omega)
 have w4:=wI (n:=f.other) (by omega)
 have w5:=wI (n:=f.other % c.nodes.length) (by omega)
 have w6:=wI (n:=f.pin) (by omega)
 have hpin:∀ x:Nd,x ∈ c.nodes → IntKind.i64.wrap ((x.ins.length:Int) + 1) = ((x.ins.length + 1:Nat):Int) ∧ IntKind.i64.wrap ((f.pin % (x.ins.length + 1):Nat):Int) = ((f.pin % (x.ins.length + 1):Nat):Int) ∧ IntKind.i64.wrap (((f.pin % (x.ins.length + 1):Nat):Int) - 1) = ((f.pin % (x.ins.length + 1):Nat):Int) - 1 ∧ ¬ ((x.ins.length + 1:Nat):Int) = 0:=by
  intro x hx
  have:=h.insl hx
  have hq:=Nat.mod_lt f.pin (show 0 < x.ins.length + 1 by omega)
  generalize f.pin % (x.ins.length + 1) = q at hq ⊢
  exact ⟨wI1 (by omega),wI (by omega),w64 (by omega) (by omega),by omega⟩
 generalize hN1:f.node % c.nodes.length = nd at hnd w3
 generalize hN2:f.other % c.nodes.length = ot at hot w5
 have hmm:f.model % 4 = 0 ∨ f.model % 4 = 2 ∨ f.model % 4 = 3:=by omega
 rcases hmm with hm0|hm2|hm3
 ·obtain ⟨x,hx⟩:∃ x,c.nodes[nd]? = some x:=⟨_,z9e hnd⟩
  obtain ⟨p1,p2,p3,p4⟩:=hpin x (List.mem_of_getElem? hx)
  cases ho:f.one
  ·simp only [Cir.enc,FX.enc,ho]
   (refine svE Tryz.f18 ?_;simp only [Tryz.f18,gS])
   (repeat first|simp only [ww]|(apply xa;simp +decide only [go_sem,c0,w1,w2,w3,w6,hN1,hm0,hx,hnd,p1,p2,p3,p4];rfl;kernel_rfl))
   refine a4s (vs:=[.agg (Flt.enc ⟨0,nd,((f.pin % (x.ins.length + 1):Nat):Int) - 1,0,0⟩)]) (r:=(.agg (Flt.enc ⟨0,nd,((f.pin % (x.ins.length + 1):Nat):Int) - 1,0,0⟩),[])) (by simp +decide only [go_sem,hm0,hx,hN1,p1,p2,p3,p4]<;>rfl) ?_ ⟨_,a7q hx (p:=f.pin) (v:=0) (by omega),rfl⟩
   simp +decide only [go_sem]
  ·simp only [Cir.enc,FX.enc,ho]
   (refine svE Tryz.f18 ?_;simp only [Tryz.f18,gS])
   (repeat first|simp only [ww]|(apply xa;simp +decide only [go_sem,c0,w1,w2,w3,w6,hN1,hm0,hx,hnd,p1,p2,p3,p4];rfl;kernel_rfl))
   refine a4s (vs:=[.agg (Flt.enc ⟨0,nd,((f.pin % (x.ins.length + 1):Nat):Int) - 1,1,0⟩)]) (r:=(.agg (Flt.enc ⟨0,nd,((f.pin % (x.ins.length + 1):Nat):Int) - 1,1,0⟩),[])) (by simp +decide only [go_sem,hm0,hx,hN1,p1,p2,p3,p4]<;>rfl) ?_ ⟨_,a7q hx (p:=f.pin) (v:=1) (by omega),rfl⟩
   simp +decide only [go_sem]
 ·by_cases hlt:ot < nd
  ·have hsw:(ot:Int) < nd:=by omega
   cases ho:f.one
   ·obtain ⟨e,he,hce⟩:=a4h c h ⟨2,ot,-1,0,nd⟩ ⟨.inl rfl,hot,rfl,by show 0 ≤ 1;omega,hnd,fun _=>by show ot ≤ nd;omega,fun hh=>by have hh:(2:Nat) = 3:=hh;omega⟩
    have hce:∀ H,a0e L.env false (sem L.env Mf) (.func (.func 28) [] []) [.agg [sl c.nc (c.nodes.map Nd.enc),sl c.mc (c.names.map a44),.nilslice,sl c.oc (c.outs.map a0n)],.agg [.int .u8 ((2:Nat):Int),.int .i64 ot,.int .i64 (-1),.int .u8 0,.int .i64 nd]] H = some (.int .i64 e,H,[]):=hce false
    obtain ⟨x,hx⟩:∃ x,c.nodes[ot]? = some x:=⟨_,z9e hot⟩
    obtain ⟨p1,p2,p3,p4⟩:=hpin x (List.mem_of_getElem? hx)
    simp only [Cir.enc,FX.enc,ho]
    by_cases he0:e = 0
    ·subst he0
     (refine svE Tryz.f18 ?_;simp only [Tryz.f18,gS])
     (repeat first|simp only [ww]|(apply xa;simp +decide only [go_sem,c0,w1,w2,w3,w4,w5,w6,hN1,hN2,hm2,hx,hnd,hot,p1,p2,p3,p4,hce,hsw];rfl;kernel_rfl))
     refine a4s (vs:=[.agg (Flt.enc ⟨2,ot,-1,0,nd⟩)]) (r:=(.agg (Flt.enc ⟨2,ot,-1,0,nd⟩),[])) (by simp +decide only [go_sem,hm2,hN1,hN2]<;>rfl) ?_ ⟨_,he rfl,rfl⟩
     simp +decide only [go_sem]
    ·have ce:¬ (e:Int) = 0:=by omega
     (refine svE Tryz.f18 ?_;simp only [Tryz.f18,gS])
     (repeat first|simp only [ww]|(apply xa;simp +decide only [go_sem,c0,w1,w2,w3,w4,w5,w6,hN1,hN2,hm2,hx,hnd,hot,p1,p2,p3,p4,hce,ce,hsw];rfl;kernel_rfl))
     refine a4s (vs:=[.agg (Flt.enc ⟨0,ot,((f.pin % (x.ins.length + 1):Nat):Int) - 1,0,0⟩)]) (r:=(.agg (Flt.enc ⟨0,ot,((f.pin % (x.ins.length + 1):Nat):Int) - 1,0,0⟩),[])) (by simp +decide only [go_sem,hx,hN1,hN2,p1,p2,p3,p4]<;>rfl) ?_ ⟨_,a7q hx (p:=f.pin) (v:=0) (by omega),rfl⟩
     simp +decide only [go_sem]
   ·obtain ⟨e,he,hce⟩:=a4h c h ⟨2,ot,-1,1,nd⟩ ⟨.inl rfl,hot,rfl,by show 1 ≤ 1;omega,hnd,fun _=>by show ot ≤ nd;omega,fun hh=>by have hh:(2:Nat) = 3:=hh;omega⟩
    have hce:∀ H,a0e L.env false (sem L.env Mf) (.func (.func 28) [] []) [.agg [sl c.nc (c.nodes.map Nd.enc),sl c.mc (c.names.map a44),.nilslice,sl c.oc (c.outs.map a0n)],.agg [.int .u8 ((2:Nat):Int),.int .i64 ot,.int .i64 (-1),.int .u8 1,.int .i64 nd]] H = some (.int .i64 e,H,[]):=hce false
    obtain ⟨x,hx⟩:∃ x,c.nodes[ot]? = some x:=⟨_,z9e hot⟩
    obtain ⟨p1,p2,p3,p4⟩:=hpin x (List.mem_of_getElem? hx)
    simp only [Cir.enc,FX.enc,ho]
    by_cases he0:e = 0
    ·subst he0
     (refine svE Tryz.f18 ?_;simp only [Tryz.f18,gS])
     (repeat first|simp only [ww]|(apply xa;simp +decide only [go_sem,c0,w1,w2,w3,w4,w5,w6,hN1,hN2,hm2,hx,hnd,hot,p1,p2,p3,p4,hce,hsw];rfl;kernel_rfl))
     refine a4s (vs:=[.agg (Flt.enc ⟨2,ot,-1,1,nd⟩)]) (r:=(.agg (Flt.enc ⟨2,ot,-1,1,nd⟩),[])) (by simp +decide only [go_sem,hm2,hN1,hN2]<;>rfl) ?_ ⟨_,he rfl,rfl⟩
     simp +decide only [go_sem]
    ·have ce:¬ (e:Int) = 0:=by omega
     (refine svE Tryz.f18 ?_;simp only [Tryz.f18,gS])
     (repeat first|simp only [ww]|(apply xa;simp +decide only [go_sem,c0,w1,w2,w3,w4,w5,w6,hN1,hN2,hm2,hx,hnd,hot,p1,p2,p3,p4,hce,ce,hsw];rfl;kernel_rfl))
     refine a4s (vs:=[.agg (Flt.enc ⟨0,ot,((f.pin % (x.ins.length + 1):Nat):Int) - 1,1,0⟩)]) (r:=(.agg (Flt.enc ⟨0,ot,((f.pin % (x.ins.length + 1):Nat):Int) - 1,1,0⟩),[])) (by simp +decide only [go_sem,hx,hN1,hN2,p1,p2,p3,p4]<;>rfl) ?_ ⟨_,a7q hx (p:=f.pin) (v:=1) (by omega),rfl⟩
     simp +decide only [go_sem]
  ·have hsw:¬ (ot:Int) < nd:=by omega
   cases ho:f.one
   ·obtain ⟨e,he,hce⟩:=a4h c h ⟨2,nd,-1,0,ot⟩ ⟨.inl rfl,hnd,rfl,by show 0 ≤ 1;omega,hot,fun _=>by show nd ≤ ot;omega,fun hh=>by have hh:(2:Nat) = 3:=hh;omega⟩
    have hce:∀ H,a0e L.env false (sem L.env Mf) (.func (.func 28) [] []) [.agg [sl c.nc (c.nodes.map Nd.enc),sl c.mc (c.names.map a44),.nilslice,sl c.oc (c.outs.map a0n)],.agg [.int .u8 ((2:Nat):Int),.int .i64 nd,.int .i64 (-1),.int .u8 0,.int .i64 ot]] H = some (.int .i64 e,H,[]):=hce false
    obtain ⟨x,hx⟩:∃ x,c.nodes[nd]? = some x:=⟨_,z9e hnd⟩
    obtain ⟨p1,p2,p3,p4⟩:=hpin x (List.mem_of_getElem? hx)
    simp only [Cir.enc,FX.enc,ho]
    by_cases he0:e = 0
    ·subst he0
     (refine svE Tryz.f18 ?_;simp only [Tryz.f18,gS])
     (repeat first|simp only [ww]|(apply xa;simp +decide only [go_sem,c0,w1,w2,w3,w4,w5,w6,hN1,hN2,hm2,hx,hnd,hot,p1,p2,p3,p4,hce,hsw];rfl;kernel_rfl))
     refine a4s (vs:=[.agg (Flt.enc ⟨2,nd,-1,0,ot⟩)]) (r:=(.agg (Flt.enc ⟨2,nd,-1,0,ot⟩),[])) (by simp +decide only [go_sem,hm2,hN1,hN2]<;>rfl) ?_ ⟨_,he rfl,rfl⟩
     simp +decide only [go_sem]
    ·have ce:¬ (e:Int) = 0:=by omega
     (refine svE Tryz.f18 ?_;simp only [Tryz.f18,gS])
     (repeat first|simp only [ww]|(apply xa;simp +decide only [go_sem,c0,w1,w2,w3,w4,w5,w6,hN1,hN2,hm2,hx,hnd,hot,p1,p2,p3,p4,hce,ce,hsw];rfl;kernel_rfl))
     refine a4s (vs:=[.agg (Flt.enc ⟨0,nd,((f.pin % (x.ins.length + 1):Nat):Int) - 1,0,0⟩)]) (r:=(.agg (Flt.enc ⟨0,nd,((f.pin % (x.ins.length + 1):Nat):Int) - 1,0,0⟩),[])) (by simp +decide only [go_sem,hx,hN1,hN2,p1,p2,p3,p4]<;>rfl) ?_ ⟨_,a7q hx (p:=f.pin) (v:=0) (by omega),rfl⟩
     simp +decide only [go_sem]
   ·obtain ⟨e,he,hce⟩:=a4h c h ⟨2,nd,-1,1,ot⟩ ⟨.inl rfl,hnd,rfl,by show 1 ≤ 1;omega,hot,fun _=>by show nd ≤ ot;omega,fun hh=>by have hh:(2:Nat) = 3:=hh;omega⟩
    have hce:∀ H,a0e L.env false (sem L.env Mf) (.func (.func 28) [] []) [.agg [sl c.nc (c.nodes.map Nd.enc),sl c.mc (c.names.map a44),.nilslice,sl c.oc (c.outs.map a0n)],.agg [.int .u8 ((2:Nat):Int),.int .i64 nd,.int .i64 (-1),.int .u8 1,.int .i64 ot]] H = some (.int .i64 e,H,[]):=hce false
    obtain ⟨x,hx⟩:∃ x,c.nodes[nd]? = some x:=⟨_,z9e hnd⟩
    obtain ⟨p1,p2,p3,p4⟩:=hpin x (List.mem_of_getElem? hx)
    simp only [Cir.enc,FX.enc,ho]
    by_cases he0:e = 0
    ·subst he0
     (refine svE Tryz.f18 ?_;simp only [Tryz.f18,gS])
     (repeat first|simp only [ww]|(apply xa;simp +decide only [go_sem,c0,w1,w2,w3,w4,w5,w6,hN1,hN2,hm2,hx,hnd,hot,p1,p2,p3,p4,hce,hsw];rfl;kernel_rfl))
     refine a4s (vs:=[.agg (Flt.enc ⟨2,nd,-1,1,ot⟩)]) (r:=(.agg (Flt.enc ⟨2,nd,-1,1,ot⟩),[])) (by simp +decide only [go_sem,hm2,hN1,hN2]<;>rfl) ?_ ⟨_,he rfl,rfl⟩
     simp +decide only [go_sem]
    ·have ce:¬ (e:Int) = 0:=by omega
     (refine svE Tryz.f18 ?_;simp only [Tryz.f18,gS])
     (repeat first|simp only [ww]|(apply xa;simp +decide only [go_sem,c0,w1,w2,w3,w4,w5,w6,hN1,hN2,hm2,hx,hnd,hot,p1,p2,p3,p4,hce,ce,hsw];rfl;kernel_rfl))
     refine a4s (vs:=[.agg (Flt.enc ⟨0,nd,((f.pin % (x.ins.length + 1):Nat):Int) - 1,1,0⟩)]) (r:=(.agg (Flt.enc ⟨0,nd,((f.pin % (x.ins.length + 1):Nat):Int) - 1,1,0⟩),[])) (by simp +decide only [go_sem,hx,hN1,hN2,p1,p2,p3,p4]<;>rfl) ?_ ⟨_,a7q hx (p:=f.pin) (v:=1) (by omega),rfl⟩
     simp +decide only [go_sem]
 ·cases ho:f.one
  ·obtain ⟨e,he,hce⟩:=a4h c h ⟨3,nd,-1,0,ot⟩ ⟨.inr rfl,hnd,rfl,by show 0 ≤ 1;omega,hot,fun hh=>by have hh:(3:Nat) = 2:=hh;omega,fun _=>rfl⟩
   have hce:∀ H,a0e L.env false (sem L.env Mf) (.func (.func 28) [] []) [.agg [sl c.nc (c.nodes.map Nd.enc),sl c.mc (c.names.map a44),.nilslice,sl c.oc (c.outs.map a0n)],.agg [.int .u8 ((3:Nat):Int),.int .i64 nd,.int .i64 (-1),.int .u8 0,.int .i64 ot]] H = some (.int .i64 e,H,[]):=hce false
   obtain ⟨x,hx⟩:∃ x,c.nodes[nd]? = some x:=⟨_,z9e hnd⟩
   obtain ⟨p1,p2,p3,p4⟩:=hpin x (List.mem_of_getElem? hx)
   simp only [Cir.enc,FX.enc,ho]
   by_cases he0:e = 0
   ·subst he0
    (refine svE Tryz.f18 ?_;simp only [Tryz.f18,gS])
    (repeat first|simp only [ww]|(apply xa;simp +decide only [go_sem,c0,w1,w2,w3,w4,w5,w6,hN1,hN2,hm3,hx,hnd,hot,p1,p2,p3,p4,hce];rfl;kernel_rfl))
    refine a4s (vs:=[.agg (Flt.enc ⟨3,nd,-1,0,ot⟩)]) (r:=(.agg (Flt.enc ⟨3,nd,-1,0,ot⟩),[])) (by simp +decide only [go_sem,hm3,hN1,hN2]<;>rfl) ?_ ⟨_,he rfl,rfl⟩
    simp +decide only [go_sem]
   ·have ce:¬ (e:Int) = 0:=by omega
    (refine svE Tryz.f18 ?_;simp only [Tryz.f18,gS])
    (repeat first|simp only [ww]|(apply xa;simp +decide only [go_sem,c0,w1,w2,w3,w4,w5,w6,hN1,hN2,hm3,hx,hnd,hot,p1,p2,p3,p4,hce,ce];rfl;kernel_rfl))
    refine a4s (vs:=[.agg (Flt.enc ⟨0,nd,((f.pin % (x.ins.length + 1):Nat):Int) - 1,0,0⟩)]) (r:=(.agg (Flt.enc ⟨0,nd,((f.pin % (x.ins.length + 1):Nat):Int) - 1,0,0⟩),[])) (by simp +decide only [go_sem,hx,hN1,hN2,p1,p2,p3,p4]<;>rfl) ?_ ⟨_,a7q hx (p:=f.pin) (v:=0) (by omega),rfl⟩
    simp +decide only [go_sem]
  ·obtain ⟨e,he,hce⟩:=a4h c h ⟨3,nd,-1,0,ot⟩ ⟨.inr rfl,hnd,rfl,by show 0 ≤ 1;omega,hot,fun hh=>by have hh:(3:Nat) = 2:=hh;omega,fun _=>rfl⟩
   have hce:∀ H,a0e L.env false (sem L.env Mf) (.func (.func 28) [] []) [.agg [sl c.nc (c.nodes.map Nd.enc),sl c.mc (c.names.map a44),.nilslice,sl c.oc (c.outs.map a0n)],.agg [.int .u8 ((3:Nat):Int),.int .i64 nd,.int .i64 (-1),.int .u8 0,.int .i64 ot]] H = some (.int .i64 e,H,[]):=hce false
   obtain ⟨x,hx⟩:∃ x,c.nodes[nd]? = some x:=⟨_,z9e hnd⟩
   obtain ⟨p1,p2,p3,p4⟩:=hpin x (List.mem_of_getElem? hx)
   simp only [Cir.enc,FX.enc,ho]
   by_cases he0:e = 0
   ·subst he0
    (refine svE Tryz.f18 ?_;simp only [Tryz.f18,gS])
    (repeat first|simp only [ww]|(apply xa;simp +decide only [go_sem,c0,w1,w2,w3,w4,w5,w6,hN1,hN2,hm3,hx,hnd,hot,p1,p2,p3,p4,hce];rfl;kernel_rfl))
    refine a4s (vs:=[.agg (Flt.enc ⟨3,nd,-1,0,ot⟩)]) (r:=(.agg (Flt.enc ⟨3,nd,-1,0,ot⟩),[])) (by simp +decide only [go_sem,hm3,hN1,hN2]<;>rfl) ?_ ⟨_,he rfl,rfl⟩
    simp +decide only [go_sem]
   ·have ce:¬ (e:Int) = 0:=by omega
    (refine svE Tryz.f18 ?_;simp only [Tryz.f18,gS])
    (repeat first|simp only [ww]|(apply xa;simp +decide only [go_sem,c0,w1,w2,w3,w4,w5,w6,hN1,hN2,hm3,hx,hnd,hot,p1,p2,p3,p4,hce,ce];rfl;kernel_rfl))
    refine a4s (vs:=[.agg (Flt.enc ⟨0,nd,((f.pin % (x.ins.length + 1):Nat):Int) - 1,0,0⟩)]) (r:=(.agg (Flt.enc ⟨0,nd,((f.pin % (x.ins.length + 1):Nat):Int) - 1,0,0⟩),[])) (by simp +decide only [go_sem,hx,hN1,hN2,p1,p2,p3,p4]<;>rfl) ?_ ⟨_,a7q hx (p:=f.pin) (v:=0) (by omega),rfl⟩
    simp +decide only [go_sem]
attribute [go_sem] Pat.enc
structure PatOk (nodes:List Nd) (p:Pat):Prop where
 ins:p.ins.length = (kinds nodes 0).length
 sts:p.sts.length = (kinds nodes 14).length
 inv:∀ v ∈ p.ins,v ≤ 3
 stv:∀ v ∈ p.sts,v ≤ 3
theorem a63 (nodes:List Nd) (k:Nat):(kinds nodes k).length ≤ nodes.length:=b2v _ _ _
theorem d2g (c:Cir) (h:c.wf) (k:Nat):sem L.env Mf 30 [.agg c.enc,.int .u8 k] [] = some (.int .i64 (kinds c.nodes k).length,[]):=by
 have hn:=h.len
 simp only [Cir.enc]
 (refine sv Tryz.f30 ?_;simp only [Tryz.f30,gS])
 (repeat first|simp only [ww]|(apply xa;simp +decide only [go_sem];rfl;kernel_rfl))
 refine a0l (σ:=Nat) kp30_0 (fun i=>[(1,.int .u8 k),(2,.ptr 0 0 0),(5,.int .i64 (a3l c.nodes k i).length),(6,.int .i64 i)])
  (fun i=>[some (.row 4 [[sl c.nc (c.nodes.map Nd.enc),sl c.mc (c.names.map a44),.nilslice,sl c.oc (c.outs.map a0n)]])]) (fun i=>c.nodes.length - i) (fun i=>i ≤ c.nodes.length) 0 ?_ (Nat.zero_le _) ?_
 ·have e:a3l c.nodes k 0 = []:=rfl
  (simp +decide only [go_sem,a02,a00,e,List.length_nil]<;>rfl)
 ·intro i hi
  by_cases hlt:i < c.nodes.length
  ·obtain ⟨x,hx⟩:∃ x,c.nodes[i]? = some x:=⟨_,z9e hlt⟩
   have c1:(i:Int) < c.nodes.length:=by omega
   have hw:=wI1 (n:=i) (by omega)
   have hle:=b2v c.nodes k i
   have hw2:=wI1 (n:=(a3l c.nodes k i).length) (by omega)
   have hs:=b2u c.nodes k i
   rw [a1k hx] at hs
   by_cases hk:x.kind = k
   ·have ck:decide ((x.kind:Int) = k) = true:=decide_eq_true (by omega)
    rw [if_pos hk] at hs
    have hl:(a3l c.nodes k (i + 1)).length = (a3l c.nodes k i).length + 1:=by rw [hs];simp
    (repeat first|simp only [ww]|(apply xa;simp +decide only [go_sem,c1,hlt,hx,hw,hw2,ck];rfl;kernel_rfl))
    refine a1m (i + 1) ?_ (by omega) (by omega)
    (simp +decide only [go_sem,a02,a00,hl]<;>rfl)
   ·have ck:¬ (x.kind:Int) = k:=by omega
    rw [if_neg hk] at hs
    (repeat first|simp only [ww]|(apply xa;simp +decide only [go_sem,c1,hlt,hx,hw,hw2,ck];rfl;kernel_rfl))
    refine a1m (i + 1) ?_ (by omega) (by omega)
    (simp +decide only [go_sem,a02,a00,hs]<;>rfl)
  ·obtain rfl:i = c.nodes.length:=by omega
   have c1:¬ (c.nodes.length:Int) < c.nodes.length:=by omega
   (repeat first|simp only [ww]|(apply xa;simp +decide only [go_sem,c1];rfl;kernel_rfl))
   (apply fqb;simp +decide only [go_sem,kinds]<;>rfl)
theorem b59 {d:Bool} (H:a06) (c:Cir) (h:c.wf) {n:Int} (k:Nat) (hk:n = k):a0e L.env d (sem L.env Mf) (.func (.func 30) [] []) [.agg c.enc,.int .u8 n] H = some (.int .i64 (kinds c.nodes k).length,H,[]):=by
 subst hk
 exact a05 (by kernel_rfl) (by kernel_rfl) rfl (by simp only [a0c,a10,Cir.enc,go_sem]) (d2g c h k) rfl
theorem c26 (l:List Nat):(l.map u8R).flatMap a0d = []:=a03 (FlatR.map fun _=>rfl)
theorem d0m (π:Nat → Option Nat) (l:List Nat):(l.map u8R).map (fun r=>r.map (ren π)) = l.map u8R:=a01 π (FlatR.map fun _=>rfl)
theorem e6u {m:Nat} {d:AV → Option AV} (l:List Nat):a7m m d (l.map u8R) = some (l.map u8R):=a0s m d (FlatR.map fun _=>rfl)
theorem d01 (r:Rep) (l:List Nat) (hv:∀ v ∈ l,v < 256) (hl:l.length < 9223372036854775808) (n most:Nat) (hn:n ≤ 100000) (hm:0 < most) (hm4:most ≤ 4) (hm3:3 ≤ most):∃ r':AV × a06,(∃ out:List Nat,out.length = n ∧ (∀ v ∈ out,v ≤ 3) ∧ r' = (sl none (out.map u8R),[])) ∧ sem L.env Mf 29 [sl r (l.map u8R),.int .i64 n,.int .u8 most] [] = some r':=by
 (refine svE Tryz.f29 ?_;simp only [Tryz.f29,gS])
 (repeat first|simp only [ww]|(apply xa;simp +decide only [go_sem];rfl;kernel_rfl))
 refine a24 kp29_0 (fun q F H=>∃ out:List Nat,q = n - out.length ∧ out.length ≤ n ∧ (∀ v ∈ out,v ≤ 3) ∧ F = [(0,sl r (l.map u8R)),(1,.int .i64 n),(2,.int .u8 most),(7,grV 0 (out.map u8R)),(8,.int .i64 out.length)] ∧ H = grH 1 (out.map u8R)) (n - 0) ?_ ?_
 ·refine ⟨_,_,?_,[],rfl,Nat.zero_le _,by simp,rfl,rfl⟩
  (simp +decide only [go_sem,a02,a00,List.map_nil,a0q,a0r]<;>rfl)<;>rfl
 ·rintro q F H ⟨out,rfl,ho,hov,rfl,rfl⟩
  by_cases hlt:out.length < n
  ·have c1:(out.length:Int) < n:=by omega
   have hw:=wI1 (n:=out.length) (by omega)
   have hrm:out.length + 1 ≤ 1000000000:=by omega
   by_cases hle:l = []
   ·subst hle
    cases out with
    | nil=>
     simp only [List.length_nil] at hw c1
     (repeat first|simp only [ww]|(apply xa;simp +decide only [go_sem,c1,hw,List.map_nil,List.length_nil,List.map_nil,a0q,a0r,List.length_nil];rfl;kernel_rfl))
     refine a12 (n - 1) (by simp at hlt ⊢;omega) ⟨_,_,?_,[2],rfl,by simp at hlt ⊢;omega,by intro u hu;simp only [List.mem_singleton] at hu;subst hu;omega,rfl,rfl⟩
     (simp +decide only [go_sem,a02,a00,List.map_cons,List.map_nil,a0a,a0b,List.length_nil,List.length_cons,c26,d0m]<;>rfl)<;>rfl
    | cons a r2=>
     simp only [List.length_cons] at hrm hw c1 hlt
     (repeat first|simp only [ww]|(apply xa;simp +decide only [go_sem,c1,hw,List.map_nil,List.length_nil,List.map_cons,a0a,a0b,hrm,List.length_cons];rfl;kernel_rfl))
     refine a12 (n - (r2.length + 1 + 1)) (by simp;omega) ⟨_,_,?_,(a :: r2) ++ [2],by simp,by simp;omega,by intro u hu;rw [List.mem_append] at hu;rcases hu with hu|hu;exact hov u hu;simp only [List.mem_singleton] at hu;subst hu;omega,rfl,rfl⟩
     (simp +decide only [go_sem,a02,a00,List.cons_append,List.map_cons,List.map_nil,a0a,a0b,List.length_cons,c26,d0m]<;>rfl)<;>rfl
   ·have hl0:0 < l.length:=List.length_pos_iff.2 hle
    have cl:¬ (l.length:Int) = 0:=by omega
    have hml:=Nat.mod_lt out.length hl0
    obtain ⟨u,hu⟩:∃ u,l[out.length % l.length]? = some u:=⟨_,z9e hml⟩
    have hub:=hv u (List.mem_of_getElem? hu)
    have hmm:=Nat.mod_lt u hm
    have cm:¬ (most:Int) = 0:=by omega
    have w1:=wI (n:=out.length % l.length) (by omega)
    have w2:=wB (n:=u % most) (by omega)
    cases out with
    | nil=>
     simp only [List.length_nil] at hml hu w1 hw c1
     (repeat first|simp only [ww]|(apply xa;simp +decide only [go_sem,c1,hw,cl,hml,hu,cm,w1,w2,List.map_nil,a0q,a0r,List.length_nil];rfl;kernel_rfl))
     refine a12 (n - 1) (by simp at hlt ⊢;omega) ⟨_,_,?_,[u % most],rfl,by simp at hlt ⊢;omega,by intro u hu;simp only [List.mem_singleton] at hu;subst hu;omega,rfl,rfl⟩
     (simp +decide only [go_sem,a02,a00,List.map_cons,List.map_nil,a0a,a0b,List.length_nil,List.length_cons,c26,d0m]<;>rfl)<;>rfl
    | cons a r2=>
     simp only [List.length_cons] at hrm hw c1 hlt hml hu w1
     (repeat first|simp only [ww]|(apply xa;simp +decide only [go_sem,c1,hw,cl,hml,hu,cm,w1,w2,List.map_cons,a0a,a0b,hrm,List.length_cons];rfl;kernel_rfl))
     refine a12 (n - (r2.length + 1 + 1)) (by simp;omega) ⟨_,_,?_,(a :: r2) ++ [u % most],by simp,by simp;omega,by intro u hu;rw [List.mem_append] at hu;rcases hu with hu|hu;exact hov u hu;simp only [List.mem_singleton] at hu;subst hu;omega,rfl,rfl⟩
     (simp +decide only [go_sem,a02,a00,List.cons_append,List.map_cons,List.map_nil,a0a,a0b,List.length_cons,c26,d0m]<;>rfl)<;>rfl
  ·obtain rfl:n = out.length:=by omega
   have c1:¬ (out.length:Int) < out.length:=by omega
   cases out with
   | nil=>
    (repeat first|simp only [ww]|(apply xa;simp +decide only [go_sem,c1,List.map_nil,a0q,a0r];rfl;kernel_rfl))
    refine a4s (vs:=[.nilslice]) (r:=(.nilslice,[])) (by simp +decide only [go_sem]) ?_ ⟨[],rfl,by simp,rfl⟩
    simp +decide only [go_sem]
   | cons a r2=>
    simp only [List.length_cons] at c1
    (repeat first|simp only [ww]|(apply xa;simp +decide only [go_sem,c1,List.map_cons,a0a,a0b,List.length_cons];rfl;kernel_rfl))
    refine a4s (vs:=[.slice 0 0 (r2.length + 1) none]) (r:=(sl none ((a :: r2).map u8R),[])) (by simp +decide only [go_sem]) ?_ ⟨a :: r2,rfl,hov,rfl⟩
    show a2a false 0 (.slice 0 0 (r2.length + 1) none) _ = _
    simp +decide only [go_sem,e6u,List.map_cons,a5x]
theorem b48 (r:Rep) (l:List Nat) (hv:∀ v ∈ l,v < 256) (hl:l.length < 9223372036854775808) (n most:Nat) (hn:n ≤ 100000) (hm:0 < most) (hm4:most ≤ 4) (hm3:3 ≤ most):∃ out:List Nat,out.length = n ∧ (∀ v ∈ out,v ≤ 3) ∧ ∀ (d:Bool) (H:a06) (k:Int),k = most → a0e L.env d (sem L.env Mf) (.func (.func 29) [] []) [sl r (l.map u8R),.int .i64 n,.int .u8 k] H = some (sl none (out.map u8R),H,[]):=by
 obtain ⟨r',⟨out,h1,h2,rfl⟩,h3⟩:=d01 r l hv hl n most hn hm hm4 hm3
 refine ⟨out,h1,h2,fun d H k hk=>?_⟩
 subst hk
 exact a05 (by kernel_rfl) (by kernel_rfl) rfl (by simp only [List.nil_append,List.append_nil,a0c,go_sem]) h3 (a2r _ _)
structure PxOk (p:Pat):Prop where
 inv:∀ v ∈ p.ins,v < 256
 stv:∀ v ∈ p.sts,v < 256
 inl:p.ins.length < 9223372036854775808
 stl:p.sts.length < 9223372036854775808
theorem e0y (c:Cir) (h:c.wf) (p:Pat) (hp:PxOk p):∃ r:AV × a06,(∃ q,PatOk c.nodes q ∧ r = (.agg q.enc,[])) ∧ sem L.env Mf 19 [.agg p.enc,.agg c.enc] [] = some r:=by
 have hn:=h.len
 have hk0:=a63 c.nodes 0
 have hk14:=a63 c.nodes 14
 have hc0:=fun H=>b59 (d:=true) H c h (n:=0) 0 rfl
 have hc14:=fun H=>b59 (d:=true) H c h (n:=14) 14 rfl
 obtain ⟨a,a1,a2,ha⟩:=b48 p.ic p.ins hp.inv hp.inl (kinds c.nodes 0).length 4 (by omega) (by omega) (by omega) (by omega)
 obtain ⟨b,b1,b2,hb⟩:=b48 p.sc p.sts hp.stv hp.stl (kinds c.nodes 14).length 3 (by omega) (by omega) (by omega) (by omega)
 have ha:=fun H=>ha true H 4 rfl
 have hb:=fun H=>hb true H 3 rfl
 simp only [Cir.enc] at hc0 hc14
 simp only [Cir.enc,Pat.enc]
 (refine svE Tryz.f19 ?_;simp only [Tryz.f19,gS])
 (repeat first|simp only [ww]|(apply xa;simp +decide only [go_sem,hc0,hc14,ha,hb];rfl;kernel_rfl))
 refine a4s (vs:=[.agg (Pat.enc ⟨none,a,none,b⟩)]) (r:=(.agg (Pat.enc ⟨none,a,none,b⟩),[])) (by simp +decide only [go_sem]<;>rfl) ?_ ⟨_,⟨a1,b1,a2,b2⟩,rfl⟩
 simp +decide only [go_sem]
theorem b1k (c:Cir) (h:c.wf) (p:Pat) (hp:PxOk p):∃ q,PatOk c.nodes q ∧ ∀ (d:Bool) (H:a06),a0e L.env d (sem L.env Mf) (.func (.func 19) [] []) [.agg p.enc,.agg c.enc] H = some (.agg q.enc,H,[]):=by
 obtain ⟨r,⟨q,h1,rfl⟩,h2⟩:=e0y c h p hp
 exact ⟨q,h1,fun d H=>a05 (by kernel_rfl) (by kernel_rfl) rfl (by simp only [a0c,a10,Cir.enc,Pat.enc,go_sem]) h2 (by simp only [a10,Pat.enc,go_sem])⟩
theorem c24 (c:Cir) (h:c.wf) (f:FX) (hf:f.ok) (hm:f.model % 4 ≠ 1):∃ g,FltOk c.nodes g ∧ ∀ (d:Bool) (H:a06),a0e L.env d (sem L.env Mf) (.func (.func 18) [] []) [.agg f.enc,.agg c.enc] H = some (.agg g.enc,H,[]):=by
 obtain ⟨r,⟨g,h1,rfl⟩,h2⟩:=e1x c h f hf hm
 exact ⟨g,h1,fun d H=>a05 (by kernel_rfl) (by kernel_rfl) rfl (by simp only [a0c,a10,Cir.enc,FX.enc,go_sem]) h2 rfl⟩
/- patterns that fit -/
theorem d3a (v:Nat) (hv:v ≤ 3):sem L.env Mf 109 [.int .u8 v] [] = some (.bool false,[]):=by
 have c1:¬ (3:Int) < v:=by omega
 (refine sv Tryz.f109 ?_;simp only [Tryz.f109,gS])
 (repeat first|simp only [ww]|(apply xa;simp +decide only [go_sem,c1];rfl;kernel_rfl))
 (apply fqb;simp +decide only [go_sem]<;>rfl)
theorem c4l {d:Bool} (H:a06) (v:Nat) (hv:v ≤ 3):a0e L.env d (sem L.env Mf) (.func (.func 109) [] []) [.int .u8 v] H = some (.bool false,H,[]):=
 a05 (by kernel_rfl) (by kernel_rfl) rfl rfl (d3a v hv) rfl
def a8x:AV:=.func (.func 109) [] []
theorem c7d (r:Rep) (l:List Nat) (hl:l.length < 1000000) (hc:∀ v ∈ l,v ≤ 3) :
 sem L.env Mf 144 [sl r (l.map u8R),a8x] [] = some (.int .i64 (-1),[]):=by
 unfold a8x
 (refine sv Tryz.f144 ?_;simp only [Tryz.f144,gS])
 (repeat first|simp only [ww]|(apply xa;simp +decide only [go_sem];rfl;kernel_rfl))
 refine a0l (σ:=Nat) kp144_0 (fun i=>[(0,sl r (l.map u8R)),(1,a8x),(7,.int .i64 l.length),(8,.int .i64 i)])
  (fun _=>[]) (fun i=>l.length - i) (fun i=>i ≤ l.length) 0 ?_ (Nat.zero_le _) ?_
 ·unfold a8x
  (simp +decide only [go_sem,a02,a00]<;>rfl)
 ·intro i hi
  unfold a8x
  by_cases hlt:i < l.length
  ·obtain ⟨x,hx⟩:∃ x,l[i]? = some x:=⟨_,z9e hlt⟩
   have c1:(i:Int) < l.length:=by omega
   have hw:=wI1 (n:=i) (by omega)
   have hcx:=fun H=>c4l (d:=false) H x (hc x (List.mem_of_getElem? hx))
   (repeat first|simp only [ww]|(apply xa;simp +decide only [go_sem,c1,hlt,hx,hw,hcx];rfl;kernel_rfl))
   refine a1m (i + 1) ?_ (by omega) (by omega)
   (simp +decide only [go_sem,a02,a00,a8x]<;>rfl)
  ·obtain rfl:i = l.length:=by omega
   have c1:¬ (l.length:Int) < l.length:=by omega
   (repeat first|simp only [ww]|(apply xa;simp +decide only [go_sem,c1];rfl;kernel_rfl))
   (apply fqb;simp +decide only [go_sem]<;>rfl)
theorem c45 (r:Rep) (l:List Nat) (hl:l.length < 1000000) (hc:∀ v ∈ l,v ≤ 3) :
 sem L.env Mf 108 [sl r (l.map u8R),a8x] [] = some (.bool false,[]):=by
 have h:=fun H=>a05 (E:=L.env) (draw:=false) (call:=sem L.env Mf) (g:=144) (fs:=[]) (cs:=[]) (ar:=[sl r (l.map u8R),a8x]) (H:=H) (by kernel_rfl) (by kernel_rfl) rfl (by simp only [List.nil_append,List.append_nil,a0c,a8x,go_sem]) (c7d r l hl hc) rfl
 have c1:¬ (0:Int) ≤ -1:=by omega
 unfold a8x at h ⊢
 (refine sv Tryz.f108 ?_;simp only [Tryz.f108,gS])
 (repeat first|simp only [ww]|(apply xa;simp +decide only [go_sem,h,c1];rfl;kernel_rfl))
 (apply fqb;simp +decide only [go_sem]<;>rfl)
theorem b5a {d:Bool} (H:a06) (r:Rep) (l:List Nat) (hl:l.length < 1000000) (hc:∀ v ∈ l,v ≤ 3):a0e L.env d (sem L.env Mf) (.func (.func 108) [] []) [sl r (l.map u8R),.func (.func 109) [] []] H = some (.bool false,H,[]):=
 a05 (by kernel_rfl) (by kernel_rfl) rfl (by simp only [List.nil_append,List.append_nil,a0c,go_sem]) (c45 r l hl hc) rfl
theorem d6u (c:Cir) (h:c.wf):kinds c.nodes 15 = []:=by
 unfold kinds a3l
 rw [List.filter_eq_nil_iff]
 intro j hj
 have hj:j < c.nodes.length:=by simpa using hj
 obtain ⟨x,hx⟩:∃ x,c.nodes[j]? = some x:=⟨_,z9e hj⟩
 have:=h.kind x (List.mem_of_getElem? hx)
 rw [a1k hx]
 simp;omega
theorem d7f (c:Cir) (h:c.wf) (p:Pat) (hp:PatOk c.nodes p):sem L.env Mf 62 [.agg c.enc,.agg p.enc] [] = some (.int .i64 0,[]):=by
 have hn:=h.len
 have hk0:=a63 c.nodes 0
 have hk14:=a63 c.nodes 14
 have l1:=hp.ins
 have l2:=hp.sts
 have ho:=fun X Y=>b64 (d:=false) (H:=[X,Y,some (.row 1 [[.int .u8 15]])]) (b:=2) c (k:=15) rfl (by omega) rfl
 rw [d6u c h,c1v] at ho
 have hi:=fun H=>b2x (d:=true) H c (by omega)
 have hs:=fun H=>b20 (d:=true) H c (by omega)
 obtain ⟨r0,e0⟩:=a3b (kinds c.nodes 0)
 obtain ⟨r1,e1⟩:=a3b (kinds c.nodes 14)
 rw [e0] at hi
 rw [e1] at hs
 have hc1:=fun H=>b5a (d:=false) H p.ic p.ins (by omega) hp.inv
 have hc2:=fun H=>b5a (d:=false) H p.sc p.sts (by omega) hp.stv
 simp only [Cir.enc] at ho hi hs
 simp only [Cir.enc,Pat.enc]
 (refine sv Tryz.f62 ?_;simp only [Tryz.f62,gS])
 (repeat first|simp only [ww]|(apply xa;simp +decide only [go_sem,ho,hi,hs,hc1,hc2,l1,l2];rfl;kernel_rfl))
 (apply fqb;simp +decide only [go_sem]<;>rfl)
theorem c5h (c:Cir) (h:c.wf) (p:Pat) (hp:PatOk c.nodes p):sem L.env Mf 80 [.agg c.enc,.agg p.enc] [] = some (.int .i64 0,[]):=by
 have hc:=fun H=>b2j (d:=false) H c h
 have hf:=fun H=>a05 (E:=L.env) (draw:=false) (call:=sem L.env Mf) (g:=62) (fs:=[]) (cs:=[]) (ar:=[.agg c.enc,.agg p.enc]) (H:=H) (by kernel_rfl) (by kernel_rfl) rfl (by simp only [List.nil_append,List.append_nil,a0c,a10,Cir.enc,Pat.enc,go_sem]) (d7f c h p hp) rfl
 simp only [Cir.enc,Pat.enc] at hc hf ⊢
 (refine sv Tryz.f80 ?_;simp only [Tryz.f80,gS])
 (repeat first|simp only [ww]|(apply xa;simp +decide only [go_sem,hc,hf];rfl;kernel_rfl))
 (apply fqb;simp +decide only [go_sem]<;>rfl)
theorem b9o {d:Bool} (H:a06) (c:Cir) (h:c.wf) (p:Pat) (hp:PatOk c.nodes p):a0e L.env d (sem L.env Mf) (.func (.func 80) [] []) [.agg c.enc,.agg p.enc] H = some (.int .i64 0,H,[]):=
 a05 (by kernel_rfl) (by kernel_rfl) rfl (by simp only [a0c,a10,Cir.enc,Pat.enc,go_sem]) (c5h c h p hp) rfl
end Go.MInst
