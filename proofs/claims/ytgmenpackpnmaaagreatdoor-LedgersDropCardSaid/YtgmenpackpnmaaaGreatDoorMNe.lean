/- Part of a proof. No condition. -/
import Derived.Test.YtgmenpackpnmaaaGreatDoorMWo
import Derived.Test.YtgmenpackpnmaaaGreatDoorMGa
import Derived.Test.YtgmenpackpnmaaaGreatDoorPcB
import Derived.Test.YtgmenpackpnmaaaGreatDoorAxE
set_option linter.unusedSimpArgs false
set_option linter.unusedVariables false
namespace Go.MInst
open Go.Proofs Go.Ax Go.Pc
set_option maxRecDepth 100000
open Go.Proofs Go.Ax Go.Pc
set_option maxRecDepth 100000
theorem c8i (w:W) (n v:Nat) (hn:n < 64) (hv:v < 256):sem L.env Mf 125 [.agg w.enc,.int .i64 n,.int .u8 v] [] = some (.agg (b06 w n v).enc,[]):=by
 have hc:=fun H=>b26 (d:=false) H v hv
 simp only [go_sem] at hc
 have h0:¬ (n:Int) < 0:=by omega
 (refine sv Tryz.f125 ?_;simp only [Tryz.f125,gS])
 (repeat first|simp only [ww]|(apply xa;simp +decide only [go_sem,hc,h0];rfl;kernel_rfl))
 (apply fqb;simp +decide only [go_sem,b06,d53]<;>rfl)
theorem c1b {d:Bool} (H:a05) (w:W) (n v:Nat) (hn:n < 64) (hv:v < 256):a0i L.env d (sem L.env Mf) (.func (.func 125) [] []) [.agg w.enc,.int .i64 n,.int .u8 v] H = some (.agg (b06 w n v).enc,H,[]):=
 a03 (by kernel_rfl) (by kernel_rfl) rfl rfl (c8i w n v hn hv) rfl
theorem d4w (k:Nat) (hk:k < 256):sem L.env Mf 64 [.int .u8 k] [] = some (.bool (a1r k),[]):=by
 by_cases h1:1 ≤ k
 ·have c1:(1:Int) ≤ k:=by omega
  by_cases h2:k ≤ 13
  ·have c2:(k:Int) ≤ 13:=by omega
   rw [show a1r k = true by simp [a1r,h1,h2]]
   (refine sv Tryz.f64 ?_;simp only [Tryz.f64,gS])
   (repeat first|simp only [ww]|(apply xa;simp +decide only [go_sem,c1,c2];rfl;kernel_rfl))
   (apply fqb;simp +decide only [go_sem]<;>rfl)
  ·have c2:¬ (k:Int) ≤ 13:=by omega
   rw [show a1r k = false by simp [a1r,h2]]
   (refine sv Tryz.f64 ?_;simp only [Tryz.f64,gS])
   (repeat first|simp only [ww]|(apply xa;simp +decide only [go_sem,c1,c2];rfl;kernel_rfl))
   (apply fqb;simp +decide only [go_sem]<;>rfl)
 ·have c1:¬ (1:Int) ≤ k:=by omega
  rw [show a1r k = false by simp [a1r,h1]]
  (refine sv Tryz.f64 ?_;simp only [Tryz.f64,gS])
  (repeat first|simp only [ww]|(apply xa;simp +decide only [go_sem,c1];rfl;kernel_rfl))
  (apply fqb;simp +decide only [go_sem]<;>rfl)
open Go.Proofs Go.Ax Go.Pc
set_option maxRecDepth 100000
open Go.Proofs Go.Ax Go.Pc
set_option maxRecDepth 100000
theorem d45 (k v:Nat):sem L.env Mf 167 [.slice 0 0 1 (some 1),.int .u8 v] [some (.row 1 [[.int .u8 k]])] = some (.int .i64 (if v = k then 0 else -1),[some (.row 1 [[.int .u8 k]])]):=by
 (refine sv Tryz.f167 ?_;simp only [Tryz.f167,gS])
 (repeat first|simp only [ww]|(apply xa;simp +decide only [go_sem];rfl;kernel_rfl))
 refine a0q (σ:=Nat) kp167_0 (fun i=>[(0,.slice 0 0 1 (some 1)),(1,.int .u8 v),(7,.int .i64 1),(8,.int .i64 i)])
  (fun _=>[some (.row 1 [[.int .u8 k]])]) (fun i=>1 - i) (fun i=>i ≤ 1 ∧ (i = 1 → v ≠ k)) 0 ?_ (by simp) ?_
 ·(simp +decide only [go_sem,a01,a00]<;>rfl)
 ·rintro i ⟨hi,hne⟩
  have hh:i = 0 ∨ i = 1:=by omega
  rcases hh with rfl|rfl
  ·by_cases h:v = k
   ·subst h
    (repeat first|simp only [ww]|(apply xa;simp +decide only [go_sem,if_pos];rfl;kernel_rfl))
    (apply fqb;simp +decide only [go_sem,if_pos]<;>rfl)
   ·have c:¬ (v:Int) = k:=by omega
    (repeat first|simp only [ww]|(apply xa;simp +decide only [go_sem,c];rfl;kernel_rfl))
    refine a1k 1 ?_ (by omega) (by simp [h])
    (simp +decide only [go_sem,a01,a00]<;>rfl)
  ·have h:=hne rfl
   have c:¬ (v:Int) = k:=by omega
   rw [if_neg h]
   (repeat first|simp only [ww]|(apply xa;simp +decide only [go_sem,c];rfl;kernel_rfl))
   (apply fqb;simp +decide only [go_sem]<;>rfl)
theorem d03 (k v:Nat):sem L.env Mf 143 [.slice 0 0 1 (some 1),.int .u8 v] [some (.row 1 [[.int .u8 k]])] = some (.bool (decide (v = k)),[some (.row 1 [[.int .u8 k]])]):=by
 have hc:a0i L.env false (sem L.env Mf) (.func (.func 167) [] []) [.slice 0 0 1 (some 1),.int .u8 v] [some (.row 1 [[.int .u8 k]])] = some (.int .i64 (if v = k then 0 else -1),[some (.row 1 [[.int .u8 k]])],[0]):=
  a35 (by kernel_rfl) (by kernel_rfl) rfl rfl rfl (FlatO.row (FlatR.cons rfl FlatR.nil)) rfl rfl (d45 k v) rfl
 by_cases h:v = k
 ·rw [if_pos h] at hc
  (refine sv Tryz.f143 ?_;simp only [Tryz.f143,gS])
  (repeat first|simp only [ww]|(apply xa;simp +decide only [go_sem,hc];rfl;kernel_rfl))
  (apply fqb;simp +decide only [go_sem,h]<;>rfl)
 ·rw [if_neg h] at hc
  (refine sv Tryz.f143 ?_;simp only [Tryz.f143,gS])
  (repeat first|simp only [ww]|(apply xa;simp +decide only [go_sem,hc];rfl;kernel_rfl))
  (apply fqb;simp +decide only [go_sem,h]<;>rfl)
theorem c28 {d:Bool} (k v:Nat) (X:a05):a0i L.env d (sem L.env Mf) (.func (.func 143) [] []) [.slice 0 0 1 (some 1),.int .u8 v] (some (.row 1 [[.int .u8 k]]) :: X) = some (.bool (decide (v = k)),some (.row 1 [[.int .u8 k]]) :: X,[0]):=
 a35 (by kernel_rfl) (by kernel_rfl) rfl rfl rfl (FlatO.row (FlatR.cons rfl FlatR.nil)) rfl rfl (d03 k v) rfl
/-- The nodes of a kind among the first i. -/
def a3a (nodes:List Nd) (k i:Nat):List Nat:=(List.range i).filter fun j=>decide (a1d nodes j = k)
theorem b1r (nodes:List Nd) (k i:Nat):a3a nodes k (i + 1) = if a1d nodes i = k then a3a nodes k i ++ [i] else a3a nodes k i:=by
 unfold a3a
 rw [List.range_succ,List.filter_append]
 by_cases h:a1d nodes i = k<;>simp [h]
theorem b1s (nodes:List Nd) (k i:Nat):(a3a nodes k i).length ≤ i:=Nat.le_trans (List.length_filter_le _ _) (by simp)
def kinds (nodes:List Nd) (k:Nat):List Nat:=a3a nodes k nodes.length
/-- A list a4k spare room, nil if it is empty. -/
def c2u (l:List Nat):AV:=sl (match l with|[]=>none|a :: r=>some (some (r.length + 1))) (l.map a0k)
theorem c02:c2u [] = .nilslice:=by rfl
theorem c5e (a:Nat) (r:List Nat):c2u (a :: r) = .islice ((a :: r).map a0k) (some (r.length + 1)):=by rfl
theorem a1f {nodes:List Nd} {i:Nat} {x:Nd} (h:nodes[i]? = some x):a1d nodes i = x.kind:=by simp [a1d,h]
theorem a1j (l:List Nat):(l.map a0k).flatMap a0c = []:=a06 (FlatR.map fun _=>rfl)
theorem a2g (π:Nat → Option Nat) (l:List Nat):(l.map a0k).map (fun r=>r.map (ren π)) = l.map a0k:=a04 π (FlatR.map fun _=>rfl)
theorem c9p (l:List Nat):FlatR (l.map a0k):=FlatR.map fun _=>rfl
theorem d4g {m:Nat} {d:AV → Option AV} (l:List Nat):a72 m d (l.map a0k) = some (l.map a0k):=a0s m d (FlatR.map fun _=>rfl)
theorem d06:sem L.env Mf 22 [.nilslice] [] = some (.nilslice,[]):=by
 (refine sv Tryz.f22 ?_;simp only [Tryz.f22,gS])
 (repeat first|simp only [ww]|(apply xa;simp +decide only [go_sem];rfl;kernel_rfl))
 (apply fqb;simp +decide only [go_sem]<;>rfl)
theorem d4x (n:Nat) (rows:List (List AV)) (hf:FlatR rows):sem L.env Mf 22 [.slice 0 0 n none] [some (.row 1 rows)] = some (.slice 0 0 n (some n),[some (.row 1 rows)]):=by
 have h1:=fun π=>a04 π hf
 (refine sv Tryz.f22 ?_;simp only [Tryz.f22,gS])
 (repeat first|simp only [ww]|(apply xa;simp +decide only [go_sem];rfl;kernel_rfl))
 (apply fqb;simp +decide only [go_sem,h1]<;>rfl)
theorem c68 {d:Bool} {H:a05} {b n:Nat} {rows:List (List AV)} (hf:FlatR rows) (hb:a02 H b = some (.row 1 rows)):a0i L.env d (sem L.env Mf) (.func (.func 22) [] []) [.slice b 0 n none] H = some (.slice b 0 n (some n),H,[b]):=by
 have h:=b45 (E:=L.env) (draw:=d) (call:=sem L.env Mf) (g:=22) (fs:=[]) (cs:=[]) (ar:=[.slice b 0 n none]) (H:=H) (b:=b) (by kernel_rfl) (by kernel_rfl) rfl hb (a10 hf) (FlatO.row hf) rfl (args':=[AV.slice 0 0 n none]) (by simp only [List.nil_append,List.append_nil,List.map_cons,List.map_nil,a4w]) (d4x n rows hf) (FlatO.row hf) (b2k b 0 _ n _)
 rw [b9b hb] at h
 exact h
theorem d7z (c:Cir) (k:Nat) (hl:c.nodes.length < 1000000):sem L.env Mf 107 [.agg c.enc,.slice 0 0 1 (some 1)] [some (.row 1 [[.int .u8 k]])] = some (c2u (kinds c.nodes k),[some (.row 1 [[.int .u8 k]])]):=by
 have hck:=fun v X=>c28 (d:=false) k v X
 (refine sv Tryz.f107 ?_;simp only [Tryz.f107,gS])
 (repeat first|simp only [ww]|(apply xa;simp +decide only [go_sem,Cir.enc];rfl;kernel_rfl))
 refine a0q (σ:=Nat) kp107_0 (fun i=>[(1,.slice 0 0 1 (some 1)),(5,grV 1 ((a3a c.nodes k i).map a0k)),(9,sl c.nc (c.nodes.map Nd.enc)),(10,.int .i64 c.nodes.length),(11,.int .i64 i)])
  (fun i=>some (.row 1 [[.int .u8 k]]) :: grH 1 ((a3a c.nodes k i).map a0k)) (fun i=>c.nodes.length - i) (fun i=>i ≤ c.nodes.length) 0 ?_ (Nat.zero_le _) ?_
 ·have e:a3a c.nodes k 0 = []:=rfl
  (simp +decide only [go_sem,a01,a00,e,List.map_nil,a0m,a0n]<;>rfl)
 ·intro i hi
  by_cases hlt:i < c.nodes.length
  ·obtain ⟨x,hx⟩:∃ x,c.nodes[i]? = some x:=⟨_,List.getElem?_eq_getElem hlt⟩
   have c1:(i:Int) < c.nodes.length:=by omega
   have hw:=wI1 (n:=i) (by omega)
   have hs:=b1r c.nodes k i
   rw [a1f hx] at hs
   have hle:=b1s c.nodes k i
   have hrm:(a3a c.nodes k i).length + 1 ≤ 1000000000:=by omega
   by_cases hk:x.kind = k
   ·rw [if_pos hk] at hs
    generalize a3a c.nodes k i = l at hs hle hrm
    cases l with
    | nil=>
     (repeat first|simp only [ww]|(apply xa;simp +decide only [go_sem,c1,hlt,hx,hw,hck,hk,List.map_nil,a0m,a0n];rfl;kernel_rfl))
     refine a1k (i + 1) ?_ (by omega) (by omega)
     rw [hs]
     (simp +decide only [go_sem,a01,a00,List.map_nil,List.nil_append,List.map_cons,a09,a0a,List.length_nil]<;>rfl)
    | cons a r=>
     simp only [List.length_cons] at hrm
     (repeat first|simp only [ww]|(apply xa;simp +decide only [go_sem,c1,hlt,hx,hw,hck,hk,List.map_cons,a09,a0a,hrm,List.length_cons];rfl;kernel_rfl))
     refine a1k (i + 1) ?_ (by omega) (by omega)
     rw [hs]
     (simp +decide only [go_sem,a01,a00,List.cons_append,List.map_cons,a09,a0a,a1j,a2g,List.length_cons]<;>rfl)
   ·rw [if_neg hk] at hs
    have hk':¬ (x.kind:Int) = k:=by omega
    generalize a3a c.nodes k i = l at hs hle hrm
    cases l with
    | nil=>
     (repeat first|simp only [ww]|(apply xa;simp +decide only [go_sem,c1,hlt,hx,hw,hck,hk,List.map_nil,a0m,a0n];rfl;kernel_rfl))
     refine a1k (i + 1) ?_ (by omega) (by omega)
     rw [hs]
     (simp +decide only [go_sem,a01,a00,List.map_nil,a0m,a0n]<;>rfl)
    | cons a r=>
     (repeat first|simp only [ww]|(apply xa;simp +decide only [go_sem,c1,hlt,hx,hw,hck,hk,List.map_cons,a09,a0a];rfl;kernel_rfl))
     refine a1k (i + 1) ?_ (by omega) (by omega)
     rw [hs]
     (simp +decide only [go_sem,a01,a00,List.map_cons,a09,a0a,a1j,a2g]<;>rfl)
  ·obtain rfl:i = c.nodes.length:=by omega
   have c1:¬ (c.nodes.length:Int) < c.nodes.length:=by omega
   unfold kinds
   generalize a3a c.nodes k c.nodes.length = l
   cases l with
   | nil=>
    have hcl:=fun H=>a03 (E:=L.env) (draw:=false) (call:=sem L.env Mf) (g:=22) (fs:=[]) (cs:=[]) (ar:=[.nilslice]) (H:=H) (by kernel_rfl) (by kernel_rfl) rfl rfl d06 rfl
    (repeat first|simp only [ww]|(apply xa;simp +decide only [go_sem,c1,List.map_nil,a0m,a0n,hcl];rfl;kernel_rfl))
    (apply fqb;simp +decide only [go_sem,c02]<;>rfl)
   | cons a r=>
    have hcl:=c68 (d:=false) (H:=[some (.row 1 [[.int .u8 k]]),some (.row 1 ((a :: r).map a0k))]) (b:=1) (n:=r.length + 1) (c9p _) rfl
    simp only [List.map_cons,go_sem] at hcl
    (repeat first|simp only [ww]|(apply xa;simp +decide only [go_sem,c1,List.map_cons,a09,a0a,List.length_map,hcl];rfl;kernel_rfl))
    (apply fqb;simp +decide only [go_sem,c5e,List.map_cons,d4g,List.length_cons]<;>rfl)
theorem d3c (π:Nat → Option Nat) (c:Cir):ren π (.agg c.enc) = .agg c.enc:=a22 π _ (by simp only [a0w,Cir.enc,go_sem])
theorem a8q (l:List Nat):refs (c2u l) = []:=a2p _ _
theorem b4u {d:Bool} {H:a05} {b:Nat} (c:Cir) {k:Nat} {n:Int} (hn:n = k) (hl:c.nodes.length < 1000000) (hb:a02 H b = some (.row 1 [[.int .u8 n]])) :
 a0i L.env d (sem L.env Mf) (.func (.func 107) [] []) [.agg c.enc,.slice b 0 1 (some 1)] H = some (c2u (kinds c.nodes k),H,[b]):=by
 subst hn
 exact a35 (E:=L.env) (draw:=d) (call:=sem L.env Mf) (g:=107) (fs:=[]) (cs:=[]) (ar:=[.agg c.enc,.slice b 0 1 (some 1)]) (H:=H) (b:=b) (by kernel_rfl) (by kernel_rfl) rfl hb rfl (FlatO.row (FlatR.cons rfl FlatR.nil)) (by simp only [List.nil_append,List.append_nil,a0b,a0w,Cir.enc,go_sem]) (args':=[.agg c.enc,.slice 0 0 1 (some 1)]) (by simp only [List.nil_append,List.append_nil,List.map_cons,List.map_nil,a4w,d3c]) (d7z c k hl) (a8q _)
theorem a31 (l:List Nat):∃ r,c2u l = sl r (l.map a0k):=⟨_,rfl⟩
theorem c5a (c:Cir) (hl:c.nodes.length < 1000000):sem L.env Mf 74 [.agg c.enc] [] = some (c2u (kinds c.nodes 0),[]):=by
 have hc:=fun X=>b4u (d:=false) (H:=[X,some (.row 1 [[.int .u8 0]])]) (b:=1) c (k:=0) rfl hl rfl
 obtain ⟨r,hr⟩:=a31 (kinds c.nodes 0)
 rw [hr] at hc ⊢
 simp only [Cir.enc] at hc ⊢
 (refine sv Tryz.f74 ?_;simp only [Tryz.f74,gS])
 (repeat first|simp only [ww]|(apply xa;simp +decide only [go_sem,hc];rfl;kernel_rfl))
 (apply fqb;simp +decide only [go_sem]<;>rfl)
theorem c3e (c:Cir) (hl:c.nodes.length < 1000000):sem L.env Mf 73 [.agg c.enc] [] = some (c2u (kinds c.nodes 14),[]):=by
 have hc:=fun X=>b4u (d:=false) (H:=[X,some (.row 1 [[.int .u8 14]])]) (b:=1) c (k:=14) rfl hl rfl
 obtain ⟨r,hr⟩:=a31 (kinds c.nodes 14)
 rw [hr] at hc ⊢
 simp only [Cir.enc] at hc ⊢
 (refine sv Tryz.f73 ?_;simp only [Tryz.f73,gS])
 (repeat first|simp only [ww]|(apply xa;simp +decide only [go_sem,hc];rfl;kernel_rfl))
 (apply fqb;simp +decide only [go_sem]<;>rfl)
theorem b1u {d:Bool} (H:a05) (c:Cir) (hl:c.nodes.length < 1000000):a0i L.env d (sem L.env Mf) (.func (.func 74) [] []) [.agg c.enc] H = some (c2u (kinds c.nodes 0),H,[]):=
 a03 (by kernel_rfl) (by kernel_rfl) rfl (by simp only [a0b,a0w,Cir.enc,go_sem]) (c5a c hl) (a8q _)
theorem b11 {d:Bool} (H:a05) (c:Cir) (hl:c.nodes.length < 1000000):a0i L.env d (sem L.env Mf) (.func (.func 73) [] []) [.agg c.enc] H = some (c2u (kinds c.nodes 14),H,[]):=
 a03 (by kernel_rfl) (by kernel_rfl) rfl (by simp only [a0b,a0w,Cir.enc,go_sem]) (c3e c hl) (a8q _)
open Go.Proofs Go.Ax Go.Pc
set_option maxRecDepth 100000
/-- The function that tells indexes outside of a circuit. -/
def c1f (c:Cir):AV:=.func (.func 173) [] [.iptr c.enc]
theorem c41 (c:Cir):refs (c1f c) = []:=by rfl
theorem c1e (c:Cir):sem L.env Mf 164 [.agg c.enc] [] = some (c1f c,[]):=by
 unfold c1f
 simp only [Cir.enc]
 (refine sv Tryz.f164 ?_;simp only [Tryz.f164,gS])
 (repeat first|simp only [ww]|(apply xa;simp +decide only [go_sem];rfl;kernel_rfl))
 (apply fqb;simp +decide only [go_sem]<;>rfl)
theorem a79 {d:Bool} (H:a05) (c:Cir):a0i L.env d (sem L.env Mf) (.func (.func 164) [] []) [.agg c.enc] H = some (c1f c,H,[]):=
 a03 (by kernel_rfl) (by kernel_rfl) rfl (by simp only [a0b,a0w,Cir.enc,go_sem]) (c1e c) rfl
theorem d3n (c:Cir) (m:Nat) (hm:m < c.nodes.length):sem L.env Mf 173 [.int .i64 m,.iptr c.enc] [] = some (.bool false,[]):=by
 have c1:¬ (m:Int) < 0:=by omega
 have c2:¬ (c.nodes.length:Int) ≤ m:=by omega
 simp only [Cir.enc]
 (refine sv Tryz.f173 ?_;simp only [Tryz.f173,gS])
 (repeat first|simp only [ww]|(apply xa;simp +decide only [go_sem,c1,c2];rfl;kernel_rfl))
 (apply fqb;simp +decide only [go_sem]<;>rfl)
theorem b6g {d:Bool} (H:a05) (c:Cir) (m:Nat) (hm:m < c.nodes.length):a0i L.env d (sem L.env Mf) (c1f c) [.int .i64 m] H = some (.bool false,H,[]):=
 a03 (by kernel_rfl) (by kernel_rfl) rfl (by simp only [a0b,Cir.enc,go_sem]) (d3n c m hm) rfl
theorem c5d (r:Rep) (l:List Nat) (f:AV) (hf:refs f = []) (hl:l.length < 1000000) (hc:∀ m ∈ l,a0i L.env false (sem L.env Mf) f [.int .i64 m] [] = some (.bool false,[],[])) :
 sem L.env Mf 55 [sl r (l.map a0k),f] [] = some (.int .i64 (-1),[]):=by
 have hr:∀ π,ren π f = f:=fun π=>a22 π f hf
 (refine sv Tryz.f55 ?_;simp only [Tryz.f55,gS])
 (repeat first|simp only [ww]|(apply xa;simp +decide only [go_sem];rfl;kernel_rfl))
 refine a0q (σ:=Nat) kp55_0 (fun i=>[(0,sl r (l.map a0k)),(1,f),(7,.int .i64 l.length),(8,.int .i64 i)])
  (fun _=>[]) (fun i=>l.length - i) (fun i=>i ≤ l.length) 0 ?_ (Nat.zero_le _) ?_
 ·(simp +decide only [go_sem,a01,a00,hf,hr]<;>rfl)
 ·intro i hi
  by_cases hlt:i < l.length
  ·obtain ⟨x,hx⟩:∃ x,l[i]? = some x:=⟨_,List.getElem?_eq_getElem hlt⟩
   have c1:(i:Int) < l.length:=by omega
   have hw:=wI1 (n:=i) (by omega)
   have hcx:=hc x (List.mem_of_getElem? hx)
   (repeat first|simp only [ww]|(apply xa;simp +decide only [go_sem,c1,hlt,hx,hw,hcx];rfl;kernel_rfl))
   refine a1k (i + 1) ?_ (by omega) (by omega)
   (simp +decide only [go_sem,a01,a00,hf,hr]<;>rfl)
  ·obtain rfl:i = l.length:=by omega
   have c1:¬ (l.length:Int) < l.length:=by omega
   (repeat first|simp only [ww]|(apply xa;simp +decide only [go_sem,c1];rfl;kernel_rfl))
   (apply fqb;simp +decide only [go_sem]<;>rfl)
theorem c29 (r:Rep) (l:List Nat) (f:AV) (hf:refs f = []) (hl:l.length < 1000000) (hc:∀ m ∈ l,a0i L.env false (sem L.env Mf) f [.int .i64 m] [] = some (.bool false,[],[])) :
 sem L.env Mf 163 [sl r (l.map a0k),f] [] = some (.bool false,[]):=by
 have h:=fun H=>a03 (E:=L.env) (draw:=false) (call:=sem L.env Mf) (g:=55) (fs:=[]) (cs:=[]) (ar:=[sl r (l.map a0k),f]) (H:=H) (by kernel_rfl) (by kernel_rfl) rfl (by simp only [List.nil_append,List.append_nil,a0b,hf,go_sem]) (c5d r l f hf hl hc) rfl
 have c1:¬ (0:Int) ≤ -1:=by omega
 (refine sv Tryz.f163 ?_;simp only [Tryz.f163,gS])
 (repeat first|simp only [ww]|(apply xa;simp +decide only [go_sem,h,c1];rfl;kernel_rfl))
 (apply fqb;simp +decide only [go_sem]<;>rfl)
theorem b76 {d:Bool} (H:a05) (c:Cir) (r:Rep) (l:List Nat) (hl:l.length < 1000000) (h:∀ m ∈ l,m < c.nodes.length) :
 a0i L.env d (sem L.env Mf) (.func (.func 163) [] []) [sl r (l.map a0k),c1f c] H = some (.bool false,H,[]):=
 a03 (by kernel_rfl) (by kernel_rfl) rfl (by simp only [List.nil_append,List.append_nil,a0b,c41,go_sem]) (c29 r l (c1f c) rfl hl (fun m hm=>b6g [] c m (h m hm))) rfl
/- the drivers of a bus -/
theorem c8l (c:Cir) (m:Nat) (hm:m < c.nodes.length) (hk:a1d c.nodes m = 12):sem L.env Mf 169 [.int .i64 m,.ptr 0 0 0] [some (.row 4 [c.enc])] = some (.bool false,[some (.row 4 [c.enc])]):=by
 obtain ⟨x,hx⟩:∃ x,c.nodes[m]? = some x:=⟨_,List.getElem?_eq_getElem hm⟩
 rw [a1f hx] at hk
 simp only [Cir.enc]
 (refine sv Tryz.f169 ?_;simp only [Tryz.f169,gS])
 (repeat first|simp only [ww]|(apply xa;simp +decide only [go_sem,hx,hk,hm];rfl;kernel_rfl))
 (apply fqb;simp +decide only [go_sem]<;>rfl)
theorem a6b (c:Cir):FlatR [c.enc]:=FlatR.cons (by simp only [Cir.enc,go_sem]) FlatR.nil
theorem c1g {d:Bool} (H:a05) (c:Cir) (b m:Nat) (hb:a02 H b = some (.row 4 [c.enc])) (hm:m < c.nodes.length) (hk:a1d c.nodes m = 12):a0i L.env d (sem L.env Mf) (.func (.func 169) [] [.ptr b 0 0]) [.int .i64 m] H = some (.bool false,H,[b]):=
 a35 (fs:=[]) (cs:=[.ptr b 0 0]) (ar:=[.int .i64 m]) (by kernel_rfl) (by kernel_rfl) rfl hb (a10 (a6b c)) (FlatO.row (a6b c)) rfl (args':=[.int .i64 m,.ptr 0 0 0]) (by simp [ren,a4y]) (c8l c m hm hk) rfl
theorem c1s (r:Rep) (l:List Nat) (c:Cir) (hl:l.length < 1000000) (hc:∀ m ∈ l,m < c.nodes.length ∧ a1d c.nodes m = 12) :
 sem L.env Mf 55 [sl r (l.map a0k),.func (.func 169) [] [.ptr 0 0 0]] [some (.row 4 [c.enc])] = some (.int .i64 (-1),[some (.row 4 [c.enc])]):=by
 have hfl:a0c c.enc = []:=by simp only [Cir.enc,go_sem]
 have hrn:∀ π,c.enc.map (ren π) = c.enc:=fun π=>a59 π hfl
 have hcall:=fun m h1 h2=>c1g (d:=false) [some (.row 4 [c.enc])] c 0 m rfl h1 h2
 generalize he:c.enc = E at hfl hrn hcall
 (refine sv Tryz.f55 ?_;simp only [Tryz.f55,gS])
 (repeat first|simp only [ww]|(apply xa;simp +decide only [go_sem];rfl;kernel_rfl))
 refine a0q (σ:=Nat) kp55_0 (fun i=>[(0,sl r (l.map a0k)),(1,.func (.func 169) [] [.ptr 0 0 0]),(7,.int .i64 l.length),(8,.int .i64 i)])
  (fun _=>[some (.row 4 [E])]) (fun i=>l.length - i) (fun i=>i ≤ l.length) 0 ?_ (Nat.zero_le _) ?_
 ·(simp +decide only [go_sem,a01,a00,hfl,hrn]<;>rfl)
 ·intro i hi
  by_cases hlt:i < l.length
  ·obtain ⟨x,hx⟩:∃ x,l[i]? = some x:=⟨_,List.getElem?_eq_getElem hlt⟩
   have c1:(i:Int) < l.length:=by omega
   have hw:=wI1 (n:=i) (by omega)
   have hcx:=hcall x (hc x (List.mem_of_getElem? hx)).1 (hc x (List.mem_of_getElem? hx)).2
   (repeat first|simp only [ww]|(apply xa;simp +decide only [go_sem,c1,hlt,hx,hw,hcx];rfl;kernel_rfl))
   refine a1k (i + 1) ?_ (by omega) (by omega)
   (simp +decide only [go_sem,a01,a00,hfl,hrn]<;>rfl)
  ·obtain rfl:i = l.length:=by omega
   have c1:¬ (l.length:Int) < l.length:=by omega
   (repeat first|simp only [ww]|(apply xa;simp +decide only [go_sem,c1];rfl;kernel_rfl))
   (apply fqb;simp +decide only [go_sem,hrn]<;>rfl)
theorem b77 (r:Rep) (l:List Nat) (c:Cir) (hl:l.length < 1000000) (hc:∀ m ∈ l,m < c.nodes.length ∧ a1d c.nodes m = 12) :
 sem L.env Mf 163 [sl r (l.map a0k),.func (.func 169) [] [.ptr 0 0 0]] [some (.row 4 [c.enc])] = some (.bool false,[some (.row 4 [c.enc])]):=by
 have h:=a35 (E:=L.env) (draw:=false) (call:=sem L.env Mf) (g:=55) (fs:=[]) (cs:=[]) (ar:=[sl r (l.map a0k),.func (.func 169) [] [.ptr 0 0 0]]) (H:=[some (.row 4 [c.enc])]) (b:=0) (by kernel_rfl) (by kernel_rfl) rfl rfl (a10 (a6b c)) (FlatO.row (a6b c)) (by simp only [List.nil_append,List.append_nil,a0b,go_sem]) (by simp only [List.nil_append,List.append_nil,List.map_cons,List.map_nil,b9j];simp [ren,b5t,a4y]) (c1s r l c hl hc) rfl
 have c1:¬ (0:Int) ≤ -1:=by omega
 have hfl:a0c c.enc = []:=by simp only [Cir.enc,go_sem]
 have hrn:∀ π,c.enc.map (ren π) = c.enc:=fun π=>a59 π hfl
 generalize he:c.enc = E at hfl hrn h
 (refine sv Tryz.f163 ?_;simp only [Tryz.f163,gS])
 (repeat first|simp only [ww]|(apply xa;simp +decide only [go_sem,h,c1];rfl;kernel_rfl))
 (apply fqb;simp +decide only [go_sem,hrn]<;>rfl)
theorem b8x {d:Bool} {H:a05} {b:Nat} (c:Cir) (r:Rep) (l:List Nat) (hl:l.length < 1000000) (hc:∀ m ∈ l,m < c.nodes.length ∧ a1d c.nodes m = 12) (hb:a02 H b = some (.row 4 [c.enc])) :
 a0i L.env d (sem L.env Mf) (.func (.func 163) [] []) [sl r (l.map a0k),.func (.func 169) [] [.ptr b 0 0]] H = some (.bool false,H,[b]):=
 a35 (fs:=[]) (cs:=[]) (ar:=[sl r (l.map a0k),.func (.func 169) [] [.ptr b 0 0]]) (by kernel_rfl) (by kernel_rfl) rfl hb (a10 (a6b c)) (FlatO.row (a6b c)) (by simp only [List.nil_append,List.append_nil,a0b,go_sem]) (by simp only [List.nil_append,List.append_nil,List.map_cons,List.map_nil,b9j];simp [ren,b5t,a4y]) (b77 r l c hl hc) rfl
theorem d8x (c:Cir) (x:Nd) (hm:x.mem = 0 ∧ x.bit = 0) (hk:x.kind ≤ 14):sem L.env Mf 170 [.agg c.enc,.agg x.enc] [] = some (.bool true,[]):=by
 have c1:¬ (x.kind:Int) = 15:=by omega
 obtain ⟨m1,m2⟩:=hm
 simp only [Cir.enc,Nd.enc,m1,m2]
 (refine sv Tryz.f170 ?_;simp only [Tryz.f170,gS])
 (repeat first|simp only [ww]|(apply xa;simp +decide only [go_sem,c1];rfl;kernel_rfl))
 (apply fqb;simp +decide only [go_sem]<;>rfl)
theorem d0d {d:Bool} (H:a05) (c:Cir) (x:Nd) (hm:x.mem = 0 ∧ x.bit = 0) (hk:x.kind ≤ 14):a0i L.env d (sem L.env Mf) (.func (.func 170) [] []) [.agg c.enc,.agg x.enc] H = some (.bool true,H,[]):=
 a03 (by kernel_rfl) (by kernel_rfl) rfl (by simp only [a0b,a0w,Cir.enc,go_sem]) (d8x c x hm hk) rfl
theorem d3s (c:Cir) (h:c.wf) (x:Nd) (hx:x ∈ c.nodes):sem L.env Mf 160 [.agg c.enc,.agg x.enc] [] = some (.int .i64 0,[]):=by
 have k14:=h.kind x hx
 have hlo:=h.lo x hx
 have hhi:=h.hi x hx
 have hlen:x.ins.length < 1000000:=by
  have:a1i x.kind ≤ 16:=by
   have hk:x.kind = 0 ∨ x.kind = 1 ∨ x.kind = 2 ∨ x.kind = 3 ∨ x.kind = 4 ∨ x.kind = 5 ∨ x.kind = 6 ∨ x.kind = 7 ∨ x.kind = 8 ∨ x.kind = 9 ∨ x.kind = 10 ∨ x.kind = 11 ∨ x.kind = 12 ∨ x.kind = 13 ∨ x.kind = 14:=by omega
   rcases hk with e|e|e|e|e|e|e|e|e|e|e|e|e|e|e<;>rw [e]<;>decide
  omega
 have hf:=fun H=>b00 (d:=false) H x.kind (by omega)
 have ho:=fun H=>a79 (d:=true) H c
 have hc:=fun H=>b76 (d:=true) H c x.c x.ins hlen (h.ins x hx)
 have hb:=fun H=>d0d (d:=false) H c x (h.mem x hx) k14
 have c1:¬ (15:Int) < x.kind:=by omega
 have c2:¬ (x.ins.length:Int) < a1v x.kind:=by omega
 have c3:¬ (a1i x.kind:Int) < x.ins.length:=by omega
 have hfl:a0c c.enc = []:=by simp only [Cir.enc,go_sem]
 by_cases hk:x.kind = 13
 ·have hoth:=fun (X:Option AObj)=>b8x (d:=false) (H:=[some (.row 4 [c.enc]),X]) (b:=0) c x.c x.ins hlen (fun m hm=>⟨h.ins x hx m hm,h.bus x hx hk m hm⟩) rfl
  have ck:decide ((x.kind:Int) = 13) = true:=decide_eq_true (by omega)
  simp only [Cir.enc,Nd.enc] at ho hc hb hoth ⊢
  (refine sv Tryz.f160 ?_;simp only [Tryz.f160,gS])
  (repeat first|simp only [ww]|(apply xa;simp +decide only [go_sem,hf,c1,c2,c3,ho,hc,hb,hoth,ck];rfl;kernel_rfl))
  (apply fqb;simp +decide only [go_sem]<;>rfl)
 ·have ck:¬ (x.kind:Int) = 13:=by omega
  simp only [Cir.enc,Nd.enc] at ho hc hb ⊢
  (refine sv Tryz.f160 ?_;simp only [Tryz.f160,gS])
  (repeat first|simp only [ww]|(apply xa;simp +decide only [go_sem,hf,c1,c2,c3,ho,hc,hb,ck];rfl;kernel_rfl))
  (apply fqb;simp +decide only [go_sem]<;>rfl)
theorem c4h {d:Bool} (H:a05) (c:Cir) (h:c.wf) (x:Nd) (hx:x ∈ c.nodes):a0i L.env d (sem L.env Mf) (.func (.func 160) [] []) [.agg c.enc,.agg x.enc] H = some (.int .i64 0,H,[]):=
 a03 (by kernel_rfl) (by kernel_rfl) rfl (by simp only [a0b,a0w,Cir.enc,go_sem]) (d3s c h x hx) rfl
theorem c54 (i:Nat) (hi:i < 14):sem L.env Mf 171 [.str (a2q i)] [] = some (.bool true,[]):=by
 have h:i = 0 ∨ i = 1 ∨ i = 2 ∨ i = 3 ∨ i = 4 ∨ i = 5 ∨ i = 6 ∨ i = 7 ∨ i = 8 ∨ i = 9 ∨ i = 10 ∨ i = 11 ∨ i = 12 ∨ i = 13:=by omega
 rcases h with rfl|rfl|rfl|rfl|rfl|rfl|rfl|rfl|rfl|rfl|rfl|rfl|rfl|rfl
 ·exact c9d
 ·exact c9c
 ·exact c9b
 ·exact c9a
 ·exact c99
 ·exact c98
 ·exact c97
 ·exact c96
 ·exact c95
 ·exact c94
 ·exact c58
 ·exact c57
 ·exact c56
 ·exact c55
theorem b8o {d:Bool} (H:a05) (i:Nat) (hi:i < 14):a0i L.env d (sem L.env Mf) (.func (.func 171) [] []) [.str (a2q i)] H = some (.bool true,H,[]):=
 a03 (by kernel_rfl) (by kernel_rfl) rfl rfl (c54 i hi) rfl
def a7a (i:Nat):List AV:=(List.range i).map fun j=>.str (a2q j)
theorem b8i (i:Nat):a7a (i + 1) = a7a i ++ [.str (a2q i)]:=by unfold a7a;rw [List.range_succ,List.map_append];rfl
theorem eqS (a b:List UInt8):aeq L.env 6 9 (.str a) (.str b) = some (a == b):=by kernel_rfl
theorem c4n {i j:Nat} (hi:i < 14) (hj:j < 14) (h:a2q i = a2q j):i = j:=by
 unfold a2q at h
 simp only [List.cons.injEq,and_true,true_and] at h
 have h1:=congrArg UInt8.toNat h.1
 have h2:=congrArg UInt8.toNat h.2
 simp only [UInt8.toNat_ofNat'] at h1 h2
 omega
theorem c5w (s:Nat) (hs:s < 14):∀ (l:List Nat) (b:Nat),(∀ j ∈ l,j < s) → a1y (aeq L.env 6 9) (.str (a2q s)) (l.map fun j=>.str (a2q j)) b = some none
 | [],b,_=>rfl
 | j :: l,b,h=>by
  have hne:(a2q s == a2q j) = false:=by
   rw [beq_eq_false_iff_ne]
   intro e
   have:=c4n hs (by have:=h j (by simp);omega) e
   have:=h j (by simp)
   omega
  simp only [List.map_cons,a1y,eqS,hne,cond_false]
  exact c5w s hs l (b + 1) (fun j hj=>h j (by simp [hj]))
theorem c4k (i:Nat) (hi:i < 14):a1y (aeq L.env 6 9) (.str (a2q i)) (a7a i) 0 = some none:=c5w i hi _ 0 (fun j hj=>by simpa using hj)
def nmO (i:Nat):AObj:=.map (a7a i) (List.replicate i (.bool true)) (List.range i) i
theorem c4j (i:Nat) (hi:i < 14):a6v L.env (a02 [some (nmO i)]) 233 (.map 0) (.str (a2q i)) false = some (.bool false):=by
 have h:=c4k i hi
 have e:a6v L.env (a02 [some (nmO i)]) 233 (.map 0) (.str (a2q i)) false = match a1y (aeq L.env 6 9) (.str (a2q i)) (a7a i) 0 with
  | some (some j)=>match (List.replicate i (AV.bool true))[j]? with
   | some v=>some (bif false then .tuple [v,.bool true] else v)
   | none=>none
  | some none=>some (.bool false)
  | none=>none:=by kernel_rfl
 rw [e,h]
theorem c4i (i:Nat) (hi:i < 14):a27 L.env (a02 [some (nmO i)]) 233 (.map 0) (.str (a2q i)) (.bool true) = some (.set 0 (nmO (i + 1))):=by
 have h:=c4k i hi
 unfold a27
 have e:b0f L.env (a02 [some (nmO i)]) 233 (.map 0) (.str (a2q i)) = match a1y (aeq L.env 6 9) (.str (a2q i)) (a7a i) 0 with
  | some (some j)=>match (a7a i)[j]? with
   | some k0=>bif d0g k0 (.str (a2q i)) then some (0,a7a i,List.replicate i (AV.bool true),List.range i,i,some j) else none
   | none=>none
  | some none=>some (0,a7a i,List.replicate i (AV.bool true),List.range i,i,none)
  | none=>none:=by kernel_rfl
 rw [e,h]
 simp only [nmO,b8i,List.range_succ,List.replicate_succ']
theorem b8h (i:Nat):a0r (some (nmO i)) = []:=by
 simp only [nmO,a0r,a7a]
 have h1:∀ l:List Nat,a0c (l.map fun j=>AV.str (a2q j)) = []:=by intro l;induction l with|nil=>rfl|cons a l ih=>simp [a0c,refs,ih]
 have h2:∀ n,a0c (List.replicate n (AV.bool true)) = []:=by intro n;induction n with|zero=>rfl|succ n ih=>simp [List.replicate_succ,a0c,refs,ih]
 rw [h1,h2];rfl
theorem d1k (π:Nat → Option Nat) (i:Nat):a0p π (nmO i) = nmO i:=by
 have h:=b8h i
 simp only [nmO,a0r,List.append_eq_nil_iff] at h
 simp only [nmO,a0p,a59 π h.1,a59 π h.2]
theorem c8p (c:Cir) (h:c.wf):sem L.env Mf 161 [.agg c.enc] [] = some (.int .i64 0,[]):=by
 have hn:=h.len
 have hnm:c.names.length = c.nodes.length:=by rw [h.names];simp
 simp only [Cir.enc]
 (refine sv Tryz.f161 ?_;simp only [Tryz.f161,gS])
 (repeat first|simp only [ww]|(apply xa;simp +decide only [go_sem];rfl;kernel_rfl))
 have e0:AObj.map [] [] [] 0 = nmO 0:=by rfl
 refine a0q (σ:=Nat) kp161_0 (fun i=>[(3,.map 0),(8,sl c.mc (c.names.map a3t)),(9,.int .i64 c.names.length),(10,.int .i64 i)])
  (fun i=>[some (nmO i)]) (fun i=>c.names.length - i) (fun i=>i ≤ c.names.length) 0 ?_ (Nat.zero_le _) ?_
 ·rw [e0]
  (simp +decide only [go_sem,a01,a00,b8h,d1k]<;>rfl)
 ·intro i hi
  by_cases hlt:i < c.names.length
  ·have hx:c.names[i]? = some (a2q i):=by rw [h.names,List.getElem?_map,List.getElem?_range (by omega)];rfl
   have c1:(i:Int) < c.names.length:=by omega
   have hw:=wI1 (n:=i) (by omega)
   have hcn:=fun H=>b8o (d:=false) H i (by omega)
   have hlk:=c4j i (by omega)
   have hup:=c4i i (by omega)
   (repeat first|simp only [ww]|(apply xa;simp +decide only [go_sem,c1,hlt,hx,hw,hcn,hlk,hup];rfl;kernel_rfl))
   refine a1k (i + 1) ?_ (by omega) (by omega)
   (simp +decide only [go_sem,a01,a00,b8h,d1k]<;>rfl)
  ·obtain rfl:i = c.names.length:=by omega
   have c1:¬ (c.names.length:Int) < c.names.length:=by omega
   (repeat first|simp only [ww]|(apply xa;simp +decide only [go_sem,c1];rfl;kernel_rfl))
   (apply fqb;simp +decide only [go_sem]<;>rfl)
open Go.Proofs Go.Ax Go.Pc
set_option maxRecDepth 100000
theorem a3l (c:Cir):a0c [.agg c.enc] = []:=by simp only [a0b,a0w,Cir.enc,go_sem]
theorem c1j {d:Bool} (H:a05) (c:Cir) (h:c.wf):a0i L.env d (sem L.env Mf) (.func (.func 161) [] []) [.agg c.enc] H = some (.int .i64 0,H,[]):=
 a03 (by kernel_rfl) (by kernel_rfl) rfl (a3l c) (c8p c h) rfl
theorem c82 (c:Cir) (h:c.wf):sem L.env Mf 140 [.agg c.enc] [] = some (.int .i64 0,[]):=by
 have hn:=h.len
 have hnm:c.names.length = c.nodes.length:=by rw [h.names];simp
 have hol:=h.outl
 have c1:¬ (16384:Int) < c.nodes.length:=by omega
 have c2:¬ (16384:Int) < c.outs.length:=by omega
 have hno:=fun H x hx=>c4h (d:=false) H c h x hx
 have hna:=fun H=>c1j (d:=false) H c h
 have hou:=fun H=>a79 (d:=true) H c
 have hcf:=fun H=>b76 (d:=true) H c c.oc c.outs (by omega) h.outs
 have hlen:c.enc.length = 4:=rfl
 simp only [Cir.enc] at hno hna hou hcf ⊢
 (refine sv Tryz.f140 ?_;simp only [Tryz.f140,gS])
 (repeat first|simp only [ww]|(apply xa;simp +decide only [go_sem,c1,c2,hnm];rfl;kernel_rfl))
 refine a0q (σ:=Nat) kp140_1 (fun i=>[(1,.ptr 0 0 0),(36,sl c.nc (c.nodes.map Nd.enc)),(37,.int .i64 c.nodes.length),(38,.int .i64 i)])
  (fun i=>[some (.row 4 [[sl c.nc (c.nodes.map Nd.enc),sl c.mc (c.names.map a3t),.nilslice,sl c.oc (c.outs.map a0k)]])]) (fun i=>c.nodes.length - i) (fun i=>i ≤ c.nodes.length) 0 ?_ (Nat.zero_le _) ?_
 ·(simp +decide only [go_sem,a01,a00]<;>rfl)
 ·intro i hi
  by_cases hlt:i < c.nodes.length
  ·obtain ⟨x,hx⟩:∃ x,c.nodes[i]? = some x:=⟨_,List.getElem?_eq_getElem hlt⟩
   have c1:(i:Int) < c.nodes.length:=by omega
   have hw:=wI1 (n:=i) (by omega)
   have hcx:=fun H=>hno H x (List.mem_of_getElem? hx)
   simp only [Nd.enc] at hcx
   (repeat first|simp only [ww]|(apply xa;simp +decide only [go_sem,c1,hlt,hx,hw,hcx];rfl;kernel_rfl))
   refine a1k (i + 1) ?_ (by omega) (by omega)
   (simp +decide only [go_sem,a01,a00]<;>rfl)
  ·obtain rfl:i = c.nodes.length:=by omega
   have c1:¬ (c.nodes.length:Int) < c.nodes.length:=by omega
   (repeat first|simp only [ww]|(apply xa;simp +decide only [go_sem,c1,hna];rfl;kernel_rfl))
   refine a0q (σ:=Nat) kp140_3 (fun i=>[(1,.ptr 0 0 0),(55,.nilslice),(56,.int .i64 0),(57,.int .i64 0)])
    (fun i=>[some (.row 4 [[sl c.nc (c.nodes.map Nd.enc),sl c.mc (c.names.map a3t),.nilslice,sl c.oc (c.outs.map a0k)]])]) (fun i=>0) (fun i=>True) 0 ?_ trivial ?_
   ·(simp +decide only [go_sem,a01,a00]<;>rfl)
   ·intro i _
    (repeat first|simp only [ww]|(apply xa;simp +decide only [go_sem,hou,hcf];rfl;kernel_rfl))
    (apply fqb;simp +decide only [go_sem]<;>rfl)
theorem c12 {d:Bool} (H:a05) (c:Cir) (h:c.wf):a0i L.env d (sem L.env Mf) (.func (.func 140) [] []) [.agg c.enc] H = some (.int .i64 0,H,[]):=
 a03 (by kernel_rfl) (by kernel_rfl) rfl (a3l c) (c82 c h) rfl
theorem b7b {d:Bool} (H:a05) (k:Nat) (hk:k < 256):a0i L.env d (sem L.env Mf) (.func (.func 64) [] []) [.int .u8 k] H = some (.bool (a1r k),H,[]):=
 a03 (by kernel_rfl) (by kernel_rfl) rfl rfl (d4w k hk) rfl
end Go.MInst
