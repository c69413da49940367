/- Part of a proof. No condition. -/
import Derived.Test.YtgmenpackpnmaaaGreatDoorMWo
import Derived.Test.YtgmenpackpnmaaaGreatDoorMGa
import Derived.Test.YtgmenpackpnmaaaGreatDoorPcB
import Derived.Test.YtgmenpackpnmaaaGreatDoorAxE
set_option linter.unusedSimpArgs false
set_option linter.unusedVariables false
namespace Go.MInst
open Go.Proofs Go.Ax Go.Pc
set_option maxRecDepth 100000
open Go.Proofs Go.Ax Go.Pc
set_option maxRecDepth 100000
theorem d28 (w:W) (n v:Nat) (hn:n < 64) (hv:v < 256):sem L.env Mf 125 [.agg w.enc,.int .i64 n,.int .u8 v] [] = some (.agg (b1j w n v).enc,[]):=by
 have hc:=fun H=>b3v (d:=false) H v hv
 simp only [go_sem] at hc
 have h0:¬ (n:Int) < 0:=by omega
 (refine sv Tryz.f125 ?_;simp only [Tryz.f125,gS])
 (repeat first|simp only [ww]|(apply xa;simp +decide only [go_sem,hc,h0];rfl;kernel_rfl))
 (apply fqb;simp +decide only [go_sem,b1j,d9t]<;>rfl)
theorem c4f {d:Bool} (H:a05) (w:W) (n v:Nat) (hn:n < 64) (hv:v < 256):a0c L.env d (sem L.env Mf) (.func (.func 125) [] []) [.agg w.enc,.int .i64 n,.int .u8 v] H = some (.agg (b1j w n v).enc,H,[]):=
 a03 (by kernel_rfl) (by kernel_rfl) rfl rfl (d28 w n v hn hv) rfl
theorem d9l (k:Nat) (hk:k < 256):sem L.env Mf 64 [.int .u8 k] [] = some (.bool (a1s k),[]):=by
 by_cases h1:1 ≤ k
 ·have c1:(1:Int) ≤ k:=by omega
  by_cases h2:k ≤ 13
  ·have c2:(k:Int) ≤ 13:=by omega
   rw [show a1s k = true by simp [a1s,h1,h2]]
   (refine sv Tryz.f64 ?_;simp only [Tryz.f64,gS])
   (repeat first|simp only [ww]|(apply xa;simp +decide only [go_sem,c1,c2];rfl;kernel_rfl))
   (apply fqb;simp +decide only [go_sem]<;>rfl)
  ·have c2:¬ (k:Int) ≤ 13:=by omega
   rw [show a1s k = false by simp [a1s,h2]]
   (refine sv Tryz.f64 ?_;simp only [Tryz.f64,gS])
   (repeat first|simp only [ww]|(apply xa;simp +decide only [go_sem,c1,c2];rfl;kernel_rfl))
   (apply fqb;simp +decide only [go_sem]<;>rfl)
 ·have c1:¬ (1:Int) ≤ k:=by omega
  rw [show a1s k = false by simp [a1s,h1]]
  (refine sv Tryz.f64 ?_;simp only [Tryz.f64,gS])
  (repeat first|simp only [ww]|(apply xa;simp +decide only [go_sem,c1];rfl;kernel_rfl))
  (apply fqb;simp +decide only [go_sem]<;>rfl)
open Go.Proofs Go.Ax Go.Pc
set_option maxRecDepth 100000
open Go.Proofs Go.Ax Go.Pc
set_option maxRecDepth 100000
theorem d8u (k v:Nat):sem L.env Mf 167 [.slice 0 0 1 (some 1),.int .u8 v] [some (.row 1 [[.int .u8 k]])] = some (.int .i64 (if v = k then 0 else -1),[some (.row 1 [[.int .u8 k]])]):=by
 (refine sv Tryz.f167 ?_;simp only [Tryz.f167,gS])
 (repeat first|simp only [ww]|(apply xa;simp +decide only [go_sem];rfl;kernel_rfl))
 refine a0s (σ:=Nat) kp167_0 (fun i=>[(0,.slice 0 0 1 (some 1)),(1,.int .u8 v),(7,.int .i64 1),(8,.int .i64 i)])
  (fun _=>[some (.row 1 [[.int .u8 k]])]) (fun i=>1 - i) (fun i=>i ≤ 1 ∧ (i = 1 → v ≠ k)) 0 ?_ (by simp) ?_
 ·(simp +decide only [go_sem,a01,a00]<;>rfl)
 ·rintro i ⟨hi,hne⟩
  have hh:i = 0 ∨ i = 1:=by omega
  rcases hh with rfl|rfl
  ·by_cases h:v = k
   ·subst h
    (repeat first|simp only [ww]|(apply xa;simp +decide only [go_sem,if_pos];rfl;kernel_rfl))
    (apply fqb;simp +decide only [go_sem,if_pos]<;>rfl)
   ·have c:¬ (v:Int) = k:=by omega
    (repeat first|simp only [ww]|(apply xa;simp +decide only [go_sem,c];rfl;kernel_rfl))
    refine a1w 1 ?_ (by omega) (by simp [h])
    (simp +decide only [go_sem,a01,a00]<;>rfl)
  ·have h:=hne rfl
   have c:¬ (v:Int) = k:=by omega
   rw [if_neg h]
   (repeat first|simp only [ww]|(apply xa;simp +decide only [go_sem,c];rfl;kernel_rfl))
   (apply fqb;simp +decide only [go_sem]<;>rfl)
theorem d48 (k v:Nat):sem L.env Mf 143 [.slice 0 0 1 (some 1),.int .u8 v] [some (.row 1 [[.int .u8 k]])] = some (.bool (decide (v = k)),[some (.row 1 [[.int .u8 k]])]):=by
 have hc:a0c L.env false (sem L.env Mf) (.func (.func 167) [] []) [.slice 0 0 1 (some 1),.int .u8 v] [some (.row 1 [[.int .u8 k]])] = some (.int .i64 (if v = k then 0 else -1),[some (.row 1 [[.int .u8 k]])],[0]):=
  a2d (by kernel_rfl) (by kernel_rfl) rfl rfl rfl (FlatO.row (FlatR.cons rfl FlatR.nil)) rfl rfl (d8u k v) rfl
 by_cases h:v = k
 ·rw [if_pos h] at hc
  (refine sv Tryz.f143 ?_;simp only [Tryz.f143,gS])
  (repeat first|simp only [ww]|(apply xa;simp +decide only [go_sem,hc];rfl;kernel_rfl))
  (apply fqb;simp +decide only [go_sem,h]<;>rfl)
 ·rw [if_neg h] at hc
  (refine sv Tryz.f143 ?_;simp only [Tryz.f143,gS])
  (repeat first|simp only [ww]|(apply xa;simp +decide only [go_sem,hc];rfl;kernel_rfl))
  (apply fqb;simp +decide only [go_sem,h]<;>rfl)
theorem c5e {d:Bool} (k v:Nat) (X:a05):a0c L.env d (sem L.env Mf) (.func (.func 143) [] []) [.slice 0 0 1 (some 1),.int .u8 v] (some (.row 1 [[.int .u8 k]]) :: X) = some (.bool (decide (v = k)),some (.row 1 [[.int .u8 k]]) :: X,[0]):=
 a2d (by kernel_rfl) (by kernel_rfl) rfl rfl rfl (FlatO.row (FlatR.cons rfl FlatR.nil)) rfl rfl (d48 k v) rfl
def a3n (nodes:List Nd) (k i:Nat):List Nat:=(List.range i).filter fun j=>decide (a0q nodes j = k)
theorem b3f (nodes:List Nd) (k i:Nat):a3n nodes k (i + 1) = if a0q nodes i = k then a3n nodes k i ++ [i] else a3n nodes k i:=by
 unfold a3n
 rw [List.range_succ,List.filter_append]
 by_cases h:a0q nodes i = k<;>simp [h]
theorem b3g (nodes:List Nd) (k i:Nat):(a3n nodes k i).length ≤ i:=Nat.le_trans (List.length_filter_le _ _) (by simp)
def kinds (nodes:List Nd) (k:Nat):List Nat:=a3n nodes k nodes.length
def b4j (l:List Nat):AV:=sl (match l with|[]=>none|a :: r=>some (some (r.length + 1))) (l.map a0d)
theorem c2x:b4j [] = .nilslice:=by rfl
theorem b95 (a:Nat) (r:List Nat):b4j (a :: r) = .islice ((a :: r).map a0d) (some (r.length + 1)):=by rfl
theorem a15 {nodes:List Nd} {i:Nat} {x:Nd} (h:nodes[i]? = some x):a0q nodes i = x.kind:=by simp [a0q,h]
theorem a1z (l:List Nat):(l.map a0d).flatMap a0e = []:=a06 (FlatR.map fun _=>rfl)
theorem a32 (π:Nat → Option Nat) (l:List Nat):(l.map a0d).map (fun r=>r.map (ren π)) = l.map a0d:=a04 π (FlatR.map fun _=>rfl)
theorem c3f (l:List Nat):FlatR (l.map a0d):=FlatR.map fun _=>rfl
theorem d3o {m:Nat} {d:AV → Option AV} (l:List Nat):a7z m d (l.map a0d) = some (l.map a0d):=a0r m d (FlatR.map fun _=>rfl)
theorem c3n:sem L.env Mf 22 [.nilslice] [] = some (.nilslice,[]):=by
 (refine sv Tryz.f22 ?_;simp only [Tryz.f22,gS])
 (repeat first|simp only [ww]|(apply xa;simp +decide only [go_sem];rfl;kernel_rfl))
 (apply fqb;simp +decide only [go_sem]<;>rfl)
theorem d9m (n:Nat) (rows:List (List AV)) (hf:FlatR rows):sem L.env Mf 22 [.slice 0 0 n none] [some (.row 1 rows)] = some (.slice 0 0 n (some n),[some (.row 1 rows)]):=by
 have h1:=fun π=>a04 π hf
 (refine sv Tryz.f22 ?_;simp only [Tryz.f22,gS])
 (repeat first|simp only [ww]|(apply xa;simp +decide only [go_sem];rfl;kernel_rfl))
 (apply fqb;simp +decide only [go_sem,h1]<;>rfl)
theorem b9q {d:Bool} {H:a05} {b n:Nat} {rows:List (List AV)} (hf:FlatR rows) (hb:a02 H b = some (.row 1 rows)):a0c L.env d (sem L.env Mf) (.func (.func 22) [] []) [.slice b 0 n none] H = some (.slice b 0 n (some n),H,[b]):=by
 have h:=a7b (E:=L.env) (draw:=d) (call:=sem L.env Mf) (g:=22) (fs:=[]) (cs:=[]) (ar:=[.slice b 0 n none]) (H:=H) (b:=b) (by kernel_rfl) (by kernel_rfl) rfl hb (a0u hf) (FlatO.row hf) rfl (args':=[AV.slice 0 0 n none]) (by simp only [List.nil_append,List.append_nil,List.map_cons,List.map_nil,a29]) (d9m n rows hf) (FlatO.row hf) (a9j b 0 _ n _)
 rw [b6d hb] at h
 exact h
theorem e33 (c:Cir) (k:Nat) (hl:c.nodes.length < 1000000):sem L.env Mf 107 [.agg c.enc,.slice 0 0 1 (some 1)] [some (.row 1 [[.int .u8 k]])] = some (b4j (kinds c.nodes k),[some (.row 1 [[.int .u8 k]])]):=by
 have hck:=fun v X=>c5e (d:=false) k v X
 (refine sv Tryz.f107 ?_;simp only [Tryz.f107,gS])
 (repeat first|simp only [ww]|(apply xa;simp +decide only [go_sem,Cir.enc];rfl;kernel_rfl))
 refine a0s (σ:=Nat) kp107_0 (fun i=>[(1,.slice 0 0 1 (some 1)),(5,grV 1 ((a3n c.nodes k i).map a0d)),(9,sl c.nc (c.nodes.map Nd.enc)),(10,.int .i64 c.nodes.length),(11,.int .i64 i)])
  (fun i=>some (.row 1 [[.int .u8 k]]) :: grH 1 ((a3n c.nodes k i).map a0d)) (fun i=>c.nodes.length - i) (fun i=>i ≤ c.nodes.length) 0 ?_ (Nat.zero_le _) ?_
 ·have e:a3n c.nodes k 0 = []:=rfl
  (simp +decide only [go_sem,a01,a00,e,List.map_nil,a0f,a0g]<;>rfl)
 ·intro i hi
  by_cases hlt:i < c.nodes.length
  ·obtain ⟨x,hx⟩:∃ x,c.nodes[i]? = some x:=⟨_,List.getElem?_eq_getElem hlt⟩
   have c1:(i:Int) < c.nodes.length:=by omega
   have hw:=wI1 (n:=i) (by omega)
   have hs:=b3f c.nodes k i
   rw [a15 hx] at hs
   have hle:=b3g c.nodes k i
   have hrm:(a3n c.nodes k i).length + 1 ≤ 1000000000:=by omega
   by_cases hk:x.kind = k
   ·rw [if_pos hk] at hs
    generalize a3n c.nodes k i = l at hs hle hrm
    cases l with
    | nil=>
     (repeat first|simp only [ww]|(apply xa;simp +decide only [go_sem,c1,hlt,hx,hw,hck,hk,List.map_nil,a0f,a0g];rfl;kernel_rfl))
     refine a1w (i + 1) ?_ (by omega) (by omega)
     rw [hs]
     (simp +decide only [go_sem,a01,a00,List.map_nil,List.nil_append,List.map_cons,a07,a08,List.length_nil]<;>rfl)
    | cons a r=>
     simp only [List.length_cons] at hrm
     (repeat first|simp only [ww]|(apply xa;simp +decide only [go_sem,c1,hlt,hx,hw,hck,hk,List.map_cons,a07,a08,hrm,List.length_cons];rfl;kernel_rfl))
     refine a1w (i + 1) ?_ (by omega) (by omega)
     rw [hs]
     (simp +decide only [go_sem,a01,a00,List.cons_append,List.map_cons,a07,a08,a1z,a32,List.length_cons]<;>rfl)
   ·rw [if_neg hk] at hs
    have hk':¬ (x.kind:Int) = k:=by omega
    generalize a3n c.nodes k i = l at hs hle hrm
    cases l with
    | nil=>
     (repeat first|simp only [ww]|(apply xa;simp +decide only [go_sem,c1,hlt,hx,hw,hck,hk,List.map_nil,a0f,a0g];rfl;kernel_rfl))
     refine a1w (i + 1) ?_ (by omega) (by omega)
     rw [hs]
     (simp +decide only [go_sem,a01,a00,List.map_nil,a0f,a0g]<;>rfl)
    | cons a r=>
     (repeat first|simp only [ww]|(apply xa;simp +decide only [go_sem,c1,hlt,hx,hw,hck,hk,List.map_cons,a07,a08];rfl;kernel_rfl))
     refine a1w (i + 1) ?_ (by omega) (by omega)
     rw [hs]
     (simp +decide only [go_sem,a01,a00,List.map_cons,a07,a08,a1z,a32]<;>rfl)
  ·obtain rfl:i = c.nodes.length:=by omega
   have c1:¬ (c.nodes.length:Int) < c.nodes.length:=by omega
   unfold kinds
   generalize a3n c.nodes k c.nodes.length = l
   cases l with
   | nil=>
    have hcl:=fun H=>a03 (E:=L.env) (draw:=false) (call:=sem L.env Mf) (g:=22) (fs:=[]) (cs:=[]) (ar:=[.nilslice]) (H:=H) (by kernel_rfl) (by kernel_rfl) rfl rfl c3n rfl
    (repeat first|simp only [ww]|(apply xa;simp +decide only [go_sem,c1,List.map_nil,a0f,a0g,hcl];rfl;kernel_rfl))
    (apply fqb;simp +decide only [go_sem,c2x]<;>rfl)
   | cons a r=>
    have hcl:=b9q (d:=false) (H:=[some (.row 1 [[.int .u8 k]]),some (.row 1 ((a :: r).map a0d))]) (b:=1) (n:=r.length + 1) (c3f _) rfl
    simp only [List.map_cons,go_sem] at hcl
    (repeat first|simp only [ww]|(apply xa;simp +decide only [go_sem,c1,List.map_cons,a07,a08,List.length_map,hcl];rfl;kernel_rfl))
    (apply fqb;simp +decide only [go_sem,b95,List.map_cons,d3o,List.length_cons]<;>rfl)
theorem d7p (π:Nat → Option Nat) (c:Cir):ren π (.agg c.enc) = .agg c.enc:=a1a π _ (by simp only [a0y,Cir.enc,go_sem])
theorem a52 (l:List Nat):refs (b4j l) = []:=a2f _ _
theorem b6v {d:Bool} {H:a05} {b:Nat} (c:Cir) {k:Nat} {n:Int} (hn:n = k) (hl:c.nodes.length < 1000000) (hb:a02 H b = some (.row 1 [[.int .u8 n]])) :
 a0c L.env d (sem L.env Mf) (.func (.func 107) [] []) [.agg c.enc,.slice b 0 1 (some 1)] H = some (b4j (kinds c.nodes k),H,[b]):=by
 subst hn
 exact a2d (E:=L.env) (draw:=d) (call:=sem L.env Mf) (g:=107) (fs:=[]) (cs:=[]) (ar:=[.agg c.enc,.slice b 0 1 (some 1)]) (H:=H) (b:=b) (by kernel_rfl) (by kernel_rfl) rfl hb rfl (FlatO.row (FlatR.cons rfl FlatR.nil)) (by simp only [List.nil_append,List.append_nil,a09,a0y,Cir.enc,go_sem]) (args':=[.agg c.enc,.slice 0 0 1 (some 1)]) (by simp only [List.nil_append,List.append_nil,List.map_cons,List.map_nil,a29,d7p]) (e33 c k hl) (a52 _)
theorem a2g (l:List Nat):∃ r,b4j l = sl r (l.map a0d):=⟨_,rfl⟩
theorem c8v (c:Cir) (hl:c.nodes.length < 1000000):sem L.env Mf 74 [.agg c.enc] [] = some (b4j (kinds c.nodes 0),[]):=by
 have hc:=fun X=>b6v (d:=false) (H:=[X,some (.row 1 [[.int .u8 0]])]) (b:=1) c (k:=0) rfl hl rfl
 obtain ⟨r,hr⟩:=a2g (kinds c.nodes 0)
 rw [hr] at hc ⊢
 simp only [Cir.enc] at hc ⊢
 (refine sv Tryz.f74 ?_;simp only [Tryz.f74,gS])
 (repeat first|simp only [ww]|(apply xa;simp +decide only [go_sem,hc];rfl;kernel_rfl))
 (apply fqb;simp +decide only [go_sem]<;>rfl)
theorem c6l (c:Cir) (hl:c.nodes.length < 1000000):sem L.env Mf 73 [.agg c.enc] [] = some (b4j (kinds c.nodes 14),[]):=by
 have hc:=fun X=>b6v (d:=false) (H:=[X,some (.row 1 [[.int .u8 14]])]) (b:=1) c (k:=14) rfl hl rfl
 obtain ⟨r,hr⟩:=a2g (kinds c.nodes 14)
 rw [hr] at hc ⊢
 simp only [Cir.enc] at hc ⊢
 (refine sv Tryz.f73 ?_;simp only [Tryz.f73,gS])
 (repeat first|simp only [ww]|(apply xa;simp +decide only [go_sem,hc];rfl;kernel_rfl))
 (apply fqb;simp +decide only [go_sem]<;>rfl)
theorem a7n {d:Bool} (H:a05) (c:Cir) (hl:c.nodes.length < 1000000):a0c L.env d (sem L.env Mf) (.func (.func 74) [] []) [.agg c.enc] H = some (b4j (kinds c.nodes 0),H,[]):=
 a03 (by kernel_rfl) (by kernel_rfl) rfl (by simp only [a09,a0y,Cir.enc,go_sem]) (c8v c hl) (a52 _)
theorem a5w {d:Bool} (H:a05) (c:Cir) (hl:c.nodes.length < 1000000):a0c L.env d (sem L.env Mf) (.func (.func 73) [] []) [.agg c.enc] H = some (b4j (kinds c.nodes 14),H,[]):=
 a03 (by kernel_rfl) (by kernel_rfl) rfl (by simp only [a09,a0y,Cir.enc,go_sem]) (c6l c hl) (a52 _)
open Go.Proofs Go.Ax Go.Pc
set_option maxRecDepth 100000
def c4j (c:Cir):AV:=.func (.func 173) [] [.iptr c.enc]
theorem c7b (c:Cir):refs (c4j c) = []:=by rfl
theorem c4i (c:Cir):sem L.env Mf 164 [.agg c.enc] [] = some (c4j c,[]):=by
 unfold c4j
 simp only [Cir.enc]
 (refine sv Tryz.f164 ?_;simp only [Tryz.f164,gS])
 (repeat first|simp only [ww]|(apply xa;simp +decide only [go_sem];rfl;kernel_rfl))
 (apply fqb;simp +decide only [go_sem]<;>rfl)
theorem a89 {d:Bool} (H:a05) (c:Cir):a0c L.env d (sem L.env Mf) (.func (.func 164) [] []) [.agg c.enc] H = some (c4j c,H,[]):=
 a03 (by kernel_rfl) (by kernel_rfl) rfl (by simp only [a09,a0y,Cir.enc,go_sem]) (c4i c) rfl
theorem d84 (c:Cir) (m:Nat) (hm:m < c.nodes.length):sem L.env Mf 173 [.int .i64 m,.iptr c.enc] [] = some (.bool false,[]):=by
 have c1:¬ (m:Int) < 0:=by omega
 have c2:¬ (c.nodes.length:Int) ≤ m:=by omega
 simp only [Cir.enc]
 (refine sv Tryz.f173 ?_;simp only [Tryz.f173,gS])
 (repeat first|simp only [ww]|(apply xa;simp +decide only [go_sem,c1,c2];rfl;kernel_rfl))
 (apply fqb;simp +decide only [go_sem]<;>rfl)
theorem b8r {d:Bool} (H:a05) (c:Cir) (m:Nat) (hm:m < c.nodes.length):a0c L.env d (sem L.env Mf) (c4j c) [.int .i64 m] H = some (.bool false,H,[]):=
 a03 (by kernel_rfl) (by kernel_rfl) rfl (by simp only [a09,Cir.enc,go_sem]) (d84 c m hm) rfl
theorem c8z (r:Rep) (l:List Nat) (f:AV) (hf:refs f = []) (hl:l.length < 1000000) (hc:∀ m ∈ l,a0c L.env false (sem L.env Mf) f [.int .i64 m] [] = some (.bool false,[],[])) :
 sem L.env Mf 55 [sl r (l.map a0d),f] [] = some (.int .i64 (-1),[]):=by
 have hr:∀ π,ren π f = f:=fun π=>a1a π f hf
 (refine sv Tryz.f55 ?_;simp only [Tryz.f55,gS])
 (repeat first|simp only [ww]|(apply xa;simp +decide only [go_sem];rfl;kernel_rfl))
 refine a0s (σ:=Nat) kp55_0 (fun i=>[(0,sl r (l.map a0d)),(1,f),(7,.int .i64 l.length),(8,.int .i64 i)])
  (fun _=>[]) (fun i=>l.length - i) (fun i=>i ≤ l.length) 0 ?_ (Nat.zero_le _) ?_
 ·(simp +decide only [go_sem,a01,a00,hf,hr]<;>rfl)
 ·intro i hi
  by_cases hlt:i < l.length
  ·obtain ⟨x,hx⟩:∃ x,l[i]? = some x:=⟨_,List.getElem?_eq_getElem hlt⟩
   have c1:(i:Int) < l.length:=by omega
   have hw:=wI1 (n:=i) (by omega)
   have hcx:=hc x (List.mem_of_getElem? hx)
   (repeat first|simp only [ww]|(apply xa;simp +decide only [go_sem,c1,hlt,hx,hw,hcx];rfl;kernel_rfl))
   refine a1w (i + 1) ?_ (by omega) (by omega)
   (simp +decide only [go_sem,a01,a00,hf,hr]<;>rfl)
  ·obtain rfl:i = l.length:=by omega
   have c1:¬ (l.length:Int) < l.length:=by omega
   (repeat first|simp only [ww]|(apply xa;simp +decide only [go_sem,c1];rfl;kernel_rfl))
   (apply fqb;simp +decide only [go_sem]<;>rfl)
theorem c5f (r:Rep) (l:List Nat) (f:AV) (hf:refs f = []) (hl:l.length < 1000000) (hc:∀ m ∈ l,a0c L.env false (sem L.env Mf) f [.int .i64 m] [] = some (.bool false,[],[])) :
 sem L.env Mf 163 [sl r (l.map a0d),f] [] = some (.bool false,[]):=by
 have h:=fun H=>a03 (E:=L.env) (draw:=false) (call:=sem L.env Mf) (g:=55) (fs:=[]) (cs:=[]) (ar:=[sl r (l.map a0d),f]) (H:=H) (by kernel_rfl) (by kernel_rfl) rfl (by simp only [List.nil_append,List.append_nil,a09,hf,go_sem]) (c8z r l f hf hl hc) rfl
 have c1:¬ (0:Int) ≤ -1:=by omega
 (refine sv Tryz.f163 ?_;simp only [Tryz.f163,gS])
 (repeat first|simp only [ww]|(apply xa;simp +decide only [go_sem,h,c1];rfl;kernel_rfl))
 (apply fqb;simp +decide only [go_sem]<;>rfl)
theorem b9l {d:Bool} (H:a05) (c:Cir) (r:Rep) (l:List Nat) (hl:l.length < 1000000) (h:∀ m ∈ l,m < c.nodes.length) :
 a0c L.env d (sem L.env Mf) (.func (.func 163) [] []) [sl r (l.map a0d),c4j c] H = some (.bool false,H,[]):=
 a03 (by kernel_rfl) (by kernel_rfl) rfl (by simp only [List.nil_append,List.append_nil,a09,c7b,go_sem]) (c5f r l (c4j c) rfl hl (fun m hm=>b8r [] c m (h m hm))) rfl
/- the drivers of a bus -/
theorem d2c (c:Cir) (m:Nat) (hm:m < c.nodes.length) (hk:a0q c.nodes m = 12):sem L.env Mf 169 [.int .i64 m,.ptr 0 0 0] [some (.row 4 [c.enc])] = some (.bool false,[some (.row 4 [c.enc])]):=by
 obtain ⟨x,hx⟩:∃ x,c.nodes[m]? = some x:=⟨_,List.getElem?_eq_getElem hm⟩
 rw [a15 hx] at hk
 simp only [Cir.enc]
 (refine sv Tryz.f169 ?_;simp only [Tryz.f169,gS])
 (repeat first|simp only [ww]|(apply xa;simp +decide only [go_sem,hx,hk,hm];rfl;kernel_rfl))
 (apply fqb;simp +decide only [go_sem]<;>rfl)
theorem a78 (c:Cir):FlatR [c.enc]:=FlatR.cons (by simp only [Cir.enc,go_sem]) FlatR.nil
theorem c4k {d:Bool} (H:a05) (c:Cir) (b m:Nat) (hb:a02 H b = some (.row 4 [c.enc])) (hm:m < c.nodes.length) (hk:a0q c.nodes m = 12):a0c L.env d (sem L.env Mf) (.func (.func 169) [] [.ptr b 0 0]) [.int .i64 m] H = some (.bool false,H,[b]):=
 a2d (fs:=[]) (cs:=[.ptr b 0 0]) (ar:=[.int .i64 m]) (by kernel_rfl) (by kernel_rfl) rfl hb (a0u (a78 c)) (FlatO.row (a78 c)) rfl (args':=[.int .i64 m,.ptr 0 0 0]) (by simp [ren,a59]) (d2c c m hm hk) rfl
theorem c4x (r:Rep) (l:List Nat) (c:Cir) (hl:l.length < 1000000) (hc:∀ m ∈ l,m < c.nodes.length ∧ a0q c.nodes m = 12) :
 sem L.env Mf 55 [sl r (l.map a0d),.func (.func 169) [] [.ptr 0 0 0]] [some (.row 4 [c.enc])] = some (.int .i64 (-1),[some (.row 4 [c.enc])]):=by
 have hfl:a0e c.enc = []:=by simp only [Cir.enc,go_sem]
 have hrn:∀ π,c.enc.map (ren π) = c.enc:=fun π=>a44 π hfl
 have hcall:=fun m h1 h2=>c4k (d:=false) [some (.row 4 [c.enc])] c 0 m rfl h1 h2
 generalize he:c.enc = E at hfl hrn hcall
 (refine sv Tryz.f55 ?_;simp only [Tryz.f55,gS])
 (repeat first|simp only [ww]|(apply xa;simp +decide only [go_sem];rfl;kernel_rfl))
 refine a0s (σ:=Nat) kp55_0 (fun i=>[(0,sl r (l.map a0d)),(1,.func (.func 169) [] [.ptr 0 0 0]),(7,.int .i64 l.length),(8,.int .i64 i)])
  (fun _=>[some (.row 4 [E])]) (fun i=>l.length - i) (fun i=>i ≤ l.length) 0 ?_ (Nat.zero_le _) ?_
 ·(simp +decide only [go_sem,a01,a00,hfl,hrn]<;>rfl)
 ·intro i hi
  by_cases hlt:i < l.length
  ·obtain ⟨x,hx⟩:∃ x,l[i]? = some x:=⟨_,List.getElem?_eq_getElem hlt⟩
   have c1:(i:Int) < l.length:=by omega
   have hw:=wI1 (n:=i) (by omega)
   have hcx:=hcall x (hc x (List.mem_of_getElem? hx)).1 (hc x (List.mem_of_getElem? hx)).2
   (repeat first|simp only [ww]|(apply xa;simp +decide only [go_sem,c1,hlt,hx,hw,hcx];rfl;kernel_rfl))
   refine a1w (i + 1) ?_ (by omega) (by omega)
   (simp +decide only [go_sem,a01,a00,hfl,hrn]<;>rfl)
  ·obtain rfl:i = l.length:=by omega
   have c1:¬ (l.length:Int) < l.length:=by omega
   (repeat first|simp only [ww]|(apply xa;simp +decide only [go_sem,c1];rfl;kernel_rfl))
   (apply fqb;simp +decide only [go_sem,hrn]<;>rfl)
theorem b9m (r:Rep) (l:List Nat) (c:Cir) (hl:l.length < 1000000) (hc:∀ m ∈ l,m < c.nodes.length ∧ a0q c.nodes m = 12) :
 sem L.env Mf 163 [sl r (l.map a0d),.func (.func 169) [] [.ptr 0 0 0]] [some (.row 4 [c.enc])] = some (.bool false,[some (.row 4 [c.enc])]):=by
 have h:=a2d (E:=L.env) (draw:=false) (call:=sem L.env Mf) (g:=55) (fs:=[]) (cs:=[]) (ar:=[sl r (l.map a0d),.func (.func 169) [] [.ptr 0 0 0]]) (H:=[some (.row 4 [c.enc])]) (b:=0) (by kernel_rfl) (by kernel_rfl) rfl rfl (a0u (a78 c)) (FlatO.row (a78 c)) (by simp only [List.nil_append,List.append_nil,a09,go_sem]) (by simp only [List.nil_append,List.append_nil,List.map_cons,List.map_nil,b2q];simp [ren,b80,a59]) (c4x r l c hl hc) rfl
 have c1:¬ (0:Int) ≤ -1:=by omega
 have hfl:a0e c.enc = []:=by simp only [Cir.enc,go_sem]
 have hrn:∀ π,c.enc.map (ren π) = c.enc:=fun π=>a44 π hfl
 generalize he:c.enc = E at hfl hrn h
 (refine sv Tryz.f163 ?_;simp only [Tryz.f163,gS])
 (repeat first|simp only [ww]|(apply xa;simp +decide only [go_sem,h,c1];rfl;kernel_rfl))
 (apply fqb;simp +decide only [go_sem,hrn]<;>rfl)
theorem c1t {d:Bool} {H:a05} {b:Nat} (c:Cir) (r:Rep) (l:List Nat) (hl:l.length < 1000000) (hc:∀ m ∈ l,m < c.nodes.length ∧ a0q c.nodes m = 12) (hb:a02 H b = some (.row 4 [c.enc])) :
 a0c L.env d (sem L.env Mf) (.func (.func 163) [] []) [sl r (l.map a0d),.func (.func 169) [] [.ptr b 0 0]] H = some (.bool false,H,[b]):=
 a2d (fs:=[]) (cs:=[]) (ar:=[sl r (l.map a0d),.func (.func 169) [] [.ptr b 0 0]]) (by kernel_rfl) (by kernel_rfl) rfl hb (a0u (a78 c)) (FlatO.row (a78 c)) (by simp only [List.nil_append,List.append_nil,a09,go_sem]) (by simp only [List.nil_append,List.append_nil,List.map_cons,List.map_nil,b2q];simp [ren,b80,a59]) (b9m r l c hl hc) rfl
theorem e46 (c:Cir) (x:Nd) (hm:x.mem = 0 ∧ x.bit = 0) (hk:x.kind ≤ 14):sem L.env Mf 170 [.agg c.enc,.agg x.enc] [] = some (.bool true,[]):=by
 have c1:¬ (x.kind:Int) = 15:=by omega
 obtain ⟨m1,m2⟩:=hm
 simp only [Cir.enc,Nd.enc,m1,m2]
 (refine sv Tryz.f170 ?_;simp only [Tryz.f170,gS])
 (repeat first|simp only [ww]|(apply xa;simp +decide only [go_sem,c1];rfl;kernel_rfl))
 (apply fqb;simp +decide only [go_sem]<;>rfl)
theorem d4k {d:Bool} (H:a05) (c:Cir) (x:Nd) (hm:x.mem = 0 ∧ x.bit = 0) (hk:x.kind ≤ 14):a0c L.env d (sem L.env Mf) (.func (.func 170) [] []) [.agg c.enc,.agg x.enc] H = some (.bool true,H,[]):=
 a03 (by kernel_rfl) (by kernel_rfl) rfl (by simp only [a09,a0y,Cir.enc,go_sem]) (e46 c x hm hk) rfl
theorem d89 (c:Cir) (h:c.wf) (x:Nd) (hx:x ∈ c.nodes):sem L.env Mf 160 [.agg c.enc,.agg x.enc] [] = some (.int .i64 0,[]):=by
 have k14:=h.kind x hx
 have hlo:=h.lo x hx
 have hhi:=h.hi x hx
 have hlen:x.ins.length < 1000000:=by
  have:a1n x.kind ≤ 16:=by
   have hk:x.kind = 0 ∨ x.kind = 1 ∨ x.kind = 2 ∨ x.kind = 3 ∨ x.kind = 4 ∨ x.kind = 5 ∨ x.kind = 6 ∨ x.kind = 7 ∨ x.kind = 8 ∨ x.kind = 9 ∨ x.kind = 10 ∨ x.kind = 11 ∨ x.kind = 12 ∨ x.kind = 13 ∨ x.kind = 14:=by omega
   rcases hk with e|e|e|e|e|e|e|e|e|e|e|e|e|e|e<;>rw [e]<;>decide
  omega
 have hf:=fun H=>a8x (d:=false) H x.kind (by omega)
 have ho:=fun H=>a89 (d:=true) H c
 have hc:=fun H=>b9l (d:=true) H c x.c x.ins hlen (h.ins x hx)
 have hb:=fun H=>d4k (d:=false) H c x (h.mem x hx) k14
 have c1:¬ (15:Int) < x.kind:=by omega
 have c2:¬ (x.ins.length:Int) < a1m x.kind:=by omega
 have c3:¬ (a1n x.kind:Int) < x.ins.length:=by omega
 have hfl:a0e c.enc = []:=by simp only [Cir.enc,go_sem]
 by_cases hk:x.kind = 13
 ·have hoth:=fun (X:Option AObj)=>c1t (d:=false) (H:=[some (.row 4 [c.enc]),X]) (b:=0) c x.c x.ins hlen (fun m hm=>⟨h.ins x hx m hm,h.bus x hx hk m hm⟩) rfl
  have ck:decide ((x.kind:Int) = 13) = true:=decide_eq_true (by omega)
  simp only [Cir.enc,Nd.enc] at ho hc hb hoth ⊢
  (refine sv Tryz.f160 ?_;simp only [Tryz.f160,gS])
  (repeat first|simp only [ww]|(apply xa;simp +decide only [go_sem,hf,c1,c2,c3,ho,hc,hb,hoth,ck];rfl;kernel_rfl))
  (apply fqb;simp +decide only [go_sem]<;>rfl)
 ·have ck:¬ (x.kind:Int) = 13:=by omega
  simp only [Cir.enc,Nd.enc] at ho hc hb ⊢
  (refine sv Tryz.f160 ?_;simp only [Tryz.f160,gS])
  (repeat first|simp only [ww]|(apply xa;simp +decide only [go_sem,hf,c1,c2,c3,ho,hc,hb,ck];rfl;kernel_rfl))
  (apply fqb;simp +decide only [go_sem]<;>rfl)
theorem c7q {d:Bool} (H:a05) (c:Cir) (h:c.wf) (x:Nd) (hx:x ∈ c.nodes):a0c L.env d (sem L.env Mf) (.func (.func 160) [] []) [.agg c.enc,.agg x.enc] H = some (.int .i64 0,H,[]):=
 a03 (by kernel_rfl) (by kernel_rfl) rfl (by simp only [a09,a0y,Cir.enc,go_sem]) (d89 c h x hx) rfl
theorem c8o (i:Nat) (hi:i < 14):sem L.env Mf 171 [.str (a3c i)] [] = some (.bool true,[]):=by
 have h:i = 0 ∨ i = 1 ∨ i = 2 ∨ i = 3 ∨ i = 4 ∨ i = 5 ∨ i = 6 ∨ i = 7 ∨ i = 8 ∨ i = 9 ∨ i = 10 ∨ i = 11 ∨ i = 12 ∨ i = 13:=by omega
 rcases h with rfl|rfl|rfl|rfl|rfl|rfl|rfl|rfl|rfl|rfl|rfl|rfl|rfl|rfl
 ·exact d3d
 ·exact d3c
 ·exact d3b
 ·exact d3a
 ·exact d39
 ·exact d38
 ·exact d37
 ·exact d36
 ·exact d35
 ·exact d34
 ·exact c8s
 ·exact c8r
 ·exact c8q
 ·exact c8p
theorem c1i {d:Bool} (H:a05) (i:Nat) (hi:i < 14):a0c L.env d (sem L.env Mf) (.func (.func 171) [] []) [.str (a3c i)] H = some (.bool true,H,[]):=
 a03 (by kernel_rfl) (by kernel_rfl) rfl rfl (c8o i hi) rfl
def a8b (i:Nat):List AV:=(List.range i).map fun j=>.str (a3c j)
theorem c19 (i:Nat):a8b (i + 1) = a8b i ++ [.str (a3c i)]:=by unfold a8b;rw [List.range_succ,List.map_append];rfl
theorem eqS (a b:List UInt8):aeq L.env 6 9 (.str a) (.str b) = some (a == b):=by kernel_rfl
theorem c7x {i j:Nat} (hi:i < 14) (hj:j < 14) (h:a3c i = a3c j):i = j:=by
 unfold a3c at h
 simp only [List.cons.injEq,and_true,true_and] at h
 have h1:=congrArg UInt8.toNat h.1
 have h2:=congrArg UInt8.toNat h.2
 simp only [UInt8.toNat_ofNat'] at h1 h2
 omega
theorem c9i (s:Nat) (hs:s < 14):∀ (l:List Nat) (b:Nat),(∀ j ∈ l,j < s) → a2e (aeq L.env 6 9) (.str (a3c s)) (l.map fun j=>.str (a3c j)) b = some none
 | [],b,_=>rfl
 | j :: l,b,h=>by
  have hne:(a3c s == a3c j) = false:=by
   rw [beq_eq_false_iff_ne]
   intro e
   have:=c7x hs (by have:=h j (by simp);omega) e
   have:=h j (by simp)
   omega
  simp only [List.map_cons,a2e,eqS,hne,cond_false]
  exact c9i s hs l (b + 1) (fun j hj=>h j (by simp [hj]))
theorem c7u (i:Nat) (hi:i < 14):a2e (aeq L.env 6 9) (.str (a3c i)) (a8b i) 0 = some none:=c9i i hi _ 0 (fun j hj=>by simpa using hj)
def nmO (i:Nat):AObj:=.map (a8b i) (List.replicate i (.bool true)) (List.range i) i
theorem c7t (i:Nat) (hi:i < 14):a7v L.env (a02 [some (nmO i)]) 233 (.map 0) (.str (a3c i)) false = some (.bool false):=by
 have h:=c7u i hi
 have e:a7v L.env (a02 [some (nmO i)]) 233 (.map 0) (.str (a3c i)) false = match a2e (aeq L.env 6 9) (.str (a3c i)) (a8b i) 0 with
  | some (some j)=>match (List.replicate i (AV.bool true))[j]? with
   | some v=>some (bif false then .tuple [v,.bool true] else v)
   | none=>none
  | some none=>some (.bool false)
  | none=>none:=by kernel_rfl
 rw [e,h]
theorem c7s (i:Nat) (hi:i < 14):a2o L.env (a02 [some (nmO i)]) 233 (.map 0) (.str (a3c i)) (.bool true) = some (.set 0 (nmO (i + 1))):=by
 have h:=c7u i hi
 unfold a2o
 have e:b1v L.env (a02 [some (nmO i)]) 233 (.map 0) (.str (a3c i)) = match a2e (aeq L.env 6 9) (.str (a3c i)) (a8b i) 0 with
  | some (some j)=>match (a8b i)[j]? with
   | some k0=>bif d4n k0 (.str (a3c i)) then some (0,a8b i,List.replicate i (AV.bool true),List.range i,i,some j) else none
   | none=>none
  | some none=>some (0,a8b i,List.replicate i (AV.bool true),List.range i,i,none)
  | none=>none:=by kernel_rfl
 rw [e,h]
 simp only [nmO,c19,List.range_succ,List.replicate_succ']
theorem c18 (i:Nat):a0w (some (nmO i)) = []:=by
 simp only [nmO,a0w,a8b]
 have h1:∀ l:List Nat,a0e (l.map fun j=>AV.str (a3c j)) = []:=by intro l;induction l with|nil=>rfl|cons a l ih=>simp [a0e,refs,ih]
 have h2:∀ n,a0e (List.replicate n (AV.bool true)) = []:=by intro n;induction n with|zero=>rfl|succ n ih=>simp [List.replicate_succ,a0e,refs,ih]
 rw [h1,h2];rfl
theorem d5t (π:Nat → Option Nat) (i:Nat):a0v π (nmO i) = nmO i:=by
 have h:=c18 i
 simp only [nmO,a0w,List.append_eq_nil_iff] at h
 simp only [nmO,a0v,a44 π h.1,a44 π h.2]
theorem d2g (c:Cir) (h:c.wf):sem L.env Mf 161 [.agg c.enc] [] = some (.int .i64 0,[]):=by
 have hn:=h.len
 have hnm:c.names.length = c.nodes.length:=by rw [h.names];simp
 simp only [Cir.enc]
 (refine sv Tryz.f161 ?_;simp only [Tryz.f161,gS])
 (repeat first|simp only [ww]|(apply xa;simp +decide only [go_sem];rfl;kernel_rfl))
 have e0:AObj.map [] [] [] 0 = nmO 0:=by rfl
 refine a0s (σ:=Nat) kp161_0 (fun i=>[(3,.map 0),(8,sl c.mc (c.names.map a1r)),(9,.int .i64 c.names.length),(10,.int .i64 i)])
  (fun i=>[some (nmO i)]) (fun i=>c.names.length - i) (fun i=>i ≤ c.names.length) 0 ?_ (Nat.zero_le _) ?_
 ·rw [e0]
  (simp +decide only [go_sem,a01,a00,c18,d5t]<;>rfl)
 ·intro i hi
  by_cases hlt:i < c.names.length
  ·have hx:c.names[i]? = some (a3c i):=by rw [h.names,List.getElem?_map,List.getElem?_range (by omega)];rfl
   have c1:(i:Int) < c.names.length:=by omega
   have hw:=wI1 (n:=i) (by omega)
   have hcn:=fun H=>c1i (d:=false) H i (by omega)
   have hlk:=c7t i (by omega)
   have hup:=c7s i (by omega)
   (repeat first|simp only [ww]|(apply xa;simp +decide only [go_sem,c1,hlt,hx,hw,hcn,hlk,hup];rfl;kernel_rfl))
   refine a1w (i + 1) ?_ (by omega) (by omega)
   (simp +decide only [go_sem,a01,a00,c18,d5t]<;>rfl)
  ·obtain rfl:i = c.names.length:=by omega
   have c1:¬ (c.names.length:Int) < c.names.length:=by omega
   (repeat first|simp only [ww]|(apply xa;simp +decide only [go_sem,c1];rfl;kernel_rfl))
   (apply fqb;simp +decide only [go_sem]<;>rfl)
open Go.Proofs Go.Ax Go.Pc
set_option maxRecDepth 100000
theorem a45 (c:Cir):a0e [.agg c.enc] = []:=by simp only [a09,a0y,Cir.enc,go_sem]
theorem c4m {d:Bool} (H:a05) (c:Cir) (h:c.wf):a0c L.env d (sem L.env Mf) (.func (.func 161) [] []) [.agg c.enc] H = some (.int .i64 0,H,[]):=
 a03 (by kernel_rfl) (by kernel_rfl) rfl (a45 c) (d2g c h) rfl
theorem d1t (c:Cir) (h:c.wf):sem L.env Mf 140 [.agg c.enc] [] = some (.int .i64 0,[]):=by
 have hn:=h.len
 have hnm:c.names.length = c.nodes.length:=by rw [h.names];simp
 have hol:=h.outl
 have c1:¬ (16384:Int) < c.nodes.length:=by omega
 have c2:¬ (16384:Int) < c.outs.length:=by omega
 have hno:=fun H x hx=>c7q (d:=false) H c h x hx
 have hna:=fun H=>c4m (d:=false) H c h
 have hou:=fun H=>a89 (d:=true) H c
 have hcf:=fun H=>b9l (d:=true) H c c.oc c.outs (by omega) h.outs
 have hlen:c.enc.length = 4:=rfl
 simp only [Cir.enc] at hno hna hou hcf ⊢
 (refine sv Tryz.f140 ?_;simp only [Tryz.f140,gS])
 (repeat first|simp only [ww]|(apply xa;simp +decide only [go_sem,c1,c2,hnm];rfl;kernel_rfl))
 refine a0s (σ:=Nat) kp140_1 (fun i=>[(1,.ptr 0 0 0),(36,sl c.nc (c.nodes.map Nd.enc)),(37,.int .i64 c.nodes.length),(38,.int .i64 i)])
  (fun i=>[some (.row 4 [[sl c.nc (c.nodes.map Nd.enc),sl c.mc (c.names.map a1r),.nilslice,sl c.oc (c.outs.map a0d)]])]) (fun i=>c.nodes.length - i) (fun i=>i ≤ c.nodes.length) 0 ?_ (Nat.zero_le _) ?_
 ·(simp +decide only [go_sem,a01,a00]<;>rfl)
 ·intro i hi
  by_cases hlt:i < c.nodes.length
  ·obtain ⟨x,hx⟩:∃ x,c.nodes[i]? = some x:=⟨_,List.getElem?_eq_getElem hlt⟩
   have c1:(i:Int) < c.nodes.length:=by omega
   have hw:=wI1 (n:=i) (by omega)
   have hcx:=fun H=>hno H x (List.mem_of_getElem? hx)
   simp only [Nd.enc] at hcx
   (repeat first|simp only [ww]|(apply xa;simp +decide only [go_sem,c1,hlt,hx,hw,hcx];rfl;kernel_rfl))
   refine a1w (i + 1) ?_ (by omega) (by omega)
   (simp +decide only [go_sem,a01,a00]<;>rfl)
  ·obtain rfl:i = c.nodes.length:=by omega
   have c1:¬ (c.nodes.length:Int) < c.nodes.length:=by omega
   (repeat first|simp only [ww]|(apply xa;simp +decide only [go_sem,c1,hna];rfl;kernel_rfl))
   refine a0s (σ:=Nat) kp140_3 (fun i=>[(1,.ptr 0 0 0),(55,.nilslice),(56,.int .i64 0),(57,.int .i64 0)])
    (fun i=>[some (.row 4 [[sl c.nc (c.nodes.map Nd.enc),sl c.mc (c.names.map a1r),.nilslice,sl c.oc (c.outs.map a0d)]])]) (fun i=>0) (fun i=>True) 0 ?_ trivial ?_
   ·(simp +decide only [go_sem,a01,a00]<;>rfl)
   ·intro i _
    (repeat first|simp only [ww]|(apply xa;simp +decide only [go_sem,hou,hcf];rfl;kernel_rfl))
    (apply fqb;simp +decide only [go_sem]<;>rfl)
theorem c48 {d:Bool} (H:a05) (c:Cir) (h:c.wf):a0c L.env d (sem L.env Mf) (.func (.func 140) [] []) [.agg c.enc] H = some (.int .i64 0,H,[]):=
 a03 (by kernel_rfl) (by kernel_rfl) rfl (a45 c) (d1t c h) rfl
theorem b43 {d:Bool} (H:a05) (k:Nat) (hk:k < 256):a0c L.env d (sem L.env Mf) (.func (.func 64) [] []) [.int .u8 k] H = some (.bool (a1s k),H,[]):=
 a03 (by kernel_rfl) (by kernel_rfl) rfl rfl (d9l k hk) rfl
end Go.MInst
