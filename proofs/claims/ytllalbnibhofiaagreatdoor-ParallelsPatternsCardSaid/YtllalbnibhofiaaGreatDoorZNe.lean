/- Part of a proof. No condition. -/
import Derived.Test.YtllalbnibhofiaaGreatDoorZWo
import Derived.Test.YtllalbnibhofiaaGreatDoorZGa
import Derived.Test.YtllalbnibhofiaaGreatDoorPcB
import Derived.Test.YtllalbnibhofiaaGreatDoorAxE
set_option linter.unusedSimpArgs false
set_option linter.unusedVariables false
namespace Go.ZInst
open Go.Proofs Go.Ax Go.Pc
set_option maxRecDepth 100000
open Go.Proofs Go.Ax Go.Pc
set_option maxRecDepth 100000
theorem bfn (w:W) (n v:Nat) (hn:n < 64) (hv:v < 256):sem L.env Mf 51 [.agg w.enc,.int .i64 n,.int .u8 v] [] = some (.agg (alx w n v).enc,[]):=by
 have hc:=fun H=>aom (d:=false) H v hv
 simp only [go_sem] at hc
 have h0:¬ (n:Int) < 0:=by omega
 (refine sv Tryz.f51 ?_;simp only [Tryz.f51,gS])
 (repeat first|simp only [ww]|(apply xa;simp +decide only [go_sem,hc,h0];rfl;kernel_rfl))
 (apply fqb;simp +decide only [go_sem,alx,bms]<;>rfl)
theorem aym {d:Bool} (H:aa4) (w:W) (n v:Nat) (hn:n < 64) (hv:v < 256):aaa L.env d (sem L.env Mf) (.func (.func 51) [] []) [.agg w.enc,.int .i64 n,.int .u8 v] H = some (.agg (alx w n v).enc,H,[]):=
 aa3 (by kernel_rfl) (by kernel_rfl) rfl rfl (bfn w n v hn hv) rfl
theorem bmj (k:Nat) (hk:k < 256):sem L.env Mf 85 [.int .u8 k] [] = some (.bool (abr k),[]):=by
 by_cases h1:1 ≤ k
 ·have c1:(1:Int) ≤ k:=by omega
  by_cases h2:k ≤ 13
  ·have c2:(k:Int) ≤ 13:=by omega
   rw [show abr k = true by simp [abr,h1,h2]]
   (refine sv Tryz.f85 ?_;simp only [Tryz.f85,gS])
   (repeat first|simp only [ww]|(apply xa;simp +decide only [go_sem,c1,c2];rfl;kernel_rfl))
   (apply fqb;simp +decide only [go_sem]<;>rfl)
  ·have c2:¬ (k:Int) ≤ 13:=by omega
   rw [show abr k = false by simp [abr,h2]]
   (refine sv Tryz.f85 ?_;simp only [Tryz.f85,gS])
   (repeat first|simp only [ww]|(apply xa;simp +decide only [go_sem,c1,c2];rfl;kernel_rfl))
   (apply fqb;simp +decide only [go_sem]<;>rfl)
 ·have c1:¬ (1:Int) ≤ k:=by omega
  rw [show abr k = false by simp [abr,h1]]
  (refine sv Tryz.f85 ?_;simp only [Tryz.f85,gS])
  (repeat first|simp only [ww]|(apply xa;simp +decide only [go_sem,c1];rfl;kernel_rfl))
  (apply fqb;simp +decide only [go_sem]<;>rfl)
open Go.Proofs Go.Ax Go.Pc
set_option maxRecDepth 100000
open Go.Proofs Go.Ax Go.Pc
set_option maxRecDepth 100000
theorem blu (k v:Nat):sem L.env Mf 128 [.slice 0 0 1 (some 1),.int .u8 v] [some (.row 1 [[.int .u8 k]])] = some (.int .i64 (if v = k then 0 else -1),[some (.row 1 [[.int .u8 k]])]):=by
 (refine sv Tryz.f128 ?_;simp only [Tryz.f128,gS])
 (repeat first|simp only [ww]|(apply xa;simp +decide only [go_sem];rfl;kernel_rfl))
 refine ab3 (σ:=Nat) kp128_0 (fun i=>[(0,.slice 0 0 1 (some 1)),(1,.int .u8 v),(7,.int .i64 1),(8,.int .i64 i)])
  (fun _=>[some (.row 1 [[.int .u8 k]])]) (fun i=>1 - i) (fun i=>i ≤ 1 ∧ (i = 1 → v ≠ k)) 0 ?_ (by simp) ?_
 ·(simp +decide only [go_sem,aa1,aa0]<;>rfl)
 ·rintro i ⟨hi,hne⟩
  have hh:i = 0 ∨ i = 1:=by omega
  rcases hh with rfl|rfl
  ·by_cases h:v = k
   ·subst h
    (repeat first|simp only [ww]|(apply xa;simp +decide only [go_sem,if_pos];rfl;kernel_rfl))
    (apply fqb;simp +decide only [go_sem,if_pos]<;>rfl)
   ·have c:¬ (v:Int) = k:=by omega
    (repeat first|simp only [ww]|(apply xa;simp +decide only [go_sem,c];rfl;kernel_rfl))
    refine ac6 1 ?_ (by omega) (by simp [h])
    (simp +decide only [go_sem,aa1,aa0]<;>rfl)
  ·have h:=hne rfl
   have c:¬ (v:Int) = k:=by omega
   rw [if_neg h]
   (repeat first|simp only [ww]|(apply xa;simp +decide only [go_sem,c];rfl;kernel_rfl))
   (apply fqb;simp +decide only [go_sem]<;>rfl)
theorem bhf (k v:Nat):sem L.env Mf 105 [.slice 0 0 1 (some 1),.int .u8 v] [some (.row 1 [[.int .u8 k]])] = some (.bool (decide (v = k)),[some (.row 1 [[.int .u8 k]])]):=by
 have hc:aaa L.env false (sem L.env Mf) (.func (.func 128) [] []) [.slice 0 0 1 (some 1),.int .u8 v] [some (.row 1 [[.int .u8 k]])] = some (.int .i64 (if v = k then 0 else -1),[some (.row 1 [[.int .u8 k]])],[0]):=
  aca (by kernel_rfl) (by kernel_rfl) rfl rfl rfl (FlatO.row (FlatR.cons rfl FlatR.nil)) rfl rfl (blu k v) rfl
 by_cases h:v = k
 ·rw [if_pos h] at hc
  (refine sv Tryz.f105 ?_;simp only [Tryz.f105,gS])
  (repeat first|simp only [ww]|(apply xa;simp +decide only [go_sem,hc];rfl;kernel_rfl))
  (apply fqb;simp +decide only [go_sem,h]<;>rfl)
 ·rw [if_neg h] at hc
  (refine sv Tryz.f105 ?_;simp only [Tryz.f105,gS])
  (repeat first|simp only [ww]|(apply xa;simp +decide only [go_sem,hc];rfl;kernel_rfl))
  (apply fqb;simp +decide only [go_sem,h]<;>rfl)
theorem azl {d:Bool} (k v:Nat) (X:aa4):aaa L.env d (sem L.env Mf) (.func (.func 105) [] []) [.slice 0 0 1 (some 1),.int .u8 v] (some (.row 1 [[.int .u8 k]]) :: X) = some (.bool (decide (v = k)),some (.row 1 [[.int .u8 k]]) :: X,[0]):=
 aca (by kernel_rfl) (by kernel_rfl) rfl rfl rfl (FlatO.row (FlatR.cons rfl FlatR.nil)) rfl rfl (bhf k v) rfl
/-- The nodes of a kind among the first i. -/
def adr (nodes:List Nd) (k i:Nat):List Nat:=(List.range i).filter fun j=>decide (aaq nodes j = k)
theorem ao4 (nodes:List Nd) (k i:Nat):adr nodes k (i + 1) = if aaq nodes i = k then adr nodes k i ++ [i] else adr nodes k i:=by
 unfold adr
 rw [List.range_succ,List.filter_append]
 by_cases h:aaq nodes i = k<;>simp [h]
theorem ao5 (nodes:List Nd) (k i:Nat):(adr nodes k i).length ≤ i:=Nat.le_trans (List.length_filter_le _ _) (by simp)
def kinds (nodes:List Nd) (k:Nat):List Nat:=adr nodes k nodes.length
/-- A list adn spare room, nil if it is empty. -/
def apb (l:List Nat):AV:=sl (match l with|[]=>none|a :: r=>some (some (r.length + 1))) (l.map aaj)
theorem ax0:apb [] = .nilslice:=by rfl
theorem atj (a:Nat) (r:List Nat):apb (a :: r) = .islice ((a :: r).map aaj) (some (r.length + 1)):=by rfl
theorem ab7 {nodes:List Nd} {i:Nat} {x:Nd} (h:nodes[i]? = some x):aaq nodes i = x.kind:=by simp [aaq,h]
theorem ac1 (l:List Nat):(l.map aaj).flatMap aab = []:=aah (FlatR.map fun _=>rfl)
theorem ad5 (π:Nat → Option Nat) (l:List Nat):(l.map aaj).map (fun r=>r.map (ren π)) = l.map aaj:=aae π (FlatR.map fun _=>rfl)
theorem axk (l:List Nat):FlatR (l.map aaj):=FlatR.map fun _=>rfl
theorem bh0 {m:Nat} {d:AV → Option AV} (l:List Nat):ait m d (l.map aaj) = some (l.map aaj):=aau m d (FlatR.map fun _=>rfl)
theorem axr:sem L.env Mf 106 [.nilslice] [] = some (.nilslice,[]):=by
 (refine sv Tryz.f106 ?_;simp only [Tryz.f106,gS])
 (repeat first|simp only [ww]|(apply xa;simp +decide only [go_sem];rfl;kernel_rfl))
 (apply fqb;simp +decide only [go_sem]<;>rfl)
theorem bml (n:Nat) (rows:List (List AV)) (hf:FlatR rows):sem L.env Mf 106 [.slice 0 0 n none] [some (.row 1 rows)] = some (.slice 0 0 n (some n),[some (.row 1 rows)]):=by
 have h1:=fun π=>aae π hf
 (refine sv Tryz.f106 ?_;simp only [Tryz.f106,gS])
 (repeat first|simp only [ww]|(apply xa;simp +decide only [go_sem];rfl;kernel_rfl))
 (apply fqb;simp +decide only [go_sem,h1]<;>rfl)
theorem au3 {d:Bool} {H:aa4} {b n:Nat} {rows:List (List AV)} (hf:FlatR rows) (hb:aa2 H b = some (.row 1 rows)):aaa L.env d (sem L.env Mf) (.func (.func 106) [] []) [.slice b 0 n none] H = some (.slice b 0 n (some n),H,[b]):=by
 have h:=afu (E:=L.env) (draw:=d) (call:=sem L.env Mf) (g:=106) (fs:=[]) (cs:=[]) (ar:=[.slice b 0 n none]) (H:=H) (b:=b) (by kernel_rfl) (by kernel_rfl) rfl hb (aad hf) (FlatO.row hf) rfl (args':=[AV.slice 0 0 n none]) (by simp only [List.nil_append,List.append_nil,List.map_cons,List.map_nil,ac0]) (bml n rows hf) (FlatO.row hf) (ai3 b 0 _ n _)
 rw [aml hb] at h
 exact h
theorem bpx (c:Cir) (k:Nat) (hl:c.nodes.length < 1000000):sem L.env Mf 71 [.agg c.enc,.slice 0 0 1 (some 1)] [some (.row 1 [[.int .u8 k]])] = some (apb (kinds c.nodes k),[some (.row 1 [[.int .u8 k]])]):=by
 have hck:=fun v X=>azl (d:=false) k v X
 (refine sv Tryz.f71 ?_;simp only [Tryz.f71,gS])
 (repeat first|simp only [ww]|(apply xa;simp +decide only [go_sem,Cir.enc];rfl;kernel_rfl))
 refine ab3 (σ:=Nat) kp71_0 (fun i=>[(1,.slice 0 0 1 (some 1)),(5,grV 1 ((adr c.nodes k i).map aaj)),(9,sl c.nc (c.nodes.map Nd.enc)),(10,.int .i64 c.nodes.length),(11,.int .i64 i)])
  (fun i=>some (.row 1 [[.int .u8 k]]) :: grH 1 ((adr c.nodes k i).map aaj)) (fun i=>c.nodes.length - i) (fun i=>i ≤ c.nodes.length) 0 ?_ (Nat.zero_le _) ?_
 ·have e:adr c.nodes k 0 = []:=rfl
  (simp +decide only [go_sem,aa1,aa0,e,List.map_nil,aaf,aag]<;>rfl)
 ·intro i hi
  by_cases hlt:i < c.nodes.length
  ·obtain ⟨x,hx⟩:∃ x,c.nodes[i]? = some x:=⟨_,List.getElem?_eq_getElem hlt⟩
   have c1:(i:Int) < c.nodes.length:=by omega
   have hw:=wI1 (n:=i) (by omega)
   have hs:=ao4 c.nodes k i
   rw [ab7 hx] at hs
   have hle:=ao5 c.nodes k i
   have hrm:(adr c.nodes k i).length + 1 ≤ 1000000000:=by omega
   by_cases hk:x.kind = k
   ·rw [if_pos hk] at hs
    generalize adr c.nodes k i = l at hs hle hrm
    cases l with
    | nil=>
     (repeat first|simp only [ww]|(apply xa;simp +decide only [go_sem,c1,hlt,hx,hw,hck,hk,List.map_nil,aaf,aag];rfl;kernel_rfl))
     refine ac6 (i + 1) ?_ (by omega) (by omega)
     rw [hs]
     (simp +decide only [go_sem,aa1,aa0,List.map_nil,List.nil_append,List.map_cons,aa5,aa6,List.length_nil]<;>rfl)
    | cons a r=>
     simp only [List.length_cons] at hrm
     (repeat first|simp only [ww]|(apply xa;simp +decide only [go_sem,c1,hlt,hx,hw,hck,hk,List.map_cons,aa5,aa6,hrm,List.length_cons];rfl;kernel_rfl))
     refine ac6 (i + 1) ?_ (by omega) (by omega)
     rw [hs]
     (simp +decide only [go_sem,aa1,aa0,List.cons_append,List.map_cons,aa5,aa6,ac1,ad5,List.length_cons]<;>rfl)
   ·rw [if_neg hk] at hs
    have hk':¬ (x.kind:Int) = k:=by omega
    generalize adr c.nodes k i = l at hs hle hrm
    cases l with
    | nil=>
     (repeat first|simp only [ww]|(apply xa;simp +decide only [go_sem,c1,hlt,hx,hw,hck,hk,List.map_nil,aaf,aag];rfl;kernel_rfl))
     refine ac6 (i + 1) ?_ (by omega) (by omega)
     rw [hs]
     (simp +decide only [go_sem,aa1,aa0,List.map_nil,aaf,aag]<;>rfl)
    | cons a r=>
     (repeat first|simp only [ww]|(apply xa;simp +decide only [go_sem,c1,hlt,hx,hw,hck,hk,List.map_cons,aa5,aa6];rfl;kernel_rfl))
     refine ac6 (i + 1) ?_ (by omega) (by omega)
     rw [hs]
     (simp +decide only [go_sem,aa1,aa0,List.map_cons,aa5,aa6,ac1,ad5]<;>rfl)
  ·obtain rfl:i = c.nodes.length:=by omega
   have c1:¬ (c.nodes.length:Int) < c.nodes.length:=by omega
   unfold kinds
   generalize adr c.nodes k c.nodes.length = l
   cases l with
   | nil=>
    have hcl:=fun H=>aa3 (E:=L.env) (draw:=false) (call:=sem L.env Mf) (g:=106) (fs:=[]) (cs:=[]) (ar:=[.nilslice]) (H:=H) (by kernel_rfl) (by kernel_rfl) rfl rfl axr rfl
    (repeat first|simp only [ww]|(apply xa;simp +decide only [go_sem,c1,List.map_nil,aaf,aag,hcl];rfl;kernel_rfl))
    (apply fqb;simp +decide only [go_sem,ax0]<;>rfl)
   | cons a r=>
    have hcl:=au3 (d:=false) (H:=[some (.row 1 [[.int .u8 k]]),some (.row 1 ((a :: r).map aaj))]) (b:=1) (n:=r.length + 1) (axk _) rfl
    simp only [List.map_cons,go_sem] at hcl
    (repeat first|simp only [ww]|(apply xa;simp +decide only [go_sem,c1,List.map_cons,aa5,aa6,List.length_map,hcl];rfl;kernel_rfl))
    (apply fqb;simp +decide only [go_sem,atj,List.map_cons,bh0,List.length_cons]<;>rfl)
theorem av5 (π:Nat → Option Nat) (c:Cir):ren π (.agg c.enc) = .agg c.enc:=abc π _ (by simp only [aaw,Cir.enc,go_sem])
theorem af9 (l:List Nat):refs (apb l) = []:=ac2 _ _
theorem aro {d:Bool} {H:aa4} {b:Nat} (c:Cir) {k:Nat} {n:Int} (hn:n = k) (hl:c.nodes.length < 1000000) (hb:aa2 H b = some (.row 1 [[.int .u8 n]])) :
 aaa L.env d (sem L.env Mf) (.func (.func 71) [] []) [.agg c.enc,.slice b 0 1 (some 1)] H = some (apb (kinds c.nodes k),H,[b]):=by
 subst hn
 exact aca (E:=L.env) (draw:=d) (call:=sem L.env Mf) (g:=71) (fs:=[]) (cs:=[]) (ar:=[.agg c.enc,.slice b 0 1 (some 1)]) (H:=H) (b:=b) (by kernel_rfl) (by kernel_rfl) rfl hb rfl (FlatO.row (FlatR.cons rfl FlatR.nil)) (by simp only [List.nil_append,List.append_nil,aa7,aaw,Cir.enc,go_sem]) (args':=[.agg c.enc,.slice 0 0 1 (some 1)]) (by simp only [List.nil_append,List.append_nil,List.map_cons,List.map_nil,ac0,av5]) (bpx c k hl) (af9 _)
theorem ac3 (l:List Nat):∃ r,apb l = sl r (l.map aaj):=⟨_,rfl⟩
theorem bcl (c:Cir) (hl:c.nodes.length < 1000000):sem L.env Mf 37 [.agg c.enc] [] = some (apb (kinds c.nodes 0),[]):=by
 have hc:=fun X=>aro (d:=false) (H:=[X,some (.row 1 [[.int .u8 0]])]) (b:=1) c (k:=0) rfl hl rfl
 obtain ⟨r,hr⟩:=ac3 (kinds c.nodes 0)
 rw [hr] at hc ⊢
 simp only [Cir.enc] at hc ⊢
 (refine sv Tryz.f37 ?_;simp only [Tryz.f37,gS])
 (repeat first|simp only [ww]|(apply xa;simp +decide only [go_sem,hc];rfl;kernel_rfl))
 (apply fqb;simp +decide only [go_sem]<;>rfl)
theorem bar (c:Cir) (hl:c.nodes.length < 1000000):sem L.env Mf 38 [.agg c.enc] [] = some (apb (kinds c.nodes 14),[]):=by
 have hc:=fun X=>aro (d:=false) (H:=[X,some (.row 1 [[.int .u8 14]])]) (b:=1) c (k:=14) rfl hl rfl
 obtain ⟨r,hr⟩:=ac3 (kinds c.nodes 14)
 rw [hr] at hc ⊢
 simp only [Cir.enc] at hc ⊢
 (refine sv Tryz.f38 ?_;simp only [Tryz.f38,gS])
 (repeat first|simp only [ww]|(apply xa;simp +decide only [go_sem,hc];rfl;kernel_rfl))
 (apply fqb;simp +decide only [go_sem]<;>rfl)
theorem ahx {d:Bool} (H:aa4) (c:Cir) (hl:c.nodes.length < 1000000):aaa L.env d (sem L.env Mf) (.func (.func 37) [] []) [.agg c.enc] H = some (apb (kinds c.nodes 0),H,[]):=
 aa3 (by kernel_rfl) (by kernel_rfl) rfl (by simp only [aa7,aaw,Cir.enc,go_sem]) (bcl c hl) (af9 _)
theorem afz {d:Bool} (H:aa4) (c:Cir) (hl:c.nodes.length < 1000000):aaa L.env d (sem L.env Mf) (.func (.func 38) [] []) [.agg c.enc] H = some (apb (kinds c.nodes 14),H,[]):=
 aa3 (by kernel_rfl) (by kernel_rfl) rfl (by simp only [aa7,aaw,Cir.enc,go_sem]) (bar c hl) (af9 _)
open Go.Proofs Go.Ax Go.Pc
set_option maxRecDepth 100000
/-- The function that tells indexes outside of a circuit. -/
def ays (c:Cir):AV:=.func (.func 139) [] [.iptr c.enc]
theorem bb7 (c:Cir):refs (ays c) = []:=by rfl
theorem ayr (c:Cir):sem L.env Mf 125 [.agg c.enc] [] = some (ays c,[]):=by
 unfold ays
 simp only [Cir.enc]
 (refine sv Tryz.f125 ?_;simp only [Tryz.f125,gS])
 (repeat first|simp only [ww]|(apply xa;simp +decide only [go_sem];rfl;kernel_rfl))
 (apply fqb;simp +decide only [go_sem]<;>rfl)
theorem ail {d:Bool} (H:aa4) (c:Cir):aaa L.env d (sem L.env Mf) (.func (.func 125) [] []) [.agg c.enc] H = some (ays c,H,[]):=
 aa3 (by kernel_rfl) (by kernel_rfl) rfl (by simp only [aa7,aaw,Cir.enc,go_sem]) (ayr c) rfl
theorem bl2 (c:Cir) (m:Nat) (hm:m < c.nodes.length):sem L.env Mf 139 [.int .i64 m,.iptr c.enc] [] = some (.bool false,[]):=by
 have c1:¬ (m:Int) < 0:=by omega
 have c2:¬ (c.nodes.length:Int) ≤ m:=by omega
 simp only [Cir.enc]
 (refine sv Tryz.f139 ?_;simp only [Tryz.f139,gS])
 (repeat first|simp only [ww]|(apply xa;simp +decide only [go_sem,c1,c2];rfl;kernel_rfl))
 (apply fqb;simp +decide only [go_sem]<;>rfl)
theorem at8 {d:Bool} (H:aa4) (c:Cir) (m:Nat) (hm:m < c.nodes.length):aaa L.env d (sem L.env Mf) (ays c) [.int .i64 m] H = some (.bool false,H,[]):=
 aa3 (by kernel_rfl) (by kernel_rfl) rfl (by simp only [aa7,Cir.enc,go_sem]) (bl2 c m hm) rfl
theorem bco (r:Rep) (l:List Nat) (f:AV) (hf:refs f = []) (hl:l.length < 1000000) (hc:∀ m ∈ l,aaa L.env false (sem L.env Mf) f [.int .i64 m] [] = some (.bool false,[],[])) :
 sem L.env Mf 138 [sl r (l.map aaj),f] [] = some (.int .i64 (-1),[]):=by
 have hr:∀ π,ren π f = f:=fun π=>abc π f hf
 (refine sv Tryz.f138 ?_;simp only [Tryz.f138,gS])
 (repeat first|simp only [ww]|(apply xa;simp +decide only [go_sem];rfl;kernel_rfl))
 refine ab3 (σ:=Nat) kp138_0 (fun i=>[(0,sl r (l.map aaj)),(1,f),(7,.int .i64 l.length),(8,.int .i64 i)])
  (fun _=>[]) (fun i=>l.length - i) (fun i=>i ≤ l.length) 0 ?_ (Nat.zero_le _) ?_
 ·(simp +decide only [go_sem,aa1,aa0,hf,hr]<;>rfl)
 ·intro i hi
  by_cases hlt:i < l.length
  ·obtain ⟨x,hx⟩:∃ x,l[i]? = some x:=⟨_,List.getElem?_eq_getElem hlt⟩
   have c1:(i:Int) < l.length:=by omega
   have hw:=wI1 (n:=i) (by omega)
   have hcx:=hc x (List.mem_of_getElem? hx)
   (repeat first|simp only [ww]|(apply xa;simp +decide only [go_sem,c1,hlt,hx,hw,hcx];rfl;kernel_rfl))
   refine ac6 (i + 1) ?_ (by omega) (by omega)
   (simp +decide only [go_sem,aa1,aa0,hf,hr]<;>rfl)
  ·obtain rfl:i = l.length:=by omega
   have c1:¬ (l.length:Int) < l.length:=by omega
   (repeat first|simp only [ww]|(apply xa;simp +decide only [go_sem,c1];rfl;kernel_rfl))
   (apply fqb;simp +decide only [go_sem]<;>rfl)
theorem azm (r:Rep) (l:List Nat) (f:AV) (hf:refs f = []) (hl:l.length < 1000000) (hc:∀ m ∈ l,aaa L.env false (sem L.env Mf) f [.int .i64 m] [] = some (.bool false,[],[])) :
 sem L.env Mf 124 [sl r (l.map aaj),f] [] = some (.bool false,[]):=by
 have h:=fun H=>aa3 (E:=L.env) (draw:=false) (call:=sem L.env Mf) (g:=138) (fs:=[]) (cs:=[]) (ar:=[sl r (l.map aaj),f]) (H:=H) (by kernel_rfl) (by kernel_rfl) rfl (by simp only [List.nil_append,List.append_nil,aa7,hf,go_sem]) (bco r l f hf hl hc) rfl
 have c1:¬ (0:Int) ≤ -1:=by omega
 (refine sv Tryz.f124 ?_;simp only [Tryz.f124,gS])
 (repeat first|simp only [ww]|(apply xa;simp +decide only [go_sem,h,c1];rfl;kernel_rfl))
 (apply fqb;simp +decide only [go_sem]<;>rfl)
theorem aty {d:Bool} (H:aa4) (c:Cir) (r:Rep) (l:List Nat) (hl:l.length < 1000000) (h:∀ m ∈ l,m < c.nodes.length) :
 aaa L.env d (sem L.env Mf) (.func (.func 124) [] []) [sl r (l.map aaj),ays c] H = some (.bool false,H,[]):=
 aa3 (by kernel_rfl) (by kernel_rfl) rfl (by simp only [List.nil_append,List.append_nil,aa7,bb7,go_sem]) (azm r l (ays c) rfl hl (fun m hm=>at8 [] c m (h m hm))) rfl
/- the drivers of a bus -/
theorem bfp (c:Cir) (m:Nat) (hm:m < c.nodes.length) (hk:aaq c.nodes m = 12):sem L.env Mf 134 [.int .i64 m,.ptr 0 0 0] [some (.row 4 [c.enc])] = some (.bool false,[some (.row 4 [c.enc])]):=by
 obtain ⟨x,hx⟩:∃ x,c.nodes[m]? = some x:=⟨_,List.getElem?_eq_getElem hm⟩
 rw [ab7 hx] at hk
 simp only [Cir.enc]
 (refine sv Tryz.f134 ?_;simp only [Tryz.f134,gS])
 (repeat first|simp only [ww]|(apply xa;simp +decide only [go_sem,hx,hk,hm];rfl;kernel_rfl))
 (apply fqb;simp +decide only [go_sem]<;>rfl)
theorem ahg (c:Cir):FlatR [c.enc]:=FlatR.cons (by simp only [Cir.enc,go_sem]) FlatR.nil
theorem ayt {d:Bool} (H:aa4) (c:Cir) (b m:Nat) (hb:aa2 H b = some (.row 4 [c.enc])) (hm:m < c.nodes.length) (hk:aaq c.nodes m = 12):aaa L.env d (sem L.env Mf) (.func (.func 134) [] [.ptr b 0 0]) [.int .i64 m] H = some (.bool false,H,[b]):=
 aca (fs:=[]) (cs:=[.ptr b 0 0]) (ar:=[.int .i64 m]) (by kernel_rfl) (by kernel_rfl) rfl hb (aad (ahg c)) (FlatO.row (ahg c)) rfl (args':=[.int .i64 m,.ptr 0 0 0]) (by simp [ren,af4]) (bfp c m hm hk) rfl
theorem az5 (r:Rep) (l:List Nat) (c:Cir) (hl:l.length < 1000000) (hc:∀ m ∈ l,m < c.nodes.length ∧ aaq c.nodes m = 12) :
 sem L.env Mf 138 [sl r (l.map aaj),.func (.func 134) [] [.ptr 0 0 0]] [some (.row 4 [c.enc])] = some (.int .i64 (-1),[some (.row 4 [c.enc])]):=by
 have hfl:aab c.enc = []:=by simp only [Cir.enc,go_sem]
 have hrn:∀ π,c.enc.map (ren π) = c.enc:=fun π=>ae7 π hfl
 have hcall:=fun m h1 h2=>ayt (d:=false) [some (.row 4 [c.enc])] c 0 m rfl h1 h2
 generalize he:c.enc = E at hfl hrn hcall
 (refine sv Tryz.f138 ?_;simp only [Tryz.f138,gS])
 (repeat first|simp only [ww]|(apply xa;simp +decide only [go_sem];rfl;kernel_rfl))
 refine ab3 (σ:=Nat) kp138_0 (fun i=>[(0,sl r (l.map aaj)),(1,.func (.func 134) [] [.ptr 0 0 0]),(7,.int .i64 l.length),(8,.int .i64 i)])
  (fun _=>[some (.row 4 [E])]) (fun i=>l.length - i) (fun i=>i ≤ l.length) 0 ?_ (Nat.zero_le _) ?_
 ·(simp +decide only [go_sem,aa1,aa0,hfl,hrn]<;>rfl)
 ·intro i hi
  by_cases hlt:i < l.length
  ·obtain ⟨x,hx⟩:∃ x,l[i]? = some x:=⟨_,List.getElem?_eq_getElem hlt⟩
   have c1:(i:Int) < l.length:=by omega
   have hw:=wI1 (n:=i) (by omega)
   have hcx:=hcall x (hc x (List.mem_of_getElem? hx)).1 (hc x (List.mem_of_getElem? hx)).2
   (repeat first|simp only [ww]|(apply xa;simp +decide only [go_sem,c1,hlt,hx,hw,hcx];rfl;kernel_rfl))
   refine ac6 (i + 1) ?_ (by omega) (by omega)
   (simp +decide only [go_sem,aa1,aa0,hfl,hrn]<;>rfl)
  ·obtain rfl:i = l.length:=by omega
   have c1:¬ (l.length:Int) < l.length:=by omega
   (repeat first|simp only [ww]|(apply xa;simp +decide only [go_sem,c1];rfl;kernel_rfl))
   (apply fqb;simp +decide only [go_sem,hrn]<;>rfl)
theorem atz (r:Rep) (l:List Nat) (c:Cir) (hl:l.length < 1000000) (hc:∀ m ∈ l,m < c.nodes.length ∧ aaq c.nodes m = 12) :
 sem L.env Mf 124 [sl r (l.map aaj),.func (.func 134) [] [.ptr 0 0 0]] [some (.row 4 [c.enc])] = some (.bool false,[some (.row 4 [c.enc])]):=by
 have h:=aca (E:=L.env) (draw:=false) (call:=sem L.env Mf) (g:=138) (fs:=[]) (cs:=[]) (ar:=[sl r (l.map aaj),.func (.func 134) [] [.ptr 0 0 0]]) (H:=[some (.row 4 [c.enc])]) (b:=0) (by kernel_rfl) (by kernel_rfl) rfl rfl (aad (ahg c)) (FlatO.row (ahg c)) (by simp only [List.nil_append,List.append_nil,aa7,go_sem]) (by simp only [List.nil_append,List.append_nil,List.map_cons,List.map_nil,ak8];simp [ren,ard,af4]) (az5 r l c hl hc) rfl
 have c1:¬ (0:Int) ≤ -1:=by omega
 have hfl:aab c.enc = []:=by simp only [Cir.enc,go_sem]
 have hrn:∀ π,c.enc.map (ren π) = c.enc:=fun π=>ae7 π hfl
 generalize he:c.enc = E at hfl hrn h
 (refine sv Tryz.f124 ?_;simp only [Tryz.f124,gS])
 (repeat first|simp only [ww]|(apply xa;simp +decide only [go_sem,h,c1];rfl;kernel_rfl))
 (apply fqb;simp +decide only [go_sem,hrn]<;>rfl)
theorem avy {d:Bool} {H:aa4} {b:Nat} (c:Cir) (r:Rep) (l:List Nat) (hl:l.length < 1000000) (hc:∀ m ∈ l,m < c.nodes.length ∧ aaq c.nodes m = 12) (hb:aa2 H b = some (.row 4 [c.enc])) :
 aaa L.env d (sem L.env Mf) (.func (.func 124) [] []) [sl r (l.map aaj),.func (.func 134) [] [.ptr b 0 0]] H = some (.bool false,H,[b]):=
 aca (fs:=[]) (cs:=[]) (ar:=[sl r (l.map aaj),.func (.func 134) [] [.ptr b 0 0]]) (by kernel_rfl) (by kernel_rfl) rfl hb (aad (ahg c)) (FlatO.row (ahg c)) (by simp only [List.nil_append,List.append_nil,aa7,go_sem]) (by simp only [List.nil_append,List.append_nil,List.map_cons,List.map_nil,ak8];simp [ren,ard,af4]) (atz r l c hl hc) rfl
theorem bqr (c:Cir) (x:Nd) (hm:x.mem = 0 ∧ x.bit = 0) (hk:x.kind ≤ 14):sem L.env Mf 135 [.agg c.enc,.agg x.enc] [] = some (.bool true,[]):=by
 have c1:¬ (x.kind:Int) = 15:=by omega
 obtain ⟨m1,m2⟩:=hm
 simp only [Cir.enc,Nd.enc,m1,m2]
 (refine sv Tryz.f135 ?_;simp only [Tryz.f135,gS])
 (repeat first|simp only [ww]|(apply xa;simp +decide only [go_sem,c1];rfl;kernel_rfl))
 (apply fqb;simp +decide only [go_sem]<;>rfl)
theorem bhp {d:Bool} (H:aa4) (c:Cir) (x:Nd) (hm:x.mem = 0 ∧ x.bit = 0) (hk:x.kind ≤ 14):aaa L.env d (sem L.env Mf) (.func (.func 135) [] []) [.agg c.enc,.agg x.enc] H = some (.bool true,H,[]):=
 aa3 (by kernel_rfl) (by kernel_rfl) rfl (by simp only [aa7,aaw,Cir.enc,go_sem]) (bqr c x hm hk) rfl
theorem bl6 (c:Cir) (h:c.wf) (x:Nd) (hx:x ∈ c.nodes):sem L.env Mf 121 [.agg c.enc,.agg x.enc] [] = some (.int .i64 0,[]):=by
 have k14:=h.kind x hx
 have hlo:=h.lo x hx
 have hhi:=h.hi x hx
 have hlen:x.ins.length < 1000000:=by
  have:abm x.kind ≤ 16:=by
   have hk:x.kind = 0 ∨ x.kind = 1 ∨ x.kind = 2 ∨ x.kind = 3 ∨ x.kind = 4 ∨ x.kind = 5 ∨ x.kind = 6 ∨ x.kind = 7 ∨ x.kind = 8 ∨ x.kind = 9 ∨ x.kind = 10 ∨ x.kind = 11 ∨ x.kind = 12 ∨ x.kind = 13 ∨ x.kind = 14:=by omega
   rcases hk with e|e|e|e|e|e|e|e|e|e|e|e|e|e|e<;>rw [e]<;>decide
  omega
 have hf:=fun H=>aj8 (d:=false) H x.kind (by omega)
 have ho:=fun H=>ail (d:=true) H c
 have hc:=fun H=>aty (d:=true) H c x.c x.ins hlen (h.ins x hx)
 have hb:=fun H=>bhp (d:=false) H c x (h.mem x hx) k14
 have c1:¬ (15:Int) < x.kind:=by omega
 have c2:¬ (x.ins.length:Int) < abl x.kind:=by omega
 have c3:¬ (abm x.kind:Int) < x.ins.length:=by omega
 have hfl:aab c.enc = []:=by simp only [Cir.enc,go_sem]
 by_cases hk:x.kind = 13
 ·have hoth:=fun (X:Option AObj)=>avy (d:=false) (H:=[some (.row 4 [c.enc]),X]) (b:=0) c x.c x.ins hlen (fun m hm=>⟨h.ins x hx m hm,h.bus x hx hk m hm⟩) rfl
  have ck:decide ((x.kind:Int) = 13) = true:=decide_eq_true (by omega)
  simp only [Cir.enc,Nd.enc] at ho hc hb hoth ⊢
  (refine sv Tryz.f121 ?_;simp only [Tryz.f121,gS])
  (repeat first|simp only [ww]|(apply xa;simp +decide only [go_sem,hf,c1,c2,c3,ho,hc,hb,hoth,ck];rfl;kernel_rfl))
  (apply fqb;simp +decide only [go_sem]<;>rfl)
 ·have ck:¬ (x.kind:Int) = 13:=by omega
  simp only [Cir.enc,Nd.enc] at ho hc hb ⊢
  (refine sv Tryz.f121 ?_;simp only [Tryz.f121,gS])
  (repeat first|simp only [ww]|(apply xa;simp +decide only [go_sem,hf,c1,c2,c3,ho,hc,hb,ck];rfl;kernel_rfl))
  (apply fqb;simp +decide only [go_sem]<;>rfl)
theorem bbj {d:Bool} (H:aa4) (c:Cir) (h:c.wf) (x:Nd) (hx:x ∈ c.nodes):aaa L.env d (sem L.env Mf) (.func (.func 121) [] []) [.agg c.enc,.agg x.enc] H = some (.int .i64 0,H,[]):=
 aa3 (by kernel_rfl) (by kernel_rfl) rfl (by simp only [aa7,aaw,Cir.enc,go_sem]) (bl6 c h x hx) rfl
theorem bcf (i:Nat) (hi:i < 14):sem L.env Mf 136 [.str (adf i)] [] = some (.bool true,[]):=by
 have h:i = 0 ∨ i = 1 ∨ i = 2 ∨ i = 3 ∨ i = 4 ∨ i = 5 ∨ i = 6 ∨ i = 7 ∨ i = 8 ∨ i = 9 ∨ i = 10 ∨ i = 11 ∨ i = 12 ∨ i = 13:=by omega
 rcases h with rfl|rfl|rfl|rfl|rfl|rfl|rfl|rfl|rfl|rfl|rfl|rfl|rfl|rfl
 ·exact bgn
 ·exact bgm
 ·exact bgl
 ·exact bgk
 ·exact bgj
 ·exact bgi
 ·exact bgh
 ·exact bgg
 ·exact bgf
 ·exact bge
 ·exact bcj
 ·exact bci
 ·exact bch
 ·exact bcg
theorem avn {d:Bool} (H:aa4) (i:Nat) (hi:i < 14):aaa L.env d (sem L.env Mf) (.func (.func 136) [] []) [.str (adf i)] H = some (.bool true,H,[]):=
 aa3 (by kernel_rfl) (by kernel_rfl) rfl rfl (bcf i hi) rfl
def ain (i:Nat):List AV:=(List.range i).map fun j=>.str (adf j)
theorem ave (i:Nat):ain (i + 1) = ain i ++ [.str (adf i)]:=by unfold ain;rw [List.range_succ,List.map_append];rfl
theorem eqS (a b:List UInt8):aeq L.env 6 9 (.str a) (.str b) = some (a == b):=by kernel_rfl
theorem bbr {i j:Nat} (hi:i < 14) (hj:j < 14) (h:adf i = adf j):i = j:=by
 unfold adf at h
 simp only [List.cons.injEq,and_true,true_and] at h
 have h1:=congrArg UInt8.toNat h.1
 have h2:=congrArg UInt8.toNat h.2
 simp only [UInt8.toNat_ofNat'] at h1 h2
 omega
theorem bd5 (s:Nat) (hs:s < 14):∀ (l:List Nat) (b:Nat),(∀ j ∈ l,j < s) → acg (aeq L.env 6 9) (.str (adf s)) (l.map fun j=>.str (adf j)) b = some none
 | [],b,_=>rfl
 | j :: l,b,h=>by
  have hne:(adf s == adf j) = false:=by
   rw [beq_eq_false_iff_ne]
   intro e
   have:=bbr hs (by have:=h j (by simp);omega) e
   have:=h j (by simp)
   omega
  simp only [List.map_cons,acg,eqS,hne,cond_false]
  exact bd5 s hs l (b + 1) (fun j hj=>h j (by simp [hj]))
theorem bbn (i:Nat) (hi:i < 14):acg (aeq L.env 6 9) (.str (adf i)) (ain i) 0 = some none:=bd5 i hi _ 0 (fun j hj=>by simpa using hj)
def nmO (i:Nat):AObj:=.map (ain i) (List.replicate i (.bool true)) (List.range i) i
theorem bbm (i:Nat) (hi:i < 14):ai5 L.env (aa2 [some (nmO i)]) 194 (.map 0) (.str (adf i)) false = some (.bool false):=by
 have h:=bbn i hi
 have e:ai5 L.env (aa2 [some (nmO i)]) 194 (.map 0) (.str (adf i)) false = match acg (aeq L.env 6 9) (.str (adf i)) (ain i) 0 with
  | some (some j)=>match (List.replicate i (AV.bool true))[j]? with
   | some v=>some (bif false then .tuple [v,.bool true] else v)
   | none=>none
  | some none=>some (.bool false)
  | none=>none:=by kernel_rfl
 rw [e,h]
theorem bbl (i:Nat) (hi:i < 14):acr L.env (aa2 [some (nmO i)]) 194 (.map 0) (.str (adf i)) (.bool true) = some (.set 0 (nmO (i + 1))):=by
 have h:=bbn i hi
 unfold acr
 have e:amb L.env (aa2 [some (nmO i)]) 194 (.map 0) (.str (adf i)) = match acg (aeq L.env 6 9) (.str (adf i)) (ain i) 0 with
  | some (some j)=>match (ain i)[j]? with
   | some k0=>bif bhs k0 (.str (adf i)) then some (0,ain i,List.replicate i (AV.bool true),List.range i,i,some j) else none
   | none=>none
  | some none=>some (0,ain i,List.replicate i (AV.bool true),List.range i,i,none)
  | none=>none:=by kernel_rfl
 rw [e,h]
 simp only [nmO,ave,List.range_succ,List.replicate_succ']
theorem avd (i:Nat):aas (some (nmO i)) = []:=by
 simp only [nmO,aas,ain]
 have h1:∀ l:List Nat,aab (l.map fun j=>AV.str (adf j)) = []:=by intro l;induction l with|nil=>rfl|cons a l ih=>simp [aab,refs,ih]
 have h2:∀ n,aab (List.replicate n (AV.bool true)) = []:=by intro n;induction n with|zero=>rfl|succ n ih=>simp [List.replicate_succ,aab,refs,ih]
 rw [h1,h2];rfl
theorem biz (π:Nat → Option Nat) (i:Nat):aat π (nmO i) = nmO i:=by
 have h:=avd i
 simp only [nmO,aas,List.append_eq_nil_iff] at h
 simp only [nmO,aat,ae7 π h.1,ae7 π h.2]
theorem bft (c:Cir) (h:c.wf):sem L.env Mf 122 [.agg c.enc] [] = some (.int .i64 0,[]):=by
 have hn:=h.len
 have hnm:c.names.length = c.nodes.length:=by rw [h.names];simp
 simp only [Cir.enc]
 (refine sv Tryz.f122 ?_;simp only [Tryz.f122,gS])
 (repeat first|simp only [ww]|(apply xa;simp +decide only [go_sem];rfl;kernel_rfl))
 have e0:AObj.map [] [] [] 0 = nmO 0:=by rfl
 refine ab3 (σ:=Nat) kp122_0 (fun i=>[(3,.map 0),(8,sl c.mc (c.names.map abv)),(9,.int .i64 c.names.length),(10,.int .i64 i)])
  (fun i=>[some (nmO i)]) (fun i=>c.names.length - i) (fun i=>i ≤ c.names.length) 0 ?_ (Nat.zero_le _) ?_
 ·rw [e0]
  (simp +decide only [go_sem,aa1,aa0,avd,biz]<;>rfl)
 ·intro i hi
  by_cases hlt:i < c.names.length
  ·have hx:c.names[i]? = some (adf i):=by rw [h.names,List.getElem?_map,List.getElem?_range (by omega)];rfl
   have c1:(i:Int) < c.names.length:=by omega
   have hw:=wI1 (n:=i) (by omega)
   have hcn:=fun H=>avn (d:=false) H i (by omega)
   have hlk:=bbm i (by omega)
   have hup:=bbl i (by omega)
   (repeat first|simp only [ww]|(apply xa;simp +decide only [go_sem,c1,hlt,hx,hw,hcn,hlk,hup];rfl;kernel_rfl))
   refine ac6 (i + 1) ?_ (by omega) (by omega)
   (simp +decide only [go_sem,aa1,aa0,avd,biz]<;>rfl)
  ·obtain rfl:i = c.names.length:=by omega
   have c1:¬ (c.names.length:Int) < c.names.length:=by omega
   (repeat first|simp only [ww]|(apply xa;simp +decide only [go_sem,c1];rfl;kernel_rfl))
   (apply fqb;simp +decide only [go_sem]<;>rfl)
open Go.Proofs Go.Ax Go.Pc
set_option maxRecDepth 100000
theorem ae8 (c:Cir):aab [.agg c.enc] = []:=by simp only [aa7,aaw,Cir.enc,go_sem]
theorem ayv {d:Bool} (H:aa4) (c:Cir) (h:c.wf):aaa L.env d (sem L.env Mf) (.func (.func 122) [] []) [.agg c.enc] H = some (.int .i64 0,H,[]):=
 aa3 (by kernel_rfl) (by kernel_rfl) rfl (ae8 c) (bft c h) rfl
theorem bfe (c:Cir) (h:c.wf):sem L.env Mf 101 [.agg c.enc] [] = some (.int .i64 0,[]):=by
 have hn:=h.len
 have hnm:c.names.length = c.nodes.length:=by rw [h.names];simp
 have hol:=h.outl
 have c1:¬ (16384:Int) < c.nodes.length:=by omega
 have c2:¬ (16384:Int) < c.outs.length:=by omega
 have hno:=fun H x hx=>bbj (d:=false) H c h x hx
 have hna:=fun H=>ayv (d:=false) H c h
 have hou:=fun H=>ail (d:=true) H c
 have hcf:=fun H=>aty (d:=true) H c c.oc c.outs (by omega) h.outs
 have hlen:c.enc.length = 4:=rfl
 simp only [Cir.enc] at hno hna hou hcf ⊢
 (refine sv Tryz.f101 ?_;simp only [Tryz.f101,gS])
 (repeat first|simp only [ww]|(apply xa;simp +decide only [go_sem,c1,c2,hnm];rfl;kernel_rfl))
 refine ab3 (σ:=Nat) kp101_1 (fun i=>[(1,.ptr 0 0 0),(36,sl c.nc (c.nodes.map Nd.enc)),(37,.int .i64 c.nodes.length),(38,.int .i64 i)])
  (fun i=>[some (.row 4 [[sl c.nc (c.nodes.map Nd.enc),sl c.mc (c.names.map abv),.nilslice,sl c.oc (c.outs.map aaj)]])]) (fun i=>c.nodes.length - i) (fun i=>i ≤ c.nodes.length) 0 ?_ (Nat.zero_le _) ?_
 ·(simp +decide only [go_sem,aa1,aa0]<;>rfl)
 ·intro i hi
  by_cases hlt:i < c.nodes.length
  ·obtain ⟨x,hx⟩:∃ x,c.nodes[i]? = some x:=⟨_,List.getElem?_eq_getElem hlt⟩
   have c1:(i:Int) < c.nodes.length:=by omega
   have hw:=wI1 (n:=i) (by omega)
   have hcx:=fun H=>hno H x (List.mem_of_getElem? hx)
   simp only [Nd.enc] at hcx
   (repeat first|simp only [ww]|(apply xa;simp +decide only [go_sem,c1,hlt,hx,hw,hcx];rfl;kernel_rfl))
   refine ac6 (i + 1) ?_ (by omega) (by omega)
   (simp +decide only [go_sem,aa1,aa0]<;>rfl)
  ·obtain rfl:i = c.nodes.length:=by omega
   have c1:¬ (c.nodes.length:Int) < c.nodes.length:=by omega
   (repeat first|simp only [ww]|(apply xa;simp +decide only [go_sem,c1,hna];rfl;kernel_rfl))
   refine ab3 (σ:=Nat) kp101_3 (fun i=>[(1,.ptr 0 0 0),(55,.nilslice),(56,.int .i64 0),(57,.int .i64 0)])
    (fun i=>[some (.row 4 [[sl c.nc (c.nodes.map Nd.enc),sl c.mc (c.names.map abv),.nilslice,sl c.oc (c.outs.map aaj)]])]) (fun i=>0) (fun i=>True) 0 ?_ trivial ?_
   ·(simp +decide only [go_sem,aa1,aa0]<;>rfl)
   ·intro i _
    (repeat first|simp only [ww]|(apply xa;simp +decide only [go_sem,hou,hcf];rfl;kernel_rfl))
    (apply fqb;simp +decide only [go_sem]<;>rfl)
theorem ayd {d:Bool} (H:aa4) (c:Cir) (h:c.wf):aaa L.env d (sem L.env Mf) (.func (.func 101) [] []) [.agg c.enc] H = some (.int .i64 0,H,[]):=
 aa3 (by kernel_rfl) (by kernel_rfl) rfl (ae8 c) (bfe c h) rfl
theorem aov {d:Bool} (H:aa4) (k:Nat) (hk:k < 256):aaa L.env d (sem L.env Mf) (.func (.func 85) [] []) [.int .u8 k] H = some (.bool (abr k),H,[]):=
 aa3 (by kernel_rfl) (by kernel_rfl) rfl rfl (bmj k hk) rfl
end Go.ZInst
